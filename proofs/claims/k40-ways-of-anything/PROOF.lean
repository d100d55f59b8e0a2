import PyProof.Rows.All
import PySem.Challenge.RW_hearkenway_k40_ways_of_anything
import HandS.ForMost
import HandS.ForExc
import HandS.Wide
import HandS.TupAny
import HandS.IsInst
import HandS.Style
import HandS.Dict
import HandS.Deep
import HandS.TupLen
import HandS.Conv
import HandS.More
import HandS.Iter
import HandS.SortInts
import HandS.Text
import HandS.Comp
import HandS.Words
import HandS.DictComp
import HandS.TupLe
import HandS.Ends
import KE.KEqNest
import PyProof.NeKinds
import KE.KDictList
import HandS.Set
import HandS.SetFor
import HandS.Strs
import HandS.Finally
import PyProof.AutoSeq1
import PyProof.LongRange
import PyProof.ListRange
import KE.KRevSl
import KE.GoesMore
import HandS.TupMul
set_option Elab.async false
set_option linter.all false
set_option maxRecDepth 100000
set_option maxHeartbeats 4000000
set_option exponentiation.threshold 5000
namespace Tm
open PySem PySem.Spec PyProof.Rows L2
inductive T where
  | non | bl (b : Bool) | int (i : Int) | str (x : Str) | ty (n : String) | exc (c : Str)
  | scr (ns : List Int) | tup (xs : List T) | lst (xs : List T) | dct (kvs : List (Key × T)) | dtt (kvs : List (List Key × T)) | ins (C : Str) (fs : List (Str × T))
def isK : T → Bool
  | .int _ => true | .str _ => true | _ => false
/-- a list that stays: frozen, or of the module -/
def SqLz (K : PySem.W.Frag) (H : Hp) (a : Addr) (xs : List V) : Prop :=
  (∃ o, H a = some (.frz o (.lst xs))) ∨
    ∃ (o : Obj) (its : Array Value) (n : Nat), K.lookup a = some o ∧ o.cls = .type "list" ∧ o.dict = none ∧ o.data = .seq its n ∧ its.size ≤ sizeLine ∧ Vals xs its.toList
theorem SqLz.sq {K : PySem.W.Frag} {H : Hp} {a : Addr} {xs : List V} (h : SqLz K H a xs) : SqL K H a xs := by
  rcases h with h | h
  · exact .inl (.inr h)
  · exact .inr h
abbrev Cm := Str → Option Addr
section
variable (K : PySem.W.Frag) (cm : Cm) (H : Hp)
mutual
def Rep : T → V → List Addr → Prop
  | .non, v, F => v = .non ∧ F = []
  | .bl b, v, F => v = .bl b ∧ F = []
  | .int i, v, F => v = .int i ∧ F = []
  | .str i, v, F => v = .str i ∧ F = []
  | .ty i, v, F => v = .ty i ∧ F = []
  | .exc _, _, _ => False
  | .scr ns, v, F => ∃ a, v = .ref a ∧ SqLz K H a (ns.map V.int) ∧ F = []
  | .tup ts, v, F => ∃ a xs, v = .ref a ∧ (Rd H a (.tup xs) ∧ (ts.all isK = true → H a = some (.tup xs))) ∧ Reps ts xs F
  | .lst ts, v, F => ∃ a xs G, v = .ref a ∧ Reps ts xs G ∧ H a = some (.lst xs) ∧ F = a :: G
  | .dct ts, v, F => ∃ a xs G, v = .ref a ∧ RepD ts xs G ∧ Rd H a (.dK xs) ∧ F = a :: G
  | .dtt ts, v, F => ∃ a xs G, v = .ref a ∧ RepT ts xs G ∧ Rd H a (.dT xs) ∧ F = a :: G
  | .ins C ts, v, F => (C = "" ∧ ∃ a o xs, v = .ref a ∧ RepF ts xs F ∧ H a = some (.frz o (.tup (xs.map Prod.snd))) ∧ o.cls = .type "tuple" ∧ o.dict = none) ∨
    (C ≠ "" ∧ ∃ a dx Ca xs G, v = .ref a ∧ cm C = some Ca ∧ RepF ts xs G ∧ H a = some (.ins Ca dx xs) ∧ F = a :: G)
def Reps : List T → List V → List Addr → Prop
  | [], xs, F => xs = [] ∧ F = []
  | t :: ts, xs, F => ∃ x r F1 F2, xs = x :: r ∧ F = F1 ++ F2 ∧ Rep t x F1 ∧ Reps ts r F2
def RepD : List (Key × T) → List (Key × V) → List Addr → Prop
  | [], xs, F => xs = [] ∧ F = []
  | (k, t) :: ts, xs, F => ∃ x r F1 F2, xs = (k, x) :: r ∧ F = F1 ++ F2 ∧ Rep t x F1 ∧ RepD ts r F2
def RepT : List (List Key × T) → List (List Key × V) → List Addr → Prop
  | [], xs, F => xs = [] ∧ F = []
  | (k, t) :: ts, xs, F => ∃ x r F1 F2, xs = (k, x) :: r ∧ F = F1 ++ F2 ∧ Rep t x F1 ∧ RepT ts r F2
def RepF : List (Str × T) → List (Str × V) → List Addr → Prop
  | [], xs, F => xs = [] ∧ F = []
  | (k, t) :: ts, xs, F => ∃ x r F1 F2, xs = (k, x) :: r ∧ F = F1 ++ F2 ∧ Rep t x F1 ∧ RepF ts r F2
end
end
/-- what stays from H to H', but at P -/
structure Kp (P : Addr → Prop) (H H' : Hp) : Prop where
  lst : ∀ b xs, H b = some (.lst xs) → ¬ P b → H' b = some (.lst xs)
  dK : ∀ b xs, Rd H b (.dK xs) → ¬ P b → Rd H' b (.dK xs)
  dT : ∀ b xs, Rd H b (.dT xs) → ¬ P b → Rd H' b (.dT xs)
  fz : ∀ b o xs, H b = some (.frz o (.lst xs)) → H' b = some (.frz o (.lst xs))
  tup : ∀ b xs, H b = some (.tup xs) → H' b = some (.tup xs)
  fzt : ∀ b o xs, H b = some (.frz o (.tup xs)) → H' b = some (.frz o (.tup xs))
  ins : ∀ b C dx fs, H b = some (.ins C dx fs) → ¬ P b → H' b = some (.ins C dx fs)
section
variable {K : PySem.W.Frag} {cm : Cm} {H H' : Hp} {P : Addr → Prop}
theorem Kp.tupR (k : Kp P H H') {a xs} (h : Rd H a (.tup xs)) : Rd H' a (.tup xs) := by
  rcases h with h | ⟨o, h⟩
  · exact .inl (k.tup _ _ h)
  · exact .inr ⟨o, k.fzt _ _ _ h⟩
theorem Kp.sqLz (k : Kp P H H') {a xs} (h : SqLz K H a xs) : SqLz K H' a xs := by
  rcases h with ⟨o, h⟩ | h
  · exact .inl ⟨o, k.fz _ _ _ h⟩
  · exact .inr h
mutual
theorem Rep.kp (k : Kp P H H') : ∀ (t : T) (v : V) (F : List Addr), Rep K cm H t v F → (∀ x ∈ F, ¬ P x) → Rep K cm H' t v F
  | .non, v, F, h, _ => h
  | .bl b, v, F, h, _ => h
  | .int i, v, F, h, _ => h
  | .str i, v, F, h, _ => h
  | .ty i, v, F, h, _ => h
  | .exc _, _, _, h, _ => h
  | .scr ns, v, F, h, n => by
    obtain ⟨a, e, s, q⟩ := h
    exact ⟨a, e, k.sqLz s, q⟩
  | .tup ts, v, F, h, n => by
    obtain ⟨a, xs, e, s, r⟩ := h
    exact ⟨a, xs, e, ⟨k.tupR s.1, fun q => k.tup _ _ (s.2 q)⟩, Reps.kp k ts xs F r n⟩
  | .lst ts, v, F, h, n => by
    obtain ⟨a, xs, G, e, r, s, q⟩ := h
    subst q
    exact ⟨a, xs, G, e, Reps.kp k ts xs G r (fun x hx => n x (List.mem_cons_of_mem _ hx)), k.lst _ _ s (n a List.mem_cons_self), rfl⟩
  | .dct ts, v, F, h, n => by
    obtain ⟨a, xs, G, e, r, s, q⟩ := h
    subst q
    exact ⟨a, xs, G, e, RepD.kp k ts xs G r (fun x hx => n x (List.mem_cons_of_mem _ hx)), k.dK _ _ s (n a List.mem_cons_self), rfl⟩
  | .dtt ts, v, F, h, n => by
    obtain ⟨a, xs, G, e, r, s, q⟩ := h
    subst q
    exact ⟨a, xs, G, e, RepT.kp k ts xs G r (fun x hx => n x (List.mem_cons_of_mem _ hx)), k.dT _ _ s (n a List.mem_cons_self), rfl⟩
  | .ins C ts, v, F, h, n => by
    rcases h with ⟨z, a, o, xs, e, r, s, c, q⟩ | ⟨z, a, dx, Ca, xs, G, e, c, r, s, q⟩
    · exact .inl ⟨z, a, o, xs, e, RepF.kp k ts xs F r n, k.fzt _ _ _ s, c, q⟩
    · subst q
      exact .inr ⟨z, a, dx, Ca, xs, G, e, c, RepF.kp k ts xs G r (fun x hx => n x (List.mem_cons_of_mem _ hx)), k.ins _ _ _ _ s (n a List.mem_cons_self), rfl⟩
theorem Reps.kp (k : Kp P H H') : ∀ (t : List T) (v : List V) (F : List Addr), Reps K cm H t v F → (∀ x ∈ F, ¬ P x) → Reps K cm H' t v F
  | [], v, F, h, _ => h
  | t :: ts, v, F, h, n => by
    obtain ⟨x, r, F1, F2, e, f, h1, h2⟩ := h
    subst f
    exact ⟨x, r, F1, F2, e, rfl, Rep.kp k t x F1 h1 (fun y hy => n y (List.mem_append_left _ hy)), Reps.kp k ts r F2 h2 (fun y hy => n y (List.mem_append_right _ hy))⟩
theorem RepD.kp (k : Kp P H H') : ∀ (t : List (Key × T)) (v : List (Key × V)) (F : List Addr), RepD K cm H t v F → (∀ x ∈ F, ¬ P x) → RepD K cm H' t v F
  | [], v, F, h, _ => h
  | (k1, t) :: ts, v, F, h, n => by
    obtain ⟨x, r, F1, F2, e, f, h1, h2⟩ := h
    subst f
    exact ⟨x, r, F1, F2, e, rfl, Rep.kp k t x F1 h1 (fun y hy => n y (List.mem_append_left _ hy)), RepD.kp k ts r F2 h2 (fun y hy => n y (List.mem_append_right _ hy))⟩
theorem RepT.kp (k : Kp P H H') : ∀ (t : List (List Key × T)) (v : List (List Key × V)) (F : List Addr), RepT K cm H t v F → (∀ x ∈ F, ¬ P x) → RepT K cm H' t v F
  | [], v, F, h, _ => h
  | (k1, t) :: ts, v, F, h, n => by
    obtain ⟨x, r, F1, F2, e, f, h1, h2⟩ := h
    subst f
    exact ⟨x, r, F1, F2, e, rfl, Rep.kp k t x F1 h1 (fun y hy => n y (List.mem_append_left _ hy)), RepT.kp k ts r F2 h2 (fun y hy => n y (List.mem_append_right _ hy))⟩
theorem RepF.kp (k : Kp P H H') : ∀ (t : List (Str × T)) (v : List (Str × V)) (F : List Addr), RepF K cm H t v F → (∀ x ∈ F, ¬ P x) → RepF K cm H' t v F
  | [], v, F, h, _ => h
  | (k1, t) :: ts, v, F, h, n => by
    obtain ⟨x, r, F1, F2, e, f, h1, h2⟩ := h
    subst f
    exact ⟨x, r, F1, F2, e, rfl, Rep.kp k t x F1 h1 (fun y hy => n y (List.mem_append_left _ hy)), RepF.kp k ts r F2 h2 (fun y hy => n y (List.mem_append_right _ hy))⟩
end
/-- the footprint is tracked -/
def Tr (H : Hp) (x : Addr) : Prop := ∃ o, H x = some o
theorem Rd.tr {a u} (h : Rd H a u) : Tr H a := by
  rcases h with h | ⟨o, h⟩
  · exact ⟨_, h⟩
  · exact ⟨_, h⟩
mutual
theorem Rep.tr : ∀ (t : T) (v : V) (F : List Addr), Rep K cm H t v F → ∀ x ∈ F, Tr H x
  | .non, v, F, h, x, hx => by rw [h.2] at hx; cases hx
  | .bl b, v, F, h, x, hx => by rw [h.2] at hx; cases hx
  | .int i, v, F, h, x, hx => by rw [h.2] at hx; cases hx
  | .str i, v, F, h, x, hx => by rw [h.2] at hx; cases hx
  | .ty i, v, F, h, x, hx => by rw [h.2] at hx; cases hx
  | .exc _, _, _, h, _, _ => h.elim
  | .tup ts, v, F, h, x, hx => by
    obtain ⟨a, xs, e, s, r⟩ := h
    exact Reps.tr ts xs F r x hx
  | .scr ns, v, F, h, x, hx => by
    obtain ⟨a, e, s, q⟩ := h
    rw [q] at hx; cases hx
  | .lst ts, v, F, h, x, hx => by
    obtain ⟨a, xs, G, e, r, s, q⟩ := h
    subst q
    rcases List.mem_cons.mp hx with rfl | hx
    · exact ⟨_, s⟩
    · exact Reps.tr ts xs G r x hx
  | .dct ts, v, F, h, x, hx => by
    obtain ⟨a, xs, G, e, r, s, q⟩ := h
    subst q
    rcases List.mem_cons.mp hx with rfl | hx
    · exact Rd.tr s
    · exact RepD.tr ts xs G r x hx
  | .dtt ts, v, F, h, x, hx => by
    obtain ⟨a, xs, G, e, r, s, q⟩ := h
    subst q
    rcases List.mem_cons.mp hx with rfl | hx
    · exact Rd.tr s
    · exact RepT.tr ts xs G r x hx
  | .ins C ts, v, F, h, x, hx => by
    rcases h with ⟨z, a, o, xs, e, r, s, c, q⟩ | ⟨z, a, dx, Ca, xs, G, e, c, r, s, q⟩
    · exact RepF.tr ts xs F r x hx
    · subst q
      rcases List.mem_cons.mp hx with rfl | hx
      · exact ⟨_, s⟩
      · exact RepF.tr ts xs G r x hx
theorem Reps.tr : ∀ (t : List T) (v : List V) (F : List Addr), Reps K cm H t v F → ∀ x ∈ F, Tr H x
  | [], v, F, h, x, hx => by rw [h.2] at hx; cases hx
  | t :: ts, v, F, h, y, hy => by
    obtain ⟨x, r, F1, F2, e, f, h1, h2⟩ := h
    subst f
    rcases List.mem_append.mp hy with hy | hy
    · exact Rep.tr t x F1 h1 y hy
    · exact Reps.tr ts r F2 h2 y hy
theorem RepD.tr : ∀ (t : List (Key × T)) (v : List (Key × V)) (F : List Addr), RepD K cm H t v F → ∀ x ∈ F, Tr H x
  | [], v, F, h, x, hx => by rw [h.2] at hx; cases hx
  | (k1, t) :: ts, v, F, h, y, hy => by
    obtain ⟨x, r, F1, F2, e, f, h1, h2⟩ := h
    subst f
    rcases List.mem_append.mp hy with hy | hy
    · exact Rep.tr t x F1 h1 y hy
    · exact RepD.tr ts r F2 h2 y hy
theorem RepT.tr : ∀ (t : List (List Key × T)) (v : List (List Key × V)) (F : List Addr), RepT K cm H t v F → ∀ x ∈ F, Tr H x
  | [], v, F, h, x, hx => by rw [h.2] at hx; cases hx
  | (k1, t) :: ts, v, F, h, y, hy => by
    obtain ⟨x, r, F1, F2, e, f, h1, h2⟩ := h
    subst f
    rcases List.mem_append.mp hy with hy | hy
    · exact Rep.tr t x F1 h1 y hy
    · exact RepT.tr ts r F2 h2 y hy
theorem RepF.tr : ∀ (t : List (Str × T)) (v : List (Str × V)) (F : List Addr), RepF K cm H t v F → ∀ x ∈ F, Tr H x
  | [], v, F, h, x, hx => by rw [h.2] at hx; cases hx
  | (k1, t) :: ts, v, F, h, y, hy => by
    obtain ⟨x, r, F1, F2, e, f, h1, h2⟩ := h
    subst f
    rcases List.mem_append.mp hy with hy | hy
    · exact Rep.tr t x F1 h1 y hy
    · exact RepF.tr ts r F2 h2 y hy
end
/-! ### lists of representations -/
theorem Reps.len : ∀ {ts : List T} {xs : List V} {F : List Addr}, Reps K cm H ts xs F → xs.length = ts.length
  | [], _, _, h => by rw [h.1]; rfl
  | t :: ts, _, _, h => by
    obtain ⟨x, r, F1, F2, e, f, h1, h2⟩ := h
    rw [e, List.length_cons, List.length_cons, Reps.len h2]
theorem Reps.get : ∀ {ts : List T} {xs : List V} {F : List Addr} {i : Nat} {t : T}, Reps K cm H ts xs F → ts[i]? = some t → ∃ x G, xs[i]? = some x ∧ Rep K cm H t x G ∧ ∀ y ∈ G, y ∈ F
  | [], _, _, _, _, _, e => by simp at e
  | t :: ts, _, _, 0, u, h, e => by
    obtain ⟨x, r, F1, F2, rfl, rfl, h1, h2⟩ := h
    simp at e; subst e
    exact ⟨x, F1, rfl, h1, fun y hy => List.mem_append_left _ hy⟩
  | t :: ts, _, _, i + 1, u, h, e => by
    obtain ⟨x, r, F1, F2, rfl, rfl, h1, h2⟩ := h
    obtain ⟨y, G, e1, e2, e3⟩ := Reps.get (i := i) h2 (by simpa using e)
    exact ⟨y, G, by simpa using e1, e2, fun z hz => List.mem_append_right _ (e3 z hz)⟩
theorem Reps.append : ∀ {ts us : List T} {xs ys : List V} {F G : List Addr}, Reps K cm H ts xs F → Reps K cm H us ys G → Reps K cm H (ts ++ us) (xs ++ ys) (F ++ G)
  | [], _, _, _, _, _, h, g => by rw [h.1, h.2]; exact g
  | t :: ts, _, _, _, _, G, h, g => by
    obtain ⟨x, r, F1, F2, rfl, rfl, h1, h2⟩ := h
    exact ⟨x, r ++ _, F1, F2 ++ G, rfl, List.append_assoc .., h1, Reps.append h2 g⟩
theorem tup_new {H : Hp} {a : Addr} {xs : List V} {b : Bool} (e : H a = some (.tup xs)) : Rd H a (.tup xs) ∧ (b = true → H a = some (.tup xs)) := ⟨.inl e, fun _ => e⟩
theorem Reps.nil : Reps K cm H [] [] [] := ⟨rfl, rfl⟩
theorem Reps.one {t v F} (h : Rep K cm H t v F) : Reps K cm H [t] [v] F := ⟨v, [], F, [], rfl, (List.append_nil _).symm, h, rfl, rfl⟩
theorem Reps.cons {t ts v vs F G} (h : Rep K cm H t v F) (g : Reps K cm H ts vs G) : Reps K cm H (t :: ts) (v :: vs) (F ++ G) := ⟨v, vs, F, G, rfl, rfl, h, g⟩
theorem Reps.uncons {t ts x r F} (h : Reps K cm H (t :: ts) (x :: r) F) : ∃ F1 F2, F = F1 ++ F2 ∧ Rep K cm H t x F1 ∧ Reps K cm H ts r F2 := by
  obtain ⟨x, r, F1, F2, e, f, h1, h2⟩ := h
  cases e
  exact ⟨F1, F2, f, h1, h2⟩
theorem Reps.split : ∀ {ts us : List T} {zs : List V} {F : List Addr}, Reps K cm H (ts ++ us) zs F → ∃ xs ys F1 F2, zs = xs ++ ys ∧ F = F1 ++ F2 ∧ Reps K cm H ts xs F1 ∧ Reps K cm H us ys F2
  | [], us, zs, F, h => ⟨[], zs, [], F, rfl, rfl, ⟨rfl, rfl⟩, h⟩
  | t :: ts, us, zs, F, h => by
    obtain ⟨x, r, F1, F2, rfl, rfl, h1, h2⟩ := h
    obtain ⟨xs, ys, G1, G2, rfl, rfl, h3, h4⟩ := Reps.split (ts := ts) h2
    exact ⟨x :: xs, ys, F1 ++ G1, G2, rfl, (List.append_assoc ..).symm, ⟨x, xs, F1, G1, rfl, rfl, h1, h3⟩, h4⟩
theorem Reps.set : ∀ {ts : List T} {xs : List V} {F : List Addr} {i : Nat} {t : T} {v : V} {G : List Addr}, Reps K cm H ts xs F → Rep K cm H t v G → ∃ F', Reps K cm H (ts.set i t) (xs.set i v) F' ∧ ∀ y ∈ F', y ∈ F ∨ y ∈ G
  | [], _, F, _, _, _, _, h, _ => by rw [h.1]; exact ⟨[], ⟨rfl, rfl⟩, fun y hy => by cases hy⟩
  | u :: ts, _, _, 0, t, v, G, h, g => by
    obtain ⟨x, r, F1, F2, rfl, rfl, h1, h2⟩ := h
    exact ⟨G ++ F2, ⟨v, r, G, F2, rfl, rfl, g, h2⟩, fun y hy => (List.mem_append.mp hy).elim .inr fun q => .inl (List.mem_append_right _ q)⟩
  | u :: ts, _, _, i + 1, t, v, G, h, g => by
    obtain ⟨x, r, F1, F2, rfl, rfl, h1, h2⟩ := h
    obtain ⟨F', q1, q2⟩ := Reps.set (i := i) h2 g
    exact ⟨F1 ++ F', ⟨x, r.set i v, F1, F', rfl, rfl, h1, q1⟩, fun y hy => (List.mem_append.mp hy).elim (fun q => .inl (List.mem_append_left _ q)) fun q => (q2 y q).elim (fun q => .inl (List.mem_append_right _ q)) .inr⟩
theorem Reps.erase : ∀ {ts : List T} {xs : List V} {F : List Addr} {i : Nat}, Reps K cm H ts xs F → ∃ F', Reps K cm H (ts.eraseIdx i) (xs.eraseIdx i) F' ∧ ∀ y ∈ F', y ∈ F
  | [], _, F, _, h => by rw [h.1]; exact ⟨[], ⟨rfl, rfl⟩, fun y hy => by cases hy⟩
  | u :: ts, _, _, 0, h => by
    obtain ⟨x, r, F1, F2, rfl, rfl, h1, h2⟩ := h
    exact ⟨F2, h2, fun y hy => List.mem_append_right _ hy⟩
  | u :: ts, _, _, i + 1, h => by
    obtain ⟨x, r, F1, F2, rfl, rfl, h1, h2⟩ := h
    obtain ⟨F', q1, q2⟩ := Reps.erase (i := i) h2
    exact ⟨F1 ++ F', ⟨x, r.eraseIdx i, F1, F', rfl, rfl, h1, q1⟩, fun y hy => (List.mem_append.mp hy).elim (fun q => List.mem_append_left _ q) fun q => List.mem_append_right _ (q2 y q)⟩
theorem Reps.rev : ∀ {ts : List T} {xs : List V} {F : List Addr}, Reps K cm H ts xs F → ∃ F', Reps K cm H ts.reverse xs.reverse F' ∧ ∀ y ∈ F', y ∈ F
  | [], _, F, h => by rw [h.1]; exact ⟨[], ⟨rfl, rfl⟩, fun y hy => by cases hy⟩
  | u :: ts, _, _, h => by
    obtain ⟨x, r, F1, F2, rfl, rfl, h1, h2⟩ := h
    obtain ⟨F', q1, q2⟩ := Reps.rev h2
    rw [List.reverse_cons, List.reverse_cons]
    exact ⟨_, q1.append (Reps.one h1), fun y hy => (List.mem_append.mp hy).elim (fun q => List.mem_append_right _ (q2 y q)) fun q => List.mem_append_left _ q⟩
theorem Reps.ints : ∀ {ns : List Int} {xs : List V} {F : List Addr}, Reps K cm H (ns.map T.int) xs F → xs = ns.map V.int ∧ F = []
  | [], _, _, h => h
  | n :: ns, _, _, h => by
    obtain ⟨x, r, F1, F2, rfl, rfl, h1, h2⟩ := h
    obtain ⟨e1, e2⟩ := Reps.ints h2
    rw [e1, e2, h1.1, h1.2]; exact ⟨rfl, rfl⟩
theorem Reps.of_ints : ∀ (ns : List Int), Reps K cm H (ns.map T.int) (ns.map V.int) []
  | [] => ⟨rfl, rfl⟩
  | n :: ns => ⟨_, _, [], [], rfl, rfl, ⟨rfl, rfl⟩, Reps.of_ints ns⟩
end
end Tm
namespace Tm
open PySem PySem.Spec PyProof.Rows L2
/-! ### slots, modes, worlds -/
abbrev Env := List (Option T)
def sl {α : Type} : List (Option α) → Nat → Option α
  | [], _ => none
  | x :: _, 0 => x
  | _ :: r, i + 1 => sl r i
theorem sl_set_self {α : Type} {x : Option α} : ∀ {l : List (Option α)} {i : Nat}, i < l.length → sl (l.set i x) i = x
  | _ :: _, 0, _ => rfl
  | _ :: r, i + 1, h => sl_set_self (l := r) (Nat.lt_of_succ_lt_succ h)
theorem sl_set_ne {α : Type} {x : Option α} : ∀ {l : List (Option α)} {i j : Nat}, i ≠ j → sl (l.set i x) j = sl l j
  | [], _, _, _ => rfl
  | _ :: _, 0, 0, h => absurd rfl h
  | _ :: _, 0, _ + 1, _ => rfl
  | _ :: _, _ + 1, 0, _ => rfl
  | _ :: r, i + 1, j + 1, h => sl_set_ne (l := r) (fun e => h (by rw [e]))
theorem sl_get {α : Type} {x : α} : ∀ {l : List (Option α)} {i : Nat}, sl l i = some x → l[i]? = some (some x)
  | [], _, h => by cases h
  | y :: _, 0, h => by have h : y = some x := h; rw [h]; rfl
  | _ :: r, i + 1, h => by have := sl_get (l := r) (i := i) h; simpa using this
theorem get_sl {α : Type} {x : α} : ∀ {l : List (Option α)} {i : Nat}, l[i]? = some (some x) → sl l i = some x
  | [], _, h => by simp at h
  | y :: _, 0, h => by simpa [sl] using h
  | _ :: r, i + 1, h => by exact get_sl (l := r) (i := i) (by simpa using h)
inductive Mode | dead | vw | o1 | own | lk
  deriving DecidableEq
def md : List Mode → Nat → Mode
  | [], _ => .dead
  | x :: _, 0 => x
  | _ :: r, i + 1 => md r i
theorem md_set_self {x : Mode} : ∀ {l : List Mode} {i : Nat}, i < l.length → md (l.set i x) i = x
  | _ :: _, 0, _ => rfl
  | _ :: r, i + 1, h => md_set_self (l := r) (Nat.lt_of_succ_lt_succ h)
theorem md_set_ne {x : Mode} : ∀ {l : List Mode} {i j : Nat}, i ≠ j → md (l.set i x) j = md l j
  | [], _, _, _ => rfl
  | _ :: _, 0, 0, h => absurd rfl h
  | _ :: _, 0, _ + 1, _ => rfl
  | _ :: _, _ + 1, 0, _ => rfl
  | _ :: r, i + 1, j + 1, h => md_set_ne (l := r) (fun e => h (by rw [e]))
theorem md_lt : ∀ {l : List Mode} {i : Nat}, md l i ≠ .dead → i < l.length
  | [], _, h => absurd rfl h
  | _ :: _, 0, _ => Nat.succ_pos _
  | _ :: r, i + 1, h => Nat.succ_lt_succ (md_lt (l := r) h)
def chg : Mode → Bool
  | .o1 => true | .own => true | _ => false
structure Wd where
  H : Hp
  C : Addr → Prop
  L : Addr → Prop
  S : Addr → Prop
def SlotOk (K : PySem.W.Frag) (cm : Cm) (H : Hp) (S : Addr → Prop) (m : Mode) (σi : Option V) (t : Option T) (O : List Addr) : Prop :=
  match m with
  | .dead => O = []
  | .vw => O = [] ∧ ∀ u, t = some u → ∃ v G, σi = some v ∧ Rep K cm H u v G ∧ ∀ x ∈ G, S x
  | .o1 => ∀ u, t = some u → ∃ v a G, σi = some v ∧ O = [a] ∧ Rep K cm H u v (a :: G) ∧ ∀ x ∈ G, S x
  | .lk => ∀ u, t = some u → ∃ v a G, σi = some v ∧ O = [a] ∧ Rep K cm H u v (a :: G) ∧ ∀ x ∈ G, S x
  | .own => ∀ u, t = some u → ∃ v, σi = some v ∧ Rep K cm H u v O
structure RO (K : PySem.W.Frag) (cm : Cm) (mo : List Mode) (W : Wd) (σ : L2.St) (Γ : Env) (Os : Nat → List Addr) : Prop where
  slot : ∀ i, SlotOk K cm W.H W.S (md mo i) (sl σ i) (sl Γ i) (Os i)
  nd : ∀ i, (Os i).Nodup
  dj : ∀ i j x, i ≠ j → x ∈ Os i → ¬ x ∈ Os j
  hC : ∀ x, W.C x ↔ ∃ i, chg (md mo i) = true ∧ x ∈ Os i
  hL : ∀ x, W.L x ↔ ∃ i, md mo i = .lk ∧ x ∈ Os i
  sh : ∀ i x, x ∈ Os i → ¬ W.S x
  trS : ∀ x, W.S x → Tr W.H x
  trO : ∀ i x, x ∈ Os i → Tr W.H x
  mu : ∀ x, W.C x → Mut (W.H x)
  ls : σ.length = mo.length
  lg : Γ.length = mo.length
def R (K : PySem.W.Frag) (cm : Cm) (mo : List Mode) (W : Wd) (σ : L2.St) (Γ : Env) : Prop := ∃ Os, RO K cm mo W σ Γ Os
/-- from W to W' -/
structure Fr (W W' : Wd) : Prop where
  keep : ∀ b o, W.H b = some o → ¬ W.C b → W'.H b = some o
  chg : ∀ x, W'.C x → W.C x ∨ ¬ Tr W.H x
  lck : ∀ x, W'.L x → W.L x
  shr : ∀ x, W.S x → W'.S x
  shn : ∀ x, W'.S x → W.S x ∨ W.C x ∨ ¬ Tr W.H x
  tr : ∀ x, Tr W.H x → Tr W'.H x
theorem Fr.refl (W : Wd) : Fr W W := ⟨fun _ _ h _ => h, fun _ h => .inl h, fun _ h => h, fun _ h => h, fun _ h => .inl h, fun _ h => h⟩
theorem Fr.trans {W W1 W2 : Wd} (a : Fr W W1) (b : Fr W1 W2) : Fr W W2 where
  keep := fun x o h n => b.keep x o (a.keep x o h n) fun c => (a.chg x c).elim n fun q => q ⟨o, h⟩
  chg := fun x h => (b.chg x h).elim (a.chg x) fun q => .inr fun t => q (a.tr x t)
  lck := fun x h => a.lck x (b.lck x h)
  shr := fun x h => b.shr x (a.shr x h)
  shn := fun x h => (b.shn x h).elim (a.shn x) fun q => q.elim (fun c => (a.chg x c).elim (fun q => .inr (.inl q)) fun q => .inr (.inr q)) fun q => .inr (.inr fun t => q (a.tr x t))
  tr := fun x h => b.tr x (a.tr x h)
theorem kp_of {H H' : Hp} {P : Addr → Prop} (k : ∀ b o, H b = some o → ¬ P b → H' b = some o) (m : ∀ x, P x → Mut (H x)) : Kp P H H' where
  lst := fun b xs h n => k b _ h n
  dK := fun b u h n => by
    rcases h with h | ⟨o, h⟩
    · exact .inl (k b _ h n)
    · exact .inr ⟨o, k b _ h n⟩
  dT := fun b u h n => by
    rcases h with h | ⟨o, h⟩
    · exact .inl (k b _ h n)
    · exact .inr ⟨o, k b _ h n⟩
  fz := fun b o xs h => k b _ h fun p => by have := m b p; rw [h] at this; exact this
  tup := fun b xs h => k b _ h fun p => by have := m b p; rw [h] at this; exact this
  fzt := fun b o xs h => k b _ h fun p => by have := m b p; rw [h] at this; exact this
  ins := fun b C dx fs h n => k b _ h n
section
variable {K : PySem.W.Frag} {cm : Cm} {mo : List Mode} {W W' : Wd} {σ : L2.St} {Γ : Env} {Os : Nat → List Addr}
theorem Fr.kp (f : Fr W W') (mu : ∀ x, W.C x → Mut (W.H x)) : Kp W.C W.H W'.H := kp_of f.keep mu
theorem same_fr {H : Hp} (s : Same W.H H) : Fr W { W with H := H } :=
  ⟨fun b o h _ => s b o h, fun _ h => .inl h, fun _ h => h, fun _ h => h, fun _ h => .inl h, fun x ⟨o, h⟩ => ⟨o, s x o h⟩⟩
theorem same_kp {H H' : Hp} (s : Same H H') : Kp (fun _ => False) H H' := kp_of (fun b o h _ => s b o h) fun _ h => h.elim
theorem SlotOk.kp {H H' : Hp} {S S' P : Addr → Prop} {m : Mode} {σi t O} (h : SlotOk K cm H S m σi t O) (k : Kp P H H') (s : ∀ x, S x → S' x) (nS : ∀ x, S x → ¬ P x) (nO : ∀ x ∈ O, ¬ P x) : SlotOk K cm H' S' m σi t O := by
  cases m with
  | dead => exact h
  | vw =>
    refine ⟨h.1, fun u e => ?_⟩
    obtain ⟨v, G, e1, r, g⟩ := h.2 u e
    exact ⟨v, G, e1, r.kp k _ _ _ fun x hx => nS x (g x hx), fun x hx => s x (g x hx)⟩
  | o1 =>
    intro u e
    obtain ⟨v, a, G, e1, e2, r, g⟩ := h u e
    refine ⟨v, a, G, e1, e2, r.kp k _ _ _ fun x hx => ?_, fun x hx => s x (g x hx)⟩
    rcases List.mem_cons.mp hx with rfl | hx
    · exact nO x (by rw [e2]; exact List.mem_cons_self)
    · exact nS x (g x hx)
  | lk =>
    intro u e
    obtain ⟨v, a, G, e1, e2, r, g⟩ := h u e
    refine ⟨v, a, G, e1, e2, r.kp k _ _ _ fun x hx => ?_, fun x hx => s x (g x hx)⟩
    rcases List.mem_cons.mp hx with rfl | hx
    · exact nO x (by rw [e2]; exact List.mem_cons_self)
    · exact nS x (g x hx)
  | own =>
    intro u e
    obtain ⟨v, e1, r⟩ := h u e
    exact ⟨v, e1, r.kp k _ _ _ nO⟩
theorem Tr.same {H H' : Hp} (s : Same H H') {x} (h : Tr H x) : Tr H' x := let ⟨o, e⟩ := h; ⟨o, s x o e⟩
theorem Mut.tr {H : Hp} {x} (h : Mut (H x)) : Tr H x := by
  unfold Tr
  cases e : H x with
  | none => rw [e] at h; exact h.elim
  | some o => exact ⟨o, rfl⟩
theorem mut_eq {H H' : Hp} {x} (h : Mut (H x)) (k : ∀ o, H x = some o → H' x = some o) : Mut (H' x) := by
  obtain ⟨o, e⟩ := Mut.tr h
  rw [k o e, ← e]; exact h
theorem RO.same {H : Hp} (r : RO K cm mo W σ Γ Os) (s : Same W.H H) : RO K cm mo { W with H := H } σ Γ Os :=
  ⟨fun i => (r.slot i).kp (same_kp s) (fun _ h => h) (fun _ _ h => h) fun _ _ h => h, r.nd, r.dj, r.hC, r.hL, r.sh, fun x h => (r.trS x h).same s, fun i x h => (r.trO i x h).same s, fun x h => mut_eq (r.mu x h) (s x), r.ls, r.lg⟩
theorem R.same {H : Hp} (r : R K cm mo W σ Γ) (s : Same W.H H) : R K cm mo { W with H := H } σ Γ := let ⟨Os, r⟩ := r; ⟨Os, r.same s⟩
theorem R.mu (r : R K cm mo W σ Γ) : ∀ x, W.C x → Mut (W.H x) := let ⟨_, r⟩ := r; r.mu
theorem R.sC (r : R K cm mo W σ Γ) : ∀ x, W.S x → ¬ W.C x := fun x h c => by
  obtain ⟨Os, r⟩ := r
  obtain ⟨i, _, hi⟩ := (r.hC x).mp c
  exact r.sh i x hi h
theorem R.sL (r : R K cm mo W σ Γ) : ∀ x, W.S x → ¬ W.L x := fun x h c => by
  obtain ⟨Os, r⟩ := r
  obtain ⟨i, _, hi⟩ := (r.hL x).mp c
  exact r.sh i x hi h
theorem R.cL (r : R K cm mo W σ Γ) : ∀ x, W.C x → ¬ W.L x := fun x h c => by
  obtain ⟨Os, r⟩ := r
  obtain ⟨i, c1, hi⟩ := (r.hC x).mp h
  obtain ⟨j, c2, hj⟩ := (r.hL x).mp c
  by_cases e : i = j
  · subst e; rw [c2] at c1; cases c1
  · exact r.dj i j x e hi hj
theorem R.trC (r : R K cm mo W σ Γ) : ∀ x, W.C x → Tr W.H x := fun x h => Mut.tr (r.mu x h)
theorem R.trL (r : R K cm mo W σ Γ) : ∀ x, W.L x → Tr W.H x := fun x h => by
  obtain ⟨Os, r⟩ := r
  obtain ⟨i, _, hi⟩ := (r.hL x).mp h
  exact r.trO i x hi
theorem R.ls (r : R K cm mo W σ Γ) : σ.length = mo.length := let ⟨_, r⟩ := r; r.ls
theorem R.lg (r : R K cm mo W σ Γ) : Γ.length = mo.length := let ⟨_, r⟩ := r; r.lg
/-- more is shared -/
theorem RO.share {G : Addr → Prop} (r : RO K cm mo W σ Γ Os) (h : ∀ x, G x → Tr W.H x ∧ ∀ i, ¬ x ∈ Os i) : RO K cm mo { W with S := fun x => W.S x ∨ G x } σ Γ Os :=
  ⟨fun i => (r.slot i).kp (P := fun _ => False) (H' := W.H) (same_kp (fun _ _ h => h)) (fun _ h => .inl h) (fun _ _ h => h) fun _ _ h => h, r.nd, r.dj, r.hC, r.hL, fun i x hx q => q.elim (r.sh i x hx) fun g => (h x g).2 i hx, fun x q => q.elim (r.trS x) fun g => (h x g).1, r.trO, r.mu, r.ls, r.lg⟩
/-- a slot is changed: what stands in it, in which mode; the heap too, at what the slot owned alone -/
theorem RO.put {j : Nat} {m' : Mode} {v' : Option V} {t' : Option T} {O' : List Addr} {H' : Hp} {S' : Addr → Prop} (r : RO K cm mo W σ Γ Os) (hj : j < mo.length) (hl : md mo j ≠ .lk)
    (hk : ∀ b o, W.H b = some o → ¬ b ∈ Os j → H' b = some o) (tr : ∀ x, Tr W.H x → Tr H' x) (sS : ∀ x, W.S x → S' x) (trS : ∀ x, S' x → Tr H' x) (nS : ∀ i x, i ≠ j → x ∈ Os i → ¬ S' x)
    (slot : SlotOk K cm H' S' m' v' t' O') (nd : O'.Nodup) (fr : ∀ x ∈ O', ∀ i, i ≠ j → ¬ x ∈ Os i) (oS : ∀ x ∈ O', ¬ S' x) (trO : ∀ x ∈ O', Tr H' x) (mu : chg m' = true → ∀ x ∈ O', Mut (H' x)) :
    RO K cm (mo.set j m') ⟨H', fun x => (chg m' = true ∧ x ∈ O') ∨ (W.C x ∧ ¬ x ∈ Os j), fun x => (m' = .lk ∧ x ∈ O') ∨ (W.L x), S'⟩ (σ.set j v') (Γ.set j t') (fun i => if i = j then O' else Os i) := by
  have hmu : ∀ x ∈ Os j, chg (md mo j) = true → Mut (W.H x) := fun x hx c => r.mu x ((r.hC x).mpr ⟨j, c, hx⟩)
  have empty : chg (md mo j) = false → Os j = [] := fun c => by
    have s := r.slot j
    cases e : md mo j with
    | dead => rw [e] at s; exact s
    | vw => rw [e] at s; exact s.1
    | o1 => rw [e] at c; cases c
    | own => rw [e] at c; cases c
    | lk => exact absurd e hl
  have hP : ∀ x, x ∈ Os j → Mut (W.H x) := fun x hx => by
    cases c : chg (md mo j) with
    | true => exact hmu x hx c
    | false => rw [empty c] at hx; cases hx
  have k : Kp (fun x => x ∈ Os j) W.H H' := kp_of hk hP
  have lσ : j < σ.length := by rw [r.ls]; exact hj
  have lΓ : j < Γ.length := by rw [r.lg]; exact hj
  refine ⟨fun i => ?_, fun i => ?_, fun i i' x n hx => ?_, fun x => ?_, fun x => ?_, fun i x hx => ?_, trS, fun i x hx => ?_, fun x hx => ?_, ?_, ?_⟩
  · by_cases e : i = j
    · subst e
      rw [if_pos rfl, md_set_self hj, sl_set_self lσ, sl_set_self lΓ]
      exact slot
    · rw [if_neg e, md_set_ne (Ne.symm e), sl_set_ne (Ne.symm e), sl_set_ne (Ne.symm e)]
      exact (r.slot i).kp k sS (fun x hx hj => r.sh j x hj hx) fun x hx hj => r.dj i j x e hx hj
  · by_cases e : i = j
    · simp only [if_pos e]; exact nd
    · simp only [if_neg e]; exact r.nd i
  · by_cases e : i = j
    · by_cases e' : i' = j
      · exact absurd (e.trans e'.symm) n
      · simp only [if_neg e']
        simp only [if_pos e] at hx
        exact fun q => fr x hx i' e' q
    · simp only [if_neg e] at hx
      by_cases e' : i' = j
      · simp only [if_pos e']
        exact fun q => fr x q i e hx
      · simp only [if_neg e']
        exact r.dj i i' x n hx
  · constructor
    · rintro (⟨c, hx⟩ | ⟨c, n⟩)
      · exact ⟨j, by rw [md_set_self hj]; exact c, by simpa using hx⟩
      · obtain ⟨i, c1, hi⟩ := (r.hC x).mp c
        have e : i ≠ j := fun e => n (e ▸ hi)
        exact ⟨i, by rw [md_set_ne (Ne.symm e)]; exact c1, by simpa [e] using hi⟩
    · rintro ⟨i, c, hx⟩
      by_cases e : i = j
      · subst e
        rw [md_set_self hj] at c
        exact .inl ⟨c, by simpa using hx⟩
      · rw [md_set_ne (Ne.symm e)] at c
        simp only [if_neg e] at hx
        exact .inr ⟨(r.hC x).mpr ⟨i, c, hx⟩, r.dj i j x e hx⟩
  · constructor
    · rintro (⟨c, hx⟩ | c)
      · exact ⟨j, by rw [md_set_self hj]; exact c, by simpa using hx⟩
      · obtain ⟨i, c1, hi⟩ := (r.hL x).mp c
        have e : i ≠ j := fun e => hl (e ▸ c1)
        exact ⟨i, by rw [md_set_ne (Ne.symm e)]; exact c1, by simpa [e] using hi⟩
    · rintro ⟨i, c, hx⟩
      by_cases e : i = j
      · subst e
        rw [md_set_self hj] at c
        exact .inl ⟨c, by simpa using hx⟩
      · rw [md_set_ne (Ne.symm e)] at c
        simp only [if_neg e] at hx
        exact .inr ((r.hL x).mpr ⟨i, c, hx⟩)
  · by_cases e : i = j
    · simp only [if_pos e] at hx; exact oS x hx
    · simp only [if_neg e] at hx; exact nS i x e hx
  · by_cases e : i = j
    · simp only [if_pos e] at hx; exact trO x hx
    · simp only [if_neg e] at hx; exact tr x (r.trO i x hx)
  · rcases hx with ⟨c, hx⟩ | ⟨c, n⟩
    · exact mu c x hx
    · exact mut_eq (r.mu x c) fun o e => hk x o e n
  · rw [List.length_set, List.length_set]; exact r.ls
  · rw [List.length_set, List.length_set]; exact r.lg
/-- .. and that it is a step -/
theorem RO.put_fr {j : Nat} {m' : Mode} {O' : List Addr} {H' : Hp} {S' : Addr → Prop} (r : RO K cm mo W σ Γ Os) (hl : md mo j ≠ .lk) (hm : m' ≠ .lk)
    (hk : ∀ b o, W.H b = some o → ¬ b ∈ Os j → H' b = some o) (tr : ∀ x, Tr W.H x → Tr H' x) (sS : ∀ x, W.S x → S' x) (sN : ∀ x, S' x → W.S x ∨ W.C x ∨ ¬ Tr W.H x) (fr : ∀ x ∈ O', x ∈ Os j ∨ ¬ Tr W.H x) :
    Fr W ⟨H', fun x => (chg m' = true ∧ x ∈ O') ∨ (W.C x ∧ ¬ x ∈ Os j), fun x => (m' = .lk ∧ x ∈ O') ∨ (W.L x), S'⟩ := by
  have inC : ∀ x, x ∈ Os j → W.C x := fun x hx => by
    refine (r.hC x).mpr ⟨j, ?_, hx⟩
    have s := r.slot j
    cases e : md mo j with
    | dead => rw [e] at s; have s : Os j = [] := s; rw [s] at hx; cases hx
    | vw => rw [e] at s; rw [s.1] at hx; cases hx
    | o1 => rfl
    | own => rfl
    | lk => exact absurd e hl
  refine ⟨fun b o e n => hk b o e fun q => n (inC b q), fun x h => ?_, fun x h => ?_, sS, sN, tr⟩
  · rcases h with ⟨_, h⟩ | ⟨h, _⟩
    · exact (fr x h).elim (fun q => .inl (inC x q)) .inr
    · exact .inl h
  · rcases h with ⟨h, _⟩ | h
    · exact absurd h hm
    · exact h
theorem RO.inC {j : Nat} (r : RO K cm mo W σ Γ Os) (h : chg (md mo j) = true) {x} (hx : x ∈ Os j) : W.C x := (r.hC x).mpr ⟨j, h, hx⟩
/-! ### kinds of values -/
inductive Kd | imm | fresh | fr1 | shared | any
  deriving DecidableEq
/-- behind an expression that left W' from W -/
def KOk (k : Kd) (W W' : Wd) (G : List Addr) : Prop :=
  match k with
  | .imm => G = []
  | .fresh => G.Nodup ∧ ∀ x ∈ G, (W.C x ∨ ¬ Tr W.H x) ∧ ¬ W'.C x ∧ ¬ W'.L x ∧ ¬ W'.S x ∧ Mut (W'.H x)
  | .fr1 => ∃ a G', G = a :: G' ∧ ((W.C a ∨ ¬ Tr W.H a) ∧ ¬ W'.C a ∧ ¬ W'.L a ∧ ¬ W'.S a ∧ Mut (W'.H a)) ∧ ¬ a ∈ G' ∧ ∀ x ∈ G', (W.S x ∨ W.C x ∨ ¬ Tr W.H x) ∧ ¬ W'.C x ∧ ¬ W'.L x
  | .shared => ∀ x ∈ G, (W.S x ∨ W.C x ∨ ¬ Tr W.H x) ∧ ¬ W'.C x ∧ ¬ W'.L x
  | .any => True
/-- a later step leaves a value's kind -/
theorem KOk.step {k : Kd} {W0 W1 W2 : Wd} {G : List Addr} (f : Fr W1 W2) (t : ∀ x ∈ G, Tr W1.H x) (h : KOk k W0 W1 G) : KOk k W0 W2 G := by
  have nC : ∀ x, Tr W1.H x → ¬ W1.C x → ¬ W2.C x := fun x tx n c => (f.chg x c).elim n fun q => q tx
  have nS : ∀ x, Tr W1.H x → ¬ W1.S x → ¬ W1.C x → ¬ W2.S x := fun x tx n c s => (f.shn x s).elim n fun q => q.elim c fun q => q tx
  have nL : ∀ x, ¬ W1.L x → ¬ W2.L x := fun x n l => n (f.lck x l)
  cases k with
  | imm => exact h
  | fresh =>
    refine ⟨h.1, fun x hx => ?_⟩
    obtain ⟨a, b, c, d, m⟩ := h.2 x hx
    exact ⟨a, nC x (t x hx) b, nL x c, nS x (t x hx) d b, mut_eq m fun o e => f.keep x o e b⟩
  | fr1 =>
    obtain ⟨a, G', rfl, ⟨b1, b2, b3, b4, m⟩, n, g⟩ := h
    have ta := t a List.mem_cons_self
    refine ⟨a, G', rfl, ⟨b1, nC a ta b2, nL a b3, nS a ta b4 b2, mut_eq m fun o e => f.keep a o e b2⟩, n, fun x hx => ?_⟩
    obtain ⟨g1, g2, g3⟩ := g x hx
    exact ⟨g1, nC x (t x (List.mem_cons_of_mem _ hx)) g2, nL x g3⟩
  | shared =>
    intro x hx
    obtain ⟨g1, g2, g3⟩ := h x hx
    exact ⟨g1, nC x (t x hx) g2, nL x g3⟩
  | any => trivial
/-- from an earlier beginning -/
theorem KOk.early {k : Kd} {W0 W1 W2 : Wd} {G : List Addr} (f : Fr W0 W1) (h : KOk k W1 W2 G) : KOk k W0 W2 G := by
  have e1 : ∀ x, (W1.C x ∨ ¬ Tr W1.H x) → (W0.C x ∨ ¬ Tr W0.H x) := fun x q => q.elim (f.chg x) fun q => .inr fun t => q (f.tr x t)
  have e2 : ∀ x, (W1.S x ∨ W1.C x ∨ ¬ Tr W1.H x) → (W0.S x ∨ W0.C x ∨ ¬ Tr W0.H x) := fun x q => q.elim (f.shn x) fun q => .inr (e1 x q)
  cases k with
  | imm => exact h
  | fresh => exact ⟨h.1, fun x hx => ⟨e1 x (h.2 x hx).1, (h.2 x hx).2⟩⟩
  | fr1 =>
    obtain ⟨a, G', rfl, ⟨b1, b2⟩, n, g⟩ := h
    exact ⟨a, G', rfl, ⟨e1 a b1, b2⟩, n, fun x hx => ⟨e2 x (g x hx).1, (g x hx).2⟩⟩
  | shared => exact fun x hx => ⟨e2 x (h x hx).1, (h x hx).2⟩
  | any => trivial
def kle : Kd → Kd → Bool
  | _, .any => true
  | .imm, .shared => true | .fresh, .shared => true | .fr1, .shared => true | .shared, .shared => true
  | .imm, .imm => true | .fresh, .fresh => true | .fr1, .fr1 => true | .imm, .fresh => true
  | _, _ => false
theorem KOk.le {k k' : Kd} {W0 W1 : Wd} {G : List Addr} (e : kle k k' = true) (h : KOk k W0 W1 G) : KOk k' W0 W1 G := by
  cases k' with
  | any => trivial
  | shared =>
    cases k with
    | imm => have h : G = [] := h; subst h; intro x hx; cases hx
    | fresh => exact fun x hx => ⟨.inr (h.2 x hx).1, (h.2 x hx).2.1, (h.2 x hx).2.2.1⟩
    | fr1 =>
      obtain ⟨a, G', rfl, ⟨b1, b2, b3, _⟩, n, g⟩ := h
      intro x hx
      rcases List.mem_cons.mp hx with rfl | hx
      · exact ⟨.inr b1, b2, b3⟩
      · exact g x hx
    | shared => exact h
    | any => cases e
  | imm => cases k <;> first | exact h | cases e
  | fresh =>
    cases k with
    | imm => have h : G = [] := h; subst h; exact ⟨List.nodup_nil, fun x hx => by cases hx⟩
    | fresh => exact h
    | _ => cases e
  | fr1 => cases k <;> first | exact h | cases e
end
end Tm
namespace Tm
open PySem PySem.Spec PyProof.Rows L2
abbrev PF := Env → Option T
abbrev BF := Env → Option Bool
abbrev AF := Env → Option (List T)
inductive Res (α : Type) | ok (Γ : Env) (t : α) | ex (c : Str) (Γ : Env) | stuck
abbrev EF := Env → Res T
/-- an exception of the class c is wished -/
def exW (cm : Cm) (E : XK) (c : Str) (H : Hp) : Prop := ∀ C, cm c = some C → E (.ref C) none H
/-- where a body stands -/
structure Ctx (X : Cx) (E : XK) (n : Nat) : Prop where
  calm : X.calm = true
  nd : X.N.Nodup
  ps : Passes (L2.CX X.prog X.w) X E
  room : Room n X.A
theorem Ctx.hu {X E n} (C : Ctx X E n) : X.A.units + 1 < cLine := by have := C.room.un; omega
theorem Ctx.hu64 {X E n} (C : Ctx X E n) : X.A.units + 64 < cLine := by have := C.room.un; omega
section
variable (K : PySem.W.Frag) (cm : Cm) (mo : List Mode)
def tP (kd : Kd) (f : PF) : TE := fun σ H Q => ∃ W Γ t, W.H = H ∧ R K cm mo W σ Γ ∧ f Γ = some t ∧ ∀ v H' G, Same H H' → Rep K cm H' t v G → KOk kd W { W with H := H' } G → Q v H'
def tPb (f : BF) : TT := fun σ H Q => ∃ W Γ b, W.H = H ∧ R K cm mo W σ Γ ∧ f Γ = some b ∧ ∀ H', Same H H' → Q b H'
def tPa (f : AF) : TA := fun σ H Q => ∃ W Γ ts, W.H = H ∧ R K cm mo W σ Γ ∧ f Γ = some ts ∧ ∀ vs H' G, Same H H' → Reps K cm H' ts vs G → Q vs H'
/-- what is wanted behind -/
def PostE {α : Type} (E : XK) (W : Wd) (σ : L2.St) (r : Res α) (q : α → Wd → Prop) : Prop :=
  match r with
  | .ok Γ' t => ∀ W', R K cm mo W' σ Γ' → Fr W W' → q t W'
  | .ex c Γ' => ∀ W', R K cm mo W' σ Γ' → Fr W W' → exW cm E c W'.H
  | .stuck => False
def tE (kd : Kd) (E : XK) (f : EF) : TE := fun σ H Q => ∃ W Γ, W.H = H ∧ R K cm mo W σ Γ ∧ PostE K cm mo E W σ (f Γ) fun t W' => ∀ v G, Rep K cm W'.H t v G → KOk kd W W' G → Q v W'.H
def tEb (E : XK) (f : Env → Res Bool) : TT := fun σ H Q => ∃ W Γ, W.H = H ∧ R K cm mo W σ Γ ∧ PostE K cm mo E W σ (f Γ) fun b W' => Q b W'.H
/-- kinds of arguments: stable ones -/
def KsOk (W W' : Wd) (G : List Addr) : Prop := KOk .shared W W' G
def tEa (E : XK) (f : Env → Res (List T)) : TA := fun σ H Q => ∃ W Γ, W.H = H ∧ R K cm mo W σ Γ ∧ PostE K cm mo E W σ (f Γ) fun ts W' => ∀ vs G, Reps K cm W'.H ts vs G → KOk .shared W W' G → Q vs W'.H
end
theorem PE.imp {X : Cx} {e : Expr} {t t' : TE} (h : PE X e t) (i : ∀ σ H Q, t' σ H Q → t σ H Q) : PE X e t' := ⟨fun pins s σ H Q I q => h.run pins s σ H Q I (i _ _ _ q)⟩
theorem PT.imp {X : Cx} {e : Expr} {t t' : TT} (h : PT X e t) (i : ∀ σ H Q, t' σ H Q → t σ H Q) : PT X e t' := ⟨fun pins s σ H Q I q => h.run pins s σ H Q I (i _ _ _ q)⟩
theorem PW.imp {X : Cx} {e : Expr} {t t' : TT} (h : PW X e t) (i : ∀ σ H Q, t' σ H Q → t σ H Q) : PW X e t' := ⟨fun w pins s σ H Q I q => h.run w pins s σ H Q I (i _ _ _ q)⟩
theorem PA.imp {X : Cx} {e : List Expr} {t t' : TA} (h : PA X e t) (i : ∀ σ H Q, t' σ H Q → t σ H Q) : PA X e t' := ⟨fun p pins s σ H Q I q => h.run p pins s σ H Q I (i _ _ _ q)⟩
theorem PS.imp {X : Cx} {e : Stmt} {t t' : TS} (h : PS X e t) (i : ∀ D σ H, t' D σ H → t D σ H) : PS X e t' := ⟨fun pins s σ H D I q => h.run pins s σ H D I (i _ _ _ q)⟩
theorem PSs.imp {X : Cx} {e : List Stmt} {t t' : TS} (h : PSs X e t) (i : ∀ D σ H, t' D σ H → t D σ H) : PSs X e t' := ⟨fun pins s σ H D I q => h.run pins s σ H D I (i _ _ _ q)⟩
/-! ### the judgements -/
abbrev Ep (X : Cx) (cm : Cm) (mo : List Mode) (kd : Kd) (e : Expr) (f : PF) : Prop := PE X e (tP X.K cm mo kd f)
abbrev Bp (X : Cx) (cm : Cm) (mo : List Mode) (e : Expr) (f : BF) : Prop := PT X e (tPb X.K cm mo f)
abbrev Ap (X : Cx) (cm : Cm) (mo : List Mode) (es : List Expr) (f : AF) : Prop := PA X es (tPa X.K cm mo f)
abbrev Ee (X : Cx) (cm : Cm) (mo : List Mode) (E : XK) (kd : Kd) (e : Expr) (f : EF) : Prop := PE X e (tE X.K cm mo kd E f)
abbrev Be (X : Cx) (cm : Cm) (mo : List Mode) (E : XK) (e : Expr) (f : Env → Res Bool) : Prop := PT X e (tEb X.K cm mo E f)
abbrev Ae (X : Cx) (cm : Cm) (mo : List Mode) (E : XK) (es : List Expr) (f : Env → Res (List T)) : Prop := PA X es (tEa X.K cm mo E f)
section
variable {K : PySem.W.Frag} {cm : Cm} {mo : List Mode} {W : Wd} {σ : L2.St} {Γ : Env}
theorem same_wd {H : Hp} : ({ W with H := H } : Wd).H = H := rfl
/-- a value that stays through a step -/
theorem Rep.step {W W' : Wd} {t : T} {v : V} {G : List Addr} (r : R K cm mo W σ Γ) (f : Fr W W') (h : Rep K cm W.H t v G) (n : ∀ x ∈ G, ¬ W.C x) : Rep K cm W'.H t v G := h.kp (f.kp r.mu) _ _ _ n
theorem Reps.step {W W' : Wd} {t : List T} {v : List V} {G : List Addr} (r : R K cm mo W σ Γ) (f : Fr W W') (h : Reps K cm W.H t v G) (n : ∀ x ∈ G, ¬ W.C x) : Reps K cm W'.H t v G := h.kp (f.kp r.mu) _ _ _ n
theorem Rep.same {H H' : Hp} {t : T} {v : V} {G : List Addr} (h : Rep K cm H t v G) (s : Same H H') : Rep K cm H' t v G := h.kp (same_kp s) _ _ _ fun _ _ q => q
theorem Reps.same {H H' : Hp} {t : List T} {v : List V} {G : List Addr} (h : Reps K cm H t v G) (s : Same H H') : Reps K cm H' t v G := h.kp (same_kp s) _ _ _ fun _ _ q => q
theorem KOk.nC {k : Kd} {W W' : Wd} {G : List Addr} (h : KOk k W W' G) (e : kle k .shared = true) : ∀ x ∈ G, ¬ W'.C x := fun x hx => ((h.le e) x hx).2.1
theorem sl_R {i : Nat} {t : T} (r : R K cm mo W σ Γ) (e : sl Γ i = some t) (m : md mo i ≠ .dead) : ∃ v G, sl σ i = some v ∧ Rep K cm W.H t v G := by
  obtain ⟨Os, r⟩ := r
  have s := r.slot i
  cases q : md mo i with
  | dead => exact absurd q m
  | vw =>
    rw [q] at s
    obtain ⟨v, G, e1, e2, _⟩ := s.2 t e
    exact ⟨v, G, e1, e2⟩
  | o1 =>
    rw [q] at s
    obtain ⟨v, a, G, e1, _, e2, _⟩ := s t e
    exact ⟨v, _, e1, e2⟩
  | lk =>
    rw [q] at s
    obtain ⟨v, a, G, e1, _, e2, _⟩ := s t e
    exact ⟨v, _, e1, e2⟩
  | own =>
    rw [q] at s
    obtain ⟨v, e1, e2⟩ := s t e
    exact ⟨v, _, e1, e2⟩
theorem sl_V {i : Nat} {t : T} (r : R K cm mo W σ Γ) (e : sl Γ i = some t) (m : md mo i = .vw) : ∃ v G, sl σ i = some v ∧ Rep K cm W.H t v G ∧ ∀ x ∈ G, W.S x := by
  obtain ⟨Os, r⟩ := r
  have s := r.slot i
  rw [m] at s
  exact s.2 t e
/-- a pure part, read at a later heap -/
theorem R.at {H1 : Hp} (r : R K cm mo W σ Γ) (s : Same W.H H1) : ∃ W1 : Wd, W1 = { W with H := H1 } ∧ R K cm mo W1 σ Γ := ⟨_, rfl, r.same s⟩
end
section
variable {X : Cx} {cm : Cm} {mo : List Mode} {E : XK} {n : Nat} {a b e : Expr} {pos : Pos} {kd kd' k1 k2 : Kd} {f g : PF}
/-! ### pure parts -/
def pVar (i : Nat) : PF := fun Γ => sl Γ i
def pC (t : T) : PF := fun _ => some t
def pBin (op : T → T → Option T) (f g : PF) : PF := fun Γ => (f Γ).bind fun x => (g Γ).bind fun y => op x y
def pUn (op : T → Option T) (f : PF) : PF := fun Γ => (f Γ).bind op
def vkd (m : Mode) : Kd := if m = .vw then .shared else .any
theorem Ep.le (h : Ep X cm mo kd e f) (l : kle kd kd' = true) : Ep X cm mo kd' e f := PE.imp h fun σ H Q ⟨W, Γ, t, e1, r, e2, q⟩ => ⟨W, Γ, t, e1, r, e2, fun v H' G s h k => q v H' G s h (k.le l)⟩
theorem ep_var {i : Nat} {x : Str} (hN : X.N[i]? = some x) (hv : Vis X.env.scope x) (hm : md mo i ≠ .dead) (hd : (x == ("__debug__" : Str)) = false := by decide) (hcd : (x == ("__classdict__" : Str)) = false := by decide) :
    Ep X cm mo (vkd (md mo i)) (.Name x pos) (pVar i) := PE.imp (pe_var hN hv hd hcd) fun σ H Q ⟨W, Γ, t, e1, r, e2, q⟩ => by
  subst e1
  by_cases hk : md mo i = .vw
  · obtain ⟨v, G, e3, e4, g⟩ := sl_V r e2 hk
    refine ⟨v, sl_get e3, q v W.H G (fun _ _ h => h) e4 ?_⟩
    unfold vkd
    rw [if_pos hk]
    exact fun x hx => ⟨.inl (g x hx), r.sC x (g x hx), r.sL x (g x hx)⟩
  · obtain ⟨v, G, e3, e4⟩ := sl_R r e2 hm
    refine ⟨v, sl_get e3, q v W.H G (fun _ _ h => h) e4 ?_⟩
    unfold vkd
    rw [if_neg hk]
    trivial
theorem ep_c {t : T} {v : V} (h : PE X e (tC v)) (hr : ∀ H, Rep X.K cm H t v []) : Ep X cm mo .imm e (pC t) := PE.imp h fun σ H Q ⟨W, Γ, u, e1, r, e2, q⟩ => by
  cases e2
  exact q v H [] (fun _ _ h => h) (hr H) rfl
theorem ep_int {i : Int} {j} : Ep X cm mo .imm (.Constant (.int i) j pos) (pC (.int i)) := ep_c pe_int fun _ => ⟨rfl, rfl⟩
theorem ep_bl {i : Bool} {j} : Ep X cm mo .imm (.Constant (.bool i) j pos) (pC (.bl i)) := ep_c pe_bl fun _ => ⟨rfl, rfl⟩
theorem ep_non {j} : Ep X cm mo .imm (.Constant .none j pos) (pC .non) := ep_c pe_non fun _ => ⟨rfl, rfl⟩
theorem ep_str {i : Str} {j} : Ep X cm mo .imm (.Constant (.str i) j pos) (pC (.str i)) := ep_c pe_str fun _ => ⟨rfl, rfl⟩
theorem ep_glob {x : Str} {t : T} {v : V} {u : Value} (hg : Gl X x) (hm : X.mg x = some u) (r : RelV v u) (hr : ∀ H, Rep X.K cm H t v []) (hd : (x == ("__debug__" : Str)) = false := by decide) : Ep X cm mo .imm (.Name x pos) (pC t) := ep_c (pe_glob hg hm r hd) hr
/-- an operation on values whose result has no footprint -/
def Sc2 (K : PySem.W.Frag) (cm : Cm) (r : R2) (op : T → T → Option T) : Prop :=
  ∀ a b c, op a b = some c → ∀ H x y F G, Rep K cm H a x F → Rep K cm H b y G → ∀ Q : VK, (∀ z H', Same H H' → Rep K cm H' c z [] → Q z H') → r x y H Q
theorem op_core {r : R2} {op : T → T → Option T} (hs : Sc2 X.K cm r op) (ha : Ep X cm mo k1 a f) (hb : Ep X cm mo k2 b g) : ∀ σ H Q, tP X.K cm mo .imm (pBin op f g) σ H Q → tOp r (tP X.K cm mo k1 f) (tP X.K cm mo k2 g) σ H Q := fun σ H Q ⟨W, Γ, t, e1, r0, e2, q⟩ => by
  subst e1
  obtain ⟨x, hx, e2⟩ := Option.bind_eq_some_iff.mp e2
  obtain ⟨y, hy, e2⟩ := Option.bind_eq_some_iff.mp e2
  refine ⟨W, Γ, x, rfl, r0, hx, fun v1 H1 G1 s1 h1 _ => ⟨{ W with H := H1 }, Γ, y, rfl, r0.same s1, hy, fun v2 H2 G2 s2 h2 _ => ?_⟩⟩
  exact hs x y t e2 H2 v1 v2 G1 G2 (h1.same s2) h2 Q fun z H' s' h' => q z H' [] (s1.trans (s2.trans s')) h' rfl
theorem ep_op {o : Operator} {r : R2} {op : T → T → Option T} (ho : OpR X (binaryOp o) r) (hs : Sc2 X.K cm r op) (ha : Ep X cm mo k1 a f) (hb : Ep X cm mo k2 b g) : Ep X cm mo .imm (.BinOp a o b pos) (pBin op f g) := PE.imp (pe_op ho ha hb) (op_core hs ha hb)
theorem ep_cmp {o : CmpOp} {r : R2} {op : T → T → Option T} (ho : OpR X (compareOp o) r) (hs : Sc2 X.K cm r op) (ha : Ep X cm mo k1 a f) (hb : Ep X cm mo k2 b g) (hm : behindInMarks o b = false) : Ep X cm mo .imm (.Compare a [o] [b] pos) (pBin op f g) := PE.imp (pe_cmpR ho ha hb hm) (op_core hs ha hb)
end
end Tm
namespace Tm
open PySem PySem.Spec PyProof.Rows L2
theorem OpR.or {X : Cx} {f r r'} (h : OpR X f r) (h' : OpR X f r') : OpR X f (fun x y H Q => r x y H Q ∨ r' x y H Q) := fun pins s σ H x y v u Q I rx ry q => q.elim (h pins s σ H x y v u Q I rx ry) (h' pins s σ H x y v u Q I rx ry)
theorem PE.or {X : Cx} {e : Expr} {t t' : TE} (h : PE X e t) (h' : PE X e t') : PE X e (fun σ H Q => t σ H Q ∨ t' σ H Q) := ⟨fun pins s σ H Q I q => q.elim (h.run pins s σ H Q I) (h'.run pins s σ H Q I)⟩
theorem CallR.or {X : Cx} {f r r'} (h : CallR X f r) (h' : CallR X f r') : CallR X f (fun xs H Q => r xs H Q ∨ r' xs H Q) := fun pins s σ H xs us Q I rx q => q.elim (h pins s σ H xs us Q I rx) (h' pins s σ H xs us Q I rx)
/-! ### the operations on trees -/
def bAdd : T → T → Option T
  | .int i, .int j => some (.int (i + j)) | _, _ => none
def bSub : T → T → Option T
  | .int i, .int j => some (.int (i - j)) | _, _ => none
def bMul : T → T → Option T
  | .int i, .int j => if (-(2 ^ 64) < i ∧ i < 2 ^ 64) ∨ (-(2 ^ 64) < j ∧ j < 2 ^ 64) then some (.int (i * j)) else none | _, _ => none
def bDiv : T → T → Option T
  | .int i, .int j => if 0 < j ∧ j < 1000000000000000000000000000000 then some (.int (i / j)) else none | _, _ => none
def bMod : T → T → Option T
  | .int i, .int j => if 0 < j then some (.int (i % j)) else none | _, _ => none
def bPow : T → T → Option T
  | .int i, .int j => if 0 ≤ j ∧ j ≤ 1000 ∧ i.natAbs < 1000000 then some (.int (i ^ j.toNat)) else none | _, _ => none
def bAddS : T → T → Option T
  | .str i, .str j => if i.length + j.length ≤ 1000000 then some (.str (i ++ j)) else none | _, _ => none
def tints : List T → Option (List Int)
  | [] => some []
  | .int i :: r => (tints r).map (i :: ·)
  | _ => none
theorem tints_eq : ∀ {ts : List T} {ns : List Int}, tints ts = some ns → ts = ns.map T.int
  | [], ns, h => by cases h; rfl
  | t :: ts, ns, h => by
    cases t with
    | int i =>
      simp only [tints, Option.map_eq_some_iff] at h
      obtain ⟨ms, h1, rfl⟩ := h
      rw [tints_eq h1]; rfl
    | _ => cases h
theorem tints_map (ns : List Int) : tints (ns.map T.int) = some ns := by
  induction ns with
  | nil => rfl
  | cons n ns ih => rw [List.map_cons]; simp only [tints, ih]; rfl
def bLt : T → T → Option T
  | .int i, .int j => some (.bl (decide (i < j)))
  | .tup xs, .tup ys => (tints xs).bind fun ns => (tints ys).bind fun ms => some (.bl (HT.lexLt ns ms))
  | _, _ => none
def bLe : T → T → Option T
  | .int i, .int j => some (.bl (decide (i ≤ j))) | _, _ => none
def bGt : T → T → Option T
  | .int i, .int j => some (.bl (decide (j < i))) | _, _ => none
def bGe : T → T → Option T
  | .int i, .int j => some (.bl (decide (j ≤ i))) | _, _ => none
def isNon : T → Bool
  | .non => true | _ => false
def bIs : T → T → Option T
  | x, .non => some (.bl (isNon x))
  | .bl a, .bl b => some (.bl (decide (a = b)))
  | _, _ => none
def bNot (o : T → T → Option T) : T → T → Option T := fun a b => match o a b with | some (.bl k) => some (.bl (!k)) | _ => none
def flatT : T → Bool
  | .non => true | .bl _ => true | .int _ => true | .str _ => true | _ => false
/-- data: how deep at most -/
def dtT : Nat → T → Bool
  | _, .non => true | _, .bl _ => true | _, .int _ => true | _, .str x => PyData.strOk x
  | n + 1, .lst xs => xs.all (dtT n)
  | n + 1, .tup xs => xs.all (dtT n)
  | _, _ => false
mutual
def eqT : T → T → Bool
  | .non, .non => true
  | .bl a, .bl b => a == b
  | .bl a, .int j => (if a then 1 else 0) == j
  | .int i, .bl b => i == (if b then 1 else 0)
  | .int i, .int j => i == j
  | .str x, .str y => x == y
  | .lst xs, .lst ys => eqTs xs ys
  | .tup xs, .tup ys => eqTs xs ys
  | _, _ => false
def eqTs : List T → List T → Bool
  | [], [] => true
  | x :: xs, y :: ys => eqT x y && eqTs xs ys
  | _, _ => false
end
def pd : Nat → T → PyData
  | _, .bl b => .bool b | _, .int i => .int i | _, .str x => .str x
  | n + 1, .lst xs => .list (xs.map (pd n))
  | n + 1, .tup xs => .tuple (xs.map (pd n))
  | _, _ => .none
theorem canLayAll_all : ∀ (l : List PyData), (∀ d ∈ l, d.canLay0 = true) → PyData.canLayAll0 l = true
  | [], _ => rfl
  | d :: l, h => by
    show (PyData.canLay0 d && PyData.canLayAll0 l) = true
    rw [h d List.mem_cons_self, canLayAll_all l fun e he => h e (List.mem_cons_of_mem _ he)]; rfl
theorem depthAll_le {n : Nat} : ∀ (l : List PyData), (∀ d ∈ l, d.depth ≤ n) → PyData.depthAll l ≤ n
  | [], _ => Nat.zero_le _
  | d :: l, h => by
    show max (PyData.depth d) (PyData.depthAll l) ≤ n
    exact Nat.max_le.mpr ⟨h d List.mem_cons_self, depthAll_le l fun e he => h e (List.mem_cons_of_mem _ he)⟩
theorem pd_ok : ∀ (n : Nat) (t : T), dtT n t = true → (pd n t).canLay0 = true ∧ (pd n t).depth ≤ n
  | n, .non, _ => by cases n <;> exact ⟨rfl, Nat.zero_le _⟩
  | n, .bl _, _ => by cases n <;> exact ⟨rfl, Nat.zero_le _⟩
  | n, .int _, _ => by cases n <;> exact ⟨rfl, Nat.zero_le _⟩
  | n, .str x, h => by
    cases n <;> exact ⟨by simpa [pd, PyData.canLay0, dtT] using h, Nat.zero_le _⟩
  | n + 1, .lst xs, h => by
    have h : ∀ x ∈ xs, dtT n x = true := by simpa [dtT] using h
    refine ⟨?_, ?_⟩
    · show PyData.canLayAll0 (xs.map (pd n)) = true
      refine canLayAll_all _ fun d hd => ?_
      obtain ⟨x, hx, rfl⟩ := List.mem_map.mp hd
      exact (pd_ok n x (h x hx)).1
    · show PyData.depthAll (xs.map (pd n)) + 1 ≤ n + 1
      refine Nat.succ_le_succ (depthAll_le _ fun d hd => ?_)
      obtain ⟨x, hx, rfl⟩ := List.mem_map.mp hd
      exact (pd_ok n x (h x hx)).2
  | n + 1, .tup xs, h => by
    have h : ∀ x ∈ xs, dtT n x = true := by simpa [dtT] using h
    refine ⟨?_, ?_⟩
    · show PyData.canLayAll0 (xs.map (pd n)) = true
      refine canLayAll_all _ fun d hd => ?_
      obtain ⟨x, hx, rfl⟩ := List.mem_map.mp hd
      exact (pd_ok n x (h x hx)).1
    · show PyData.depthAll (xs.map (pd n)) + 1 ≤ n + 1
      refine Nat.succ_le_succ (depthAll_le _ fun d hd => ?_)
      obtain ⟨x, hx, rfl⟩ := List.mem_map.mp hd
      exact (pd_ok n x (h x hx)).2
  | 0, .lst _, h => by cases h
  | 0, .tup _, h => by cases h
  | n, .scr _, h => by cases n <;> cases h
  | n, .dct _, h => by cases n <;> cases h
  | n, .dtt _, h => by cases n <;> cases h
  | n, .ins _ _, h => by cases n <;> cases h
  | n, .ty _, h => by cases n <;> cases h
  | n, .exc _, h => by cases n <;> cases h
theorem pd_shaped {n : Nat} {t : T} (h : dtT n t = true) (hn : n ≤ 64) : SeqAt.shaped (pd n t) = true := by
  have := pd_ok n t h
  unfold SeqAt.shaped
  rw [this.1, decide_eq_true (Nat.le_trans this.2 hn)]; rfl
/-- the forms of data -/
inductive IsD : Nat → T → Prop
  | non {n} : IsD n .non | bl {n b} : IsD n (.bl b) | int {n i} : IsD n (.int i) | str {n x} : IsD n (.str x)
  | lst {n xs} : (∀ x ∈ xs, dtT n x = true) → IsD (n + 1) (.lst xs) | tup {n xs} : (∀ x ∈ xs, dtT n x = true) → IsD (n + 1) (.tup xs)
theorem isD_of {n : Nat} {t : T} (h : dtT n t = true) : IsD n t := by
  cases t with
  | non => exact .non
  | bl => exact .bl
  | int => exact .int
  | str => exact .str
  | lst xs =>
    cases n with
    | zero => cases h
    | succ n => exact .lst (by simpa [dtT] using h)
  | tup xs =>
    cases n with
    | zero => cases h
    | succ n => exact .tup (by simpa [dtT] using h)
  | _ => cases n <;> cases h
theorem eqvAll_eq {n m : Nat} (ih : ∀ a b, dtT n a = true → dtT m b = true → PyData.eqv (pd n a) (pd m b) = eqT a b) : ∀ (xs ys : List T), (∀ x ∈ xs, dtT n x = true) → (∀ y ∈ ys, dtT m y = true) → PyData.eqvAll (xs.map (pd n)) (ys.map (pd m)) = eqTs xs ys
  | [], [], _, _ => rfl
  | [], _ :: _, _, _ => rfl
  | _ :: _, [], _, _ => rfl
  | x :: xs, y :: ys, h1, h2 => by
    show (PyData.eqv (pd n x) (pd m y) && PyData.eqvAll (xs.map (pd n)) (ys.map (pd m))) = (eqT x y && eqTs xs ys)
    rw [ih x y (h1 x List.mem_cons_self) (h2 y List.mem_cons_self), eqvAll_eq ih xs ys (fun z hz => h1 z (List.mem_cons_of_mem _ hz)) fun z hz => h2 z (List.mem_cons_of_mem _ hz)]
theorem eqv_pd : ∀ (n m : Nat) (a b : T), dtT n a = true → dtT m b = true → PyData.eqv (pd n a) (pd m b) = eqT a b := by
  intro n
  induction n with
  | zero =>
    intro m a b ha hb
    cases isD_of ha <;> cases isD_of hb <;> first | rfl | (cases m <;> rfl)
  | succ n ih =>
    intro m a b ha hb
    cases isD_of ha with
    | lst h1 =>
      cases isD_of hb with
      | lst h2 => exact eqvAll_eq (ih _) _ _ h1 h2
      | tup h2 => rfl
      | _ => cases m <;> rfl
    | tup h1 =>
      cases isD_of hb with
      | tup h2 => exact eqvAll_eq (ih _) _ _ h1 h2
      | lst h2 => rfl
      | _ => cases m <;> rfl
    | _ => cases isD_of hb <;> first | rfl | (cases m <;> rfl)
section
variable {K : PySem.W.Frag} {cm : Cm} {H : Hp}
theorem dpAll_of {n : Nat} (ih : ∀ t v F, dtT n t = true → Rep K cm H t v F → Dp K H v (pd n t)) : ∀ (ts : List T) (vs : List V) (F : List Addr), (∀ t ∈ ts, dtT n t = true) → Reps K cm H ts vs F → DpAll K H vs (ts.map (pd n))
  | [], _, _, _, h => by rw [h.1]; exact .nil
  | t :: ts, _, _, d, h => by
    obtain ⟨x, r, F1, F2, rfl, rfl, h1, h2⟩ := h
    exact .cons (ih t x F1 (d t List.mem_cons_self) h1) (dpAll_of ih ts r F2 (fun u hu => d u (List.mem_cons_of_mem _ hu)) h2)
theorem dp_of : ∀ (n : Nat) (t : T) (v : V) (F : List Addr), dtT n t = true → Rep K cm H t v F → Dp K H v (pd n t) := by
  intro n
  induction n with
  | zero =>
    intro t v F d h
    cases isD_of d with
    | non => rw [h.1]; exact .non
    | bl => rw [h.1]; exact .bl _
    | int => rw [h.1]; exact .int _
    | str => rw [h.1]; exact .str _
  | succ n ih =>
    intro t v F d h
    cases isD_of d with
    | non => rw [h.1]; exact .non
    | bl => rw [h.1]; exact .bl _
    | int => rw [h.1]; exact .int _
    | str => rw [h.1]; exact .str _
    | lst d' =>
      obtain ⟨a, xs, G, rfl, r, s, _⟩ := h
      exact .lst (SqL.of s) (dpAll_of ih _ _ _ d' r)
    | tup d' =>
      obtain ⟨a, xs, rfl, s, r⟩ := h
      exact .tup (.inl s.1) (dpAll_of ih _ _ _ d' r)
theorem flat_rep {t : T} {v : V} {F : List Addr} (f : flatT t = true) (h : Rep K cm H t v F) : F = [] ∧ flatV v = true := by
  cases t with
  | non => obtain ⟨rfl, rfl⟩ := h; exact ⟨rfl, rfl⟩
  | bl => obtain ⟨rfl, rfl⟩ := h; exact ⟨rfl, rfl⟩
  | int => obtain ⟨rfl, rfl⟩ := h; exact ⟨rfl, rfl⟩
  | str => obtain ⟨rfl, rfl⟩ := h; exact ⟨rfl, rfl⟩
  | _ => cases f
theorem flat_eqV {a b : T} {v u : V} {F G : List Addr} (fa : flatT a = true) (fb : flatT b = true) (h : Rep K cm H a v F) (g : Rep K cm H b u G) : eqV v u = eqT a b := by
  cases a with
  | non => obtain ⟨rfl, rfl⟩ := h; cases b <;> first | (obtain ⟨rfl, rfl⟩ := g; rfl) | cases fb
  | bl => obtain ⟨rfl, rfl⟩ := h; cases b <;> first | (obtain ⟨rfl, rfl⟩ := g; rfl) | cases fb
  | int => obtain ⟨rfl, rfl⟩ := h; cases b <;> first | (obtain ⟨rfl, rfl⟩ := g; rfl) | cases fb
  | str => obtain ⟨rfl, rfl⟩ := h; cases b <;> first | (obtain ⟨rfl, rfl⟩ := g; rfl) | cases fb
  | _ => cases fa
theorem flats_all : ∀ {ts : List T} {vs : List V} {F : List Addr}, ts.all flatT = true → Reps K cm H ts vs F → vs.all flatV = true
  | [], _, _, _, h => by rw [h.1]; rfl
  | t :: ts, _, _, f, h => by
    obtain ⟨x, r, F1, F2, rfl, rfl, h1, h2⟩ := h
    rw [List.all_cons, Bool.and_eq_true] at f
    rw [List.all_cons, (flat_rep f.1 h1).2, flats_all f.2 h2]; rfl
theorem inV_eq {x : T} {v : V} {F : List Addr} (fx : flatT x = true) (hx : Rep K cm H x v F) : ∀ {ts : List T} {vs : List V} {G : List Addr}, ts.all flatT = true → Reps K cm H ts vs G → inV v vs = ts.any fun y => eqT y x
  | [], _, _, _, h => by rw [h.1]; rfl
  | t :: ts, _, _, f, h => by
    obtain ⟨y, r, F1, F2, rfl, rfl, h1, h2⟩ := h
    rw [List.all_cons, Bool.and_eq_true] at f
    have ih := inV_eq fx hx f.2 h2
    unfold inV at ih ⊢
    rw [List.any_cons, List.any_cons, ih, flat_eqV f.1 fx h1 hx]
end
/-- == of data -/
def bEq : T → T → Option T := fun a b => if dtT 30 a = true ∧ dtT 30 b = true then some (.bl (eqT a b)) else none
def bNe : T → T → Option T := bNot bEq
/-- x in a list, a tuple, the script; all flat -/
def bIn : T → T → Option T
  | x, .lst ys => if flatT x = true ∧ ys.all flatT = true then some (.bl (ys.any fun y => eqT y x)) else none
  | x, .tup ys => if flatT x = true ∧ ys.all flatT = true then some (.bl (ys.any fun y => eqT y x)) else none
  | _, _ => none
section
variable {K : PySem.W.Frag} {cm : Cm} {X : Cx}
theorem sc_int {g : Int → Int → V} {op : T → T → Option T} {g' : Int → Int → T} (ho : ∀ a b c, op a b = some c → ∃ i j, a = .int i ∧ b = .int j ∧ c = g' i j) (hg : ∀ H i j, Rep K cm H (g' i j) (g i j) []) : Sc2 K cm (rI0 g) op := fun a b c e H x y F G ha hb Q q => by
  obtain ⟨i, j, rfl, rfl, rfl⟩ := ho a b c e
  exact ⟨i, j, ha.1, hb.1, q _ H (fun _ _ h => h) (hg H i j)⟩
theorem sc_intC {C : Int → Int → Prop} {g : Int → Int → V} {op : T → T → Option T} {g' : Int → Int → T} (ho : ∀ a b c, op a b = some c → ∃ i j, a = .int i ∧ b = .int j ∧ C i j ∧ c = g' i j) (hg : ∀ H i j, Rep K cm H (g' i j) (g i j) []) : Sc2 K cm (rI C g) op := fun a b c e H x y F G ha hb Q q => by
  obtain ⟨i, j, rfl, rfl, hc, rfl⟩ := ho a b c e
  exact ⟨i, j, ha.1, hb.1, hc, q _ H (fun _ _ h => h) (hg H i j)⟩
theorem bAdd_some {a b c : T} (e : bAdd a b = some c) : ∃ i j, a = .int i ∧ b = .int j ∧ c = .int (i + j) := by
  unfold bAdd at e
  split at e
  · cases e; exact ⟨_, _, rfl, rfl, rfl⟩
  · cases e
theorem bSub_some {a b c : T} (e : bSub a b = some c) : ∃ i j, a = .int i ∧ b = .int j ∧ c = .int (i - j) := by
  unfold bSub at e
  split at e
  · cases e; exact ⟨_, _, rfl, rfl, rfl⟩
  · cases e
theorem bMul_some {a b c : T} (e : bMul a b = some c) : ∃ i j, a = .int i ∧ b = .int j ∧ CMul i j ∧ c = .int (i * j) := by
  unfold bMul at e
  split at e
  · split at e
    · rename_i h; cases e; exact ⟨_, _, rfl, rfl, h, rfl⟩
    · cases e
  · cases e
theorem bMod_some {a b c : T} (e : bMod a b = some c) : ∃ i j, a = .int i ∧ b = .int j ∧ 0 < j ∧ c = .int (i % j) := by
  unfold bMod at e
  split at e
  · split at e
    · rename_i h; cases e; exact ⟨_, _, rfl, rfl, h, rfl⟩
    · cases e
  · cases e
theorem bDiv_some {a b c : T} (e : bDiv a b = some c) : ∃ i j, a = .int i ∧ b = .int j ∧ CDivW i j ∧ c = .int (i / j) := by
  unfold bDiv at e
  split at e
  · split at e
    · rename_i i j h
      cases e
      refine ⟨_, _, rfl, rfl, wide_div h.1 (b := 100) ?_ (by decide) (by decide), rfl⟩
      have h2 := h.2
      have h1 := h.1
      omega
    · cases e
  · cases e
theorem bPow_some {a b c : T} (e : bPow a b = some c) : ∃ i j, a = .int i ∧ b = .int j ∧ CPow i j ∧ c = .int (i ^ j.toNat) := by
  unfold bPow at e
  split at e
  · split at e
    · rename_i h; cases e; exact ⟨_, _, rfl, rfl, ⟨h.1, by have := h.2.1; omega, by have := h.2.2; omega⟩, rfl⟩
    · cases e
  · cases e
theorem bLe_some {a b c : T} (e : bLe a b = some c) : ∃ i j, a = .int i ∧ b = .int j ∧ c = .bl (decide (i ≤ j)) := by
  unfold bLe at e
  split at e
  · cases e; exact ⟨_, _, rfl, rfl, rfl⟩
  · cases e
theorem bGt_some {a b c : T} (e : bGt a b = some c) : ∃ i j, a = .int i ∧ b = .int j ∧ c = .bl (decide (j < i)) := by
  unfold bGt at e
  split at e
  · cases e; exact ⟨_, _, rfl, rfl, rfl⟩
  · cases e
theorem bGe_some {a b c : T} (e : bGe a b = some c) : ∃ i j, a = .int i ∧ b = .int j ∧ c = .bl (decide (j ≤ i)) := by
  unfold bGe at e
  split at e
  · cases e; exact ⟨_, _, rfl, rfl, rfl⟩
  · cases e
theorem sc_add : Sc2 K cm (rI0 fun i j => .int (i + j)) bAdd := sc_int (g' := fun i j => .int (i + j)) (fun _ _ _ => bAdd_some) fun _ _ _ => ⟨rfl, rfl⟩
theorem sc_sub : Sc2 K cm (rI0 fun i j => .int (i - j)) bSub := sc_int (g' := fun i j => .int (i - j)) (fun _ _ _ => bSub_some) fun _ _ _ => ⟨rfl, rfl⟩
theorem sc_mul : Sc2 K cm (rI CMul fun i j => .int (i * j)) bMul := sc_intC (g' := fun i j => .int (i * j)) (fun _ _ _ => bMul_some) fun _ _ _ => ⟨rfl, rfl⟩
theorem sc_mod : Sc2 K cm (rI (fun _ j => 0 < j) fun i j => .int (i % j)) bMod := sc_intC (g' := fun i j => .int (i % j)) (fun _ _ _ => bMod_some) fun _ _ _ => ⟨rfl, rfl⟩
theorem sc_div : Sc2 K cm (rI CDivW fun i j => .int (i / j)) bDiv := sc_intC (g' := fun i j => .int (i / j)) (fun _ _ _ => bDiv_some) fun _ _ _ => ⟨rfl, rfl⟩
theorem sc_pow : Sc2 K cm (rI CPow fun i j => .int (i ^ j.toNat)) bPow := sc_intC (g' := fun i j => .int (i ^ j.toNat)) (fun _ _ _ => bPow_some) fun _ _ _ => ⟨rfl, rfl⟩
theorem sc_le : Sc2 K cm (rI0 fun i j => .bl (decide (i ≤ j))) bLe := sc_int (g' := fun i j => .bl (decide (i ≤ j))) (fun _ _ _ => bLe_some) fun _ _ _ => ⟨rfl, rfl⟩
theorem sc_gt : Sc2 K cm (rI0 fun i j => .bl (decide (j < i))) bGt := sc_int (g' := fun i j => .bl (decide (j < i))) (fun _ _ _ => bGt_some) fun _ _ _ => ⟨rfl, rfl⟩
theorem sc_ge : Sc2 K cm (rI0 fun i j => .bl (decide (j ≤ i))) bGe := sc_int (g' := fun i j => .bl (decide (j ≤ i))) (fun _ _ _ => bGe_some) fun _ _ _ => ⟨rfl, rfl⟩
theorem bAddS_some {a b c : T} (e : bAddS a b = some c) : ∃ i j, a = .str i ∧ b = .str j ∧ i.length + j.length ≤ 1000000 ∧ c = .str (i ++ j) := by
  unfold bAddS at e
  split at e
  · split at e
    · rename_i h; cases e; exact ⟨_, _, rfl, rfl, h, rfl⟩
    · cases e
  · cases e
theorem sc_addS : Sc2 K cm (fun x y H Q => ∃ i j, x = .str i ∧ y = .str j ∧ i.length + j.length ≤ sizeLine ∧ Q (.str (i ++ j)) H) bAddS := fun a b c e H x y F G ha hb Q q => by
  obtain ⟨i, j, rfl, rfl, h, rfl⟩ := bAddS_some e
  exact ⟨i, j, ha.1, hb.1, Nat.le_trans h (by decide), q _ H (fun _ _ h => h) ⟨rfl, rfl⟩⟩
def rLt (K : PySem.W.Frag) : R2 := fun x y H Q => rI0 (fun i j => .bl (decide (i < j))) x y H Q ∨ rLtT K x y H Q
theorem op_ltA (hu : X.A.units + 1 < cLine) : OpR X (compareOp .Lt) (rLt X.K) := OpR.or op_lt (op_ltT (by omega))
theorem sc_lt : Sc2 K cm (rLt K) bLt := fun a b c e H x y F G ha hb Q q => by
  cases a with
  | int i =>
    cases b with
    | int j => cases e; exact .inl ⟨i, j, ha.1, hb.1, q _ H (fun _ _ h => h) ⟨rfl, rfl⟩⟩
    | _ => cases e
  | tup xs =>
    cases b with
    | tup ys =>
      unfold bLt at e
      obtain ⟨ns, h1, e⟩ := Option.bind_eq_some_iff.mp e
      obtain ⟨ms, h2, e⟩ := Option.bind_eq_some_iff.mp e
      cases e
      obtain ⟨p, vs, rfl, s1, r1⟩ := ha
      obtain ⟨p', vs', rfl, s2, r2⟩ := hb
      have e1 := tints_eq h1
      have e2 := tints_eq h2
      subst e1; subst e2
      rw [(Reps.ints r1).1] at s1
      rw [(Reps.ints r2).1] at s2
      exact .inr ⟨p, p', ns, ms, rfl, rfl, .inl s1.1, .inl s2.1, q _ H (fun _ _ h => h) ⟨rfl, rfl⟩⟩
    | _ => cases e
  | _ => cases e
theorem sc_eq : Sc2 K cm (rEqD K) bEq := fun a b c e H x y F G ha hb Q q => by
  unfold bEq at e
  split at e
  · rename_i h
    cases e
    exact ⟨pd 30 a, pd 30 b, dp_of _ _ _ _ h.1 ha, dp_of _ _ _ _ h.2 hb, pd_shaped h.1 (by decide), pd_shaped h.2 (by decide), q _ H (fun _ _ h => h) ⟨by rw [eqv_pd 30 30 a b h.1 h.2], rfl⟩⟩
  · cases e
theorem sc_ne : Sc2 K cm (rNeD K) bNe := fun a b c e H x y F G ha hb Q q => by
  unfold bNe bNot bEq at e
  split at e
  · rename_i k e'
    split at e'
    · rename_i h
      cases e
      cases e'
      exact ⟨pd 30 a, pd 30 b, dp_of _ _ _ _ h.1 ha, dp_of _ _ _ _ h.2 hb, pd_shaped h.1 (by decide), pd_shaped h.2 (by decide), q _ H (fun _ _ h => h) ⟨by rw [eqv_pd 30 30 a b h.1 h.2], rfl⟩⟩
    · cases e'
  · cases e
theorem isNon_rep {H : Hp} {t : T} {v : V} {F : List Addr} (h : Rep K cm H t v F) : decide (v = .non) = isNon t := by
  cases t with
  | non => obtain ⟨rfl, rfl⟩ := h; rfl
  | bl => obtain ⟨rfl, rfl⟩ := h; rfl
  | int => obtain ⟨rfl, rfl⟩ := h; rfl
  | str => obtain ⟨rfl, rfl⟩ := h; rfl
  | ty => obtain ⟨rfl, rfl⟩ := h; rfl
  | exc => exact h.elim
  | scr => obtain ⟨a, rfl, _⟩ := h; rfl
  | tup => obtain ⟨a, _, rfl, _⟩ := h; rfl
  | lst => obtain ⟨a, _, _, rfl, _⟩ := h; rfl
  | dct => obtain ⟨a, _, _, rfl, _⟩ := h; rfl
  | dtt => obtain ⟨a, _, _, rfl, _⟩ := h; rfl
  | ins => rcases h with ⟨_, a, _, _, rfl, _⟩ | ⟨_, a, _, _, _, _, rfl, _⟩ <;> rfl
def rIs : R2 := fun x y H Q => (y = .non ∧ Q (.bl (decide (x = .non))) H) ∨ ∃ a b : Bool, x = .bl a ∧ y = .bl b ∧ Q (.bl (decide (a = b))) H
theorem sc_is : Sc2 K cm rIs bIs := fun a b c e H x y F G ha hb Q q => by
  cases b with
  | non => cases e; exact .inl ⟨hb.1, by rw [isNon_rep ha]; exact q _ H (fun _ _ h => h) ⟨rfl, rfl⟩⟩
  | bl k =>
    cases a with
    | bl j => cases e; exact .inr ⟨j, k, ha.1, hb.1, q _ H (fun _ _ h => h) ⟨rfl, rfl⟩⟩
    | _ => cases e
  | _ => cases a <;> cases e
def rIsNot : R2 := fun x y H Q => (y = .non ∧ Q (.bl (!decide (x = .non))) H) ∨ ∃ a b : Bool, x = .bl a ∧ y = .bl b ∧ Q (.bl (!decide (a = b))) H
theorem sc_isNot : Sc2 K cm rIsNot (bNot bIs) := fun a b c e H x y F G ha hb Q q => by
  cases b with
  | non =>
    unfold bNot bIs at e
    cases e; exact .inl ⟨hb.1, by rw [isNon_rep ha]; exact q _ H (fun _ _ h => h) ⟨rfl, rfl⟩⟩
  | bl k =>
    cases a with
    | bl j => unfold bNot bIs at e; cases e; exact .inr ⟨j, k, ha.1, hb.1, q _ H (fun _ _ h => h) ⟨rfl, rfl⟩⟩
    | _ => cases e
  | _ => cases a <;> cases e
theorem bIn_some {a b c : T} (e : bIn a b = some c) : ∃ ys, (b = .lst ys ∨ b = .tup ys) ∧ flatT a = true ∧ ys.all flatT = true ∧ c = .bl (ys.any fun y => eqT y a) := by
  unfold bIn at e
  split at e
  · split at e
    · rename_i h; cases e; exact ⟨_, .inl rfl, h.1, h.2, rfl⟩
    · cases e
  · split at e
    · rename_i h; cases e; exact ⟨_, .inr rfl, h.1, h.2, rfl⟩
    · cases e
  · cases e
theorem in_core {neg : Bool} {a b : T} {ys : List T} {H : Hp} {x y : V} {F G : List Addr} {Q : VK} (h : b = .lst ys ∨ b = .tup ys) (h1 : flatT a = true) (h2 : ys.all flatT = true) (ha : Rep K cm H a x F) (hb : Rep K cm H b y G)
    (q : Q (.bl (if neg then !(ys.any fun y => eqT y a) else ys.any fun y => eqT y a)) H) : rIn K neg x y H Q := by
  rcases h with rfl | rfl
  · obtain ⟨p, vs, G', rfl, r, s, _⟩ := hb
    refine ⟨p, vs, rfl, .inl (SqL.of s), (flat_rep h1 ha).2, flats_all h2 r, ?_⟩
    rw [inV_eq h1 ha h2 r]
    exact q
  · obtain ⟨p, vs, rfl, s, r⟩ := hb
    refine ⟨p, vs, rfl, .inr (.inl s.1), (flat_rep h1 ha).2, flats_all h2 r, ?_⟩
    rw [inV_eq h1 ha h2 r]
    exact q
theorem sc_in : Sc2 K cm (rIn K false) bIn := fun a b c e H x y F G ha hb Q q => by
  obtain ⟨ys, h, h1, h2, rfl⟩ := bIn_some e
  exact in_core h h1 h2 ha hb (q _ H (fun _ _ h => h) ⟨rfl, rfl⟩)
theorem bNot_some {o : T → T → Option T} {a b c : T} (e : bNot o a b = some c) : ∃ k, o a b = some (.bl k) ∧ c = .bl (!k) := by
  unfold bNot at e
  split at e
  · rename_i h; cases e; exact ⟨_, h, rfl⟩
  · cases e
theorem sc_notIn : Sc2 K cm (rIn K true) (bNot bIn) := fun a b c e H x y F G ha hb Q q => by
  obtain ⟨k, e2, rfl⟩ := bNot_some e
  obtain ⟨ys, h, h1, h2, e3⟩ := bIn_some e2
  cases e3
  exact in_core h h1 h2 ha hb (q _ H (fun _ _ h => h) ⟨rfl, rfl⟩)
end
end Tm
namespace Tm
open PySem PySem.Spec PyProof.Rows L2
/-! ### effects in the mirror -/
def Res.bind {α β : Type} (r : Res α) (k : Env → α → Res β) : Res β := match r with
  | .ok Γ a => k Γ a | .ex c Γ => .ex c Γ | .stuck => .stuck
def Res.of {α : Type} (Γ : Env) : Option α → Res α
  | some a => .ok Γ a | none => .stuck
def eP (f : PF) : EF := fun Γ => .of Γ (f Γ)
def eBin (op : T → T → Option T) (f g : EF) : EF := fun Γ => (f Γ).bind fun Γ1 x => (g Γ1).bind fun Γ2 y => .of Γ2 (op x y)
def eUn (op : T → Option T) (f : EF) : EF := fun Γ => (f Γ).bind fun Γ1 x => .of Γ1 (op x)
def eNil : Env → Res (List T) := fun Γ => .ok Γ []
def eCons (f : EF) (g : Env → Res (List T)) : Env → Res (List T) := fun Γ => (f Γ).bind fun Γ1 x => (g Γ1).bind fun Γ2 xs => .ok Γ2 (x :: xs)
def eArg (op : List T → Option T) (f : Env → Res (List T)) : EF := fun Γ => (f Γ).bind fun Γ1 xs => .of Γ1 (op xs)
def pNil : AF := fun _ => some []
def pCons (f : PF) (g : AF) : AF := fun Γ => (f Γ).bind fun x => (g Γ).bind fun xs => some (x :: xs)
def pArg (op : List T → Option T) (f : AF) : PF := fun Γ => (f Γ).bind op
def ekd : Kd → Kd
  | .imm => .imm | .any => .any | _ => .shared
section
variable {K : PySem.W.Frag} {cm : Cm} {mo : List Mode} {W W' : Wd} {σ : L2.St} {Γ : Env} {E : XK}
theorem PostE.start {α : Type} {W1 : Wd} {r : Res α} {q : α → Wd → Prop} (h : PostE K cm mo E W σ r q) (f : Fr W W1) : PostE K cm mo E W1 σ r q := by
  cases r with
  | ok Γ t => exact fun W' r f' => h W' r (f.trans f')
  | ex c Γ => exact fun W' r f' => h W' r (f.trans f')
  | stuck => exact h
theorem PostE.imp {α : Type} {r : Res α} {q : α → Wd → Prop} {q' : α → Wd → Prop} (h : PostE K cm mo E W σ r q) (i : ∀ t W' Γ', r = .ok Γ' t → R K cm mo W' σ Γ' → Fr W W' → q t W' → q' t W') : PostE K cm mo E W σ r q' := by
  cases r with
  | ok Γ t => exact fun W' r f' => i t W' Γ rfl r f' (h W' r f')
  | ex c Γ => exact h
  | stuck => exact h
theorem PostE.bind {α β : Type} {r : Res α} {k : Env → α → Res β} {q : β → Wd → Prop} (h : PostE K cm mo E W σ (r.bind k) q) : PostE K cm mo E W σ r fun a W' => ∀ Γ', r = .ok Γ' a → R K cm mo W' σ Γ' → Fr W W' → PostE K cm mo E W' σ (k Γ' a) q := by
  cases r with
  | ok Γ t => exact fun W' r f' Γ' e r' f'' => by cases e; exact PostE.start (show PostE K cm mo E W σ (k Γ t) q from h) f'
  | ex c Γ => exact h
  | stuck => exact h
theorem PostE.of {α : Type} {o : Option α} {q : α → Wd → Prop} (h : PostE K cm mo E W σ (Res.of Γ o) q) : ∃ a, o = some a ∧ ∀ W', R K cm mo W' σ Γ → Fr W W' → q a W' := by
  cases o with
  | some a => exact ⟨a, rfl, h⟩
  | none => exact (show False from h).elim
theorem KOk.sub {k : Kd} {G G' : List Addr} (s : ∀ y ∈ G', y ∈ G) (h : KOk k W W' G) : KOk (ekd k) W W' G' := by
  cases k with
  | imm =>
    have h : G = [] := h
    subst h
    cases G' with
    | nil => rfl
    | cons a G' => exact absurd (s a List.mem_cons_self) (by simp)
  | any => trivial
  | fresh => exact fun x hx => (h.le (k' := .shared) rfl) x (s x hx)
  | fr1 => exact fun x hx => (h.le (k' := .shared) rfl) x (s x hx)
  | shared => exact fun x hx => h x (s x hx)
end
/-- an operation on values whose result's footprint lies in the operands' -/
def Sb2 (K : PySem.W.Frag) (cm : Cm) (r : R2) (op : T → T → Option T) : Prop :=
  ∀ a b c, op a b = some c → ∀ H x y F G, Rep K cm H a x F → Rep K cm H b y G → ∀ Q : VK, (∀ z H' F', Same H H' → Rep K cm H' c z F' → (∀ w ∈ F', w ∈ F) → Q z H') → r x y H Q
theorem Sc2.sb {K cm r op} (h : Sc2 K cm r op) : Sb2 K cm r op := fun a b c e H x y F G ha hb Q q => h a b c e H x y F G ha hb Q fun z H' s r => q z H' [] s r fun w hw => by cases hw
section
variable {X : Cx} {cm : Cm} {mo : List Mode} {E : XK} {n : Nat} {a b e : Expr} {pos : Pos} {kd kd' k1 k2 : Kd} {f g : PF} {ef eg : EF}
/-- a pure part as one with effects -/
theorem ee_p (h : Ep X cm mo kd e f) : Ee X cm mo E kd e (eP f) := PE.imp h fun σ H Q ⟨W, Γ, e1, r, q⟩ => by
  subst e1
  obtain ⟨t, e2, q⟩ := PostE.of (o := f Γ) q
  exact ⟨W, Γ, t, rfl, r, e2, fun v H' G s h k => q _ (r.same s) (same_fr s) v G h k⟩
theorem Ee.le (h : Ee X cm mo E kd e ef) (l : kle kd kd' = true) : Ee X cm mo E kd' e ef := PE.imp h fun σ H Q ⟨W, Γ, e1, r, q⟩ => ⟨W, Γ, e1, r, PostE.imp q fun t W' Γ' _ _ _ q v G h k => q v G h (k.le l)⟩
/-- a part read inside: what it wants -/
theorem tE_of {W : Wd} {Γ : Env} {σ : L2.St} {Q : VK} (r : R X.K cm mo W σ Γ) (q : PostE X.K cm mo E W σ (ef Γ) fun t W' => ∀ v G, Rep X.K cm W'.H t v G → KOk kd W W' G → Q v W'.H) : tE X.K cm mo kd E ef σ W.H Q := ⟨W, Γ, rfl, r, q⟩
/-- both operands with effects; the first one stays -/
theorem eop_core {r : R2} {op : T → T → Option T} (hs : Sb2 X.K cm r op) (l1 : kle k1 .shared = true ∨ ∀ a b c, op a b = some c → flatT a = true) :
    ∀ σ H Q, tE X.K cm mo (ekd k1) E (eBin op ef eg) σ H Q → tOp r (tE X.K cm mo k1 E ef) (tE X.K cm mo k2 E eg) σ H Q := fun σ H Q ⟨W, Γ, e1, r0, q⟩ => by
  subst e1
  refine tE_of r0 (PostE.imp (PostE.bind q) fun x W1 Γ1 ex r1 f1 q1 v1 G1 h1 kk1 => tE_of r1 (PostE.imp (PostE.bind (q1 Γ1 ex r1 f1)) fun y W2 Γ2 ey r2 f2 q2 v2 G2 h2 kk2 => ?_))
  obtain ⟨c, ec, q3⟩ := PostE.of (q2 Γ2 ey r2 f2)
  have n1 : ∀ w ∈ G1, ¬ W1.C w := by
    rcases l1 with l | l
    · exact kk1.nC l
    · rw [(flat_rep (l _ _ _ ec) h1).1]; intro w hw; cases hw
  have h1' := h1.step r1 f2 n1
  refine hs x y c ec W2.H v1 v2 G1 G2 h1' h2 Q fun z H' F' s h' sub => ?_
  refine q3 { W2 with H := H' } (r2.same s) (same_fr s) z F' h' ?_
  have st : KOk (ekd k1) W W1 F' := kk1.sub sub
  exact KOk.step (f2.trans (same_fr s)) (fun w hw => h1.tr _ _ _ w (sub w hw)) st
theorem ee_op {o : Operator} {r : R2} {op : T → T → Option T} (ho : OpR X (binaryOp o) r) (hs : Sb2 X.K cm r op) (l1 : kle k1 .shared = true ∨ ∀ a b c, op a b = some c → flatT a = true) (ha : Ee X cm mo E k1 a ef) (hb : Ee X cm mo E k2 b eg) :
    Ee X cm mo E (ekd k1) (.BinOp a o b pos) (eBin op ef eg) := PE.imp (pe_op ho ha hb) (eop_core hs l1)
theorem ee_cmp {o : CmpOp} {r : R2} {op : T → T → Option T} (ho : OpR X (compareOp o) r) (hs : Sb2 X.K cm r op) (l1 : kle k1 .shared = true ∨ ∀ a b c, op a b = some c → flatT a = true) (ha : Ee X cm mo E k1 a ef) (hb : Ee X cm mo E k2 b eg) (hm : behindInMarks o b = false) :
    Ee X cm mo E (ekd k1) (.Compare a [o] [b] pos) (eBin op ef eg) := PE.imp (pe_cmpR ho ha hb hm) (eop_core hs l1)
/-- where the result has no footprint at all -/
theorem ee_imm (h : Ee X cm mo E kd e ef) (hf : ∀ Γ Γ' t, ef Γ = .ok Γ' t → flatT t = true) : Ee X cm mo E .imm e ef := PE.imp h fun σ H Q ⟨W, Γ, e1, r, q⟩ => ⟨W, Γ, e1, r, PostE.imp q fun t W' Γ' et _ _ q v G h _ => q v G h (flat_rep (hf _ _ _ et) h).1⟩
end
theorem Res.bind_ok {α β : Type} {r : Res α} {k : Env → α → Res β} {Γ' : Env} {b : β} (h : r.bind k = .ok Γ' b) : ∃ Γ1 a, r = .ok Γ1 a ∧ k Γ1 a = .ok Γ' b := by
  cases r with
  | ok Γ a => exact ⟨Γ, a, rfl, h⟩
  | ex c Γ => cases h
  | stuck => cases h
theorem Res.of_ok {α : Type} {Γ Γ' : Env} {o : Option α} {b : α} (h : Res.of Γ o = .ok Γ' b) : o = some b := by
  cases o with
  | some a => cases h; rfl
  | none => cases h
theorem eBin_flat {op : T → T → Option T} (h : ∀ a b c, op a b = some c → flatT c = true) {ef eg : EF} : ∀ Γ Γ' t, eBin op ef eg Γ = .ok Γ' t → flatT t = true := fun Γ Γ' t e => by
  obtain ⟨_, _, _, e⟩ := Res.bind_ok e
  obtain ⟨_, _, _, e⟩ := Res.bind_ok e
  exact h _ _ _ (Res.of_ok e)
/-! ### operands that are flat; results that are -/
theorem fl_add : ∀ a b c, bAdd a b = some c → flatT a = true ∧ flatT c = true := fun a b c e => by obtain ⟨_, _, rfl, _, rfl⟩ := bAdd_some e; exact ⟨rfl, rfl⟩
theorem fl_sub : ∀ a b c, bSub a b = some c → flatT a = true ∧ flatT c = true := fun a b c e => by obtain ⟨_, _, rfl, _, rfl⟩ := bSub_some e; exact ⟨rfl, rfl⟩
theorem fl_mul : ∀ a b c, bMul a b = some c → flatT a = true ∧ flatT c = true := fun a b c e => by obtain ⟨_, _, rfl, _, _, rfl⟩ := bMul_some e; exact ⟨rfl, rfl⟩
theorem fl_div : ∀ a b c, bDiv a b = some c → flatT a = true ∧ flatT c = true := fun a b c e => by obtain ⟨_, _, rfl, _, _, rfl⟩ := bDiv_some e; exact ⟨rfl, rfl⟩
theorem fl_mod : ∀ a b c, bMod a b = some c → flatT a = true ∧ flatT c = true := fun a b c e => by obtain ⟨_, _, rfl, _, _, rfl⟩ := bMod_some e; exact ⟨rfl, rfl⟩
theorem fl_pow : ∀ a b c, bPow a b = some c → flatT a = true ∧ flatT c = true := fun a b c e => by obtain ⟨_, _, rfl, _, _, rfl⟩ := bPow_some e; exact ⟨rfl, rfl⟩
theorem fl_le : ∀ a b c, bLe a b = some c → flatT a = true ∧ flatT c = true := fun a b c e => by obtain ⟨_, _, rfl, _, rfl⟩ := bLe_some e; exact ⟨rfl, rfl⟩
theorem fl_gt : ∀ a b c, bGt a b = some c → flatT a = true ∧ flatT c = true := fun a b c e => by obtain ⟨_, _, rfl, _, rfl⟩ := bGt_some e; exact ⟨rfl, rfl⟩
theorem fl_ge : ∀ a b c, bGe a b = some c → flatT a = true ∧ flatT c = true := fun a b c e => by obtain ⟨_, _, rfl, _, rfl⟩ := bGe_some e; exact ⟨rfl, rfl⟩
theorem fl_lt : ∀ a b c, bLt a b = some c → flatT c = true := fun a b c e => by
  unfold bLt at e
  split at e
  · cases e; rfl
  · obtain ⟨_, _, e⟩ := Option.bind_eq_some_iff.mp e
    obtain ⟨_, _, e⟩ := Option.bind_eq_some_iff.mp e
    cases e; rfl
  · cases e
theorem fl_eq : ∀ a b c, bEq a b = some c → flatT c = true := fun a b c e => by
  unfold bEq at e
  split at e
  · cases e; rfl
  · cases e
theorem fl_not {o : T → T → Option T} : ∀ a b c, bNot o a b = some c → flatT c = true := fun a b c e => by obtain ⟨_, _, rfl⟩ := bNot_some e; rfl
theorem fl_in : ∀ a b c, bIn a b = some c → flatT c = true := fun a b c e => by obtain ⟨_, _, _, _, rfl⟩ := bIn_some e; rfl
theorem fl_is : ∀ a b c, bIs a b = some c → flatT c = true := fun a b c e => by
  unfold bIs at e
  split at e
  · cases e; rfl
  · cases e; rfl
  · cases e
section
variable {X : Cx} {cm : Cm} {mo : List Mode} {E : XK} {n : Nat} {a b e : Expr} {pos : Pos} {kd kd' k1 k2 : Kd} {f g : PF} {ef eg : EF}
/-- an int operation with effects -/
theorem ee_int {o : Operator} {r : R2} {op : T → T → Option T} (ho : OpR X (binaryOp o) r) (hs : Sc2 X.K cm r op) (fl : ∀ a b c, op a b = some c → flatT a = true ∧ flatT c = true) (ha : Ee X cm mo E k1 a ef) (hb : Ee X cm mo E k2 b eg) :
    Ee X cm mo E .imm (.BinOp a o b pos) (eBin op ef eg) := ee_imm (ee_op ho hs.sb (.inr fun a b c e => (fl a b c e).1) ha hb) (eBin_flat fun a b c e => (fl a b c e).2)
theorem ee_icmp {o : CmpOp} {r : R2} {op : T → T → Option T} (ho : OpR X (compareOp o) r) (hs : Sc2 X.K cm r op) (fl : ∀ a b c, op a b = some c → flatT a = true ∧ flatT c = true) (ha : Ee X cm mo E k1 a ef) (hb : Ee X cm mo E k2 b eg) (hm : behindInMarks o b = false) :
    Ee X cm mo E .imm (.Compare a [o] [b] pos) (eBin op ef eg) := ee_imm (ee_cmp ho hs.sb (.inr fun a b c e => (fl a b c e).1) ha hb hm) (eBin_flat fun a b c e => (fl a b c e).2)
/-- a comparison of anything, the first operand stable -/
theorem ee_scmp {o : CmpOp} {r : R2} {op : T → T → Option T} (ho : OpR X (compareOp o) r) (hs : Sc2 X.K cm r op) (fl : ∀ a b c, op a b = some c → flatT c = true) (l1 : kle k1 .shared = true) (ha : Ee X cm mo E k1 a ef) (hb : Ee X cm mo E k2 b eg) (hm : behindInMarks o b = false) :
    Ee X cm mo E .imm (.Compare a [o] [b] pos) (eBin op ef eg) := ee_imm (ee_cmp ho hs.sb (.inl l1) ha hb hm) (eBin_flat fl)
/-! ### negation, not -/
def uNeg : T → Option T
  | .int i => some (.int (-i)) | _ => none
def Sc1 (K : PySem.W.Frag) (cm : Cm) (r : V → Hp → VK → Prop) (op : T → Option T) : Prop := ∀ a c, op a = some c → ∀ H x F, Rep K cm H a x F → ∀ Q : VK, (∀ z H', Same H H' → Rep K cm H' c z [] → Q z H') → r x H Q
theorem sc_neg {K cm} : Sc1 K cm (rU fun i => .int (-i)) uNeg := fun a c e H x F ha Q q => by
  cases a <;> first | (cases e; done) | skip
  rename_i i
  cases e
  exact ⟨i, ha.1, q _ H (fun _ _ h => h) ⟨rfl, rfl⟩⟩
theorem ep_un {o : UnaryOp} {r : V → Hp → VK → Prop} {op : T → Option T} (ho : UnR X (unaryOp o) r) (hs : Sc1 X.K cm r op) (ha : Ep X cm mo k1 a f) : Ep X cm mo .imm (.UnaryOp o a pos) (pUn op f) := PE.imp (pe_un ho ha) fun σ H Q ⟨W, Γ, t, e1, r0, e2, q⟩ => by
  subst e1
  obtain ⟨x, hx, e2⟩ := Option.bind_eq_some_iff.mp e2
  exact ⟨W, Γ, x, rfl, r0, hx, fun v1 H1 G1 s1 h1 _ => hs x t e2 H1 v1 G1 h1 Q fun z H' s' h' => q z H' [] (s1.trans s') h' rfl⟩
/-! ### subscripts -/
def keyT : T → Option Key
  | .int i => some (.inl i) | .str x => some (.inr x) | _ => none
def keysT : List T → Option (List Key)
  | [] => some []
  | t :: r => (keyT t).bind fun k => (keysT r).map (k :: ·)
def lookT {κ : Type} [DecidableEq κ] : List (κ × T) → κ → Option T
  | [], _ => none
  | (k, t) :: r, k' => if k = k' then some t else lookT r k'
def tIx : T → T → Option T
  | .lst xs, .int i => atI xs i
  | .tup xs, .int i => atI xs i
  | .scr ns, .int i => (atI ns i).map T.int
  | .str s, .int i => if s.length ≤ 1000000 then (atI s.cps.toList i).map fun c => T.str ⟨#[c]⟩ else none
  | _, _ => none
def dIx : T → T → Option T
  | .dct kvs, k => (keyT k).bind fun k => lookT kvs k
  | .dtt kvs, .tup ks => (keysT ks).bind fun k => lookT kvs k
  | _, _ => none
end
section
variable {K : PySem.W.Frag} {cm : Cm} {H : Hp}
theorem atI_some {α : Type} {xs : List α} {i : Int} {x : α} (h : atI xs i = some x) : ∃ j, ixN xs.length i = some j ∧ xs[j]? = some x := by
  unfold atI at h
  exact Option.bind_eq_some_iff.mp h
theorem Reps.atI {ts : List T} {xs : List V} {F : List Addr} {i : Int} {t : T} (h : Reps K cm H ts xs F) (e : L2.atI ts i = some t) : ∃ x G, L2.atI xs i = some x ∧ Rep K cm H t x G ∧ ∀ y ∈ G, y ∈ F := by
  obtain ⟨j, e1, e2⟩ := atI_some e
  obtain ⟨x, G, e3, r, s⟩ := h.get e2
  refine ⟨x, G, ?_, r, s⟩
  unfold L2.atI
  rw [h.len, e1]
  exact e3
def rIxA (K : PySem.W.Frag) : R2 := fun x y H Q => (rIxL K x y H Q ∨ rIxT K x y H Q) ∨ rIxS x y H Q
theorem ix_all {X : Cx} : IxR X (rIxA X.K) := IxR.or (IxR.or ix_list ix_tup) ix_str
theorem sb_ix : Sb2 K cm (rIxA K) tIx := fun a b c e H x y F G ha hb Q q => by
  unfold tIx at e
  split at e
  · obtain ⟨p, xs, G', rfl, r, s, rfl⟩ := ha
    obtain ⟨v, G2, e1, r1, s1⟩ := r.atI e
    exact .inl (.inl ⟨p, xs, _, v, rfl, hb.1, SqL.of s, e1, q v H G2 (fun _ _ h => h) r1 fun w hw => List.mem_cons_of_mem _ (s1 w hw)⟩)
  · obtain ⟨p, xs, rfl, s, r⟩ := ha
    obtain ⟨v, G2, e1, r1, s1⟩ := r.atI e
    exact .inl (.inr ⟨p, xs, _, v, rfl, hb.1, .inl s.1, e1, q v H G2 (fun _ _ h => h) r1 s1⟩)
  · obtain ⟨p, rfl, s, rfl⟩ := ha
    obtain ⟨n, e1, rfl⟩ := Option.map_eq_some_iff.mp e
    obtain ⟨j, e2, e3⟩ := atI_some e1
    refine .inl (.inl ⟨p, _, _, .int n, rfl, hb.1, s.sq, ?_, q _ H [] (fun _ _ h => h) ⟨rfl, rfl⟩ fun w hw => by cases hw⟩)
    unfold L2.atI
    rw [List.length_map, e2]
    show (List.map V.int _)[j]? = _
    rw [List.getElem?_map, e3]; rfl
  · split at e
    · rename_i z i hz
      obtain ⟨n, e1, rfl⟩ := Option.map_eq_some_iff.mp e
      exact .inr ⟨z, i, n, ha.1, hb.1, Nat.le_trans hz (by decide), e1, q _ H [] (fun _ _ h => h) ⟨rfl, rfl⟩ fun w hw => by cases hw⟩
    · cases e
  · cases e
end
section
variable {X : Cx} {cm : Cm} {mo : List Mode} {E : XK} {n : Nat} {a b e : Expr} {pos : Pos} {kd kd' k1 k2 : Kd} {f g : PF} {ef eg : EF}
theorem sop_core {r : R2} {op : T → T → Option T} (hs : Sb2 X.K cm r op) : ∀ σ H Q, tP X.K cm mo (ekd k1) (pBin op f g) σ H Q → tOp r (tP X.K cm mo k1 f) (tP X.K cm mo k2 g) σ H Q := fun σ H Q ⟨W, Γ, t, e1, r0, e2, q⟩ => by
  subst e1
  obtain ⟨x, hx, e2⟩ := Option.bind_eq_some_iff.mp e2
  obtain ⟨y, hy, e2⟩ := Option.bind_eq_some_iff.mp e2
  refine ⟨W, Γ, x, rfl, r0, hx, fun v1 H1 G1 s1 h1 kk1 => ⟨{ W with H := H1 }, Γ, y, rfl, r0.same s1, hy, fun v2 H2 G2 s2 h2 _ => ?_⟩⟩
  refine hs x y t e2 H2 v1 v2 G1 G2 (h1.same s2) h2 Q fun z H' F' s' h' sub => q z H' F' (s1.trans (s2.trans s')) h' ?_
  have k2 : KOk (ekd k1) W { W with H := H1 } F' := kk1.sub sub
  exact KOk.step (W1 := { W with H := H1 }) (same_fr (W := { W with H := H1 }) (s2.trans s')) (fun w hw => h1.tr _ _ _ w (sub w hw)) k2
theorem ep_ix (ha : Ep X cm mo k1 a f) (hb : Ep X cm mo k2 b g) (hs : PlainIx b := by intro _ _; rfl) : Ep X cm mo (ekd k1) (.Subscript a b pos) (pBin tIx f g) := PE.imp (pe_ix ix_all ha hb hs) (sop_core sb_ix)
theorem ee_ix (l1 : kle k1 .shared = true) (ha : Ee X cm mo E k1 a ef) (hb : Ee X cm mo E k2 b eg) (hs : PlainIx b := by intro _ _; rfl) : Ee X cm mo E (ekd k1) (.Subscript a b pos) (eBin tIx ef eg) := PE.imp (pe_ix ix_all ha hb hs) (eop_core sb_ix (.inl l1))
end
end Tm
namespace Tm
open PySem PySem.Spec PyProof.Rows L2
def akd : Kd → Kd → Kd
  | .imm, .imm => .imm
  | .any, _ => .any | _, .any => .any
  | _, _ => .shared
section
variable {W W' : Wd}
theorem KOk.app {k1 k2 : Kd} {G1 G2 : List Addr} (h1 : KOk k1 W W' G1) (h2 : KOk k2 W W' G2) : KOk (akd k1 k2) W W' (G1 ++ G2) := by
  have sh : ∀ {k1 k2 : Kd}, kle k1 .shared = true → kle k2 .shared = true → KOk k1 W W' G1 → KOk k2 W W' G2 → KOk .shared W W' (G1 ++ G2) := fun l1 l2 h1 h2 x hx => by
    rcases List.mem_append.mp hx with hx | hx
    · exact (h1.le l1) x hx
    · exact (h2.le l2) x hx
  cases k1 <;> cases k2 <;> first
    | exact trivial
    | exact sh rfl rfl h1 h2
    | (have e1 : G1 = [] := h1
       have e2 : G2 = [] := h2
       rw [e1, e2]; exact rfl)
theorem akd_shared {k1 k2 : Kd} (h : kle k1 .shared = true) (h' : kle k2 .shared = true) : kle (akd k1 k2) .shared = true := by
  revert h h'; cases k1 <;> cases k2 <;> decide
end
section
variable (K : PySem.W.Frag) (cm : Cm) (mo : List Mode)
/-- arguments, pure, of a kind -/
def tPk (kd : Kd) (f : AF) : TA := fun σ H Q => ∃ W Γ ts, W.H = H ∧ R K cm mo W σ Γ ∧ f Γ = some ts ∧ ∀ vs H' G, Same H H' → Reps K cm H' ts vs G → KOk kd W { W with H := H' } G → Q vs H'
def tEk (kd : Kd) (E : XK) (f : Env → Res (List T)) : TA := fun σ H Q => ∃ W Γ, W.H = H ∧ R K cm mo W σ Γ ∧ PostE K cm mo E W σ (f Γ) fun ts W' => ∀ vs G, Reps K cm W'.H ts vs G → KOk kd W W' G → Q vs W'.H
end
abbrev Aq (X : Cx) (cm : Cm) (mo : List Mode) (kd : Kd) (es : List Expr) (f : AF) : Prop := PA X es (tPk X.K cm mo kd f)
abbrev Ak (X : Cx) (cm : Cm) (mo : List Mode) (E : XK) (kd : Kd) (es : List Expr) (f : Env → Res (List T)) : Prop := PA X es (tEk X.K cm mo kd E f)
/-! ### tests -/
def truT : T → Option Bool
  | .non => some false | .bl b => some b | .int i => some (i != 0)
  | .lst xs => some (!xs.isEmpty) | .tup xs => some (!xs.isEmpty) | .scr ns => some (!ns.isEmpty)
  | _ => none
def pTru (f : PF) : BF := fun Γ => (f Γ).bind truT
def eTru (f : EF) : Env → Res Bool := fun Γ => (f Γ).bind fun Γ1 t => .of Γ1 (truT t)
def pAndB (f g : BF) : BF := fun Γ => (f Γ).bind fun b => if b then g Γ else some false
def pOrB (f g : BF) : BF := fun Γ => (f Γ).bind fun b => if b then some true else g Γ
def pNotB (f : BF) : BF := fun Γ => (f Γ).map (!·)
def eAndB (f g : Env → Res Bool) : Env → Res Bool := fun Γ => (f Γ).bind fun Γ1 b => if b then g Γ1 else .ok Γ1 false
def eOrB (f g : Env → Res Bool) : Env → Res Bool := fun Γ => (f Γ).bind fun Γ1 b => if b then .ok Γ1 true else g Γ1
def eNotB (f : Env → Res Bool) : Env → Res Bool := fun Γ => (f Γ).bind fun Γ1 b => .ok Γ1 (!b)
def eB (f : BF) : Env → Res Bool := fun Γ => .of Γ (f Γ)
def pNotV (f : BF) : PF := fun Γ => (f Γ).map fun b => .bl (!b)
def blT : T → Option Bool
  | .bl b => some b | _ => none
def pAndV (f g : PF) : PF := fun Γ => ((f Γ).bind blT).bind fun b => if b then g Γ else some (.bl false)
def pOrV (f g : PF) : PF := fun Γ => ((f Γ).bind blT).bind fun b => if b then some (.bl true) else g Γ
def pIf (t : BF) (f g : PF) : PF := fun Γ => (t Γ).bind fun b => if b then f Γ else g Γ
def pChain (op op' : T → T → Option T) (f g h : PF) : PF := fun Γ => (f Γ).bind fun x => (g Γ).bind fun y => ((op x y).bind blT).bind fun b => if b then (h Γ).bind fun z => op' y z else some (.bl false)
section
variable {K : PySem.W.Frag} {cm : Cm} {H : Hp}
theorem reps_emp {ts : List T} {xs : List V} {G : List Addr} (h : Reps K cm H ts xs G) : xs.isEmpty = ts.isEmpty := by
  have := h.len
  cases xs <;> cases ts <;> simp_all
theorem truV_of {t : T} {b : Bool} (h : truT t = some b) {v : V} {F : List Addr} (r : Rep K cm H t v F) : TruV K v H b := by
  cases t with
  | non => cases h; rw [r.1]; rfl
  | bl => cases h; rw [r.1]; rfl
  | int => cases h; rw [r.1]; rfl
  | lst =>
    cases h
    obtain ⟨a, xs, G, rfl, r, s, _⟩ := r
    exact .inl ⟨xs, SqL.of s, by rw [reps_emp r]⟩
  | tup =>
    cases h
    obtain ⟨a, xs, rfl, s, r⟩ := r
    exact .inr (.inl ⟨xs, .inl s.1, by rw [reps_emp r]⟩)
  | scr ns =>
    cases h
    obtain ⟨a, rfl, s, _⟩ := r
    exact .inl ⟨_, s.sq, by cases ns <;> rfl⟩
  | _ => cases h
end
def pBl (f : PF) : BF := fun Γ => (f Γ).bind blT
def eBl (f : EF) : Env → Res Bool := fun Γ => (f Γ).bind fun Γ1 t => .of Γ1 (blT t)
theorem blT_some {t : T} {b : Bool} (h : blT t = some b) : t = .bl b := by
  cases t <;> first | (cases h; rfl) | cases h
theorem same_upd {H : Hp} {p : Addr} {o : HO} (h : H p = none) : Same H (upd H p o) := fun b x e => by
  rw [upd_ne (ne_of_none e h)]; exact e
theorem chain_core {K : PySem.W.Frag} {cm : Cm} {mo : List Mode} {k1 k2 k3 : Kd} {f g h : PF} {r r' : R2} {op op' : T → T → Option T} (hs : Sc2 K cm r op) (hs' : Sc2 K cm r' op') : ∀ σ H Q, tP K cm mo .imm (pChain op op' f g h) σ H Q → tChain r r' (tP K cm mo k1 f) (tP K cm mo k2 g) (tP K cm mo k3 h) σ H Q := fun σ H Q ⟨W, Γ, t, e1, r0, e2, q⟩ => by
  subst e1
  obtain ⟨x, hx, e2⟩ := Option.bind_eq_some_iff.mp e2
  obtain ⟨y, hy, e2⟩ := Option.bind_eq_some_iff.mp e2
  obtain ⟨b, hb, e2⟩ := Option.bind_eq_some_iff.mp e2
  obtain ⟨u, hu, hb⟩ := Option.bind_eq_some_iff.mp hb
  have hb' := blT_some hb
  subst hb'
  refine ⟨W, Γ, x, rfl, r0, hx, fun v1 H1 G1 s1 h1 _ => ⟨{ W with H := H1 }, Γ, y, rfl, r0.same s1, hy, fun v2 H2 G2 s2 h2 _ => ?_⟩⟩
  refine hs x y _ hu H2 v1 v2 G1 G2 (h1.same s2) h2 _ fun z H3 s3 h3 => ⟨b, h3.1, ?_⟩
  cases b with
  | true =>
    obtain ⟨w, hw, e2⟩ := Option.bind_eq_some_iff.mp e2
    refine iteT ⟨{ W with H := H3 }, Γ, w, rfl, r0.same (s1.trans (s2.trans s3)), hw, fun v4 H4 G4 s4 h4 _ => ?_⟩
    exact hs' y w t e2 H4 v2 v4 G2 G4 (h2.same (s3.trans s4)) h4 Q fun z H' s' h' => q z H' [] (s1.trans (s2.trans (s3.trans (s4.trans s')))) h' rfl
  | false =>
    cases e2
    exact iteF (q _ H3 [] (s1.trans (s2.trans s3)) ⟨rfl, rfl⟩ rfl)
section
variable {X : Cx} {cm : Cm} {mo : List Mode} {E : XK} {n : Nat} {a b c e : Expr} {es : List Expr} {pos : Pos} {kd kd' k1 k2 k3 : Kd} {f g h : PF} {ef eg : EF} {tf tg : BF} {uf ug : Env → Res Bool} {af : AF} {xf : Env → Res (List T)}
theorem bp_tru (ha : Ep X cm mo kd a f) (he : ∀ whole, isTrue a X.env whole = (do let v ← whole; standAt a.pos; holding [v] (truthy v)) := by intro _; rfl) : Bp X cm mo a (pTru f) := PT.imp (pt_truth ha he) fun σ H Q ⟨W, Γ, b, e1, r, e2, q⟩ => by
  obtain ⟨t, e3, e4⟩ := Option.bind_eq_some_iff.mp e2
  exact ⟨W, Γ, t, e1, r, e3, fun v H' G s h _ => ⟨b, truV_of e4 h, q H' s⟩⟩
theorem be_tru (ha : Ee X cm mo E kd a ef) (he : ∀ whole, isTrue a X.env whole = (do let v ← whole; standAt a.pos; holding [v] (truthy v)) := by intro _; rfl) : Be X cm mo E a (eTru ef) := PT.imp (pt_truth ha he) fun σ H Q ⟨W, Γ, e1, r, q⟩ => by
  subst e1
  refine tE_of r (PostE.imp (PostE.bind q) fun t W1 Γ1 ex r1 f1 q1 v G h _ => ?_)
  obtain ⟨b, e2, q2⟩ := PostE.of (q1 Γ1 ex r1 f1)
  exact ⟨b, truV_of e2 h, q2 W1 r1 (Fr.refl _)⟩
/-- a comparison as a test -/
theorem bp_cmp {o : CmpOp} {r : R2} {op : T → T → Option T} (ho : OpR X (compareOp o) r) (hs : Sc2 X.K cm r op) (ha : Ep X cm mo k1 a f) (hb : Ep X cm mo k2 b g) (hm : behindInMarks o b = false) : Bp X cm mo (.Compare a [o] [b] pos) (pBl (pBin op f g)) :=
  PT.imp (pt_cmpR ho ha hb hm) fun σ H Q ⟨W, Γ, k, e1, r, e2, q⟩ => by
    obtain ⟨t, e3, e4⟩ := Option.bind_eq_some_iff.mp e2
    refine op_core hs ha hb σ H _ ⟨W, Γ, t, e1, r, e3, fun v H' G s h kk => ?_⟩
    have e6 := blT_some e4
    subst e6
    exact ⟨k, h.1, q H' s⟩
theorem be_cmp {o : CmpOp} {r : R2} {op : T → T → Option T} (ho : OpR X (compareOp o) r) (hs : Sc2 X.K cm r op) (l1 : kle k1 .shared = true ∨ ∀ a b c, op a b = some c → flatT a = true) (ha : Ee X cm mo E k1 a ef) (hb : Ee X cm mo E k2 b eg) (hm : behindInMarks o b = false) :
    Be X cm mo E (.Compare a [o] [b] pos) (eBl (eBin op ef eg)) :=
  PT.imp (pt_cmpR ho ha hb hm) fun σ H Q ⟨W, Γ, e1, r0, q⟩ => by
    subst e1
    refine eop_core hs.sb l1 σ W.H _ (tE_of r0 (PostE.imp (PostE.bind q) fun t W1 Γ1 ex r1 f1 q1 v G h _ => ?_))
    obtain ⟨b, e2, q2⟩ := PostE.of (q1 Γ1 ex r1 f1)
    have e6 := blT_some e2
    subst e6
    exact ⟨b, h.1, q2 W1 r1 (Fr.refl _)⟩
theorem bp_chain {o o' : CmpOp} {r r' : R2} {op op' : T → T → Option T} (ho : OpR X (compareOp o) r) (ho' : OpR X (compareOp o') r') (hs : Sc2 X.K cm r op) (hs' : Sc2 X.K cm r' op') (ha : Ep X cm mo k1 a f) (hb : Ep X cm mo k2 b g) (hc : Ep X cm mo k3 c h)
    (hm : lastMarks [o, o'] [b, c] = false := by with_unfolding_all rfl) : Bp X cm mo (.Compare a [o, o'] [b, c] pos) (pBl (pChain op op' f g h)) := PT.imp (pt_chain ho ho' ha hb hc hm) fun σ H Q ⟨W, Γ, k, e1, r0, e2, q⟩ => by
  obtain ⟨t, e3, e4⟩ := Option.bind_eq_some_iff.mp e2
  have e6 := blT_some e4
  subst e6
  exact chain_core hs hs' σ H _ ⟨W, Γ, .bl k, e1, r0, e3, fun v H' G s h _ => ⟨k, h.1, q H' s⟩⟩
theorem ep_chain {o o' : CmpOp} {r r' : R2} {op op' : T → T → Option T} (ho : OpR X (compareOp o) r) (ho' : OpR X (compareOp o') r') (hs : Sc2 X.K cm r op) (hs' : Sc2 X.K cm r' op') (ha : Ep X cm mo k1 a f) (hb : Ep X cm mo k2 b g) (hc : Ep X cm mo k3 c h)
    (hm : lastMarks [o, o'] [b, c] = false := by with_unfolding_all rfl) : Ep X cm mo .imm (.Compare a [o, o'] [b, c] pos) (pChain op op' f g h) := PE.imp (pe_chain ho ho' ha hb hc hm) (chain_core hs hs')
theorem bw_p (h : PW X e (tPb X.K cm mo tf)) : Bp X cm mo e tf := h.pt
theorem bw_e (h : PW X e (tEb X.K cm mo E uf)) : Be X cm mo E e uf := h.pt
theorem bp_and1 (ha : Bp X cm mo a tf) : PW X (.BoolOp .And [a] pos) (tPb X.K cm mo tf) := pw_and1 ha
theorem bp_or1 (ha : Bp X cm mo a tf) : PW X (.BoolOp .Or [a] pos) (tPb X.K cm mo tf) := pw_or1 ha
theorem bp_and {rest : List Expr} (ha : Bp X cm mo a tf) (hb : PW X (.BoolOp .And (b :: rest) pos) (tPb X.K cm mo tg)) : PW X (.BoolOp .And (a :: b :: rest) pos) (tPb X.K cm mo (pAndB tf tg)) := PW.imp (pw_and ha hb) fun σ H Q ⟨W, Γ, k, e1, r0, e2, q⟩ => by
  subst e1
  obtain ⟨x, e3, e4⟩ := Option.bind_eq_some_iff.mp e2
  refine ⟨W, Γ, x, rfl, r0, e3, fun H' s => ?_⟩
  cases x with
  | true => exact iteT ⟨{ W with H := H' }, Γ, k, rfl, r0.same s, e4, fun H2 s2 => q H2 (s.trans s2)⟩
  | false => cases e4; exact iteF (q H' s)
theorem bp_or {rest : List Expr} (ha : Bp X cm mo a tf) (hb : PW X (.BoolOp .Or (b :: rest) pos) (tPb X.K cm mo tg)) : PW X (.BoolOp .Or (a :: b :: rest) pos) (tPb X.K cm mo (pOrB tf tg)) := PW.imp (pw_or ha hb) fun σ H Q ⟨W, Γ, k, e1, r0, e2, q⟩ => by
  subst e1
  obtain ⟨x, e3, e4⟩ := Option.bind_eq_some_iff.mp e2
  refine ⟨W, Γ, x, rfl, r0, e3, fun H' s => ?_⟩
  cases x with
  | true => cases e4; exact iteT (q H' s)
  | false => exact iteF ⟨{ W with H := H' }, Γ, k, rfl, r0.same s, e4, fun H2 s2 => q H2 (s.trans s2)⟩
theorem bp_not (ha : Bp X cm mo a tf) : Bp X cm mo (.UnaryOp .Not a pos) (pNotB tf) := PT.imp (pt_not ha) fun σ H Q ⟨W, Γ, k, e1, r0, e2, q⟩ => by
  obtain ⟨x, e3, rfl⟩ := Option.map_eq_some_iff.mp e2
  exact ⟨W, Γ, x, e1, r0, e3, q⟩
theorem be_p (ha : Bp X cm mo a tf) : Be X cm mo E a (eB tf) := PT.imp ha fun σ H Q ⟨W, Γ, e1, r, q⟩ => by
  subst e1
  obtain ⟨b, e2, q2⟩ := PostE.of (o := tf Γ) q
  exact ⟨W, Γ, b, rfl, r, e2, fun H' s => q2 _ (r.same s) (same_fr s)⟩
theorem be_and1 (ha : Be X cm mo E a uf) : PW X (.BoolOp .And [a] pos) (tEb X.K cm mo E uf) := pw_and1 ha
theorem be_or1 (ha : Be X cm mo E a uf) : PW X (.BoolOp .Or [a] pos) (tEb X.K cm mo E uf) := pw_or1 ha
theorem tEb_of {W : Wd} {Γ : Env} {σ : L2.St} {Q : Bool → Hp → Prop} (r : R X.K cm mo W σ Γ) (q : PostE X.K cm mo E W σ (uf Γ) fun b W' => Q b W'.H) : tEb X.K cm mo E uf σ W.H Q := ⟨W, Γ, rfl, r, q⟩
theorem be_and {rest : List Expr} (ha : Be X cm mo E a uf) (hb : PW X (.BoolOp .And (b :: rest) pos) (tEb X.K cm mo E ug)) : PW X (.BoolOp .And (a :: b :: rest) pos) (tEb X.K cm mo E (eAndB uf ug)) := PW.imp (pw_and ha hb) fun σ H Q ⟨W, Γ, e1, r0, q⟩ => by
  subst e1
  refine tEb_of r0 (PostE.imp (PostE.bind q) fun x W1 Γ1 ex r1 f1 q1 => ?_)
  have q2 := q1 Γ1 ex r1 f1
  cases x with
  | true => exact iteT (tEb_of r1 q2)
  | false => exact iteF (q2 W1 r1 (Fr.refl _))
theorem be_or {rest : List Expr} (ha : Be X cm mo E a uf) (hb : PW X (.BoolOp .Or (b :: rest) pos) (tEb X.K cm mo E ug)) : PW X (.BoolOp .Or (a :: b :: rest) pos) (tEb X.K cm mo E (eOrB uf ug)) := PW.imp (pw_or ha hb) fun σ H Q ⟨W, Γ, e1, r0, q⟩ => by
  subst e1
  refine tEb_of r0 (PostE.imp (PostE.bind q) fun x W1 Γ1 ex r1 f1 q1 => ?_)
  have q2 := q1 Γ1 ex r1 f1
  cases x with
  | true => exact iteT (q2 W1 r1 (Fr.refl _))
  | false => exact iteF (tEb_of r1 q2)
theorem be_not (ha : Be X cm mo E a uf) : Be X cm mo E (.UnaryOp .Not a pos) (eNotB uf) := PT.imp (pt_not ha) fun σ H Q ⟨W, Γ, e1, r0, q⟩ => by
  subst e1
  exact tEb_of r0 (PostE.imp (PostE.bind q) fun x W1 Γ1 ex r1 f1 q1 => q1 Γ1 ex r1 f1 W1 r1 (Fr.refl _))
/-! ### and, or, not, if as values -/
theorem ep_one {o} (ha : Ep X cm mo kd a f) : Ep X cm mo kd (.BoolOp o [a] pos) f := pe_one ha
theorem ep_and {rest : List Expr} (lk : kle .imm k2 = true) (ha : Ep X cm mo k1 a f) (hb : Ep X cm mo k2 (.BoolOp .And (b :: rest) pos) g) : Ep X cm mo k2 (.BoolOp .And (a :: b :: rest) pos) (pAndV f g) := PE.imp (pe_and ha hb) fun σ H Q ⟨W, Γ, t, e1, r0, e2, q⟩ => by
  subst e1
  obtain ⟨x, e3, e4⟩ := Option.bind_eq_some_iff.mp e2
  obtain ⟨y, e5, e6⟩ := Option.bind_eq_some_iff.mp e3
  have e7 := blT_some e6
  subst e7
  refine ⟨W, Γ, _, rfl, r0, e5, fun v H' G s h _ => ⟨x, h.1, ?_⟩⟩
  cases x with
  | true => exact iteT ⟨{ W with H := H' }, Γ, t, rfl, r0.same s, e4, fun v2 H2 G2 s2 h2 kk => q v2 H2 G2 (s.trans s2) h2 (KOk.early (same_fr s) kk)⟩
  | false => cases e4; exact iteF (q _ H' [] s ⟨rfl, rfl⟩ (KOk.le lk (k := .imm) rfl))
theorem ep_or {rest : List Expr} (lk : kle .imm k2 = true) (ha : Ep X cm mo k1 a f) (hb : Ep X cm mo k2 (.BoolOp .Or (b :: rest) pos) g) : Ep X cm mo k2 (.BoolOp .Or (a :: b :: rest) pos) (pOrV f g) := PE.imp (pe_or ha hb) fun σ H Q ⟨W, Γ, t, e1, r0, e2, q⟩ => by
  subst e1
  obtain ⟨x, e3, e4⟩ := Option.bind_eq_some_iff.mp e2
  obtain ⟨y, e5, e6⟩ := Option.bind_eq_some_iff.mp e3
  have e7 := blT_some e6
  subst e7
  refine ⟨W, Γ, _, rfl, r0, e5, fun v H' G s h _ => ⟨x, h.1, ?_⟩⟩
  cases x with
  | true => cases e4; exact iteT (q _ H' [] s ⟨rfl, rfl⟩ (KOk.le lk (k := .imm) rfl))
  | false => exact iteF ⟨{ W with H := H' }, Γ, t, rfl, r0.same s, e4, fun v2 H2 G2 s2 h2 kk => q v2 H2 G2 (s.trans s2) h2 (KOk.early (same_fr s) kk)⟩
theorem ep_not (ha : Ep X cm mo k1 a f) : Ep X cm mo .imm (.UnaryOp .Not a pos) (pNotV (pBl f)) := PE.imp (pe_not ha) fun σ H Q ⟨W, Γ, t, e1, r0, e2, q⟩ => by
  obtain ⟨x, e3, rfl⟩ := Option.map_eq_some_iff.mp e2
  obtain ⟨y, e5, e6⟩ := Option.bind_eq_some_iff.mp e3
  have e7 := blT_some e6
  subst e7
  exact ⟨W, Γ, _, e1, r0, e5, fun v H' G s h _ => ⟨x, h.1, q _ H' [] s ⟨rfl, rfl⟩ rfl⟩⟩
theorem ep_if (hc : Bp X cm mo c tf) (ha : Ep X cm mo kd a f) (hb : Ep X cm mo kd b g) : Ep X cm mo kd (.IfExp c a b pos) (pIf tf f g) := PE.imp (pe_ifExp hc ha hb) fun σ H Q ⟨W, Γ, t, e1, r0, e2, q⟩ => by
  subst e1
  obtain ⟨x, e3, e4⟩ := Option.bind_eq_some_iff.mp e2
  refine ⟨W, Γ, x, rfl, r0, e3, fun H' s => ?_⟩
  cases x with
  | true => exact iteT ⟨{ W with H := H' }, Γ, t, rfl, r0.same s, e4, fun v2 H2 G2 s2 h2 kk => q v2 H2 G2 (s.trans s2) h2 (KOk.early (same_fr s) kk)⟩
  | false => exact iteF ⟨{ W with H := H' }, Γ, t, rfl, r0.same s, e4, fun v2 H2 G2 s2 h2 kk => q v2 H2 G2 (s.trans s2) h2 (KOk.early (same_fr s) kk)⟩
/-! ### arguments -/
theorem aq_nil : Aq X cm mo .imm [] pNil := PA.imp pa_nil fun σ H Q ⟨W, Γ, ts, e1, r, e2, q⟩ => by
  cases e2
  exact q [] H [] (fun _ _ h => e1 ▸ h) ⟨rfl, rfl⟩ rfl
theorem aq_cons (ha : Ep X cm mo k1 e f) (hb : Aq X cm mo k2 es af) (hs : starEach (e :: es) X.env = (false, eval e X.env) :: starEach es X.env := by rfl) : Aq X cm mo (akd k1 k2) (e :: es) (pCons f af) := PA.imp (pa_cons ha hb hs) fun σ H Q ⟨W, Γ, ts, e1, r0, e2, q⟩ => by
  subst e1
  obtain ⟨x, e3, e4⟩ := Option.bind_eq_some_iff.mp e2
  obtain ⟨xs, e5, e6⟩ := Option.bind_eq_some_iff.mp e4
  cases e6
  refine ⟨W, Γ, x, rfl, r0, e3, fun v H' G s h kk => ⟨{ W with H := H' }, Γ, xs, rfl, r0.same s, e5, fun vs H2 G2 s2 h2 kk2 => ?_⟩⟩
  refine q (v :: vs) H2 (G ++ G2) (s.trans s2) (.cons (h.same s2) h2) (KOk.app ?_ (KOk.early (same_fr s) kk2))
  exact KOk.step (W1 := { W with H := H' }) (same_fr (W := { W with H := H' }) s2) (h.tr _ _ _) kk
theorem ak_nil : Ak X cm mo E .imm [] eNil := PA.imp pa_nil fun σ H Q ⟨W, Γ, e1, r, q⟩ => by
  subst e1
  exact q W r (Fr.refl _) [] [] ⟨rfl, rfl⟩ rfl
theorem ak_cons (l1 : kle k1 .shared = true) (ha : Ee X cm mo E k1 e ef) (hb : Ak X cm mo E k2 es xf) (hs : starEach (e :: es) X.env = (false, eval e X.env) :: starEach es X.env := by rfl) : Ak X cm mo E (akd k1 k2) (e :: es) (eCons ef xf) := PA.imp (pa_cons ha hb hs) fun σ H Q ⟨W, Γ, e1, r0, q⟩ => by
  subst e1
  refine tE_of r0 (PostE.imp (PostE.bind q) fun x W1 Γ1 ex r1 f1 q1 v1 G1 h1 kk1 => ⟨W1, Γ1, rfl, r1, PostE.imp (PostE.bind (q1 Γ1 ex r1 f1)) fun xs W2 Γ2 ey r2 f2 q2 v2 G2 h2 kk2 => ?_⟩)
  exact q2 Γ2 ey r2 f2 W2 r2 (Fr.refl _) (v1 :: v2) (G1 ++ G2) (.cons (h1.step r1 f2 (kk1.nC l1)) h2) (KOk.app (KOk.step f2 (h1.tr _ _ _) kk1) (KOk.early f1 kk2))
theorem ak_p (h : Aq X cm mo kd es af) : Ak X cm mo E kd es (fun Γ => .of Γ (af Γ)) := PA.imp h fun σ H Q ⟨W, Γ, e1, r, q⟩ => by
  subst e1
  obtain ⟨t, e2, q⟩ := PostE.of (o := af Γ) q
  exact ⟨W, Γ, t, rfl, r, e2, fun v H' G s h k => q _ (r.same s) (same_fr s) v G h k⟩
/-! ### displays -/
def mkTup (ts : List T) : Option T := if ts.length ≤ 100000 then some (.tup ts) else none
def mkLst (ts : List T) : Option T := if ts.length ≤ 100000 then some (.lst ts) else none
theorem mkTup_some {ts : List T} {t : T} (h : mkTup ts = some t) : ts.length ≤ 100000 ∧ t = .tup ts := by
  unfold mkTup at h; split at h
  · cases h; exact ⟨‹_›, rfl⟩
  · cases h
theorem mkLst_some {ts : List T} {t : T} (h : mkLst ts = some t) : ts.length ≤ 100000 ∧ t = .lst ts := by
  unfold mkLst at h; split at h
  · cases h; exact ⟨‹_›, rfl⟩
  · cases h
theorem small {n : Nat} (h : n ≤ 100000) : n ≤ sizeLine := Nat.le_trans h (by decide)
theorem ep_tup {x1} (ha : Aq X cm mo kd es af) : Ep X cm mo kd (.Tuple es x1 pos) (pArg mkTup af) := PE.imp (pe_tup ha) fun σ H Q ⟨W, Γ, t, e1, r0, e2, q⟩ => by
  subst e1
  obtain ⟨ts, e3, e4⟩ := Option.bind_eq_some_iff.mp e2
  obtain ⟨hl, rfl⟩ := mkTup_some e4
  refine ⟨W, Γ, ts, rfl, r0, e3, fun vs H' G s h kk => ⟨by rw [h.len]; exact small hl, fun p hp => ?_⟩⟩
  have s2 := same_upd (o := HO.tup vs) hp
  exact q (.ref p) _ G (s.trans s2) ⟨p, vs, rfl, tup_new upd_same, h.same s2⟩ (KOk.step (W1 := { W with H := H' }) (same_fr (W := { W with H := H' }) s2) (h.tr _ _ _) kk)
theorem ee_tup {x1} (ha : Ak X cm mo E kd es xf) : Ee X cm mo E kd (.Tuple es x1 pos) (eArg mkTup xf) := PE.imp (pe_tup ha) fun σ H Q ⟨W, Γ, e1, r0, q⟩ => by
  subst e1
  refine ⟨W, Γ, rfl, r0, PostE.imp (PostE.bind q) fun ts W1 Γ1 ex r1 f1 q1 vs G h kk => ?_⟩
  obtain ⟨t, e4, q2⟩ := PostE.of (q1 Γ1 ex r1 f1)
  obtain ⟨hl, rfl⟩ := mkTup_some e4
  refine ⟨by rw [h.len]; exact small hl, fun p hp => ?_⟩
  have s2 := same_upd (o := HO.tup vs) hp
  exact q2 { W1 with H := _ } (r1.same s2) (same_fr s2) (.ref p) G ⟨p, vs, rfl, tup_new upd_same, h.same s2⟩ (KOk.step (same_fr s2) (h.tr _ _ _) kk)
/-- a new mutable root over what is shared -/
theorem kok_new {K : PySem.W.Frag} {σ : L2.St} {Γ : Env} {W W1 : Wd} {kd : Kd} {p : Addr} {o : HO} {G : List Addr} (f : Fr W W1) (t : ∀ x ∈ G, Tr W1.H x) (l : kle kd .shared = true) (kk : KOk kd W W1 G) (r : R K cm mo W1 σ Γ) (hp : W1.H p = none) (mu : Mut (some o)) : KOk .fr1 W { W1 with H := upd W1.H p o } (p :: G) := by
  have np : ¬ Tr W1.H p := fun ⟨o, e⟩ => by rw [hp] at e; cases e
  refine ⟨p, G, rfl, ⟨.inr fun h => np (f.tr p h), fun c => np (r.trC p c), fun c => np (r.trL p c), fun c => ?_, ?_⟩, fun h => np (t p h), ?_⟩
  · obtain ⟨Os, r⟩ := r
    exact np (r.trS p c)
  · show Mut (upd W1.H p o p)
    rw [upd_same]; exact mu
  · exact KOk.step (same_fr (same_upd hp)) t (kk.le l)
theorem ep_lst (l : kle kd .shared = true) (ha : Aq X cm mo kd es af) : Ep X cm mo .fr1 (.List es pos) (pArg mkLst af) := PE.imp (pe_lst ha) fun σ H Q ⟨W, Γ, t, e1, r0, e2, q⟩ => by
  subst e1
  obtain ⟨ts, e3, e4⟩ := Option.bind_eq_some_iff.mp e2
  obtain ⟨hl, rfl⟩ := mkLst_some e4
  refine ⟨W, Γ, ts, rfl, r0, e3, fun vs H' G s h kk => ⟨by rw [h.len]; exact small hl, fun p hp => ?_⟩⟩
  have s2 := same_upd (o := HO.lst vs) hp
  exact q (.ref p) _ (p :: G) (s.trans s2) ⟨p, vs, G, rfl, h.same s2, upd_same, rfl⟩ (kok_new (W1 := { W with H := H' }) (same_fr s) (h.tr _ _ _) l kk (r0.same s) hp trivial)
theorem ee_lst (l : kle kd .shared = true) (ha : Ak X cm mo E kd es xf) : Ee X cm mo E .fr1 (.List es pos) (eArg mkLst xf) := PE.imp (pe_lst ha) fun σ H Q ⟨W, Γ, e1, r0, q⟩ => by
  subst e1
  refine ⟨W, Γ, rfl, r0, PostE.imp (PostE.bind q) fun ts W1 Γ1 ex r1 f1 q1 vs G h kk => ?_⟩
  obtain ⟨t, e4, q2⟩ := PostE.of (q1 Γ1 ex r1 f1)
  obtain ⟨hl, rfl⟩ := mkLst_some e4
  refine ⟨by rw [h.len]; exact small hl, fun p hp => ?_⟩
  have s2 := same_upd (o := HO.lst vs) hp
  exact q2 { W1 with H := _ } (r1.same s2) (same_fr s2) (.ref p) (p :: G) ⟨p, vs, G, rfl, h.same s2, upd_same, rfl⟩ (kok_new f1 (h.tr _ _ _) l kk r1 hp trivial)
/-- .. where some of it is a slot's own: read at once -/
theorem ep_lstA (ha : Aq X cm mo kd es af) : Ep X cm mo .any (.List es pos) (pArg mkLst af) := PE.imp (pe_lst ha) fun σ H Q ⟨W, Γ, t, e1, r0, e2, q⟩ => by
  subst e1
  obtain ⟨ts, e3, e4⟩ := Option.bind_eq_some_iff.mp e2
  obtain ⟨hl, rfl⟩ := mkLst_some e4
  refine ⟨W, Γ, ts, rfl, r0, e3, fun vs H' G s h kk => ⟨by rw [h.len]; exact small hl, fun p hp => ?_⟩⟩
  have s2 := same_upd (o := HO.lst vs) hp
  exact q (.ref p) _ (p :: G) (s.trans s2) ⟨p, vs, G, rfl, h.same s2, upd_same, rfl⟩ trivial
end
end Tm
namespace Tm
open PySem PySem.Spec PyProof.Rows L2
/-! ### weaker modes -/
def mle : Mode → Mode → Bool
  | .dead, .lk => false
  | .dead, _ => true
  | .vw, .vw => true | .vw, .o1 => true | .vw, .own => true
  | .o1, .o1 => true | .own, .own => true | .lk, .lk => true
  | _, _ => false
def mleL : List Mode → List Mode → Bool
  | [], [] => true
  | x :: xs, y :: ys => mle x y && mleL xs ys
  | _, _ => false
theorem mleL_len : ∀ {l l' : List Mode}, mleL l l' = true → l.length = l'.length
  | [], [], _ => rfl
  | [], _ :: _, h => by cases h
  | _ :: _, [], h => by cases h
  | x :: xs, y :: ys, h => by
    simp only [mleL, Bool.and_eq_true] at h
    rw [List.length_cons, List.length_cons, mleL_len h.2]
theorem mleL_md : ∀ {l l' : List Mode}, mleL l l' = true → ∀ i, mle (md l i) (md l' i) = true
  | [], [], _, _ => rfl
  | [], _ :: _, h, _ => by cases h
  | _ :: _, [], h, _ => by cases h
  | x :: xs, y :: ys, h, 0 => by simp only [mleL, Bool.and_eq_true] at h; exact h.1
  | x :: xs, y :: ys, h, i + 1 => by simp only [mleL, Bool.and_eq_true] at h; exact mleL_md h.2 i
theorem md_ext : ∀ {l l' : List Mode}, l.length = l'.length → (∀ i, md l i = md l' i) → l = l'
  | [], [], _, _ => rfl
  | [], _ :: _, h, _ => by cases h
  | _ :: _, [], h, _ => by cases h
  | x :: xs, y :: ys, h, e => by
    have e0 : x = y := e 0
    rw [e0, md_ext (l := xs) (l' := ys) (Nat.succ.inj h) fun i => e (i + 1)]
theorem set_sl {α : Type} : ∀ {l : List (Option α)} {i : Nat}, i < l.length → l.set i (sl l i) = l
  | [], _, h => absurd h (Nat.not_lt_zero _)
  | _ :: _, 0, _ => rfl
  | x :: r, i + 1, h => by
    show x :: r.set i (sl r i) = x :: r
    rw [set_sl (l := r) (Nat.lt_of_succ_lt_succ h)]
section
variable {K : PySem.W.Frag} {cm : Cm} {mo mo' : List Mode} {W W' : Wd} {σ : L2.St} {Γ : Env} {Os : Nat → List Addr}
theorem RO.empty {j : Nat} (r : RO K cm mo W σ Γ Os) (h : md mo j = .dead ∨ md mo j = .vw) : Os j = [] := by
  have s := r.slot j
  rcases h with e | e
  · rw [e] at s; exact s
  · rw [e] at s; exact s.1
theorem R.weak1 {j : Nat} {m : Mode} (r : R K cm mo W σ Γ) (hj : j < mo.length) (h : mle m (md mo j) = true) : ∃ W', W'.H = W.H ∧ R K cm (mo.set j m) W' σ Γ ∧ Fr W W' := by
  by_cases e : m = md mo j
  · refine ⟨W, rfl, ?_, Fr.refl _⟩
    rw [e, show mo.set j (md mo j) = mo from ?_]
    · exact r
    · refine md_ext (by rw [List.length_set]) fun i => ?_
      by_cases q : i = j
      · subst q; rw [md_set_self hj]
      · rw [md_set_ne (Ne.symm q)]
  · obtain ⟨Os, r⟩ := r
    have hl : md mo j ≠ .lk := fun q => by
      rw [q] at h e
      cases m <;> first | exact absurd rfl e | cases h
    have lσ : j < σ.length := by rw [r.ls]; exact hj
    have lΓ : j < Γ.length := by rw [r.lg]; exact hj
    have inC : ∀ x ∈ Os j, W.C x := fun x hx => by
      cases q : md mo j with
      | dead => rw [r.empty (.inl q)] at hx; cases hx
      | vw => rw [r.empty (.inr q)] at hx; cases hx
      | lk => exact absurd q hl
      | o1 => exact r.inC (by rw [q]; rfl) hx
      | own => exact r.inC (by rw [q]; rfl) hx
    have mm : m = .dead ∨ m = .vw := by
      cases m with
      | dead => exact .inl rfl
      | vw => exact .inr rfl
      | o1 => revert h e; cases md mo j <;> intro h e <;> first | exact absurd rfl e | cases h
      | own => revert h e; cases md mo j <;> intro h e <;> first | exact absurd rfl e | cases h
      | lk => revert h e; cases md mo j <;> intro h e <;> first | exact absurd rfl e | cases h
    have slot : SlotOk K cm W.H (fun x => W.S x ∨ x ∈ Os j) m (sl σ j) (sl Γ j) [] := by
      rcases mm with rfl | rfl
      · rfl
      · refine ⟨rfl, fun u eu => ?_⟩
        have s := r.slot j
        cases q : md mo j with
        | dead => rw [q] at h; cases h
        | lk => exact absurd q hl
        | vw => exact absurd q.symm e
        | o1 =>
          rw [q] at s
          obtain ⟨v, a, G, e1, e2, e3, g⟩ := s u eu
          refine ⟨v, a :: G, e1, e3, fun x hx => ?_⟩
          rcases List.mem_cons.mp hx with rfl | hx
          · exact .inr (by rw [e2]; exact List.mem_cons_self)
          · exact .inl (g x hx)
        | own =>
          rw [q] at s
          obtain ⟨v, e1, e3⟩ := s u eu
          exact ⟨v, _, e1, e3, fun x hx => .inr hx⟩
    have k1 := r.put (j := j) (m' := m) (v' := sl σ j) (t' := sl Γ j) (O' := []) (H' := W.H) (S' := fun x => W.S x ∨ x ∈ Os j) hj hl (fun _ _ h _ => h) (fun _ h => h) (fun _ h => .inl h)
      (fun x h => h.elim (r.trS x) (r.trO j x)) (fun i x n hx q => q.elim (r.sh i x hx) (r.dj i j x n hx)) slot List.nodup_nil (fun x hx => by cases hx) (fun x hx => by cases hx) (fun x hx => by cases hx) (fun _ x hx => by cases hx)
    rw [set_sl lσ, set_sl lΓ] at k1
    have k2 := r.put_fr (j := j) (m' := m) (O' := []) (H' := W.H) (S' := fun x => W.S x ∨ x ∈ Os j) hl (by rcases mm with rfl | rfl <;> decide) (fun _ _ h _ => h) (fun _ h => h) (fun _ h => .inl h) (fun x h => h.elim .inl fun q => .inr (.inl (inC x q))) (fun x hx => by cases hx)
    refine ⟨_, ?_, ⟨_, k1⟩, k2⟩
    rfl
theorem R.weakN : ∀ (n : Nat) {mo : List Mode} {W : Wd}, R K cm mo W σ Γ → mo'.length = mo.length → (∀ i, mle (md mo' i) (md mo i) = true) → (∀ i, n ≤ i → md mo' i = md mo i) → ∃ W', W'.H = W.H ∧ R K cm mo' W' σ Γ ∧ Fr W W'
  | 0, mo, W, r, l, _, e => ⟨W, rfl, by rw [md_ext l fun i => e i (Nat.zero_le _)]; exact r, Fr.refl _⟩
  | n + 1, mo, W, r, l, h, e => by
    by_cases hn : n < mo.length
    · obtain ⟨W1, e1, r1, f1⟩ := r.weak1 (m := md mo' n) hn (h n)
      obtain ⟨W2, e2, r2, f2⟩ := R.weakN n r1 (by rw [l, List.length_set]) (fun i => by
        by_cases q : i = n
        · subst q; rw [md_set_self hn]; have := h i; cases md mo' i <;> rfl
        · rw [md_set_ne (Ne.symm q)]; exact h i) (fun i hi => by
        by_cases q : i = n
        · subst q; rw [md_set_self hn]
        · rw [md_set_ne (Ne.symm q)]; exact e i (by omega))
      exact ⟨W2, e2.trans e1, r2, f1.trans f2⟩
    · refine R.weakN n r l h fun i hi => ?_
      have o : ∀ {l : List Mode} {i : Nat}, l.length ≤ i → md l i = .dead := by
        intro l
        induction l with
        | nil => intro i _; rfl
        | cons x r ih => intro i hi; cases i with
          | zero => simp at hi
          | succ i => exact ih (by simpa using hi)
      rw [o (by omega), o (by omega)]
theorem R.weak (r : R K cm mo W σ Γ) (h : mleL mo' mo = true) : ∃ W', W'.H = W.H ∧ R K cm mo' W' σ Γ ∧ Fr W W' :=
  R.weakN mo.length r (mleL_len h) (mleL_md h) fun i hi => by
    have o : ∀ {l : List Mode} {i : Nat}, l.length ≤ i → md l i = .dead := by
      intro l
      induction l with
      | nil => intro i _; rfl
      | cons x r ih => intro i hi; cases i with
        | zero => simp at hi
        | succ i => exact ih (by simpa using hi)
    rw [o (by rw [mleL_len h]; exact hi), o hi]
end
/-! ### statements -/
inductive Out | nx (Γ : Env) | rt (t : T) (Γ : Env) | bk (Γ : Env) | ct (Γ : Env) | ex (c : Str) (Γ : Env) | stuck
abbrev SF := Env → Out
structure Exits where
  b : List Mode
  c : List Mode
  r : List Mode
  k : Kd
  fi : List Nat
def Fx (fi : List Nat) (σ σ' : L2.St) : Prop := ∀ i ∈ fi, sl σ' i = sl σ i
section
variable (K : PySem.W.Frag) (cm : Cm)
def PostS (J : Exits) (mo' : List Mode) (E : XK) (W : Wd) (σ : L2.St) (D : Ends) (o : Out) : Prop :=
  match o with
  | .nx Γ' => ∀ σ' W', R K cm mo' W' σ' Γ' → Fr W W' → Fx J.fi σ σ' → D.nx σ' W'.H
  | .bk Γ' => ∀ σ' W', R K cm J.b W' σ' Γ' → Fr W W' → Fx J.fi σ σ' → D.bk σ' W'.H
  | .ct Γ' => ∀ σ' W', R K cm J.c W' σ' Γ' → Fr W W' → Fx J.fi σ σ' → D.ct σ' W'.H
  | .rt t Γ' => ∀ σ' W' v G, R K cm J.r W' σ' Γ' → Fr W W' → Fx J.fi σ σ' → Rep K cm W'.H t v G → KOk J.k W W' G → D.rt v W'.H
  | .ex c Γ' => ∀ σ' W', R K cm J.r W' σ' Γ' → Fr W W' → Fx J.fi σ σ' → exW cm E c W'.H
  | .stuck => False
def tS (mo mo' : List Mode) (J : Exits) (E : XK) (m : SF) : TS := fun D σ H => ∃ W Γ, W.H = H ∧ R K cm mo W σ Γ ∧ PostS K cm J mo' E W σ D (m Γ)
end
abbrev Sm (X : Cx) (cm : Cm) (J : Exits) (E : XK) (mo : List Mode) (st : Stmt) (mo' : List Mode) (m : SF) : Prop := PS X st (tS X.K cm mo mo' J E m)
abbrev Sb (X : Cx) (cm : Cm) (J : Exits) (E : XK) (mo : List Mode) (st : List Stmt) (mo' : List Mode) (m : SF) : Prop := PSs X st (tS X.K cm mo mo' J E m)
def sSeq (a b : SF) : SF := fun Γ => match a Γ with
  | .nx Γ1 => b Γ1 | o => o
def sNil : SF := fun Γ => .nx Γ
section
variable {K : PySem.W.Frag} {cm : Cm} {mo mo' mo1 : List Mode} {W W1 : Wd} {σ σ1 : L2.St} {Γ : Env} {J : Exits} {E : XK} {D D' : Ends} {o : Out}
theorem Fx.refl {fi} : Fx fi σ σ := fun _ _ => rfl
theorem Fx.trans {fi} {σ2 : L2.St} (a : Fx fi σ σ1) (b : Fx fi σ1 σ2) : Fx fi σ σ2 := fun i hi => (b i hi).trans (a i hi)
theorem PostS.start (h : PostS K cm J mo' E W σ D o) (f : Fr W W1) (x : Fx J.fi σ σ1) : PostS K cm J mo' E W1 σ1 D o := by
  cases o with
  | nx Γ => exact fun σ' W' r f' x' => h σ' W' r (f.trans f') (x.trans x')
  | bk Γ => exact fun σ' W' r f' x' => h σ' W' r (f.trans f') (x.trans x')
  | ct Γ => exact fun σ' W' r f' x' => h σ' W' r (f.trans f') (x.trans x')
  | rt t Γ => exact fun σ' W' v G r f' x' hr k => h σ' W' v G r (f.trans f') (x.trans x') hr (k.early f)
  | ex c Γ => exact fun σ' W' r f' x' => h σ' W' r (f.trans f') (x.trans x')
  | stuck => exact h
theorem PostS.seq {a b : SF} (h : PostS K cm J mo' E W σ D (sSeq a b Γ)) : PostS K cm J mo1 E W σ { D with nx := tS K cm mo1 mo' J E b D } (a Γ) := by
  unfold sSeq at h
  cases e : a Γ with
  | nx Γ1 => rw [e] at h; exact fun σ' W' r f x => ⟨W', Γ1, rfl, r, PostS.start h f x⟩
  | bk Γ1 => rw [e] at h; exact h
  | ct Γ1 => rw [e] at h; exact h
  | rt t Γ1 => rw [e] at h; exact h
  | ex c Γ1 => rw [e] at h; exact h
  | stuck => rw [e] at h; exact h
end
section
variable {X : Cx} {cm : Cm} {mo mo' mo1 mo2 : List Mode} {J : Exits} {E : XK} {n : Nat} {a b c e : Expr} {st : Stmt} {rest body : List Stmt} {pos : Pos} {kd k1 k2 : Kd} {f g : PF} {ef eg : EF} {uf : Env → Res Bool} {m m1 m2 : SF}
theorem ss_nil : Sb X cm J E mo [] mo sNil := PSs.imp pss_nil fun D σ H ⟨W, Γ, e1, r, q⟩ => by
  subst e1
  exact q σ W r (Fr.refl _) Fx.refl
theorem ss_cons (h1 : Sm X cm J E mo st mo1 m1) (h2 : Sb X cm J E mo1 rest mo2 m2) : Sb X cm J E mo (st :: rest) mo2 (sSeq m1 m2) := PSs.imp (pss_cons h1 h2) fun D σ H ⟨W, Γ, e1, r, q⟩ => ⟨W, Γ, e1, r, PostS.seq q⟩
theorem ss_one (h1 : Sm X cm J E mo st mo1 m1) : Sb X cm J E mo [st] mo1 m1 := pss_one h1
/-- weaken behind, or ahead -/
theorem PostS.weak {K : PySem.W.Frag} {W : Wd} {σ : L2.St} {D : Ends} {o : Out} (h : PostS K cm J mo2 E W σ D o) (w : mleL mo2 mo1 = true) : PostS K cm J mo1 E W σ D o := by
  cases o with
  | nx Γ =>
    intro σ' W' r f x
    obtain ⟨W2, e2, r2, f2⟩ := r.weak w
    have := h σ' W2 r2 (f.trans f2) x
    rw [e2] at this; exact this
  | _ => exact h
theorem sm_wk (h : Sm X cm J E mo st mo1 m) (w : mleL mo2 mo1 = true) : Sm X cm J E mo st mo2 m := PS.imp h fun D σ H ⟨W, Γ, e1, r, q⟩ => ⟨W, Γ, e1, r, PostS.weak q w⟩
theorem sb_wk (h : Sb X cm J E mo st' mo1 m) (w : mleL mo2 mo1 = true) : Sb X cm J E mo st' mo2 m := PSs.imp h fun D σ H ⟨W, Γ, e1, r, q⟩ => ⟨W, Γ, e1, r, PostS.weak q w⟩
theorem tS_pre {K : PySem.W.Frag} {D : Ends} {σ : L2.St} {H : Hp} (w : mleL mo mo1 = true) (h : tS K cm mo1 mo2 J E m D σ H) : tS K cm mo mo2 J E m D σ H := by
  obtain ⟨W, Γ, e1, r, q⟩ := h
  obtain ⟨W2, e2, r2, f2⟩ := r.weak w
  exact ⟨W2, Γ, e2.trans e1, r2, PostS.start q f2 Fx.refl⟩
theorem sb_pre (h : Sb X cm J E mo st' mo2 m) (w : mleL mo mo1 = true) : Sb X cm J E mo1 st' mo2 m := PSs.imp h fun D σ H q => tS_pre w q
/-! ### return -/
def sRet (f : EF) : SF := fun Γ => match f Γ with
  | .ok Γ1 t => .rt t Γ1 | .ex c Γ1 => .ex c Γ1 | .stuck => .stuck
def sRetN : SF := fun Γ => .rt .non Γ
def sMove (j : Nat) : SF := fun Γ => match sl Γ j with
  | some t => .rt t Γ | none => .stuck
theorem s_ret (l : kle kd J.k = true) (w : mleL J.r mo = true) (ha : Ee X cm mo E kd a ef) : Sm X cm J E mo (.Return (some a) pos) mo' (sRet ef) := PS.imp (ps_ret ha) fun D σ H ⟨W, Γ, e1, r, q⟩ => by
  subst e1
  refine ⟨W, Γ, rfl, r, ?_⟩
  unfold sRet at q
  cases e : ef Γ with
  | ok Γ1 t =>
    rw [e] at q
    intro W1 r1 f1 v G h kk
    obtain ⟨W2, e2, r2, f2⟩ := r1.weak w
    have := q σ W2 v G r2 (f1.trans f2) Fx.refl (by rw [e2]; exact h) (KOk.step f2 (h.tr _ _ _) (kk.le l))
    rw [e2] at this; exact this
  | ex c Γ1 =>
    rw [e] at q
    intro W1 r1 f1
    obtain ⟨W2, e2, r2, f2⟩ := r1.weak w
    have := q σ W2 r2 (f1.trans f2) Fx.refl
    rw [e2] at this; exact this
  | stuck => rw [e] at q; exact q
theorem s_retN (l : kle .imm J.k = true) (w : mleL J.r mo = true) : Sm X cm J E mo (.Return none pos) mo' sRetN := PS.imp ps_retN fun D σ H ⟨W, Γ, e1, r, q⟩ => by
  subst e1
  obtain ⟨W2, e2, r2, f2⟩ := r.weak w
  have := q σ W2 .non [] r2 f2 Fx.refl ⟨rfl, rfl⟩ (KOk.le l (k := .imm) rfl)
  rw [e2] at this; exact this
/-- a slot's own value is handed out -/
theorem s_move {i : Nat} {x : Str} {p : Pos} (hN : X.N[i]? = some x) (hv : Vis X.env.scope x) (hm : md mo i = .o1) (hk : J.k = .fr1) (w : mleL J.r mo = true) (hd : md J.r i = .dead) (h1 : (x == ("__debug__" : Str)) = false := by decide) (h2 : (x == ("__classdict__" : Str)) = false := by decide) :
    Sm X cm J E mo (.Return (some (.Name x p)) pos) mo' (sMove i) := PS.imp (ps_ret (pe_var hN hv h1 h2)) fun D σ H ⟨W, Γ, e1, r, q⟩ => by
  subst e1
  unfold sMove at q
  cases e : sl Γ i with
  | none => rw [e] at q; exact q.elim
  | some t =>
    rw [e] at q
    obtain ⟨Os, r0⟩ := id r
    have s := r0.slot i
    rw [hm] at s
    obtain ⟨v, a, G, e3, e4, h, g⟩ := s t e
    have hi : i < mo.length := md_lt (by rw [hm]; decide)
    obtain ⟨W1, e1, r1, f1⟩ := r.weak1 (m := .dead) hi (by rw [hm]; rfl)
    -- the slot dropped: its root is nobody's
    have lσ : i < σ.length := by rw [r0.ls]; exact hi
    have lΓ : i < Γ.length := by rw [r0.lg]; exact hi
    have inC : ∀ x ∈ Os i, W.C x := fun x hx => r0.inC (by rw [hm]; rfl) hx
    have hl : md mo i ≠ .lk := by rw [hm]; decide
    have k1 := r0.put (j := i) (m' := .dead) (v' := sl σ i) (t' := sl Γ i) (O' := []) (H' := W.H) (S' := W.S) hi hl (fun _ _ h _ => h) (fun _ h => h) (fun _ h => h)
      r0.trS (fun i x _ hx => r0.sh i x hx) rfl List.nodup_nil (fun x hx => by cases hx) (fun x hx => by cases hx) (fun x hx => by cases hx) (fun _ x hx => by cases hx)
    rw [set_sl lσ, set_sl lΓ] at k1
    have k2 := r0.put_fr (j := i) (m' := .dead) (O' := []) (H' := W.H) (S' := W.S) hl (by decide) (fun _ _ h _ => h) (fun _ h => h) (fun _ h => h) (fun x h => .inl h) (fun x hx => by cases hx)
    have w2 : mleL J.r (mo.set i .dead) = true := by
      have aux : ∀ {l l' : List Mode} {i : Nat}, mleL l l' = true → md l i = .dead → mleL l (l'.set i .dead) = true := by
        intro l
        induction l with
        | nil => intro l' i h _; cases l' with
          | nil => rfl
          | cons _ _ => cases h
        | cons x r ih => intro l' i h hd; cases l' with
          | nil => cases h
          | cons y s =>
            simp only [mleL, Bool.and_eq_true] at h
            cases i with
            | zero =>
              have hd : x = .dead := hd
              subst hd
              show (mle .dead .dead && mleL r s) = true
              rw [h.2]; rfl
            | succ i =>
              show (mle x y && mleL r (s.set i .dead)) = true
              rw [h.1, ih h.2 hd]; rfl
      exact aux w hd
    obtain ⟨W3, e5, r3, f3⟩ := R.weak ⟨_, k1⟩ w2
    have ha : a ∈ Os i := by rw [e4]; exact List.mem_cons_self
    have nodup : ¬ a ∈ G := fun q => r0.sh i a ha (g a q)
    refine ⟨v, sl_get e3, ?_⟩
    have := q σ W3 v (a :: G) r3 (k2.trans f3) Fx.refl (by rw [e5]; exact h) ?_
    · rw [e5] at this; exact this
    rw [hk]
    have nC3 : ∀ x, Tr W.H x → ¬ W3.C x ∨ (W.C x ∧ ¬ x ∈ Os i) := fun x tx => by
      by_cases q : W3.C x
      · rcases f3.chg x q with (⟨c, _⟩ | z) | z
        · cases c
        · exact .inr z
        · exact absurd tx z
      · exact .inl q
    have nS3 : ¬ W3.S a := fun s3 => by
      rcases f3.shn a s3 with z | (⟨c, _⟩ | ⟨_, z⟩) | z
      · exact r0.sh i a ha z
      · cases c
      · exact z ha
      · exact z (r0.trO i a ha)
    have ta := r0.trO i a ha
    refine ⟨a, G, rfl, ⟨.inl (inC a ha), fun c => ?_, fun c => ?_, nS3, ?_⟩, nodup, fun x hx => ?_⟩
    · rcases nC3 a ta with z | ⟨_, z⟩
      · exact z c
      · exact z ha
    · have l3 := f3.lck a c
      rcases l3 with ⟨z, _⟩ | z
      · cases z
      · exact R.cL ⟨Os, r0⟩ a (inC a ha) z
    · rw [e5]
      exact r0.mu a (inC a ha)
    · have sx := g x hx
      refine ⟨.inl sx, fun c => ?_, fun c => ?_⟩
      · rcases nC3 x (r0.trS x sx) with z | ⟨z, _⟩
        · exact z c
        · exact R.sC ⟨Os, r0⟩ x sx z
      · rcases f3.lck x c with ⟨z, _⟩ | z
        · cases z
        · exact R.sL ⟨Os, r0⟩ x sx z
end
end Tm
namespace Tm
open PySem PySem.Spec PyProof.Rows L2
def Res.sB {α : Type} (r : Res α) (k : Env → α → Out) : Out := match r with
  | .ok Γ t => k Γ t | .ex c Γ => .ex c Γ | .stuck => .stuck
section
variable {K : PySem.W.Frag} {cm : Cm} {mo mo' mo1 : List Mode} {W W1 : Wd} {σ σ1 : L2.St} {Γ : Env} {J : Exits} {E : XK} {D D' : Ends} {o : Out} {Os : Nat → List Addr}
theorem PostS.bind {α : Type} {r : Res α} {k : Env → α → Out} (h : PostS K cm J mo' E W σ D (r.sB k)) (w : mleL J.r mo = true) : PostE K cm mo E W σ r fun a W1 => ∀ Γ1, r = .ok Γ1 a → R K cm mo W1 σ Γ1 → Fr W W1 → PostS K cm J mo' E W σ D (k Γ1 a) := by
  cases r with
  | ok Γ t => exact fun W1 r1 f1 Γ1 e _ _ => by cases e; exact h
  | ex c Γ =>
    intro W1 r1 f1
    obtain ⟨W2, e2, r2, f2⟩ := r1.weak w
    have := h σ W2 r2 (f1.trans f2) Fx.refl
    rw [e2] at this; exact this
  | stuck => exact h
/-- a step of a slot, seen from an earlier beginning -/
theorem RO.put_fr0 {W0 : Wd} {j : Nat} {m' : Mode} {O' : List Addr} {H' : Hp} {S' : Addr → Prop} (r : RO K cm mo W σ Γ Os) (f0 : Fr W0 W) (hl : md mo j ≠ .lk) (hm : m' ≠ .lk)
    (hk : ∀ b o, W.H b = some o → ¬ b ∈ Os j → H' b = some o) (tr : ∀ x, Tr W.H x → Tr H' x) (sS : ∀ x, W.S x → S' x) (sN : ∀ x, S' x → W0.S x ∨ W0.C x ∨ ¬ Tr W0.H x) (fr : ∀ x ∈ O', W0.C x ∨ ¬ Tr W0.H x) :
    Fr W0 ⟨H', fun x => (chg m' = true ∧ x ∈ O') ∨ (W.C x ∧ ¬ x ∈ Os j), fun x => (m' = .lk ∧ x ∈ O') ∨ (W.L x), S'⟩ := by
  have inC : ∀ x, x ∈ Os j → W.C x := fun x hx => by
    refine (r.hC x).mpr ⟨j, ?_, hx⟩
    have s := r.slot j
    cases e : md mo j with
    | dead => rw [e] at s; have s : Os j = [] := s; rw [s] at hx; cases hx
    | vw => rw [e] at s; rw [s.1] at hx; cases hx
    | o1 => rfl
    | own => rfl
    | lk => exact absurd e hl
  refine ⟨fun b o e n => ?_, fun x h => ?_, fun x h => ?_, fun x h => sS x (f0.shr x h), sN, fun x h => tr x (f0.tr x h)⟩
  · have e1 := f0.keep b o e n
    refine hk b o e1 fun q => ?_
    exact (f0.chg b (inC b q)).elim n fun z => z ⟨o, e⟩
  · rcases h with ⟨_, h⟩ | ⟨h, _⟩
    · exact fr x h
    · exact f0.chg x h
  · rcases h with ⟨h, _⟩ | h
    · exact absurd h hm
    · exact f0.lck x h
theorem RO.notOwn {x : Addr} (r : RO K cm mo W σ Γ Os) (c : ¬ W.C x) (l : ¬ W.L x) : ∀ i, ¬ x ∈ Os i := fun i hx => by
  have s := r.slot i
  cases e : md mo i with
  | dead => rw [r.empty (.inl e)] at hx; cases hx
  | vw => rw [r.empty (.inr e)] at hx; cases hx
  | o1 => exact c (r.inC (by rw [e]; rfl) hx)
  | own => exact c (r.inC (by rw [e]; rfl) hx)
  | lk => exact l ((r.hL x).mpr ⟨i, e, hx⟩)
/-- a value that is shared is put into a slot -/
theorem R.setV {W0 : Wd} {j : Nat} {v : V} {t : T} {G : List Addr} (r : R K cm mo W σ Γ) (f0 : Fr W0 W) (hj : j < mo.length) (hl : md mo j ≠ .lk) (h : Rep K cm W.H t v G) (kk : KOk .shared W0 W G) :
    ∃ W', W'.H = W.H ∧ R K cm (mo.set j .vw) W' (σ.set j (some v)) (Γ.set j (some t)) ∧ Fr W0 W' := by
  obtain ⟨Os, r⟩ := r
  have nO : ∀ x ∈ G, ∀ i, ¬ x ∈ Os i := fun x hx => r.notOwn (kk x hx).2.1 (kk x hx).2.2
  have k1 := r.put (j := j) (m' := .vw) (v' := some v) (t' := some t) (O' := []) (H' := W.H) (S' := fun x => W.S x ∨ x ∈ G) hj hl (fun _ _ h _ => h) (fun _ h => h) (fun _ h => .inl h)
    (fun x q => q.elim (r.trS x) (h.tr _ _ _ x)) (fun i x _ hx q => q.elim (r.sh i x hx) fun g => nO x g i hx) ⟨rfl, fun u e => by cases e; exact ⟨v, G, rfl, h, fun x hx => .inr hx⟩⟩ List.nodup_nil (fun x hx => by cases hx) (fun x hx => by cases hx) (fun x hx => by cases hx) (fun _ x hx => by cases hx)
  have k2 := r.put_fr0 (W0 := W0) (j := j) (m' := .vw) (O' := []) (H' := W.H) (S' := fun x => W.S x ∨ x ∈ G) f0 hl (by decide) (fun _ _ h _ => h) (fun _ h => h) (fun _ h => .inl h) (fun x q => q.elim (f0.shn x) fun g => (kk x g).1) (fun x hx => by cases hx)
  refine ⟨_, ?_, ⟨_, k1⟩, k2⟩
  rfl
/-- .. one whose root is nobody's -/
theorem R.setO {W0 : Wd} {j : Nat} {v : V} {t : T} {G : List Addr} (r : R K cm mo W σ Γ) (f0 : Fr W0 W) (hj : j < mo.length) (hl : md mo j ≠ .lk) (h : Rep K cm W.H t v G) (kk : KOk .fr1 W0 W G) :
    ∃ W', W'.H = W.H ∧ R K cm (mo.set j .o1) W' (σ.set j (some v)) (Γ.set j (some t)) ∧ Fr W0 W' := by
  obtain ⟨Os, r⟩ := r
  obtain ⟨a, G', rfl, ⟨b1, b2, b3, b4, mu⟩, na, g⟩ := kk
  have nO : ∀ x ∈ G', ∀ i, ¬ x ∈ Os i := fun x hx => r.notOwn (g x hx).2.1 (g x hx).2.2
  have nA := r.notOwn b2 b3
  have tr := h.tr
  have k1 := r.put (j := j) (m' := .o1) (v' := some v) (t' := some t) (O' := [a]) (H' := W.H) (S' := fun x => W.S x ∨ x ∈ G') hj hl (fun _ _ h _ => h) (fun _ h => h) (fun _ h => .inl h)
    (fun x q => q.elim (r.trS x) fun q => h.tr _ _ _ x (List.mem_cons_of_mem _ q)) (fun i x _ hx q => q.elim (r.sh i x hx) fun g => nO x g i hx) (fun u e => by cases e; exact ⟨v, a, G', rfl, rfl, h, fun x hx => .inr hx⟩) (List.nodup_cons.mpr ⟨by simp, List.nodup_nil⟩)
    (fun x hx i _ => by
      have e := List.mem_singleton.mp hx
      subst e
      exact nA i) (fun x hx => by
      have e := List.mem_singleton.mp hx
      subst e
      exact fun q => q.elim b4 na) (fun x hx => by
      have e := List.mem_singleton.mp hx
      subst e
      exact h.tr _ _ _ x List.mem_cons_self) (fun _ x hx => by
      have e := List.mem_singleton.mp hx
      subst e
      exact mu)
  have k2 := r.put_fr0 (W0 := W0) (j := j) (m' := .o1) (O' := [a]) (H' := W.H) (S' := fun x => W.S x ∨ x ∈ G') f0 hl (by decide) (fun _ _ h _ => h) (fun _ h => h) (fun _ h => .inl h) (fun x q => q.elim (f0.shn x) fun q => (g x q).1) (fun x hx => by
      have e := List.mem_singleton.mp hx
      subst e
      exact b1)
  refine ⟨_, ?_, ⟨_, k1⟩, k2⟩
  rfl
/-- the own root of a slot is changed -/
theorem R.mut {W0 : Wd} {j : Nat} {v : V} {a : Addr} {t t' : T} {o : HO} {G : List Addr} (r : R K cm mo W σ Γ) (f0 : Fr W0 W) (hm : md mo j = .o1) (ht : sl Γ j = some t) (hv : sl σ j = some v) (hv2 : v = .ref a) (hu : Mut (some o))
    (hG : ∀ x ∈ G, ¬ W.C x ∧ ¬ W.L x ∧ Tr W.H x ∧ (W0.S x ∨ W0.C x ∨ ¬ Tr W0.H x)) (h : ∀ H', Kp (fun x => x = a) W.H H' → H' a = some o → ∀ a' G', Rep K cm W.H t v (a' :: G') → a' = a → ∃ G2, Rep K cm H' t' v (a :: G2) ∧ ∀ x ∈ G2, x ∈ G' ∨ x ∈ G) (ha : ∀ a' G', Rep K cm W.H t v (a' :: G') → a' = a) :
    ∃ W', W'.H = upd W.H a o ∧ R K cm mo W' σ (Γ.set j (some t')) ∧ Fr W0 W' := by
  obtain ⟨Os, r⟩ := r
  have hj : j < mo.length := md_lt (by rw [hm]; decide)
  have hl : md mo j ≠ .lk := by rw [hm]; decide
  have s := r.slot j
  rw [hm] at s
  obtain ⟨v', a', G', e1, e2, rp, g⟩ := s t ht
  have ev : v = v' := Option.some.inj (hv.symm.trans e1)
  subst ev
  have ea := ha a' G' rp
  subst ea
  have inO : a' ∈ Os j := by rw [e2]; exact List.mem_cons_self
  have inC : W.C a' := r.inC (by rw [hm]; rfl) inO
  have muA := r.mu a' inC
  have keep : ∀ b o', W.H b = some o' → ¬ b = a' → upd W.H a' o b = some o' := fun b o' e n => by rw [upd_ne n]; exact e
  obtain ⟨G2, rp2, s2⟩ := h (upd W.H a' o) (kp_of keep fun x e => by rw [e]; exact muA) upd_same a' G' rp rfl
  have nO : ∀ x ∈ G, ∀ i, ¬ x ∈ Os i := fun x hx => r.notOwn (hG x hx).1 (hG x hx).2.1
  have tr : ∀ x, Tr W.H x → Tr (upd W.H a' o) x := fun x ⟨u, e⟩ => by
    by_cases q : x = a'
    · subst q; exact ⟨o, upd_same⟩
    · exact ⟨u, by rw [upd_ne q]; exact e⟩
  have lσ : j < σ.length := by rw [r.ls]; exact hj
  have single : ∀ x, x ∈ [a'] → x = a' := fun x hx => List.mem_singleton.mp hx
  have k1 := r.put (j := j) (m' := .o1) (v' := sl σ j) (t' := some t') (O' := [a']) (H' := upd W.H a' o) (S' := fun x => W.S x ∨ x ∈ G) hj hl (fun b u e n => keep b u e fun q => n (by rw [e2, q]; exact List.mem_cons_self)) tr (fun _ h => .inl h)
    (fun x q => tr x (q.elim (r.trS x) fun g => (hG x g).2.2.1)) (fun i x _ hx q => q.elim (r.sh i x hx) fun g => nO x g i hx) (fun u e => by cases e; exact ⟨v, a', G2, e1, rfl, rp2, fun x hx => (s2 x hx).elim (fun q => .inl (g x q)) .inr⟩) (List.nodup_cons.mpr ⟨by simp, List.nodup_nil⟩)
    (fun x hx i n => by rw [single x hx]; exact fun q => r.dj i j a' n q inO) (fun x hx => by rw [single x hx]; exact fun q => q.elim (r.sh j a' inO) fun g => nO a' g j inO) (fun x hx => by rw [single x hx]; exact ⟨o, upd_same⟩) (fun _ x hx => by rw [single x hx, upd_same]; exact hu)
  have k2 := r.put_fr0 (W0 := W0) (j := j) (m' := .o1) (O' := [a']) (H' := upd W.H a' o) (S' := fun x => W.S x ∨ x ∈ G) f0 hl (by decide) (fun b u e n => keep b u e fun q => n (by rw [e2, q]; exact List.mem_cons_self)) tr (fun _ h => .inl h) (fun x q => q.elim (f0.shn x) fun q => (hG x q).2.2.2) (fun x hx => by rw [single x hx]; exact f0.chg a' inC)
  rw [set_sl lσ, show mo.set j .o1 = mo from ?_] at k1
  · refine ⟨_, ?_, ⟨_, k1⟩, k2⟩
    rfl
  · refine md_ext (by rw [List.length_set]) fun i => ?_
    by_cases q : i = j
    · subst q; rw [md_set_self hj, hm]
    · rw [md_set_ne (Ne.symm q)]
end
end Tm
namespace Tm
open PySem PySem.Spec PyProof.Rows L2
def sAsg (i : Nat) (f : EF) : SF := fun Γ => (f Γ).sB fun Γ1 t => .nx (Γ1.set i (some t))
def sExpr (f : EF) : SF := fun Γ => (f Γ).sB fun Γ1 _ => .nx Γ1
def sIf (u : Env → Res Bool) (a b : SF) : SF := fun Γ => (u Γ).sB fun Γ1 k => if k then a Γ1 else b Γ1
def sBrk : SF := fun Γ => .bk Γ
def sCnt : SF := fun Γ => .ct Γ
def sWhile (c : Env → Res Bool) (b : SF) : Nat → SF
  | 0 => fun _ => .stuck
  | n + 1 => fun Γ => (c Γ).sB fun Γ1 k => if k then (match b Γ1 with
    | .nx Γ2 => sWhile c b n Γ2 | .ct Γ2 => sWhile c b n Γ2 | .bk Γ2 => .nx Γ2 | o => o) else .nx Γ1
abbrev GF := T → Env → Option Env
def sForL (g : GF) (b : SF) : List T → SF
  | [] => fun Γ => .nx Γ
  | t :: ts => fun Γ => match g t Γ with
    | none => .stuck
    | some Γ1 => match b Γ1 with
      | .nx Γ2 => sForL g b ts Γ2 | .ct Γ2 => sForL g b ts Γ2 | .bk Γ2 => .nx Γ2 | o => o
def sFor (f : Env → Res (List T)) (g : GF) (b : SF) : SF := fun Γ => (f Γ).sB fun Γ1 ts => sForL g b ts Γ1
def gN (i : Nat) : GF := fun t Γ => some (Γ.set i (some t))
def gTs : List Nat → List T → Env → Option Env
  | [], [], Γ => some Γ
  | i :: is, t :: ts, Γ => gTs is ts (Γ.set i (some t))
  | _, _, _ => none
def gT (is : List Nat) : GF := fun t Γ => match t with
  | .tup ts => gTs is ts Γ | _ => none
theorem PI.or {X : Cx} {tg iter : Expr} {w w' : TI} (h : PI X tg iter w) (h' : PI X tg iter w') : PI X tg iter (fun σ H R => w σ H R ∨ w' σ H R) := ⟨fun pins s σ H R I q => q.elim (h.run pins s σ H R I) (h'.run pins s σ H R I)⟩
theorem PI.imp {X : Cx} {tg iter : Expr} {w w' : TI} (h : PI X tg iter w) (i : ∀ σ H R, w' σ H R → w σ H R) : PI X tg iter w' := ⟨fun pins s σ H R I q => h.run pins s σ H R I (i _ _ _ q)⟩
theorem PG.imp {X : Cx} {tg : Expr} {t t' : TG} (h : PG X tg t) (i : ∀ v σ H Q, t' v σ H Q → t v σ H Q) : PG X tg t' := ⟨fun pins s σ H v u Q I r q => h.run pins s σ H v u Q I r (i _ _ _ _ q)⟩
theorem PGs.imp {X : Cx} {tg : List Expr} {t t' : TGs} (h : PGs X tg t) (i : ∀ v σ H Q, t' v σ H Q → t v σ H Q) : PGs X tg t' := ⟨fun pins s σ H v u Q I r q => h.run pins s σ H v u Q I r (i _ _ _ _ q)⟩
/-- what an iterator yields as long as the world moves from Wb -/
def ItSp (K : PySem.W.Frag) (cm : Cm) (J : It) (items : List T) (Wb : Wd) : Prop := ∀ W, Fr Wb W →
  (∀ i t, items[i]? = some t → J.go i W.H ∧ ∀ x H', J.yld i W.H x H' → Same W.H H' ∧ ∃ G, Rep K cm H' t x G ∧ ∀ y ∈ G, Wb.S y) ∧ J.stop items.length W.H
section
variable (K : PySem.W.Frag) (cm : Cm) (mo mo1 : List Mode)
def tI (E : XK) (f : Env → Res (List T)) : TI := fun σ H R' => ∃ W Γ, W.H = H ∧ R K cm mo W σ Γ ∧ PostE K cm mo E W σ (f Γ) fun items W1 =>
  ∀ J H2 (G : Addr → Prop), Same W1.H H2 → (∀ x, G x → ¬ W1.C x ∧ ¬ W1.L x ∧ Tr H2 x ∧ (W.S x ∨ W.C x ∨ ¬ Tr W.H x)) → ItSp K cm J items ⟨H2, W1.C, W1.L, fun x => W1.S x ∨ G x⟩ → R' J H2
def tG (fi : List Nat) (g : GF) : TG := fun v σ H Q => ∃ W Γ t G, W.H = H ∧ R K cm mo W σ Γ ∧ Rep K cm H t v G ∧ (∀ x ∈ G, W.S x) ∧ ∃ Γ', g t Γ = some Γ' ∧ ∀ σ' W', R K cm mo1 W' σ' Γ' → Fr W W' → Fx fi σ σ' → Q σ' W'.H
def tGs (fi : List Nat) (g : List T → Env → Option Env) : TGs := fun vs σ H Q => ∃ W Γ ts G, W.H = H ∧ R K cm mo W σ Γ ∧ Reps K cm H ts vs G ∧ (∀ x ∈ G, W.S x) ∧ ∃ Γ', g ts Γ = some Γ' ∧ ∀ σ' W', R K cm mo1 W' σ' Γ' → Fr W W' → Fx fi σ σ' → Q σ' W'.H
end
abbrev Im (X : Cx) (cm : Cm) (mo : List Mode) (E : XK) (tg iter : Expr) (f : Env → Res (List T)) : Prop := PI X tg iter (tI X.K cm mo E f)
abbrev Gm (X : Cx) (cm : Cm) (fi : List Nat) (mo mo1 : List Mode) (tg : Expr) (g : GF) : Prop := PG X tg (tG X.K cm mo mo1 fi g)
abbrev Gs (X : Cx) (cm : Cm) (fi : List Nat) (mo mo1 : List Mode) (tg : List Expr) (g : List T → Env → Option Env) : Prop := PGs X tg (tGs X.K cm mo mo1 fi g)
section
variable {K : PySem.W.Frag} {cm : Cm} {mo mo' mo1 : List Mode} {W W1 : Wd} {σ σ1 : L2.St} {Γ : Env} {J : Exits} {E : XK} {D : Ends}
theorem Fx.set {fi : List Nat} {i : Nat} {v : Option V} (h : ¬ i ∈ fi) : Fx fi σ (σ.set i v) := fun j hj => sl_set_ne fun e => h (e ▸ hj)
/-- name = value: the two ways it goes on -/
theorem asgV_core {i : Nat} {kd : Kd} {ef : EF} {te : TE} (ht : ∀ σ H Q, tE K cm mo kd E ef σ H Q → te σ H Q) (l : kle kd .shared = true) (hj : i < mo.length) (hl : md mo i ≠ .lk) (nf : ¬ i ∈ J.fi) (w : mleL J.r mo = true) :
    ∀ D σ H, tS K cm mo (mo.set i .vw) J E (sAsg i ef) D σ H → tAsg te (gName i) D σ H := fun D σ H ⟨W, Γ, e1, r, q⟩ => by
  subst e1
  refine ht σ W.H _ ⟨W, Γ, rfl, r, PostE.imp (PostS.bind q w) fun t W1 Γ1 ex r1 f1 q1 v G h kk => ?_⟩
  obtain ⟨W2, e2, r2, f2⟩ := r1.setV f1 hj hl h (kk.le l)
  have := q1 Γ1 ex r1 f1 _ W2 r2 f2 (Fx.set nf)
  rw [e2] at this
  exact this
theorem asgO_core {i : Nat} {ef : EF} {te : TE} (ht : ∀ σ H Q, tE K cm mo .fr1 E ef σ H Q → te σ H Q) (hj : i < mo.length) (hl : md mo i ≠ .lk) (nf : ¬ i ∈ J.fi) (w : mleL J.r mo = true) :
    ∀ D σ H, tS K cm mo (mo.set i .o1) J E (sAsg i ef) D σ H → tAsg te (gName i) D σ H := fun D σ H ⟨W, Γ, e1, r, q⟩ => by
  subst e1
  refine ht σ W.H _ ⟨W, Γ, rfl, r, PostE.imp (PostS.bind q w) fun t W1 Γ1 ex r1 f1 q1 v G h kk => ?_⟩
  obtain ⟨W2, e2, r2, f2⟩ := r1.setO f1 hj hl h kk
  have := q1 Γ1 ex r1 f1 _ W2 r2 f2 (Fx.set nf)
  rw [e2] at this
  exact this
end
section
variable {X : Cx} {cm : Cm} {mo mo' mo1 mo2 : List Mode} {J : Exits} {E : XK} {n : Nat} {a b c e tg iter : Expr} {es : List Expr} {st : Stmt} {rest body body2 : List Stmt} {pos p : Pos} {kd k1 k2 : Kd} {f g : PF} {ef eg : EF} {uf : Env → Res Bool} {m m1 m2 : SF} {xf : Env → Res (List T)} {gf : GF}
theorem s_asgV {i : Nat} {x : Str} (hN : X.N.Nodup) (hi : X.N[i]? = some x) (hx : Loc X.env.scope x) (l : kle kd .shared = true) (hj : i < mo.length) (hl : md mo i ≠ .lk) (nf : ¬ i ∈ J.fi) (w : mleL J.r mo = true) (he : Ee X cm mo E kd e ef)
    (hs : swapsWith e (some (.Name x p)) pos.line X.env = pure false := by rfl) (hf : X.fn x = true ∨ X.env.scope.names.lookup x = some .local := by first | exact .inl rfl | exact .inr rfl | assumption) :
    Sm X cm J E mo (.Assign [.Name x p] e pos) (mo.set i .vw) (sAsg i ef) := PS.imp (ps_set hN hi hx he hs hf) (asgV_core (fun _ _ _ h => h) l hj hl nf w)
theorem s_asgO {i : Nat} {x : Str} (hN : X.N.Nodup) (hi : X.N[i]? = some x) (hx : Loc X.env.scope x) (hj : i < mo.length) (hl : md mo i ≠ .lk) (nf : ¬ i ∈ J.fi) (w : mleL J.r mo = true) (he : Ee X cm mo E .fr1 e ef)
    (hs : swapsWith e (some (.Name x p)) pos.line X.env = pure false := by rfl) (hf : X.fn x = true ∨ X.env.scope.names.lookup x = some .local := by first | exact .inl rfl | exact .inr rfl | assumption) :
    Sm X cm J E mo (.Assign [.Name x p] e pos) (mo.set i .o1) (sAsg i ef) := PS.imp (ps_set hN hi hx he hs hf) (asgO_core (fun _ _ _ h => h) hj hl nf w)
theorem s_expr (w : mleL J.r mo = true) (he : Ee X cm mo E kd e ef) (hs : swapsWith e none pos.line X.env = pure false := by rfl) : Sm X cm J E mo (.Expr e pos) mo (sExpr ef) := PS.imp (ps_expr he hs) fun D σ H ⟨W, Γ, e1, r, q⟩ => by
  subst e1
  exact ⟨W, Γ, rfl, r, PostE.imp (PostS.bind q w) fun t W1 Γ1 ex r1 f1 q1 v G h kk => q1 Γ1 ex r1 f1 σ W1 r1 f1 Fx.refl⟩
theorem s_pass : Sm X cm J E mo (.Pass pos) mo sNil := PS.imp ps_pass fun D σ H ⟨W, Γ, e1, r, q⟩ => by
  subst e1
  exact q σ W r (Fr.refl _) Fx.refl
theorem s_brk (w : mleL J.b mo = true) : Sm X cm J E mo (.Break pos) mo' sBrk := PS.imp ps_break fun D σ H ⟨W, Γ, e1, r, q⟩ => by
  subst e1
  obtain ⟨W2, e2, r2, f2⟩ := r.weak w
  have := q σ W2 r2 f2 Fx.refl
  rw [e2] at this; exact this
theorem s_cnt (w : mleL J.c mo = true) : Sm X cm J E mo (.Continue pos) mo' sCnt := PS.imp ps_continue fun D σ H ⟨W, Γ, e1, r, q⟩ => by
  subst e1
  obtain ⟨W2, e2, r2, f2⟩ := r.weak w
  have := q σ W2 r2 f2 Fx.refl
  rw [e2] at this; exact this
theorem s_if (w : mleL J.r mo = true) (hc : Be X cm mo E c uf) (ha : Sb X cm J E mo body mo' m1) (hb : Sb X cm J E mo body2 mo' m2) : Sm X cm J E mo (.If c body body2 pos) mo' (sIf uf m1 m2) := PS.imp (ps_if hc ha hb) fun D σ H ⟨W, Γ, e1, r, q⟩ => by
  subst e1
  refine ⟨W, Γ, rfl, r, PostE.imp (PostS.bind q w) fun k W1 Γ1 ex r1 f1 q1 => ?_⟩
  have q2 := q1 Γ1 ex r1 f1
  cases k with
  | true => exact iteT ⟨W1, Γ1, rfl, r1, PostS.start q2 f1 Fx.refl⟩
  | false => exact iteF ⟨W1, Γ1, rfl, r1, PostS.start q2 f1 Fx.refl⟩
theorem s_while (fuel : Nat) (w : mleL J.r mo = true) (hp : PassesOwn (model X.prog X.w) X.A X.env X.xe) (hc : Be X cm mo E c uf) (hb : Sb X cm { J with b := mo, c := mo } E mo body mo m) : Sm X cm J E mo (.While c body [] pos) mo (sWhile uf m fuel) := PS.imp (ps_while hp hc hb) fun D σ H ⟨W, Γ, e1, r, q⟩ => by
  subst e1
  refine ⟨fun n σ H => ∃ W Γ, W.H = H ∧ R X.K cm mo W σ Γ ∧ PostS X.K cm J mo E W σ D (sWhile uf m n Γ), ⟨fuel, W, Γ, rfl, r, q⟩, ?_⟩
  rintro n σ1 H1 ⟨W1, Γ1, rfl, r1, q1⟩
  cases n with
  | zero => exact q1.elim
  | succ n =>
    refine ⟨W1, Γ1, rfl, r1, PostE.imp (PostS.bind (r := uf Γ1) q1 w) fun k W2 Γ2 ex r2 f2 q2 => ?_⟩
    have q3 := q2 Γ2 ex r2 f2
    cases k with
    | false => exact iteF (q3 σ1 W2 r2 f2 Fx.refl)
    | true =>
      refine iteT ⟨fun σ' H' => ∃ W Γ, W.H = H' ∧ R X.K cm mo W σ' Γ ∧ PostS X.K cm J mo E W σ' D (sWhile uf m n Γ), fun σ' H' h => ⟨n, Nat.lt_succ_self n, h⟩, W2, Γ2, rfl, r2, ?_⟩
      have q4 := PostS.start q3 f2 Fx.refl
      change PostS X.K cm J mo E W2 σ1 D (match m Γ2 with | .nx Γ2 => sWhile uf m n Γ2 | .ct Γ2 => sWhile uf m n Γ2 | .bk Γ2 => .nx Γ2 | o => o) at q4
      cases em : m Γ2 with
      | nx Γ3 => rw [em] at q4; exact fun σ' W' r' f' x' => ⟨W', Γ3, rfl, r', PostS.start q4 f' x'⟩
      | ct Γ3 => rw [em] at q4; exact fun σ' W' r' f' x' => ⟨W', Γ3, rfl, r', PostS.start q4 f' x'⟩
      | bk Γ3 => rw [em] at q4; exact q4
      | rt t Γ3 => rw [em] at q4; exact q4
      | ex c Γ3 => rw [em] at q4; exact q4
      | stuck => rw [em] at q4; exact q4
theorem s_for (w : mleL J.r mo = true) (hp : PassesOwn (model X.prog X.w) X.A X.env X.xe) (hc : X.calm = true) (hi : Im X cm mo E tg iter xf) (hg : Gm X cm J.fi mo mo1 tg gf) (hb : Sb X cm { J with b := mo, c := mo } E mo1 body mo m)
    (hs : ∀ x, foldedSetIterable iter X.env x = pure x := by intro _; rfl) : Sm X cm J E mo (.For tg iter body [] pos) mo (sFor xf gf m) := PS.imp (ps_for hp hc hi hg hb hs) fun D σ H ⟨W, Γ, e1, r, q⟩ => by
  subst e1
  refine ⟨W, Γ, rfl, r, PostE.imp (PostS.bind q w) fun items W1 Γ1 ex r1 f1 q1 Jt H2 G s2 g2 sp => ?_⟩
  have q2 := q1 Γ1 ex r1 f1
  -- the world in which what is walked is shared
  have rb : R X.K cm mo ⟨H2, W1.C, W1.L, fun x => W1.S x ∨ G x⟩ σ Γ1 := by
    obtain ⟨Os, r1⟩ := r1
    exact ⟨Os, (r1.same s2).share fun x gx => ⟨(g2 x gx).2.2.1, r1.notOwn (g2 x gx).1 (g2 x gx).2.1⟩⟩
  have fb : Fr W ⟨H2, W1.C, W1.L, fun x => W1.S x ∨ G x⟩ := by
    have f2 := f1.trans (same_fr s2)
    exact ⟨f2.keep, f2.chg, f2.lck, fun x h => .inl (f2.shr x h), fun x h => h.elim (f2.shn x) fun gx => (g2 x gx).2.2.2, f2.tr⟩
  have q3 := PostS.start q2 fb Fx.refl
  refine ⟨fun i n σ' H' => n = items.length - i ∧ i ≤ items.length ∧ ∃ W' Γ', W'.H = H' ∧ R X.K cm mo W' σ' Γ' ∧ Fr ⟨H2, W1.C, W1.L, fun x => W1.S x ∨ G x⟩ W' ∧ PostS X.K cm J mo E W' σ' D (sForL gf m (items.drop i) Γ'),
    ⟨items.length, rfl, Nat.zero_le _, _, Γ1, rfl, rb, Fr.refl _, q3⟩, ?_⟩
  rintro i n σ3 H3 ⟨rfl, hle, W3, Γ3, rfl, r3, f3, q4⟩
  obtain ⟨it, stop⟩ := sp W3 f3
  by_cases hlt : i < items.length
  · obtain ⟨go, yl⟩ := it i items[i] (List.getElem?_eq_getElem hlt)
    refine .inr ⟨go, fun σ' H' => ∃ W' Γ', W'.H = H' ∧ R X.K cm mo W' σ' Γ' ∧ Fr ⟨H2, W1.C, W1.L, fun x => W1.S x ∨ G x⟩ W' ∧ PostS X.K cm J mo E W' σ' D (sForL gf m (items.drop (i + 1)) Γ'), fun σ' H' h => ⟨items.length - (i + 1), by omega, rfl, hlt, h⟩, fun x H' y => ?_⟩
    obtain ⟨s4, Gx, hx, gx⟩ := yl x H' y
    rw [List.drop_eq_getElem_cons hlt] at q4
    have r4 := r3.same s4
    have f4 : Fr W3 { W3 with H := H' } := same_fr s4
    have q5 := PostS.start q4 f4 Fx.refl
    unfold sForL at q5
    cases eg : gf items[i] Γ3 with
    | none => rw [eg] at q5; exact q5.elim
    | some Γ4 =>
      rw [eg] at q5
      refine ⟨{ W3 with H := H' }, Γ3, items[i], Gx, rfl, r4, hx, fun y hy => f3.shr y (gx y hy), Γ4, eg, fun σ5 W5 r5 f5 x5 => ?_⟩
      have q6 := PostS.start q5 f5 x5
      have f6 : Fr ⟨H2, W1.C, W1.L, fun x => W1.S x ∨ G x⟩ W5 := f3.trans (f4.trans f5)
      refine ⟨W5, Γ4, rfl, r5, ?_⟩
      change PostS X.K cm J mo E W5 σ5 D (match m Γ4 with | .nx Γ2 => sForL gf m (items.drop (i + 1)) Γ2 | .ct Γ2 => sForL gf m (items.drop (i + 1)) Γ2 | .bk Γ2 => .nx Γ2 | o => o) at q6
      cases em : m Γ4 with
      | nx Γ7 => rw [em] at q6; exact fun σ' W' r' f' x' => ⟨W', Γ7, rfl, r', f6.trans f', PostS.start q6 f' x'⟩
      | ct Γ7 => rw [em] at q6; exact fun σ' W' r' f' x' => ⟨W', Γ7, rfl, r', f6.trans f', PostS.start q6 f' x'⟩
      | bk Γ7 => rw [em] at q6; exact q6
      | rt t Γ7 => rw [em] at q6; exact q6
      | ex c Γ7 => rw [em] at q6; exact q6
      | stuck => rw [em] at q6; exact q6
  · have e : i = items.length := by omega
    subst e
    rw [List.drop_length] at q4
    exact .inl ⟨stop, q4 σ3 W3 r3 (Fr.refl _) Fx.refl⟩
/-! ### targets -/
theorem g_name {i : Nat} {x : Str} {fi : List Nat} (hN : X.N.Nodup) (hi : X.N[i]? = some x) (hx : Loc X.env.scope x) (hj : i < mo.length) (hl : md mo i ≠ .lk) (nf : ¬ i ∈ fi) (hf : X.fn x = true ∨ X.env.scope.names.lookup x = some .local := by first | exact .inl rfl | exact .inr rfl | assumption) :
    Gm X cm fi mo (mo.set i .vw) (.Name x pos) (gN i) := PG.imp (pg_name hN hi hx hf) fun v σ H Q ⟨W, Γ, t, G, e1, r, h, g, Γ', e2, q⟩ => by
  subst e1
  cases e2
  obtain ⟨W2, e3, r2, f2⟩ := r.setV (Fr.refl _) hj hl h fun x hx => ⟨.inl (g x hx), r.sC x (g x hx), r.sL x (g x hx)⟩
  have := q _ W2 r2 f2 (Fx.set nf)
  rw [e3] at this; exact this
theorem gs_nil {fi : List Nat} : Gs X cm fi mo mo [] (gTs []) := PGs.imp pgs_nil fun v σ H Q ⟨W, Γ, ts, G, e1, r, h, g, Γ', e2, q⟩ => by
  subst e1
  cases ts with
  | nil => cases e2; exact ⟨h.1, q σ W r (Fr.refl _) Fx.refl⟩
  | cons t ts => cases e2
theorem gs_cons {i : Nat} {is : List Nat} {fi : List Nat} {e : Expr} {es : List Expr} (h1 : Gm X cm fi mo mo1 e (gN i)) (h2 : Gs X cm fi mo1 mo2 es (gTs is)) (hs : (assignEach (e :: es) X.env).map (·.2) = assign e X.env :: (assignEach es X.env).map (·.2) := by rfl) :
    Gs X cm fi mo mo2 (e :: es) (gTs (i :: is)) := PGs.imp (pgs_cons h1 h2 hs) fun v σ H Q ⟨W, Γ, ts, G, e1, r, h, g, Γ', e2, q⟩ => by
  subst e1
  cases ts with
  | nil => cases e2
  | cons t ts =>
    obtain ⟨x, rr, F1, F2, rfl, rfl, r1, r2⟩ := h
    refine ⟨x, rr, rfl, W, Γ, t, F1, rfl, r, r1, fun y hy => g y (List.mem_append_left _ hy), _, rfl, fun σ' W' r' f' x' => ?_⟩
    refine ⟨W', _, ts, F2, rfl, r', r2.step r f' fun y hy => r.sC y (g y (List.mem_append_right _ hy)), fun y hy => f'.shr y (g y (List.mem_append_right _ hy)), Γ', e2, fun σ2 W2 r2 f2 x2 => ?_⟩
    exact q σ2 W2 r2 (f'.trans f2) (x'.trans x2)
theorem g_tup {is : List Nat} {fi : List Nat} {es : List Expr} {k : Nat} {n : Nat} (hc : X.calm = true) (h : Gs X cm fi mo mo1 es (gTs is)) (hl : is.length = n) (hn : (assignEach es X.env).length = n := by rfl) (hst : (assignEach es X.env).findIdx? (·.1) = none := by rfl) :
    Gm X cm fi mo mo1 (.Tuple es k pos) (gT is) := PG.imp (pg_tup hc h hn hst) fun v σ H Q ⟨W, Γ, t, G, e1, r, h, g, Γ', e2, q⟩ => by
  subst e1
  unfold gT at e2
  split at e2
  · rename_i ts
    obtain ⟨a, xs, rfl, s, rp⟩ := h
    have len : ts.length = is.length := by
      have aux : ∀ {is : List Nat} {ts : List T} {Γ Γ' : Env}, gTs is ts Γ = some Γ' → ts.length = is.length := by
        intro is
        induction is with
        | nil => intro ts Γ Γ' h; cases ts with
          | nil => rfl
          | cons _ _ => cases h
        | cons i is ih => intro ts Γ Γ' h; cases ts with
          | nil => cases h
          | cons t ts => exact congrArg (· + 1) (ih h)
      exact aux e2
    exact ⟨a, xs, rfl, .inl s.1, by rw [rp.len, len, hl], W, Γ, ts, G, rfl, r, rp, g, Γ', e2, q⟩
  · cases e2
end
end Tm
namespace Tm
open PySem PySem.Spec PyProof.Rows L2
/-! ### what a for walks -/
def itemsT : T → Option (List T)
  | .lst ts => some ts | .tup ts => some ts | .scr ns => some (ns.map T.int) | _ => none
def eItems (f : EF) : Env → Res (List T) := fun Γ => (f Γ).bind fun Γ1 t => .of Γ1 (itemsT t)
def rangeT (lo hi : Int) : Option (List T) := if -1000000 ≤ lo ∧ lo ≤ 1000000 ∧ -1000000 ≤ hi ∧ hi ≤ 1000000 then some ((List.range (hi - lo).toNat).map fun k : Nat => T.int (lo + (k : Int))) else none
def rng1 : List T → Option (List T)
  | [.int j] => rangeT 0 j | _ => none
def rng2 : List T → Option (List T)
  | [.int i, .int j] => rangeT i j | _ => none
def eArgs (op : List T → Option (List T)) (f : Env → Res (List T)) : Env → Res (List T) := fun Γ => (f Γ).bind fun Γ1 xs => .of Γ1 (op xs)
theorem rangeT_some {lo hi : Int} {ts : List T} (h : rangeT lo hi = some ts) : (-1000000 ≤ lo ∧ lo ≤ 1000000 ∧ -1000000 ≤ hi ∧ hi ≤ 1000000) ∧ ts = (List.range (hi - lo).toNat).map fun k : Nat => T.int (lo + (k : Int)) := by
  unfold rangeT at h
  split at h
  · cases h; exact ⟨‹_›, rfl⟩
  · cases h
section
variable {K : PySem.W.Frag} {cm : Cm} {mo mo' mo1 : List Mode} {W W1 Wb : Wd} {σ σ1 : L2.St} {Γ : Env} {J : Exits} {E : XK} {D : Ends}
theorem itSp_range (lo : Int) (n : Nat) : ItSp K cm (Itr lo n) ((List.range n).map fun k : Nat => T.int (lo + (k : Int))) Wb := fun W f => by
  refine ⟨fun i t e => ?_, by rw [List.length_map, List.length_range]; exact Nat.le_refl n⟩
  rw [List.getElem?_map] at e
  cases q : (List.range n)[i]? with
  | none => rw [q] at e; cases e
  | some k =>
    rw [q] at e
    obtain ⟨hi, hk⟩ := List.getElem?_eq_some_iff.mp q
    rw [List.getElem_range] at hk
    rw [List.length_range] at hi
    subst hk
    cases e
    refine ⟨hi, fun x H' y => ?_⟩
    obtain ⟨e1, e2⟩ := y
    subst e1 e2
    exact ⟨fun _ _ h => h, [], ⟨rfl, rfl⟩, fun y hy => by cases hy⟩
theorem itSp_list {a : Addr} {ts : List T} {xs : List V} {G : List Addr} (h : Wb.H a = some (.lst xs)) (nc : ¬ Wb.C a) (r : Reps K cm Wb.H ts xs G) (g : ∀ x ∈ G, Wb.S x) (sc : ∀ x, Wb.S x → ¬ Wb.C x) (mu : ∀ x, Wb.C x → Mut (Wb.H x)) : ItSp K cm (Itl K a) ts Wb := fun W f => by
  have e := f.keep a _ h nc
  have r2 := r.kp (f.kp mu) _ _ _ fun x hx => sc x (g x hx)
  refine ⟨fun i t et => ?_, ⟨xs, SqL.of e, by rw [r.len]; exact Nat.le_refl _⟩⟩
  obtain ⟨x, Gx, e1, rx, s⟩ := r2.get et
  refine ⟨⟨xs, x, SqL.of e, e1⟩, fun y H' hy => ?_⟩
  obtain ⟨e2, e3⟩ := hy
  subst e2
  have e4 := e3 xs (SqL.of e)
  rw [e1] at e4
  cases e4
  exact ⟨fun _ _ h => h, Gx, rx, fun y hy => g y (s y hy)⟩
theorem itSp_tup {a : Addr} {ts : List T} {xs : List V} {G : List Addr} (h : Rd Wb.H a (.tup xs)) (r : Reps K cm Wb.H ts xs G) (g : ∀ x ∈ G, Wb.S x) (sc : ∀ x, Wb.S x → ¬ Wb.C x) (mu : ∀ x, Wb.C x → Mut (Wb.H x)) : ItSp K cm (Itt K a) ts Wb := fun W f => by
  have e := (f.kp mu).tupR h
  have r2 := r.kp (f.kp mu) _ _ _ fun x hx => sc x (g x hx)
  refine ⟨fun i t et => ?_, ⟨xs, .inl e, by rw [r.len]; exact Nat.le_refl _⟩⟩
  obtain ⟨x, Gx, e1, rx, s⟩ := r2.get et
  refine ⟨⟨xs, x, .inl e, e1⟩, fun y H' hy => ?_⟩
  obtain ⟨e2, e3⟩ := hy
  subst e2
  have e4 := e3 xs (.inl e)
  rw [e1] at e4
  cases e4
  exact ⟨fun _ _ h => h, Gx, rx, fun y hy => g y (s y hy)⟩
theorem itSp_scr {a : Addr} {ns : List Int} (h : SqLz K Wb.H a (ns.map V.int)) (mu : ∀ x, Wb.C x → Mut (Wb.H x)) : ItSp K cm (Itl K a) (ns.map T.int) Wb := fun W f => by
  have e := ((f.kp mu).sqLz h).sq
  refine ⟨fun i t et => ?_, ⟨_, e, by rw [List.length_map, List.length_map]; exact Nat.le_refl _⟩⟩
  obtain ⟨x, Gx, e1, rx, s⟩ := (Reps.of_ints (K := K) (cm := cm) (H := W.H) ns).get et
  refine ⟨⟨_, x, e, e1⟩, fun y H' hy => ?_⟩
  obtain ⟨e2, e3⟩ := hy
  subst e2
  have e4 := e3 _ e
  rw [e1] at e4
  cases e4
  exact ⟨fun _ _ h => h, Gx, rx, fun y hy => by cases s y hy⟩
end
section
variable {X : Cx} {cm : Cm} {mo mo' mo1 mo2 : List Mode} {J : Exits} {E : XK} {n : Nat} {a b c e tg iter : Expr} {es : List Expr} {st : Stmt} {rest body body2 : List Stmt} {pos p : Pos} {kd k1 k2 : Kd} {f g : PF} {ef eg : EF} {uf : Env → Res Bool} {m m1 m2 : SF} {xf : Env → Res (List T)} {gf : GF}
theorem im_seq (l : kle kd .shared = true) (ha : Ee X cm mo E kd iter ef) : Im X cm mo E tg iter (eItems ef) := PI.imp (PI.or (pi_list ha) (pi_tup ha)) fun σ H R' ⟨W, Γ, e1, r, q⟩ => by
  subst e1
  have pe := PostE.bind (r := ef Γ) q
  cases er : ef Γ with
  | stuck => rw [er] at pe; exact (show False from pe).elim
  | ex c Γ1 =>
    rw [er] at pe
    refine .inl ⟨W, Γ, rfl, r, ?_⟩
    rw [er]; exact pe
  | ok Γ1 t =>
    rw [er] at pe
    have q1 : ∀ W1, R X.K cm mo W1 σ Γ1 → Fr W W1 → ∃ items, itemsT t = some items ∧ ∀ J (G : Addr → Prop), (∀ x, G x → ¬ W1.C x ∧ ¬ W1.L x ∧ Tr W1.H x ∧ (W.S x ∨ W.C x ∨ ¬ Tr W.H x)) → ItSp X.K cm J items ⟨W1.H, W1.C, W1.L, fun x => W1.S x ∨ G x⟩ → R' J W1.H := fun W1 r1 f1 => by
      obtain ⟨items, ei, q2⟩ := PostE.of (pe W1 r1 f1 Γ1 rfl r1 f1)
      exact ⟨items, ei, fun J G g sp => q2 W1 r1 (Fr.refl _) J W1.H G (fun _ _ h => h) g sp⟩
    cases t with
    | lst ts =>
      refine .inl ⟨W, Γ, rfl, r, ?_⟩
      rw [er]
      intro W1 r1 f1 v G h kk
      obtain ⟨items, ei, q2⟩ := q1 W1 r1 f1
      cases ei
      have ks : ∀ x ∈ G, (W.S x ∨ W.C x ∨ ¬ Tr W.H x) ∧ ¬ W1.C x ∧ ¬ W1.L x := kk.le l
      have sc : ∀ x, (W1.S x ∨ x ∈ G) → ¬ W1.C x := fun x hx => hx.elim (r1.sC x) fun hx => (ks x hx).2.1
      have tr := h.tr
      obtain ⟨a, xs, G', rfl, rp, s, rfl⟩ := h
      exact ⟨a, rfl, ⟨xs, SqL.of s⟩, q2 (Itl X.K a) (fun x => x ∈ a :: G') (fun x hx => ⟨(ks x hx).2.1, (ks x hx).2.2, tr x hx, (ks x hx).1⟩) (itSp_list (Wb := ⟨W1.H, W1.C, W1.L, fun x => W1.S x ∨ x ∈ a :: G'⟩) s (ks a List.mem_cons_self).2.1 rp (fun x hx => .inr (List.mem_cons_of_mem _ hx)) sc r1.mu)⟩
    | tup ts =>
      refine .inr ⟨W, Γ, rfl, r, ?_⟩
      rw [er]
      intro W1 r1 f1 v G h kk
      obtain ⟨items, ei, q2⟩ := q1 W1 r1 f1
      cases ei
      have ks : ∀ x ∈ G, (W.S x ∨ W.C x ∨ ¬ Tr W.H x) ∧ ¬ W1.C x ∧ ¬ W1.L x := kk.le l
      have sc : ∀ x, (W1.S x ∨ x ∈ G) → ¬ W1.C x := fun x hx => hx.elim (r1.sC x) fun hx => (ks x hx).2.1
      have tr := h.tr
      obtain ⟨a, xs, rfl, s, rp⟩ := h
      exact ⟨a, rfl, ⟨xs, .inl s.1⟩, q2 (Itt X.K a) (fun x => x ∈ G) (fun x hx => ⟨(ks x hx).2.1, (ks x hx).2.2, tr x hx, (ks x hx).1⟩) (itSp_tup (Wb := ⟨W1.H, W1.C, W1.L, fun x => W1.S x ∨ x ∈ G⟩) s.1 rp (fun x hx => .inr hx) sc r1.mu)⟩
    | scr ns =>
      refine .inl ⟨W, Γ, rfl, r, ?_⟩
      rw [er]
      intro W1 r1 f1 v G h kk
      obtain ⟨items, ei, q2⟩ := q1 W1 r1 f1
      cases ei
      obtain ⟨a, rfl, s, rfl⟩ := h
      exact ⟨a, rfl, ⟨_, s.sq⟩, q2 (Itl X.K a) (fun x => x ∈ ([] : List Addr)) (fun x hx => by cases hx) (itSp_scr (Wb := ⟨W1.H, W1.C, W1.L, fun x => W1.S x ∨ x ∈ ([] : List Addr)⟩) s r1.mu)⟩
    | _ =>
      refine .inl ⟨W, Γ, rfl, r, ?_⟩
      rw [er]
      intro W1 r1 f1 v G h kk
      obtain ⟨items, ei, q2⟩ := q1 W1 r1 f1
      cases ei
theorem tEk_of {W : Wd} {Γ : Env} {σ : L2.St} {Q : List V → Hp → Prop} (r : R X.K cm mo W σ Γ) (q : PostE X.K cm mo E W σ (xf Γ) fun t W' => ∀ v G, Reps X.K cm W'.H t v G → KOk kd W W' G → Q v W'.H) : tEk X.K cm mo kd E xf σ W.H Q := ⟨W, Γ, rfl, r, q⟩
theorem itSp_any {K : PySem.W.Frag} {J : It} {items : List T} {W : Wd} (h : ∀ Wb, ItSp K cm J items Wb) : ItSp K cm J items W := h W
theorem im_range1 (hg : Gl X "range") (hm : X.mg "range" = none) (ha : Ak X cm mo E kd [a] xf) (hs : starEach [a] X.env = [(false, eval a X.env)] := by rfl) : Im X cm mo E tg (.Call (.Name "range" p) [a] [] pos) (eArgs rng1 xf) := PI.imp (pi_range1 hg hm ha hs) fun σ H R' ⟨W, Γ, e1, r, q⟩ => by
  subst e1
  refine tEk_of r (PostE.imp (PostE.bind q) fun ts W1 Γ1 ex r1 f1 q1 vs G h kk => ?_)
  obtain ⟨items, ei, q2⟩ := PostE.of (q1 Γ1 ex r1 f1)
  unfold rng1 at ei
  split at ei
  · rename_i j
    obtain ⟨b, rfl⟩ := rangeT_some ei
    obtain ⟨x, rr, F1, F2, rfl, rfl, h1, h2⟩ := h
    obtain ⟨rfl, rfl⟩ := h2
    refine ⟨j, by rw [h1.1], by omega, by omega, ?_⟩
    have := q2 W1 r1 (Fr.refl _) (Itr 0 j.toNat) W1.H (fun _ => False) (fun _ _ h => h) (fun x hx => hx.elim)
    rw [show (j - 0).toNat = j.toNat by omega] at this
    exact this (itSp_range 0 j.toNat)
  · cases ei
theorem im_range2 (hg : Gl X "range") (hm : X.mg "range" = none) (ha : Ak X cm mo E kd [a, b] xf) (hs : starEach [a, b] X.env = [(false, eval a X.env), (false, eval b X.env)] := by rfl) (hs2 : starEach [b] X.env = [(false, eval b X.env)] := by rfl) :
    Im X cm mo E tg (.Call (.Name "range" p) [a, b] [] pos) (eArgs rng2 xf) := PI.imp (pi_range2 hg hm ha hs hs2) fun σ H R' ⟨W, Γ, e1, r, q⟩ => by
  subst e1
  refine tEk_of r (PostE.imp (PostE.bind q) fun ts W1 Γ1 ex r1 f1 q1 vs G h kk => ?_)
  obtain ⟨items, ei, q2⟩ := PostE.of (q1 Γ1 ex r1 f1)
  unfold rng2 at ei
  split at ei
  · rename_i i j
    obtain ⟨b, rfl⟩ := rangeT_some ei
    obtain ⟨x, rr, F1, F2, rfl, rfl, h1, h2⟩ := h
    obtain ⟨x2, rr2, F3, F4, rfl, rfl, h3, h4⟩ := h2
    obtain ⟨rfl, rfl⟩ := h4
    refine ⟨i, j, by rw [h1.1, h3.1], by omega, ?_⟩
    exact q2 W1 r1 (Fr.refl _) (Itr i (j - i).toNat) W1.H (fun _ => False) (fun _ _ h => h) (fun x hx => hx.elim) (itSp_range i (j - i).toNat)
  · cases ei
end
/-! ### a dict is walked: it is locked meanwhile -/
theorem PS.or {X : Cx} {e : Stmt} {t t' : TS} (h : PS X e t) (h' : PS X e t') : PS X e (fun D σ H => t D σ H ∨ t' D σ H) := ⟨fun pins s σ H D I q => q.elim (h.run pins s σ H D I) (h'.run pins s σ H D I)⟩
theorem kp_lock {H : Hp} {d : Addr} {od : Obj} {u : HO} (hd : H d = some u) (hu : (∃ xs, u = .dK xs) ∨ ∃ xs, u = .dT xs) : Kp (fun _ => False) H (upd H d (.frz od u)) := by
  have ne : ∀ b o, H b = some o → o ≠ u → b ≠ d := fun b o e n q => by subst q; rw [hd] at e; cases e; exact n rfl
  have keep : ∀ b o, H b = some o → o ≠ u → upd H d (.frz od u) b = some o := fun b o e n => by rw [upd_ne (ne b o e n)]; exact e
  refine ⟨fun b xs e _ => keep b _ e ?_, fun b xs e _ => ?_, fun b xs e _ => ?_, fun b o xs e => keep b _ e ?_, fun b xs e => keep b _ e ?_, fun b o xs e => keep b _ e ?_, fun b C dx fs e _ => keep b _ e ?_⟩
  · rcases hu with ⟨_, rfl⟩ | ⟨_, rfl⟩ <;> intro q <;> cases q
  · rcases e with e | ⟨o, e⟩
    · by_cases q : HO.dK xs = u
      · by_cases eb : b = d
        · subst eb; exact .inr ⟨od, by rw [upd_same, q]⟩
        · exact .inl (by rw [upd_ne eb]; exact e)
      · exact .inl (keep b _ e q)
    · exact .inr ⟨o, keep b _ e (by rcases hu with ⟨_, rfl⟩ | ⟨_, rfl⟩ <;> intro q <;> cases q)⟩
  · rcases e with e | ⟨o, e⟩
    · by_cases q : HO.dT xs = u
      · by_cases eb : b = d
        · subst eb; exact .inr ⟨od, by rw [upd_same, q]⟩
        · exact .inl (by rw [upd_ne eb]; exact e)
      · exact .inl (keep b _ e q)
    · exact .inr ⟨o, keep b _ e (by rcases hu with ⟨_, rfl⟩ | ⟨_, rfl⟩ <;> intro q <;> cases q)⟩
  · rcases hu with ⟨_, rfl⟩ | ⟨_, rfl⟩ <;> intro q <;> cases q
  · rcases hu with ⟨_, rfl⟩ | ⟨_, rfl⟩ <;> intro q <;> cases q
  · rcases hu with ⟨_, rfl⟩ | ⟨_, rfl⟩ <;> intro q <;> cases q
  · rcases hu with ⟨_, rfl⟩ | ⟨_, rfl⟩ <;> intro q <;> cases q
theorem kp_unlock {H : Hp} {d : Addr} {od : Obj} {u : HO} (hd : H d = some (.frz od u)) (hu : (∃ xs, u = .dK xs) ∨ ∃ xs, u = .dT xs) : Kp (fun _ => False) H (upd H d u) := by
  have keep : ∀ b o, H b = some o → o ≠ .frz od u → upd H d u b = some o := fun b o e n => by
    have q : b ≠ d := fun q => by subst q; rw [hd] at e; cases e; exact n rfl
    rw [upd_ne q]; exact e
  refine ⟨fun b xs e _ => keep b _ e (by intro q; cases q), fun b xs e _ => ?_, fun b xs e _ => ?_, fun b o xs e => keep b _ e ?_, fun b xs e => keep b _ e (by intro q; cases q), fun b o xs e => keep b _ e (by intro q; cases q; rcases hu with ⟨_, h⟩ | ⟨_, h⟩ <;> cases h), fun b C dx fs e _ => keep b _ e (by intro q; cases q)⟩
  · rcases e with e | ⟨o, e⟩
    · exact .inl (keep b _ e (by intro q; cases q))
    · by_cases eb : b = d
      · subst eb
        rw [hd] at e
        cases e
        exact .inl upd_same
      · exact .inr ⟨o, by rw [upd_ne eb]; exact e⟩
  · rcases e with e | ⟨o, e⟩
    · exact .inl (keep b _ e (by intro q; cases q))
    · by_cases eb : b = d
      · subst eb
        rw [hd] at e
        cases e
        exact .inl upd_same
      · exact .inr ⟨o, by rw [upd_ne eb]; exact e⟩
  · intro q
    cases q
    rcases hu with ⟨_, h⟩ | ⟨_, h⟩ <;> cases h
section
variable {K : PySem.W.Frag} {cm : Cm} {mo mo' mo1 : List Mode} {W W1 Wb : Wd} {σ σ1 : L2.St} {Γ : Env} {J : Exits} {E : XK} {D : Ends}
theorem R.kp0 {H' : Hp} (r : R K cm mo W σ Γ) (k : Kp (fun _ => False) W.H H') (tr : ∀ x, Tr W.H x → Tr H' x) (mu : ∀ x, W.C x → Mut (H' x)) : R K cm mo { W with H := H' } σ Γ := by
  obtain ⟨Os, r⟩ := r
  exact ⟨Os, fun i => (r.slot i).kp k (fun _ h => h) (fun _ _ h => h) fun _ _ h => h, r.nd, r.dj, r.hC, r.hL, r.sh, fun x h => tr x (r.trS x h), fun i x h => tr x (r.trO i x h), mu, r.ls, r.lg⟩
theorem tr_upd {H : Hp} {d : Addr} {u : HO} : ∀ x, Tr H x → Tr (upd H d u) x := fun x ⟨o, e⟩ => by
  by_cases q : x = d
  · subst q; exact ⟨u, upd_same⟩
  · exact ⟨o, by rw [upd_ne q]; exact e⟩
/-- out of a lock nothing is let out (by this layer) -/
def noEx : Out → Out
  | .ex _ _ => .stuck | o => o
/-- the statement within the lock -/
theorem PostS.unlock {d : Addr} {od : Obj} {u : HO} {o : Out} (hd : W.H d = some u) (hu : (∃ xs, u = .dK xs) ∨ ∃ xs, u = .dT xs) (nC : ¬ W.C d) (sd : W.S d) (h : PostS K cm J mo' E W σ D (noEx o)) :
    PostS K cm J mo' E { W with H := upd W.H d (.frz od u) } σ ⟨fun σ' H' => H' d = some (.frz od u) ∧ D.nx σ' (upd H' d u), fun v H' => H' d = some (.frz od u) ∧ D.rt v (upd H' d u), fun σ' H' => H' d = some (.frz od u) ∧ D.bk σ' (upd H' d u), fun σ' H' => H' d = some (.frz od u) ∧ D.ct σ' (upd H' d u)⟩ o := by
  -- what stands behind
  have fz : ∀ {W'}, Fr { W with H := upd W.H d (.frz od u) } W' → W'.H d = some (.frz od u) := fun f => f.keep d _ upd_same nC
  have back : ∀ {mo W' σ' Γ'}, R K cm mo W' σ' Γ' → Fr { W with H := upd W.H d (.frz od u) } W' → R K cm mo { W' with H := upd W'.H d u } σ' Γ' := fun {mo W' σ' Γ'} r f => by
    refine r.kp0 (kp_unlock (fz f) hu) tr_upd fun x c => ?_
    have m := r.mu x c
    have ne : x ≠ d := fun q => by subst q; rw [fz f] at m; exact m
    rw [upd_ne ne]; exact m
  have fr : ∀ {W'}, Fr { W with H := upd W.H d (.frz od u) } W' → Fr W { W' with H := upd W'.H d u } := fun {W'} f => by
    refine ⟨fun b o e n => ?_, fun x c => ?_, f.lck, f.shr, fun x s => ?_, fun x t => tr_upd x (f.tr x (tr_upd x t))⟩
    · by_cases q : b = d
      · subst q; rw [hd] at e; cases e; exact upd_same
      · show upd W'.H d u b = some o
        rw [upd_ne q]
        exact f.keep b o (by show upd W.H d _ b = _; rw [upd_ne q]; exact e) n
    · exact (f.chg x c).elim .inl fun z => .inr fun t => z (tr_upd x t)
    · exact (f.shn x s).elim .inl fun z => z.elim (fun z => .inr (.inl z)) fun z => .inr (.inr fun t => z (tr_upd x t))
  cases o with
  | nx Γ => exact fun σ' W' r f x => ⟨fz f, h σ' _ (back r f) (fr f) x⟩
  | bk Γ => exact fun σ' W' r f x => ⟨fz f, h σ' _ (back r f) (fr f) x⟩
  | ct Γ => exact fun σ' W' r f x => ⟨fz f, h σ' _ (back r f) (fr f) x⟩
  | rt t Γ =>
    refine fun σ' W' v G r f x rp kk => ⟨fz f, h σ' _ v G (back r f) (fr f) x (rp.kp (kp_unlock (fz f) hu) _ _ _ fun _ _ q => q) ?_⟩
    have mu2 : ∀ a, ¬ W'.S a → Mut (W'.H a) → Mut (upd W'.H d u a) := fun a ns m => by
      have ne : a ≠ d := fun q => ns (by rw [q]; exact f.shr d sd)
      rw [upd_ne ne]; exact m
    have t1 : ∀ x, ¬ Tr (upd W.H d (.frz od u)) x → ¬ Tr W.H x := fun x z t => z (tr_upd x t)
    revert kk
    cases J.k with
    | imm => exact fun kk => kk
    | any => exact fun _ => trivial
    | fresh => exact fun kk => ⟨kk.1, fun x hx => by
        obtain ⟨a1, a2, a3, a4, a5⟩ := kk.2 x hx
        exact ⟨a1.elim .inl fun z => .inr (t1 x z), a2, a3, a4, mu2 x a4 a5⟩⟩
    | fr1 =>
      rintro ⟨a, G', rfl, ⟨a1, a2, a3, a4, a5⟩, n, g⟩
      exact ⟨a, G', rfl, ⟨a1.elim .inl fun z => .inr (t1 a z), a2, a3, a4, mu2 a a4 a5⟩, n, fun x hx => ⟨(g x hx).1.elim .inl fun z => .inr (z.elim .inl fun z => .inr (t1 x z)), (g x hx).2⟩⟩
    | shared => exact fun kk x hx => ⟨(kk x hx).1.elim .inl fun z => .inr (z.elim .inl fun z => .inr (t1 x z)), (kk x hx).2⟩
  | ex c Γ => exact (show False from h).elim
  | stuck => exact h
end

def keyV : Key → T
  | .inl i => .int i | .inr x => .str x
def keyTs (ks : List Key) : T := .tup (ks.map keyV)
def keysOf : T → Option (List T)
  | .dct kvs => some (kvs.map fun p => keyV p.1) | .dtt kvs => some (kvs.map fun p => keyTs p.1) | _ => none
/-- for k in d, d a slot -/
def sForD (i : Nat) (g : GF) (b : SF) : SF := fun Γ => match (sl Γ i).bind keysOf with
  | none => .stuck | some ks => noEx (sForL g b ks Γ)
section
variable {K : PySem.W.Frag} {cm : Cm} {mo mo' mo1 : List Mode} {W W1 Wb : Wd} {σ σ1 : L2.St} {Γ : Env} {J : Exits} {E : XK} {D : Ends} {H : Hp}
theorem RepD.keys : ∀ {ts : List (Key × T)} {xs : List (Key × V)} {F : List Addr}, RepD K cm H ts xs F → ts.map (·.1) = xs.map (·.1)
  | [], _, _, h => by rw [h.1]; rfl
  | (k, t) :: ts, _, _, h => by
    obtain ⟨x, r, F1, F2, rfl, rfl, h1, h2⟩ := h
    rw [List.map_cons, List.map_cons, RepD.keys h2]
theorem RepT.keys : ∀ {ts : List (List Key × T)} {xs : List (List Key × V)} {F : List Addr}, RepT K cm H ts xs F → ts.map (·.1) = xs.map (·.1)
  | [], _, _, h => by rw [h.1]; rfl
  | (k, t) :: ts, _, _, h => by
    obtain ⟨x, r, F1, F2, rfl, rfl, h1, h2⟩ := h
    rw [List.map_cons, List.map_cons, RepT.keys h2]
theorem rep_key {k : Key} : Rep K cm H (keyV k) (kV k) [] := by cases k <;> exact ⟨rfl, rfl⟩
theorem reps_keys : ∀ (ks : List Key), Reps K cm H (ks.map keyV) (ks.map kV) []
  | [] => ⟨rfl, rfl⟩
  | k :: ks => ⟨kV k, ks.map kV, [], [], rfl, rfl, rep_key, reps_keys ks⟩
theorem itSp_keys {d : Addr} {od : Obj} {ts : List (Key × T)} {xs : List (Key × V)} (e : ts.map (·.1) = xs.map (·.1)) (h : Wb.H d = some (.frz od (.dK xs))) (nc : ¬ Wb.C d) : ItSp K cm (Itk d od xs) (ts.map fun p => keyV p.1) Wb := fun W f => by
  have ed := f.keep d _ h nc
  have len : ts.length = xs.length := by have := congrArg List.length e; rwa [List.length_map, List.length_map] at this
  refine ⟨fun i t et => ?_, ed, by rw [List.length_map, len]; exact Nat.le_refl _⟩
  rw [List.getElem?_map] at et
  cases q : ts[i]? with
  | none => rw [q] at et; cases et
  | some p =>
    rw [q] at et
    cases et
    have hi : i < xs.length := by rw [← len]; exact (List.getElem?_eq_some_iff.mp q).1
    refine ⟨⟨ed, hi⟩, fun x H' y => ?_⟩
    obtain ⟨e1, k, v, e2, e3⟩ := y
    subst e1 e3
    have e4 : (ts.map (·.1))[i]? = (xs.map (·.1))[i]? := by rw [e]
    rw [List.getElem?_map, List.getElem?_map, q, e2] at e4
    have e5 : p.1 = k := Option.some.inj e4
    rw [← e5]
    exact ⟨fun _ _ h => h, [], rep_key, fun y hy => by cases hy⟩
theorem itSp_keysT {d : Addr} {od : Obj} {ts : List (List Key × T)} {xs : List (List Key × V)} (e : ts.map (·.1) = xs.map (·.1)) (h : Wb.H d = some (.frz od (.dT xs))) (nc : ¬ Wb.C d) : ItSp K cm (Itkt d od xs) (ts.map fun p => keyTs p.1) Wb := fun W f => by
  have ed := f.keep d _ h nc
  have len : ts.length = xs.length := by have := congrArg List.length e; rwa [List.length_map, List.length_map] at this
  refine ⟨fun i t et => ?_, ed, by rw [List.length_map, len]; exact Nat.le_refl _⟩
  rw [List.getElem?_map] at et
  cases q : ts[i]? with
  | none => rw [q] at et; cases et
  | some p =>
    rw [q] at et
    cases et
    have hi : i < xs.length := by rw [← len]; exact (List.getElem?_eq_some_iff.mp q).1
    refine ⟨⟨ed, hi⟩, fun x H' y => ?_⟩
    obtain ⟨e1, k, v, b, e2, e3, e6⟩ := y
    subst e1 e3
    have e4 : (ts.map (·.1))[i]? = (xs.map (·.1))[i]? := by rw [e]
    rw [List.getElem?_map, List.getElem?_map, q, e2] at e4
    have e5 : p.1 = k := Option.some.inj e4
    rw [← e5] at e6
    exact ⟨fun _ _ h => h, [], ⟨b, _, rfl, tup_new e6, reps_keys p.1⟩, fun y hy => by cases hy⟩
end
section
variable {X : Cx} {cm : Cm} {mo mo' mo1 mo2 : List Mode} {J : Exits} {E : XK} {n : Nat} {a b c e tg iter : Expr} {es : List Expr} {st : Stmt} {rest body body2 : List Stmt} {pos p : Pos} {kd k1 k2 : Kd} {f g : PF} {ef eg : EF} {uf : Env → Res Bool} {m m1 m2 : SF} {xf : Env → Res (List T)} {gf : GF}
/-- a slot's dict that is locked: its keys -/
def tID (K : PySem.W.Frag) (cm : Cm) (mo : List Mode) (i : Nat) : TI := fun σ H R' => ∃ W Γ d od, W.H = H ∧ R K cm mo W σ Γ ∧ md mo i = .vw ∧ sl σ i = some (.ref d) ∧
  ∃ ks t u, sl Γ i = some t ∧ keysOf t = some ks ∧ H d = some (.frz od u) ∧ ((∃ xs, u = .dK xs) ∨ ∃ xs, u = .dT xs) ∧ ∀ J, ItSp K cm J ks W → R' J H
theorem im_dict {i : Nat} {x : Str} (hN : X.N[i]? = some x) (hv : Vis X.env.scope x) (h1 : (x == ("__debug__" : Str)) = false := by decide) (h2 : (x == ("__classdict__" : Str)) = false := by decide) : PI X tg (.Name x p) (tID X.K cm mo i) :=
  PI.imp (pi_keys (pe_var hN hv h1 h2)) fun σ H R' ⟨W, Γ, d, od, e1, r, hm, hs, ks, t, u, ht, hk, hd, hu, q⟩ => by
    subst e1
    refine ⟨.ref d, sl_get hs, d, od, rfl, ?_⟩
    obtain ⟨v, G, e3, rp, g⟩ := sl_V r ht hm
    have ev : V.ref d = v := Option.some.inj (hs.symm.trans e3)
    subst ev
    have nc : ∀ x ∈ G, ¬ W.C x := fun x hx => r.sC x (g x hx)
    cases t with
    | dct ts =>
      cases hk
      obtain ⟨a, xs, G', e4, rd, s, rfl⟩ := rp
      cases e4
      have es : u = .dK xs := by
        rcases s with s | ⟨o, s⟩
        · rw [hd] at s; cases s
        · rw [hd] at s; cases s; rfl
      subst es
      exact .inl ⟨xs, hd, q _ (itSp_keys rd.keys hd (nc d List.mem_cons_self))⟩
    | dtt ts =>
      cases hk
      obtain ⟨a, xs, G', e4, rd, s, rfl⟩ := rp
      cases e4
      have es : u = .dT xs := by
        rcases s with s | ⟨o, s⟩
        · rw [hd] at s; cases s
        · rw [hd] at s; cases s; rfl
      subst es
      exact .inr ⟨xs, hd, q _ (itSp_keysT rd.keys hd (nc d List.mem_cons_self))⟩
    | _ => cases hk
/-- the loop over what is locked -/
theorem for_locked {i : Nat} (w : mleL J.r mo = true) (hm : md mo i = .vw) (hp : PassesOwn (model X.prog X.w) X.A X.env X.xe) (hc : X.calm = true) (hi : PI X tg iter (tID X.K cm mo i)) (hg : Gm X cm J.fi mo mo1 tg gf) (hb : Sb X cm { J with b := mo, c := mo } E mo1 body mo m)
    (hs : ∀ x, foldedSetIterable iter X.env x = pure x) : PS X (.For tg iter body [] pos) (fun D σ H => ∃ W Γ d od ks t u, W.H = H ∧ R X.K cm mo W σ Γ ∧ sl σ i = some (.ref d) ∧ sl Γ i = some t ∧ keysOf t = some ks ∧ H d = some (.frz od u) ∧ ((∃ xs, u = .dK xs) ∨ ∃ xs, u = .dT xs) ∧ PostS X.K cm J mo E W σ D (sForL gf m ks Γ)) :=
  PS.imp (ps_for hp hc hi hg hb hs) fun D σ H ⟨W, Γ, d, od, ks, t, u, e1, r, hsd, ht, hk, hd, hu, q3⟩ => by
  subst e1
  refine ⟨W, Γ, d, od, rfl, r, hm, hsd, ks, t, u, ht, hk, hd, hu, fun Jt sp => ?_⟩
  refine ⟨fun i n σ' H' => n = ks.length - i ∧ i ≤ ks.length ∧ ∃ W' Γ', W'.H = H' ∧ R X.K cm mo W' σ' Γ' ∧ Fr W W' ∧ PostS X.K cm J mo E W' σ' D (sForL gf m (ks.drop i) Γ'),
    ⟨ks.length, rfl, Nat.zero_le _, _, Γ, rfl, r, Fr.refl _, q3⟩, ?_⟩
  rintro i n σ3 H3 ⟨rfl, hle, W3, Γ3, rfl, r3, f3, q4⟩
  obtain ⟨it, stop⟩ := sp W3 f3
  by_cases hlt : i < ks.length
  · obtain ⟨go, yl⟩ := it i ks[i] (List.getElem?_eq_getElem hlt)
    refine .inr ⟨go, fun σ' H' => ∃ W' Γ', W'.H = H' ∧ R X.K cm mo W' σ' Γ' ∧ Fr W W' ∧ PostS X.K cm J mo E W' σ' D (sForL gf m (ks.drop (i + 1)) Γ'), fun σ' H' h => ⟨ks.length - (i + 1), by omega, rfl, hlt, h⟩, fun x H' y => ?_⟩
    obtain ⟨s4, Gx, hx, gx⟩ := yl x H' y
    rw [List.drop_eq_getElem_cons hlt] at q4
    have r4 := r3.same s4
    have f4 : Fr W3 { W3 with H := H' } := same_fr s4
    have q5 := PostS.start q4 f4 Fx.refl
    unfold sForL at q5
    cases eg : gf ks[i] Γ3 with
    | none => rw [eg] at q5; exact q5.elim
    | some Γ4 =>
      rw [eg] at q5
      refine ⟨{ W3 with H := H' }, Γ3, ks[i], Gx, rfl, r4, hx, fun y hy => f3.shr y (gx y hy), Γ4, eg, fun σ5 W5 r5 f5 x5 => ?_⟩
      have q6 := PostS.start q5 f5 x5
      have f6 : Fr W W5 := f3.trans (f4.trans f5)
      refine ⟨W5, Γ4, rfl, r5, ?_⟩
      change PostS X.K cm J mo E W5 σ5 D (match m Γ4 with | .nx Γ2 => sForL gf m (ks.drop (i + 1)) Γ2 | .ct Γ2 => sForL gf m (ks.drop (i + 1)) Γ2 | .bk Γ2 => .nx Γ2 | o => o) at q6
      cases em : m Γ4 with
      | nx Γ7 => rw [em] at q6; exact fun σ' W' r' f' x' => ⟨W', Γ7, rfl, r', f6.trans f', PostS.start q6 f' x'⟩
      | ct Γ7 => rw [em] at q6; exact fun σ' W' r' f' x' => ⟨W', Γ7, rfl, r', f6.trans f', PostS.start q6 f' x'⟩
      | bk Γ7 => rw [em] at q6; exact q6
      | rt t Γ7 => rw [em] at q6; exact q6
      | ex c Γ7 => rw [em] at q6; exact q6
      | stuck => rw [em] at q6; exact q6
  · have e : i = ks.length := by omega
    subst e
    rw [List.drop_length] at q4
    exact .inl ⟨stop, q4 σ3 W3 r3 (Fr.refl _) Fx.refl⟩
/-- for k in d, d a slot's dict that is not changed within -/
theorem s_forD {i : Nat} {x : Str} (hN : X.N[i]? = some x) (hv : Vis X.env.scope x) (hm : md mo i = .vw) (w : mleL J.r mo = true) (hp : PassesOwn (model X.prog X.w) X.A X.env X.xe) (hc : X.calm = true) (hg : Gm X cm J.fi mo mo1 tg gf) (hb : Sb X cm { J with b := mo, c := mo } E mo1 body mo m)
    (h1 : (x == ("__debug__" : Str)) = false := by decide) (h2 : (x == ("__classdict__" : Str)) = false := by decide) (hs : ∀ y, foldedSetIterable (.Name x p) X.env y = pure y := by intro _; rfl) :
    Sm X cm J E mo (.For tg (.Name x p) body [] pos) mo (sForD i gf m) := by
  have base := for_locked (J := J) (E := E) (pos := pos) w hm hp hc (im_dict (cm := cm) (mo := mo) (tg := tg) (p := p) hN hv h1 h2) hg hb hs
  refine PS.imp (PS.or base (ps_lock base)) fun D σ H ⟨W, Γ, e1, r, q⟩ => ?_
  subst e1
  unfold sForD at q
  cases et : sl Γ i with
  | none => rw [et] at q; exact (show False from q).elim
  | some t =>
    rw [et] at q
    cases ek : keysOf t with
    | none =>
      have e2 : (some t).bind keysOf = none := ek
      rw [e2] at q; exact (show False from q).elim
    | some ks =>
      have e2 : (some t).bind keysOf = some ks := ek
      rw [e2] at q
      have q : PostS X.K cm J mo E W σ D (noEx (sForL gf m ks Γ)) := q
      obtain ⟨v, G, e3, rp, g⟩ := sl_V r et hm
      have sh : ∃ d u, v = .ref d ∧ Rd W.H d u ∧ ((∃ xs, u = .dK xs) ∨ ∃ xs, u = .dT xs) ∧ W.S d := by
        cases t with
        | dct ts =>
          obtain ⟨a, xs, G', rfl, rd, s, rfl⟩ := rp
          exact ⟨a, .dK xs, rfl, s, .inl ⟨xs, rfl⟩, g a List.mem_cons_self⟩
        | dtt ts =>
          obtain ⟨a, xs, G', rfl, rd, s, rfl⟩ := rp
          exact ⟨a, .dT xs, rfl, s, .inr ⟨xs, rfl⟩, g a List.mem_cons_self⟩
        | _ => cases ek
      obtain ⟨d, u, rfl, s, hu, sd⟩ := sh
      have noex : ∀ {o : Out}, PostS X.K cm J mo E W σ D (noEx o) → PostS X.K cm J mo E W σ D o := fun {o} h => by
        cases o with
        | ex c Γ => exact (show False from h).elim
        | _ => exact h
      rcases s with s | ⟨od, s⟩
      · refine .inr ⟨d, u, s, ?_, fun od => ?_⟩
        · rcases hu with ⟨_, rfl⟩ | ⟨_, rfl⟩ <;> trivial
        · have nC := r.sC d sd
          refine ⟨{ W with H := upd W.H d (.frz od u) }, Γ, d, od, ks, t, u, rfl, ?_, e3, et, ek, upd_same, hu, PostS.unlock s hu nC sd q⟩
          refine r.kp0 (kp_lock s hu) tr_upd fun y c => ?_
          have ne : y ≠ d := fun z => nC (z ▸ c)
          show Mut (upd W.H d _ y)
          rw [upd_ne ne]; exact r.mu y c
      · exact .inl ⟨W, Γ, d, od, ks, t, u, rfl, r, e3, et, ek, s, hu, noex q⟩
end
end Tm
namespace Tm
open PySem PySem.Spec PyProof.Rows L2
abbrev RC := List V → Hp → VK → Prop
/-- the result has no footprint -/
def ScA (K : PySem.W.Frag) (cm : Cm) (r : RC) (op : List T → Option T) : Prop :=
  ∀ ts c, op ts = some c → ∀ H vs F, Reps K cm H ts vs F → ∀ Q : VK, (∀ z H', Same H H' → Rep K cm H' c z [] → Q z H') → r vs H Q
/-- the result's footprint lies in the arguments' -/
def SbA (K : PySem.W.Frag) (cm : Cm) (r : RC) (op : List T → Option T) : Prop :=
  ∀ ts c, op ts = some c → ∀ H vs F, Reps K cm H ts vs F → ∀ Q : VK, (∀ z H' F', Same H H' → Rep K cm H' c z F' → (∀ w ∈ F', w ∈ F) → Q z H') → r vs H Q
/-- the result is a new object over some of the arguments -/
def NwA (K : PySem.W.Frag) (cm : Cm) (r : RC) (op : List T → Option T) : Prop :=
  ∀ ts c, op ts = some c → ∀ H vs F, Reps K cm H ts vs F → ∀ Q : VK, (∀ p o F', H p = none → Mut (some o) → Rep K cm (upd H p o) c (.ref p) (p :: F') → (∀ w ∈ F', w ∈ F) → Q (.ref p) (upd H p o)) → r vs H Q
section
variable {K : PySem.W.Frag} {cm : Cm} {mo : List Mode} {E : XK} {kd : Kd} {r r' : RC} {op : List T → Option T} {af : AF} {xf : Env → Res (List T)}
theorem cb_sc (hs : ScA K cm r op) : ∀ σ H Q, tP K cm mo .imm (pArg op af) σ H Q → tCB r (tPk K cm mo kd af) σ H Q := fun σ H Q ⟨W, Γ, t, e1, r0, e2, q⟩ => by
  subst e1
  obtain ⟨ts, e3, e4⟩ := Option.bind_eq_some_iff.mp e2
  exact ⟨W, Γ, ts, rfl, r0, e3, fun vs H' G s h _ => hs ts t e4 H' vs G h Q fun z H2 s2 h2 => q z H2 [] (s.trans s2) h2 rfl⟩
theorem cb_sb (hs : SbA K cm r op) : ∀ σ H Q, tP K cm mo (ekd kd) (pArg op af) σ H Q → tCB r (tPk K cm mo kd af) σ H Q := fun σ H Q ⟨W, Γ, t, e1, r0, e2, q⟩ => by
  subst e1
  obtain ⟨ts, e3, e4⟩ := Option.bind_eq_some_iff.mp e2
  refine ⟨W, Γ, ts, rfl, r0, e3, fun vs H' G s h kk => hs ts t e4 H' vs G h Q fun z H2 F' s2 h2 sub => q z H2 F' (s.trans s2) h2 ?_⟩
  have k2 : KOk (ekd kd) W { W with H := H' } F' := kk.sub sub
  exact KOk.step (W1 := { W with H := H' }) (same_fr (W := { W with H := H' }) s2) (fun w hw => h.tr _ _ _ w (sub w hw)) k2
theorem cb_nw (l : kle kd .shared = true) (hs : NwA K cm r op) : ∀ σ H Q, tP K cm mo .fr1 (pArg op af) σ H Q → tCB r (tPk K cm mo kd af) σ H Q := fun σ H Q ⟨W, Γ, t, e1, r0, e2, q⟩ => by
  subst e1
  obtain ⟨ts, e3, e4⟩ := Option.bind_eq_some_iff.mp e2
  refine ⟨W, Γ, ts, rfl, r0, e3, fun vs H' G s h kk => hs ts t e4 H' vs G h Q fun p o F' hp mu h2 sub => q _ _ (p :: F') (s.trans (same_upd hp)) h2 ?_⟩
  have k2 : KOk (ekd kd) W { W with H := H' } F' := kk.sub sub
  exact kok_new (W1 := { W with H := H' }) (same_fr s) (fun w hw => h.tr _ _ _ w (sub w hw)) (kd := ekd kd) (by cases kd <;> first | rfl | cases l) k2 (r0.same s) hp mu
theorem cb_nwA (hs : NwA K cm r op) : ∀ σ H Q, tP K cm mo .any (pArg op af) σ H Q → tCB r (tPk K cm mo kd af) σ H Q := fun σ H Q ⟨W, Γ, t, e1, r0, e2, q⟩ => by
  subst e1
  obtain ⟨ts, e3, e4⟩ := Option.bind_eq_some_iff.mp e2
  exact ⟨W, Γ, ts, rfl, r0, e3, fun vs H' G s h kk => hs ts t e4 H' vs G h Q fun p o F' hp mu h2 sub => q _ _ (p :: F') (s.trans (same_upd hp)) h2 trivial⟩
theorem cbe_sc (hs : ScA K cm r op) : ∀ σ H Q, tE K cm mo .imm E (eArg op xf) σ H Q → tCB r (tEk K cm mo kd E xf) σ H Q := fun σ H Q ⟨W, Γ, e1, r0, q⟩ => by
  subst e1
  refine ⟨W, Γ, rfl, r0, PostE.imp (PostE.bind q) fun ts W1 Γ1 ex r1 f1 q1 vs G h kk => ?_⟩
  obtain ⟨t, e4, q2⟩ := PostE.of (q1 Γ1 ex r1 f1)
  exact hs ts t e4 W1.H vs G h Q fun z H2 s2 h2 => q2 { W1 with H := H2 } (r1.same s2) (same_fr s2) z [] h2 rfl
theorem cbe_sb (hs : SbA K cm r op) : ∀ σ H Q, tE K cm mo (ekd kd) E (eArg op xf) σ H Q → tCB r (tEk K cm mo kd E xf) σ H Q := fun σ H Q ⟨W, Γ, e1, r0, q⟩ => by
  subst e1
  refine ⟨W, Γ, rfl, r0, PostE.imp (PostE.bind q) fun ts W1 Γ1 ex r1 f1 q1 vs G h kk => ?_⟩
  obtain ⟨t, e4, q2⟩ := PostE.of (q1 Γ1 ex r1 f1)
  refine hs ts t e4 W1.H vs G h Q fun z H2 F' s2 h2 sub => q2 { W1 with H := H2 } (r1.same s2) (same_fr s2) z F' h2 ?_
  have k2 : KOk (ekd kd) W W1 F' := kk.sub sub
  exact KOk.step (same_fr s2) (fun w hw => h.tr _ _ _ w (sub w hw)) k2
theorem cbe_nw (l : kle kd .shared = true) (hs : NwA K cm r op) : ∀ σ H Q, tE K cm mo .fr1 E (eArg op xf) σ H Q → tCB r (tEk K cm mo kd E xf) σ H Q := fun σ H Q ⟨W, Γ, e1, r0, q⟩ => by
  subst e1
  refine ⟨W, Γ, rfl, r0, PostE.imp (PostE.bind q) fun ts W1 Γ1 ex r1 f1 q1 vs G h kk => ?_⟩
  obtain ⟨t, e4, q2⟩ := PostE.of (q1 Γ1 ex r1 f1)
  refine hs ts t e4 W1.H vs G h Q fun p o F' hp mu h2 sub => q2 { W1 with H := _ } (r1.same (same_upd hp)) (same_fr (same_upd hp)) (.ref p) (p :: F') h2 ?_
  have k2 : KOk (ekd kd) W W1 F' := kk.sub sub
  exact kok_new f1 (fun w hw => h.tr _ _ _ w (sub w hw)) (kd := ekd kd) (by cases kd <;> first | rfl | cases l) k2 r1 hp mu
end
section
variable {X : Cx} {cm : Cm} {mo : List Mode} {E : XK} {e : Expr} {es : List Expr} {x : Str} {p pos : Pos} {kd kd' : Kd} {id : String} {r : RC} {af : AF} {xf : Env → Res (List T)} {f : PF} {ef : EF}
theorem ep_callB (hc : CallR X (.builtin id) r) (hg : Gl X x) (hm : X.mg x = none) (hv : bootBuiltins x = some (.builtin id)) (ha : Aq X cm mo kd (e :: es) af) (hs : ∀ σ H Q, tP X.K cm mo kd' f σ H Q → tCB r (tPk X.K cm mo kd af) σ H Q) (hn : x ≠ "__name__" := by decide) (hdb : (x == ("__debug__" : Str)) = false := by decide)
    (he : starEach (e :: es) X.env = (false, eval e X.env) :: starEach es X.env := by rfl) (hpl : (backTo pos (starEach es X.env)).any (·.1) = false := by rfl) : Ep X cm mo kd' (.Call (.Name x p) (e :: es) [] pos) f := PE.imp (pe_callB hc hg hm hv ha hn hdb he hpl) hs
theorem ep_callT (hc : CallR X (.type id) r) (hg : Gl X x) (hm : X.mg x = none) (hv : bootBuiltins x = some (.type id)) (ha : Aq X cm mo kd (e :: es) af) (hs : ∀ σ H Q, tP X.K cm mo kd' f σ H Q → tCB r (tPk X.K cm mo kd af) σ H Q) (hn : x ≠ "__name__" := by decide) (hdb : (x == ("__debug__" : Str)) = false := by decide)
    (he : starEach (e :: es) X.env = (false, eval e X.env) :: starEach es X.env := by rfl) (hpl : (backTo pos (starEach es X.env)).any (·.1) = false := by rfl) : Ep X cm mo kd' (.Call (.Name x p) (e :: es) [] pos) f := PE.imp (pe_callTy hc hg hm hv ha hn hdb he hpl) hs
theorem ee_callB (hc : CallR X (.builtin id) r) (hg : Gl X x) (hm : X.mg x = none) (hv : bootBuiltins x = some (.builtin id)) (ha : Ak X cm mo E kd (e :: es) xf) (hs : ∀ σ H Q, tE X.K cm mo kd' E ef σ H Q → tCB r (tEk X.K cm mo kd E xf) σ H Q) (hn : x ≠ "__name__" := by decide) (hdb : (x == ("__debug__" : Str)) = false := by decide)
    (he : starEach (e :: es) X.env = (false, eval e X.env) :: starEach es X.env := by rfl) (hpl : (backTo pos (starEach es X.env)).any (·.1) = false := by rfl) : Ee X cm mo E kd' (.Call (.Name x p) (e :: es) [] pos) ef := PE.imp (pe_callB hc hg hm hv ha hn hdb he hpl) hs
theorem ee_callT (hc : CallR X (.type id) r) (hg : Gl X x) (hm : X.mg x = none) (hv : bootBuiltins x = some (.type id)) (ha : Ak X cm mo E kd (e :: es) xf) (hs : ∀ σ H Q, tE X.K cm mo kd' E ef σ H Q → tCB r (tEk X.K cm mo kd E xf) σ H Q) (hn : x ≠ "__name__" := by decide) (hdb : (x == ("__debug__" : Str)) = false := by decide)
    (he : starEach (e :: es) X.env = (false, eval e X.env) :: starEach es X.env := by rfl) (hpl : (backTo pos (starEach es X.env)).any (·.1) = false := by rfl) : Ee X cm mo E kd' (.Call (.Name x p) (e :: es) [] pos) ef := PE.imp (pe_callTy hc hg hm hv ha hn hdb he hpl) hs
end
/-! ### the calls on trees -/
def tLen : List T → Option T
  | [.str y] => if y.length ≤ 1000000 then some (.int y.length) else none
  | [.lst xs] => some (.int xs.length) | [.tup xs] => some (.int xs.length) | [.scr ns] => some (.int ns.length)
  | [.dct kvs] => some (.int kvs.length) | [.dtt kvs] => some (.int kvs.length)
  | _ => none
def tList : List T → Option T
  | [.lst xs] => some (.lst xs) | [.tup xs] => some (.lst xs) | [.scr ns] => some (.lst (ns.map T.int)) | [.dct kvs] => some (.lst (kvs.map fun q => keyV q.1)) | _ => none
def tTuple : List T → Option T
  | [.lst xs] => some (.tup xs) | [.tup xs] => some (.tup xs) | _ => none
def tbls : List T → Option (List Bool)
  | [] => some []
  | .bl i :: r => (tbls r).map (i :: ·)
  | _ => none
theorem tbls_eq : ∀ {ts : List T} {ns : List Bool}, tbls ts = some ns → ts = ns.map T.bl
  | [], ns, h => by cases h; rfl
  | t :: ts, ns, h => by
    cases t with
    | bl i =>
      simp only [tbls, Option.map_eq_some_iff] at h
      obtain ⟨ms, h1, rfl⟩ := h
      rw [tbls_eq h1]; rfl
    | _ => cases h
theorem tbls_map (ns : List Bool) : tbls (ns.map T.bl) = some ns := by
  induction ns with
  | nil => rfl
  | cons n ns ih => rw [List.map_cons]; simp only [tbls, ih]; rfl
def tAll : List T → Option T
  | [.lst xs] => (tbls xs).map fun bs => .bl (bs.all id) | _ => none
def tAny : List T → Option T
  | [.lst xs] => (tbls xs).map fun bs => .bl (bs.any id) | _ => none
def tSum : List T → Option T
  | [.lst xs] => (tints xs).map fun ns => .int ns.sum | _ => none
def maxI : List Int → Option Int
  | [] => none
  | n :: ns => some (ns.foldl max n)
def minI : List Int → Option Int
  | [] => none
  | n :: ns => some (ns.foldl min n)
def tMax : List T → Option T
  | [.lst xs] => (tints xs).bind fun ns => (maxI ns).map T.int
  | [.int a, .int b] => some (.int (if a < b then b else a))
  | _ => none
def tMin : List T → Option T
  | [.lst xs] => (tints xs).bind fun ns => (minI ns).map T.int
  | [.int a, .int b] => some (.int (if b < a then b else a))
  | _ => none
def tInt : List T → Option T
  | [.int i] => some (.int i) | [.bl k] => some (.int (if k then 1 else 0)) | _ => none
def tStr : List T → Option T
  | [.int i] => if i.natAbs < 2 ^ 1900 then some (.str (toString i)) else none | _ => none
section
variable {K : PySem.W.Frag} {cm : Cm} {H : Hp}
theorem Reps.arg1 {t : T} {vs : List V} {F : List Addr} (h : Reps K cm H [t] vs F) : ∃ v, vs = [v] ∧ Rep K cm H t v F := by
  obtain ⟨x, r, F1, F2, rfl, rfl, h1, h2⟩ := h
  obtain ⟨rfl, rfl⟩ := h2
  rw [List.append_nil]
  exact ⟨x, rfl, h1⟩
theorem Reps.arg2 {t u : T} {vs : List V} {F : List Addr} (h : Reps K cm H [t, u] vs F) : ∃ v w F1 F2, vs = [v, w] ∧ F = F1 ++ F2 ∧ Rep K cm H t v F1 ∧ Rep K cm H u w F2 := by
  obtain ⟨x, r, F1, F2, rfl, rfl, h1, h2⟩ := h
  obtain ⟨y, rfl, h3⟩ := Reps.arg1 h2
  exact ⟨x, y, F1, F2, rfl, rfl, h1, h3⟩
theorem Reps.bls : ∀ {ns : List Bool} {xs : List V} {F : List Addr}, Reps K cm H (ns.map T.bl) xs F → xs = ns.map V.bl ∧ F = []
  | [], _, _, h => h
  | n :: ns, _, _, h => by
    obtain ⟨x, r, F1, F2, rfl, rfl, h1, h2⟩ := h
    obtain ⟨e1, e2⟩ := Reps.bls h2
    rw [e1, e2, h1.1, h1.2]; exact ⟨rfl, rfl⟩
end
/-- isinstance(x, T), T a built-in type -/
def tyN : T → Option String
  | .non => some "NoneType" | .bl _ => some "bool" | .int _ => some "int" | .str _ => some "str"
  | .lst _ => some "list" | .scr _ => some "list" | .tup _ => some "tuple" | .dct _ => some "dict" | _ => none
def tIsi : List T → Option T
  | [t, .ty n] => (tyN t).bind fun m => (kitB m n).map T.bl | _ => none
def sortI (ns : List Int) : List Int := ns.mergeSort
def tSorted : List T → Option T
  | [.lst xs] => (tints xs).map fun ns => .lst ((sortI ns).map T.int)
  | [.tup xs] => none
  | _ => none
def rLenD : RC := fun xs H Q => ∃ (p : Addr) (n : Nat), xs = [.ref p] ∧ ((∃ kvs, Rd H p (.dK kvs) ∧ n = kvs.length) ∨ ∃ kvs, Rd H p (.dT kvs) ∧ n = kvs.length) ∧ Q (.int n) H
def rLenA (K : PySem.W.Frag) : RC := fun xs H Q => rLen K xs H Q ∨ rLenD xs H Q
def rListA (K : PySem.W.Frag) : RC := fun xs H Q => (∃ p ys, xs = [.ref p] ∧ (SqL K H p ys ∨ SqT K H p ys) ∧ ∀ l, H l = none → Q (.ref l) (upd H l (.lst ys))) ∨
  ∃ (a : Addr) (kvs : List (Key × V)), xs = [.ref a] ∧ Rd H a (.dK kvs) ∧ ∀ p, H p = none → Q (.ref p) (upd H p (.lst (kvs.map fun kv => kV kv.1)))
def rTupA (K : PySem.W.Frag) : RC := fun xs H Q => ∃ p ys, xs = [.ref p] ∧ ((SqL K H p ys ∧ ∀ l, H l = none → Q (.ref l) (upd H l (.tup ys))) ∨ (SqT K H p ys ∧ Q (.ref p) H))
def rMaxA (K : PySem.W.Frag) : RC := fun xs H Q => rMax K xs H Q ∨ ∃ i j, xs = [.int i, .int j] ∧ Q (.int (if j > i then j else i)) H
def rMinA (K : PySem.W.Frag) : RC := fun xs H Q => rMin K xs H Q ∨ ∃ i j, xs = [.int i, .int j] ∧ Q (.int (if j < i then j else i)) H
def rInt1 : RC := fun xs H Q => (∃ i, xs = [.int i] ∧ Q (.int i) H) ∨ ∃ k, xs = [.bl k] ∧ Q (.int (if k then 1 else 0)) H
def rStr1 : RC := fun xs H Q => ∃ i, xs = [.int i] ∧ i.natAbs.log2 < 1920 ∧ Q (.str (toString i)) H
def rDict1 : RC := fun xs H Q => ∃ (a : Addr) (kvs : List (Key × V)), xs = [.ref a] ∧ Rd H a (.dK kvs) ∧ ∀ p, H p = none → Q (.ref p) (upd H p (.dK kvs))
def tDict : List T → Option T
  | [.dct kvs] => some (.dct kvs) | _ => none
section
variable {X : Cx}
theorem cr_lenD : CallR X (.builtin "len") rLenD := by
  intro pins s σ H xs us Q I r h
  obtain ⟨p, n, rfl, h, q⟩ := h
  obtain ⟨u, rfl, rx⟩ := vals1 r
  obtain rfl : u = .ref p := rx
  rcases h with ⟨kvs, hp, rfl⟩ | ⟨kvs, hp, rfl⟩
  · exact d_len I hp fun t s' I' => ⟨.int kvs.length, H, I', ⟨_, rfl⟩, q⟩
  · obtain ⟨z, hd, ys, rel, dd⟩ := dt_rd I.hok hp
    have hl : kvs.length = ys.length := Paired.length rel
    refine call_len_dictH hd dd (by rw [← hl]; rw [sizeLine_eq] at z; omega) ?_
    rw [← hl]
    exact ⟨.int ((kvs.length : Nat) : Int), H, I.tok _, ⟨_, rfl⟩, q⟩
theorem cr_len : CallR X (.builtin "len") (rLenA X.K) := CallR.or call_len cr_lenD
theorem cr_list (hc : X.calm = true) : CallR X (.type "list") (rListA X.K) := CallR.or call_list_of (call_listD hc)
theorem cr_max (hc : X.calm = true) : CallR X (.builtin "max") (rMaxA X.K) := CallR.or (L2.cr_max hc) (call_max2 hc)
theorem cr_min (hc : X.calm = true) : CallR X (.builtin "min") (rMinA X.K) := CallR.or (L2.cr_min hc) (call_min2 hc)
end
theorem maxI_mem : ∀ {ns : List Int} {m : Int}, maxI ns = some m → m ∈ ns ∧ ∀ y ∈ ns, y ≤ m
  | [], _, h => by cases h
  | n :: ns, m, h => by
    cases h
    have aux : ∀ (ns : List Int) (n : Int), (ns.foldl max n = n ∨ ns.foldl max n ∈ ns) ∧ n ≤ ns.foldl max n ∧ ∀ y ∈ ns, y ≤ ns.foldl max n := by
      intro ns
      induction ns with
      | nil => intro n; exact ⟨.inl rfl, Int.le_refl _, fun y hy => by cases hy⟩
      | cons k ns ih =>
        intro n
        obtain ⟨h1, h2, h3⟩ := ih (max n k)
        rw [List.foldl_cons]
        refine ⟨?_, by omega, fun y hy => ?_⟩
        · rcases h1 with h1 | h1
          · rw [h1]
            by_cases q : n ≤ k
            · right; rw [Int.max_eq_right q]; exact List.mem_cons_self
            · left; rw [Int.max_eq_left (by omega)]
          · right; exact List.mem_cons_of_mem _ h1
        · rcases List.mem_cons.mp hy with rfl | hy
          · omega
          · exact h3 y hy
    obtain ⟨h1, h2, h3⟩ := aux ns n
    refine ⟨h1.elim (fun q => by rw [q]; exact List.mem_cons_self) (List.mem_cons_of_mem _), fun y hy => ?_⟩
    rcases List.mem_cons.mp hy with rfl | hy
    · exact h2
    · exact h3 y hy
theorem minI_mem : ∀ {ns : List Int} {m : Int}, minI ns = some m → m ∈ ns ∧ ∀ y ∈ ns, m ≤ y
  | [], _, h => by cases h
  | n :: ns, m, h => by
    cases h
    have aux : ∀ (ns : List Int) (n : Int), (ns.foldl min n = n ∨ ns.foldl min n ∈ ns) ∧ ns.foldl min n ≤ n ∧ ∀ y ∈ ns, ns.foldl min n ≤ y := by
      intro ns
      induction ns with
      | nil => intro n; exact ⟨.inl rfl, Int.le_refl _, fun y hy => by cases hy⟩
      | cons k ns ih =>
        intro n
        obtain ⟨h1, h2, h3⟩ := ih (min n k)
        rw [List.foldl_cons]
        refine ⟨?_, by omega, fun y hy => ?_⟩
        · rcases h1 with h1 | h1
          · rw [h1]
            by_cases q : n ≤ k
            · left; rw [Int.min_eq_left q]
            · right; rw [Int.min_eq_right (by omega)]; exact List.mem_cons_self
          · right; exact List.mem_cons_of_mem _ h1
        · rcases List.mem_cons.mp hy with rfl | hy
          · omega
          · exact h3 y hy
    obtain ⟨h1, h2, h3⟩ := aux ns n
    refine ⟨h1.elim (fun q => by rw [q]; exact List.mem_cons_self) (List.mem_cons_of_mem _), fun y hy => ?_⟩
    rcases List.mem_cons.mp hy with rfl | hy
    · exact h2
    · exact h3 y hy
theorem sortI_spec (ns : List Int) : (sortI ns).Perm ns ∧ (sortI ns).Pairwise (· ≤ ·) := by
  refine ⟨List.mergeSort_perm _ _, ?_⟩
  have := List.pairwise_mergeSort (le := fun a b : Int => decide (a ≤ b)) (fun a b c h1 h2 => by simp only [decide_eq_true_eq] at *; omega) (fun a b => by simp only [Bool.or_eq_true, decide_eq_true_eq]; omega) ns
  unfold sortI
  simpa using this
theorem sorted_uniq : ∀ {a b : List Int}, a.Perm b → a.Pairwise (· ≤ ·) → b.Pairwise (· ≤ ·) → a = b := fun p ha hb => p.eq_of_pairwise (le := fun x y : Int => x ≤ y) (fun _ _ _ _ h1 h2 => Int.le_antisymm h1 h2) ha hb
section
variable {K : PySem.W.Frag} {cm : Cm}
theorem seqT {H : Hp} {ts : List T} {v : V} {F : List Addr} (h : Rep K cm H (.lst ts) v F) : ∃ a xs G, v = .ref a ∧ Reps K cm H ts xs G ∧ SqL K H a xs ∧ ∀ y ∈ G, y ∈ F := by
  obtain ⟨a, xs, G, rfl, r, s, rfl⟩ := h
  exact ⟨a, xs, G, rfl, r, SqL.of s, fun y hy => List.mem_cons_of_mem _ hy⟩
theorem sc_len : ScA K cm (rLenA K) tLen := fun ts c e H vs F h Q q => by
  unfold tLen at e
  split at e
  · obtain ⟨v, rfl, h1⟩ := h.arg1
    split at e
    · cases e
      refine .inl ⟨_, _, rfl, ?_, q _ H (fun _ _ h => h) ⟨rfl, rfl⟩⟩
      rw [h1.1]
      exact ⟨Nat.le_trans ‹_› (by decide), rfl⟩
    · cases e
  · obtain ⟨v, rfl, h1⟩ := h.arg1
    cases e
    obtain ⟨a, xs, G, rfl, r, s, _⟩ := seqT h1
    exact .inl ⟨_, xs.length, rfl, .inl ⟨xs, s, rfl⟩, q _ H (fun _ _ h => h) ⟨by rw [r.len], rfl⟩⟩
  · obtain ⟨v, rfl, h1⟩ := h.arg1
    cases e
    obtain ⟨a, xs, rfl, s, r⟩ := h1
    exact .inl ⟨_, xs.length, rfl, .inr ⟨xs, .inl s.1, rfl⟩, q _ H (fun _ _ h => h) ⟨by rw [r.len], rfl⟩⟩
  · obtain ⟨v, rfl, h1⟩ := h.arg1
    cases e
    obtain ⟨a, rfl, s, _⟩ := h1
    exact .inl ⟨_, _, rfl, .inl ⟨_, s.sq, rfl⟩, q _ H (fun _ _ h => h) ⟨by rw [List.length_map], rfl⟩⟩
  · obtain ⟨v, rfl, h1⟩ := h.arg1
    cases e
    obtain ⟨a, xs, G, rfl, r, s, _⟩ := h1
    have := congrArg List.length r.keys
    rw [List.length_map, List.length_map] at this
    exact .inr ⟨a, xs.length, rfl, .inl ⟨xs, s, rfl⟩, q _ H (fun _ _ h => h) ⟨by rw [this], rfl⟩⟩
  · obtain ⟨v, rfl, h1⟩ := h.arg1
    cases e
    obtain ⟨a, xs, G, rfl, r, s, _⟩ := h1
    have := congrArg List.length r.keys
    rw [List.length_map, List.length_map] at this
    exact .inr ⟨a, xs.length, rfl, .inr ⟨xs, s, rfl⟩, q _ H (fun _ _ h => h) ⟨by rw [this], rfl⟩⟩
  · cases e
theorem nw_list : NwA K cm (rListA K) tList := fun ts c e H vs F h Q q => by
  unfold tList at e
  split at e
  · obtain ⟨v, rfl, h1⟩ := h.arg1
    cases e
    obtain ⟨a, xs, G, rfl, r, s, sub⟩ := seqT h1
    exact .inl ⟨a, xs, rfl, .inl s, fun l hl => q l _ G hl trivial ⟨l, xs, G, rfl, r.same (same_upd hl), upd_same, rfl⟩ sub⟩
  · obtain ⟨v, rfl, h1⟩ := h.arg1
    cases e
    obtain ⟨a, xs, rfl, s, r⟩ := h1
    exact .inl ⟨a, xs, rfl, .inr (.inl s.1), fun l hl => q l _ F hl trivial ⟨l, xs, F, rfl, r.same (same_upd hl), upd_same, rfl⟩ fun y hy => hy⟩
  · obtain ⟨v, rfl, h1⟩ := h.arg1
    cases e
    obtain ⟨a, rfl, s, _⟩ := h1
    exact .inl ⟨a, _, rfl, .inl s.sq, fun l hl => q l _ [] hl trivial ⟨l, _, [], rfl, Reps.of_ints _, upd_same, rfl⟩ fun y hy => by cases hy⟩
  · obtain ⟨v, rfl, h1⟩ := h.arg1
    cases e
    obtain ⟨a, xs, G, rfl, r, s, _⟩ := h1
    refine .inr ⟨a, xs, rfl, s, fun l hl => q l _ [] hl trivial ⟨l, _, [], rfl, ?_, upd_same, rfl⟩ fun y hy => by cases hy⟩
    have e2 := r.keys
    have := reps_keys (K := K) (cm := cm) (H := upd H l (.lst (xs.map fun kv => kV kv.1))) (xs.map (·.1))
    rw [← e2] at this
    rw [List.map_map] at this
    have e3 : xs.map (fun kv => kV kv.1) = (List.map (·.1) xs).map kV := by rw [List.map_map]; rfl
    rw [e3, ← e2]
    rw [e3, ← e2] at this
    exact this
  · cases e
theorem sb_tuple : SbA K cm (rTupA K) tTuple := fun ts c e H vs F h Q q => by
  unfold tTuple at e
  split at e
  · obtain ⟨v, rfl, h1⟩ := h.arg1
    cases e
    obtain ⟨a, xs, G, rfl, r, s, sub⟩ := seqT h1
    exact ⟨a, xs, rfl, .inl ⟨s, fun l hl => q _ _ G (same_upd hl) ⟨l, xs, rfl, tup_new upd_same, r.same (same_upd hl)⟩ sub⟩⟩
  · obtain ⟨v, rfl, h1⟩ := h.arg1
    cases e
    obtain ⟨a, xs, rfl, s, r⟩ := id h1
    exact ⟨a, xs, rfl, .inr ⟨.inl s.1, q _ H F (fun _ _ h => h) h1 fun y hy => hy⟩⟩
  · cases e
theorem nw_dict : NwA K cm rDict1 tDict := fun ts c e H vs F h Q q => by
  unfold tDict at e
  split at e
  · obtain ⟨v, rfl, h1⟩ := h.arg1
    cases e
    obtain ⟨a, xs, G, rfl, r, s, rfl⟩ := h1
    exact ⟨a, xs, rfl, s, fun l hl => q l _ G hl trivial ⟨l, xs, G, rfl, RepD.kp (same_kp (same_upd hl)) _ _ _ r fun _ _ z => z, .inl upd_same, rfl⟩ fun y hy => List.mem_cons_of_mem _ hy⟩
  · cases e
theorem sc_all : ScA K cm (rAll K) tAll := fun ts c e H vs F h Q q => by
  unfold tAll at e
  split at e
  · obtain ⟨v, rfl, h1⟩ := h.arg1
    obtain ⟨bs, e1, rfl⟩ := Option.map_eq_some_iff.mp e
    obtain ⟨a, xs, G, rfl, r, s, sub⟩ := seqT h1
    rw [tbls_eq e1] at r
    rw [r.bls.1] at s
    exact ⟨a, bs, rfl, s, q _ H (fun _ _ h => h) ⟨rfl, rfl⟩⟩
  · cases e
theorem sc_any : ScA K cm (rAny K) tAny := fun ts c e H vs F h Q q => by
  unfold tAny at e
  split at e
  · obtain ⟨v, rfl, h1⟩ := h.arg1
    obtain ⟨bs, e1, rfl⟩ := Option.map_eq_some_iff.mp e
    obtain ⟨a, xs, G, rfl, r, s, sub⟩ := seqT h1
    rw [tbls_eq e1] at r
    rw [r.bls.1] at s
    exact ⟨a, bs, rfl, s, q _ H (fun _ _ h => h) ⟨rfl, rfl⟩⟩
  · cases e
theorem sc_sum : ScA K cm (rSum K) tSum := fun ts c e H vs F h Q q => by
  unfold tSum at e
  split at e
  · obtain ⟨v, rfl, h1⟩ := h.arg1
    obtain ⟨bs, e1, rfl⟩ := Option.map_eq_some_iff.mp e
    obtain ⟨a, xs, G, rfl, r, s, sub⟩ := seqT h1
    rw [tints_eq e1] at r
    rw [r.ints.1] at s
    exact ⟨a, bs, rfl, s, q _ H (fun _ _ h => h) ⟨rfl, rfl⟩⟩
  · cases e
theorem sc_max : ScA K cm (rMaxA K) tMax := fun ts c e H vs F h Q q => by
  unfold tMax at e
  split at e
  · obtain ⟨v, rfl, h1⟩ := h.arg1
    obtain ⟨ns, e1, e2⟩ := Option.bind_eq_some_iff.mp e
    obtain ⟨m, e3, rfl⟩ := Option.map_eq_some_iff.mp e2
    obtain ⟨a, xs, G, rfl, r, s, sub⟩ := seqT h1
    rw [tints_eq e1] at r
    rw [r.ints.1] at s
    obtain ⟨m1, m2⟩ := maxI_mem e3
    refine .inl ⟨a, ns, rfl, s, List.length_pos_of_mem m1, fun k k1 k2 => ?_⟩
    have : k = m := Int.le_antisymm (m2 k k1) (k2 m m1)
    subst this
    exact q _ H (fun _ _ h => h) ⟨rfl, rfl⟩
  · cases e
    obtain ⟨v, w, F1, F2, rfl, rfl, h1, h2⟩ := h.arg2
    rw [h1.1, h2.1]
    exact .inr ⟨_, _, rfl, q _ H (fun _ _ h => h) ⟨rfl, rfl⟩⟩
  · cases e
theorem sc_min : ScA K cm (rMinA K) tMin := fun ts c e H vs F h Q q => by
  unfold tMin at e
  split at e
  · obtain ⟨v, rfl, h1⟩ := h.arg1
    obtain ⟨ns, e1, e2⟩ := Option.bind_eq_some_iff.mp e
    obtain ⟨m, e3, rfl⟩ := Option.map_eq_some_iff.mp e2
    obtain ⟨a, xs, G, rfl, r, s, sub⟩ := seqT h1
    rw [tints_eq e1] at r
    rw [r.ints.1] at s
    obtain ⟨m1, m2⟩ := minI_mem e3
    refine .inl ⟨a, ns, rfl, s, List.length_pos_of_mem m1, fun k k1 k2 => ?_⟩
    have : k = m := Int.le_antisymm (k2 m m1) (m2 k k1)
    subst this
    exact q _ H (fun _ _ h => h) ⟨rfl, rfl⟩
  · cases e
    obtain ⟨v, w, F1, F2, rfl, rfl, h1, h2⟩ := h.arg2
    rw [h1.1, h2.1]
    exact .inr ⟨_, _, rfl, q _ H (fun _ _ h => h) ⟨rfl, rfl⟩⟩
  · cases e
theorem nw_sorted : NwA K cm (rSortedI K) tSorted := fun ts c e H vs F h Q q => by
  unfold tSorted at e
  split at e
  · obtain ⟨v, rfl, h1⟩ := h.arg1
    obtain ⟨ns, e1, rfl⟩ := Option.map_eq_some_iff.mp e
    obtain ⟨a, xs, G, rfl, r, s, sub⟩ := seqT h1
    rw [tints_eq e1] at r
    rw [r.ints.1] at s
    refine ⟨a, ns, rfl, s, fun ns' p h1 h2 hp => ?_⟩
    obtain ⟨s1, s2⟩ := sortI_spec ns
    have e3 : ns' = sortI ns := sorted_uniq (h1.trans s1.symm) h2 s2
    subst e3
    exact q p _ [] hp trivial ⟨p, _, [], rfl, Reps.of_ints _, upd_same, rfl⟩ fun y hy => by cases hy
  · cases e
  · cases e
theorem sc_int1 : ScA K cm rInt1 tInt := fun ts c e H vs F h Q q => by
  unfold tInt at e
  split at e
  · obtain ⟨v, rfl, h1⟩ := h.arg1
    cases e
    rw [h1.1]
    exact .inl ⟨_, rfl, q _ H (fun _ _ h => h) ⟨rfl, rfl⟩⟩
  · obtain ⟨v, rfl, h1⟩ := h.arg1
    cases e
    rw [h1.1]
    exact .inr ⟨_, rfl, q _ H (fun _ _ h => h) ⟨rfl, rfl⟩⟩
  · cases e
theorem sc_str1 : ScA K cm rStr1 tStr := fun ts c e H vs F h Q q => by
  unfold tStr at e
  split at e
  · obtain ⟨v, rfl, h1⟩ := h.arg1
    split at e
    · cases e
      rename_i i hz
      rw [h1.1]
      refine ⟨i, rfl, ?_, q _ H (fun _ _ h => h) ⟨rfl, rfl⟩⟩
      by_cases z : i.natAbs = 0
      · rw [z]; decide
      · exact (Nat.log2_lt z).mpr (Nat.lt_of_lt_of_le hz (Nat.pow_le_pow_right (by decide) (by decide)))
    · cases e
  · cases e
theorem tyX_of {t : T} {n : String} (e : tyN t = some n) {H : Hp} {v : V} {F : List Addr} (h : Rep K cm H t v F) : TyX K H v (.type n) := by
  cases t with
  | non => cases e; rw [h.1]; exact .base .non
  | bl => cases e; rw [h.1]; exact .base (.bl _)
  | int => cases e; rw [h.1]; exact .base (.int _)
  | str => cases e; rw [h.1]; exact .base (.str _)
  | lst =>
    cases e
    obtain ⟨a, xs, G, rfl, r, s, _⟩ := h
    exact .base (.lst s)
  | scr =>
    cases e
    obtain ⟨a, rfl, s, _⟩ := h
    rcases s with ⟨o, s⟩ | ⟨o, its, n, e, c, _⟩
    · exact .base (.frz s)
    · exact .kList e c
  | tup =>
    cases e
    obtain ⟨a, xs, rfl, s, r⟩ := h
    rcases s.1 with s | ⟨o, s⟩
    · exact .base (.tup s)
    · exact .fTuple s
  | dct =>
    cases e
    obtain ⟨a, xs, G, rfl, r, s, _⟩ := h
    rcases s with s | ⟨o, s⟩
    · exact .base (.dK s)
    · exact .fDict s
  | _ => cases e
theorem sc_isi : ScA K cm (rIsi K) tIsi := fun ts c e H vs F h Q q => by
  unfold tIsi at e
  split at e
  · obtain ⟨m, e1, e2⟩ := Option.bind_eq_some_iff.mp e
    obtain ⟨b, e3, rfl⟩ := Option.map_eq_some_iff.mp e2
    obtain ⟨v, w, F1, F2, rfl, rfl, h1, h2⟩ := h.arg2
    rw [h2.1]
    exact ⟨v, _, _, _, b, rfl, .ty _, tyX_of e1 h1, kit_ty e3, q _ H (fun _ _ h => h) ⟨rfl, rfl⟩⟩
  · cases e
end
end Tm
namespace Tm
open PySem PySem.Spec PyProof.Rows L2
/-! ### the own root of a slot is changed -/
section
variable {K : PySem.W.Frag} {cm : Cm} {mo mo' mo1 : List Mode} {W W0 : Wd} {σ : L2.St} {Γ : Env}
theorem R.o1 {j : Nat} {t : T} (r : R K cm mo W σ Γ) (f0 : Fr W0 W) (hm : md mo j = .o1) (ht : sl Γ j = some t) : ∃ v a G, sl σ j = some v ∧ Rep K cm W.H t v (a :: G) ∧ W.C a ∧ ¬ W.S a ∧ Mut (W.H a) ∧ (∀ x ∈ G, W.S x) ∧
    ∀ t' o G2, Mut (some o) → Rep K cm (upd W.H a o) t' v (a :: G2) → (∀ x ∈ G2, W.S x ∨ (¬ W.C x ∧ ¬ W.L x ∧ Tr W.H x ∧ (W0.S x ∨ W0.C x ∨ ¬ Tr W0.H x))) →
      ∃ W', W'.H = upd W.H a o ∧ R K cm mo W' σ (Γ.set j (some t')) ∧ Fr W0 W' ∧ (∀ x, W.S x → W'.S x) ∧ (∀ x ∈ G2, W'.S x) ∧ (∀ x, W'.C x → W.C x) ∧ (∀ x, W'.L x → W.L x) := by
  obtain ⟨Os, r⟩ := r
  have hj : j < mo.length := md_lt (by rw [hm]; decide)
  have hl : md mo j ≠ .lk := by rw [hm]; decide
  have s := r.slot j
  rw [hm] at s
  obtain ⟨v, a, G, e1, e2, rp, g⟩ := s t ht
  have inO : a ∈ Os j := by rw [e2]; exact List.mem_cons_self
  have inC : W.C a := r.inC (by rw [hm]; rfl) inO
  have muA := r.mu a inC
  have nSa := r.sh j a inO
  refine ⟨v, a, G, e1, rp, inC, nSa, muA, g, fun t' o G2 hu rp2 hG => ?_⟩
  have keep : ∀ b o', W.H b = some o' → ¬ b = a → upd W.H a o b = some o' := fun b o' e n => by rw [upd_ne n]; exact e
  have nO : ∀ x ∈ G2, ∀ i, ¬ x ∈ Os i := fun x hx => (hG x hx).elim (fun s i hi => r.sh i x hi s) fun q => r.notOwn q.1 q.2.1
  have na : ∀ x ∈ G2, x ≠ a := fun x hx e => nO x hx j (e ▸ inO)
  have tr : ∀ x, Tr W.H x → Tr (upd W.H a o) x := tr_upd
  have lσ : j < σ.length := by rw [r.ls]; exact hj
  have single : ∀ x, x ∈ [a] → x = a := fun x hx => List.mem_singleton.mp hx
  have trG : ∀ x ∈ G2, Tr W.H x := fun x hx => (hG x hx).elim (r.trS x) fun q => q.2.2.1
  have k1 := r.put (j := j) (m' := .o1) (v' := sl σ j) (t' := some t') (O' := [a]) (H' := upd W.H a o) (S' := fun x => W.S x ∨ x ∈ G2) hj hl (fun b u e n => keep b u e fun q => n (by rw [e2, q]; exact List.mem_cons_self)) tr (fun _ h => .inl h)
    (fun x q => tr x (q.elim (r.trS x) fun g => trG x g)) (fun i x _ hx q => q.elim (r.sh i x hx) fun g => nO x g i hx) (fun u e => by cases e; exact ⟨v, a, G2, e1, rfl, rp2, fun x hx => .inr hx⟩) (List.nodup_cons.mpr ⟨by simp, List.nodup_nil⟩)
    (fun x hx i n => by rw [single x hx]; exact fun q => r.dj i j a n q inO) (fun x hx => by rw [single x hx]; exact fun q => q.elim nSa fun g => na a g rfl) (fun x hx => by rw [single x hx]; exact ⟨o, upd_same⟩) (fun _ x hx => by rw [single x hx, upd_same]; exact hu)
  have k2 := r.put_fr0 (W0 := W0) (j := j) (m' := .o1) (O' := [a]) (H' := upd W.H a o) (S' := fun x => W.S x ∨ x ∈ G2) f0 hl (by decide) (fun b u e n => keep b u e fun q => n (by rw [e2, q]; exact List.mem_cons_self)) tr (fun _ h => .inl h) (fun x q => q.elim (f0.shn x) fun q => (hG x q).elim (f0.shn x) fun q => q.2.2.2) (fun x hx => by rw [single x hx]; exact f0.chg a inC)
  rw [set_sl lσ, show mo.set j .o1 = mo from ?_] at k1
  · refine ⟨_, ?_, ⟨_, k1⟩, k2, fun x h => .inl h, fun x h => .inr h, fun x h => h.elim (fun q => by rw [single x q.2]; exact inC) fun q => q.1, fun x h => h.elim (fun q => by cases q.1) fun q => q⟩
    rfl
  · refine md_ext (by rw [List.length_set]) fun i => ?_
    by_cases q : i = j
    · subst q; rw [md_set_self hj, hm]
    · rw [md_set_ne (Ne.symm q)]
end
/-- what a change of the root keeps -/
theorem kp_root {H : Hp} {a : Addr} {o : HO} (m : Mut (H a)) : Kp (fun x => x = a) H (upd H a o) := kp_of (fun b o' e n => by rw [upd_ne n]; exact e) fun x e => by rw [e]; exact m
/-! ### methods that change the receiver -/
def kT : T → Option String
  | .lst _ => some "list" | .dct _ => some "dict" | .dtt _ => some "dict" | _ => none
/-- a rule of a method changes the root as op does -/
def MtT (K : PySem.W.Frag) (cm : Cm) (r : V → List V → Hp → VK → Prop) (op : T → List T → Option (T × T)) : Prop :=
  ∀ t args t' res, op t args = some (t', res) → ∀ H v a G vs F, Rep K cm H t v (a :: G) → Mut (H a) → (∀ x ∈ G, x ≠ a) → Reps K cm H args vs F → (∀ x ∈ F, x ≠ a) →
    ∀ Q : VK, (∀ o G2 z Gz, Mut (some o) → Rep K cm (upd H a o) t' v (a :: G2) → (∀ x ∈ G2, x ∈ G ∨ x ∈ F) → Rep K cm (upd H a o) res z Gz → (∀ x ∈ Gz, x ∈ G ∨ x ∈ F) → Q z (upd H a o)) → r v vs H Q
def eMut (j : Nat) (n : String) (op : T → List T → Option (T × T)) (xf : Env → Res (List T)) : EF := fun Γ => if (sl Γ j).bind kT = some n then
    (xf Γ).bind fun Γ1 args => match (sl Γ1 j).bind fun t => op t args with
      | some (t', res) => .ok (Γ1.set j (some t')) res | none => .stuck
  else .stuck
section
variable {X : Cx} {cm : Cm} {mo mo' : List Mode} {E : XK} {e : Expr} {es : List Expr} {x name : Str} {p pos apos cpos : Pos} {kd kd' : Kd} {id Tn : String} {r : V → List V → Hp → VK → Prop} {op : T → List T → Option (T × T)} {xf : Env → Res (List T)} {j : Nat}
theorem tyV_of {K : PySem.W.Frag} {t : T} {n : String} (e : kT t = some n) {H : Hp} {v : V} {a : Addr} {G : List Addr} (h : Rep K cm H t v (a :: G)) (m : Mut (H a)) : tyV K n v H := by
  cases t with
  | lst =>
    cases e
    obtain ⟨b, xs, G', rfl, r, s, q⟩ := h
    exact .inl ⟨rfl, xs, SqL.of s⟩
  | dct =>
    cases e
    obtain ⟨b, xs, G', rfl, r, s, q⟩ := h
    cases q
    rcases s with s | ⟨o, s⟩
    · exact .inr (.inr (.inl ⟨rfl, .inl ⟨_, s⟩⟩))
    · rw [s] at m; exact m.elim
  | dtt =>
    cases e
    obtain ⟨b, xs, G', rfl, r, s, q⟩ := h
    cases q
    rcases s with s | ⟨o, s⟩
    · exact .inr (.inr (.inl ⟨rfl, .inr ⟨_, s⟩⟩))
    · rw [s] at m; exact m.elim
  | _ => cases e
theorem PostE.bind0 {α β : Type} {K : PySem.W.Frag} {W : Wd} {σ : L2.St} {r : Res α} {k : Env → α → Res β} {q : β → Wd → Prop} (h : PostE K cm mo E W σ (r.bind k) q) : PostE K cm mo E W σ r fun a W' => ∀ Γ', r = .ok Γ' a → R K cm mo W' σ Γ' → Fr W W' → PostE K cm mo E W σ (k Γ' a) q := by
  cases r with
  | ok Γ t => exact fun W' r f' Γ' e r' f'' => by cases e; exact h
  | ex c Γ => exact h
  | stuck => exact h
theorem mut_core (hs : MtT X.K cm r op) (hm : md mo j = .o1) (l : kle kd .shared = true) : ∀ σ H Q, tE X.K cm mo .shared E (eMut j Tn op xf) σ H Q → tBM X.K Tn r (tVar j) (tEk X.K cm mo kd E xf) σ H Q := fun σ H Q ⟨W, Γ, e1, r0, q⟩ => by
  subst e1
  unfold eMut at q
  split at q
  · rename_i hk
    obtain ⟨t, ht, hk⟩ := Option.bind_eq_some_iff.mp hk
    obtain ⟨v, a, G, hv, rp, ca, nsa, mu, g, -⟩ := r0.o1 (Fr.refl W) hm ht
    refine ⟨v, sl_get hv, tyV_of hk rp mu, W, Γ, rfl, r0, PostE.imp (PostE.bind0 q) fun args W1 Γ1 ex r1 f1 q1 vs F hF kk => ?_⟩
    have q2 := q1 Γ1 ex r1 f1
    cases eo : (sl Γ1 j).bind fun t => op t args with
    | none => rw [eo] at q2; exact q2.elim
    | some pr =>
      obtain ⟨t', res⟩ := pr
      rw [eo] at q2
      obtain ⟨t1, ht1, eo⟩ := Option.bind_eq_some_iff.mp eo
      obtain ⟨v1, a1, G1, hv1, rp1, ca1, nsa1, mu1, g1, fin⟩ := r1.o1 f1 hm ht1
      have ev : v = v1 := Option.some.inj (hv.symm.trans hv1)
      subst ev
      have ks := kk.le l
      refine hs t1 args t' res eo W1.H v a1 G1 vs F rp1 mu1 (fun x hx e => nsa1 (e ▸ g1 x hx)) hF (fun x hx e => (ks x hx).2.1 (e ▸ ca1)) Q fun o G2 z Gz hu rp2 sub rz subz => ?_
      have cls : ∀ x, x ∈ G1 ∨ x ∈ F → W1.S x ∨ (¬ W1.C x ∧ ¬ W1.L x ∧ Tr W1.H x ∧ (W.S x ∨ W.C x ∨ ¬ Tr W.H x)) := fun x hx => hx.elim (fun h => .inl (g1 x h)) fun h => .inr ⟨(ks x h).2.1, (ks x h).2.2, hF.tr _ _ _ x h, (ks x h).1⟩
      obtain ⟨W2, e2, r2, f2, mS, mG, mC, mL⟩ := fin t' o G2 hu rp2 fun x hx => cls x (sub x hx)
      have := q2 W2 r2 f2 z Gz (by rw [e2]; exact rz) fun x hx => by
        have hc := cls x (subz x hx)
        refine ⟨hc.elim (f1.shn x) fun h => h.2.2.2, fun c => ?_, fun c => ?_⟩
        · exact hc.elim (fun h => R.sC r1 x h (mC x c)) fun h => h.1 (mC x c)
        · exact hc.elim (fun h => R.sL r1 x h (mL x c)) fun h => h.2.1 (mL x c)
      rw [e2] at this; exact this
  · exact q.elim
/-- x.name(args), x a slot's own -/
theorem ee_mut (pa : PlainAttrs Tn) (slot : Slot Tn name id) (hty : typeOf (.builtin id) = pure (.type "method_descriptor")) (hmr : MtR X id r) (hs : MtT X.K cm r op) (hN : X.N[j]? = some x) (hv : Vis X.env.scope x) (hm : md mo j = .o1) (l : kle kd .shared = true) (ha : Ak X cm mo E kd (e :: es) xf)
    (hd : (x == ("__debug__" : Str)) = false := by decide) (hcd : (x == ("__classdict__" : Str)) = false := by decide)
    (hfew : ((backTo cpos (starEach (e :: es) X.env)).all (fun x => !x.1) && (backToKw cpos (keywordEach [] X.env)).all (fun x => x.1.isSome)
      && decide ((e :: es).length + ([] : List Keyword).length + (if ([] : List Keyword).isEmpty then 0 else 1) < 30)) = true := by rfl)
    (hline : (apos.endLine == cpos.line) = true := by rfl) (hst : starEach (e :: es) X.env = (false, eval e X.env) :: starEach es X.env := by rfl) (hplain : (backTo cpos (starEach es X.env)).any (·.1) = false := by rfl) :
    Ee X cm mo E .shared (.Call (.Attribute (.Name x p) name apos) (e :: es) [] cpos) (eMut j Tn op xf) :=
  PE.imp (pe_bm pa slot hty hmr (pe_var hN hv hd hcd) ha rfl hfew hline hst hplain) (mut_core hs hm l)
theorem mut_core0 (hs : MtT X.K cm r op) (hm : md mo j = .o1) : ∀ σ H Q, tE X.K cm mo .shared E (eMut j Tn op eNil) σ H Q → tBM0 X.K Tn r (tVar j) σ H Q := fun σ H Q ⟨W, Γ, e1, r0, q⟩ => by
  obtain ⟨v, hv, ty, W', Γ', e1, r', q⟩ := mut_core (kd := .imm) hs hm rfl σ H Q ⟨W, Γ, e1, r0, q⟩
  exact ⟨v, hv, ty, by rw [← e1]; exact q W' r' (Fr.refl _) [] [] ⟨rfl, rfl⟩ rfl⟩
theorem ee_mut0 (pa : PlainAttrs Tn) (slot : Slot Tn name id) (hty : typeOf (.builtin id) = pure (.type "method_descriptor")) (hmr : MtR X id r) (hs : MtT X.K cm r op) (hN : X.N[j]? = some x) (hv : Vis X.env.scope x) (hm : md mo j = .o1)
    (hd : (x == ("__debug__" : Str)) = false := by decide) (hcd : (x == ("__classdict__" : Str)) = false := by decide) (hline : (apos.endLine == cpos.line) = true := by rfl) :
    Ee X cm mo E .shared (.Call (.Attribute (.Name x p) name apos) [] [] cpos) (eMut j Tn op eNil) :=
  PE.imp (pe_bm0 pa slot hty hmr (pe_var hN hv hd hcd) rfl hline) (mut_core0 hs hm)
end
/-! ### the methods of lists -/
def lmAppend : T → List T → Option (T × T)
  | .lst xs, [t] => if xs.length < 100000 then some (.lst (xs ++ [t]), .non) else none | _, _ => none
def lmPop : T → List T → Option (T × T)
  | .lst xs, [] => (xs[xs.length - 1]?).map fun t => (.lst xs.dropLast, t) | _, _ => none
def lmPopAt : T → List T → Option (T × T)
  | .lst xs, [.int i] => if -(2 ^ 63) ≤ i ∧ i < 2 ^ 63 then (seqIndex? i xs.length).bind fun k => (xs[k]?).map fun t => (.lst (xs.eraseIdx k), t) else none | _, _ => none
def lmInsert : T → List T → Option (T × T)
  | .lst xs, [.int i, t] => if xs.length < 100000 ∧ 0 ≤ i ∧ i < 2 ^ 63 then some (.lst (xs.take i.toNat ++ [t] ++ xs.drop i.toNat), .non) else none | _, _ => none
def lmReverse : T → List T → Option (T × T)
  | .lst xs, [] => some (.lst xs.reverse, .non) | _, _ => none
def lmClear : T → List T → Option (T × T)
  | .lst _, [] => some (.lst [], .non) | _, _ => none
def rInsert : V → List V → Hp → VK → Prop := fun x vs H Q => ∃ (l : Addr) (xs : List V) (i : Int) (y : V), x = .ref l ∧ vs = [.int i, y] ∧ H l = some (.lst xs) ∧ xs.length < sizeLine ∧ 0 ≤ i ∧ i < 2 ^ 63 ∧
    Q .non (upd H l (.lst (xs.take i.toNat ++ [y] ++ xs.drop i.toNat)))
section
variable {K : PySem.W.Frag} {cm : Cm} {H : Hp}
theorem Reps.take : ∀ {ts : List T} {xs : List V} {F : List Addr} {i : Nat}, Reps K cm H ts xs F → ∃ F', Reps K cm H (ts.take i) (xs.take i) F' ∧ ∀ y ∈ F', y ∈ F
  | [], _, F, _, h => by rw [h.1, List.take_nil, List.take_nil]; exact ⟨[], ⟨rfl, rfl⟩, fun y hy => by cases hy⟩
  | u :: ts, _, _, 0, h => ⟨[], ⟨rfl, rfl⟩, fun y hy => by cases hy⟩
  | u :: ts, _, _, i + 1, h => by
    obtain ⟨x, r, F1, F2, rfl, rfl, h1, h2⟩ := h
    obtain ⟨F', q1, q2⟩ := Reps.take (i := i) h2
    exact ⟨F1 ++ F', ⟨x, r.take i, F1, F', rfl, rfl, h1, q1⟩, fun y hy => (List.mem_append.mp hy).elim (fun q => List.mem_append_left _ q) fun q => List.mem_append_right _ (q2 y q)⟩
theorem Reps.drop : ∀ {ts : List T} {xs : List V} {F : List Addr} {i : Nat}, Reps K cm H ts xs F → ∃ F', Reps K cm H (ts.drop i) (xs.drop i) F' ∧ ∀ y ∈ F', y ∈ F
  | [], _, F, _, h => by rw [h.1, List.drop_nil, List.drop_nil]; exact ⟨[], ⟨rfl, rfl⟩, fun y hy => by cases hy⟩
  | u :: ts, _, _, 0, h => ⟨_, h, fun y hy => hy⟩
  | u :: ts, _, _, i + 1, h => by
    obtain ⟨x, r, F1, F2, rfl, rfl, h1, h2⟩ := h
    obtain ⟨F', q1, q2⟩ := Reps.drop (i := i) h2
    exact ⟨F', q1, fun y hy => List.mem_append_right _ (q2 y hy)⟩
/-- a list's root written -/
theorem lm_lst {ts : List T} {args : List T} {v : V} {a : Addr} {G F : List Addr} {vs : List V} (h : Rep K cm H (.lst ts) v (a :: G)) (m : Mut (H a)) (nG : ∀ x ∈ G, x ≠ a) (g : Reps K cm H args vs F) (nF : ∀ x ∈ F, x ≠ a) :
    ∃ xs, v = .ref a ∧ H a = some (.lst xs) ∧ Reps K cm H ts xs G ∧ ∀ o, Reps K cm (upd H a o) ts xs G ∧ Reps K cm (upd H a o) args vs F := by
  obtain ⟨b, xs, G', rfl, r, s, q⟩ := h
  cases q
  exact ⟨xs, rfl, s, r, fun o => ⟨r.kp (kp_root m) _ _ _ nG, g.kp (kp_root m) _ _ _ nF⟩⟩
theorem lm_append : MtT K cm rAppend lmAppend := fun t args t' res e H v a G vs F h m nG hF nF Q q => by
  unfold lmAppend at e
  split at e
  · split at e
    · cases e
      obtain ⟨xs, rfl, s, r, kp⟩ := lm_lst h m nG hF nF
      obtain ⟨y, rfl, hy⟩ := hF.arg1
      refine ⟨a, xs, y, rfl, rfl, s, by rw [r.len]; exact Nat.lt_of_lt_of_le ‹_› (by decide), q _ (G ++ F) _ [] trivial ?_ (fun x hx => List.mem_append.mp hx) ⟨rfl, rfl⟩ fun x hx => by cases hx⟩
      exact ⟨a, _, _, rfl, (kp _).1.append (kp _).2, upd_same, rfl⟩
    · cases e
  · cases e
theorem lm_pop : MtT K cm rPop lmPop := fun t args t' res e H v a G vs F h m nG hF nF Q q => by
  unfold lmPop at e
  split at e
  · obtain ⟨u, eu, e⟩ := Option.map_eq_some_iff.mp e
    cases e
    obtain ⟨xs, rfl, s, r, kp⟩ := lm_lst h m nG hF nF
    obtain ⟨rfl, rfl⟩ := hF
    rename_i ts
    obtain ⟨F', q1, q2⟩ := (kp (.lst xs.dropLast)).1.take (i := ts.length - 1)
    obtain ⟨y, Gy, e3, ry, sy⟩ := (kp (.lst xs.dropLast)).1.get eu
    refine ⟨a, xs, y, rfl, rfl, s, by rw [r.len]; exact e3, q _ F' _ Gy trivial ?_ (fun x hx => .inl (q2 x hx)) ry fun x hx => .inl (sy x hx)⟩
    refine ⟨a, _, _, rfl, ?_, upd_same, rfl⟩
    rw [List.dropLast_eq_take, List.dropLast_eq_take, r.len]
    rw [List.dropLast_eq_take, r.len] at q1
    exact q1
  · cases e
theorem lm_popAt : MtT K cm rPopAt lmPopAt := fun t args t' res e H v a G vs F h m nG hF nF Q q => by
  unfold lmPopAt at e
  split at e
  · split at e
    · rename_i hi
      obtain ⟨k, ek, e⟩ := Option.bind_eq_some_iff.mp e
      obtain ⟨u, eu, e⟩ := Option.map_eq_some_iff.mp e
      cases e
      obtain ⟨xs, rfl, s, r, kp⟩ := lm_lst h m nG hF nF
      obtain ⟨y, rfl, hy⟩ := hF.arg1
      rw [hy.1]
      obtain ⟨F', q1, q2⟩ := (kp (.lst (xs.eraseIdx k))).1.erase (i := k)
      obtain ⟨y, Gy, e3, ry, sy⟩ := (kp (.lst (xs.eraseIdx k))).1.get eu
      exact ⟨a, xs, _, k, y, rfl, rfl, s, hi.1, hi.2, by rw [r.len]; exact ek, e3, q _ F' _ Gy trivial ⟨a, _, _, rfl, q1, upd_same, rfl⟩ (fun x hx => .inl (q2 x hx)) ry fun x hx => .inl (sy x hx)⟩
    · cases e
  · cases e
theorem lm_insert : MtT K cm rInsert lmInsert := fun t args t' res e H v a G vs F h m nG hF nF Q q => by
  unfold lmInsert at e
  split at e
  · split at e
    · rename_i hi
      cases e
      obtain ⟨xs, rfl, s, r, kp⟩ := lm_lst h m nG hF nF
      obtain ⟨y, z, F1, F2, rfl, rfl, h1, h2⟩ := hF.arg2
      rw [h1.1]
      rename_i ts i u
      obtain ⟨_, _, G1, G2, _, _, _, _⟩ := (kp (.lst (xs.take i.toNat ++ [z] ++ xs.drop i.toNat))).2.arg2
      have hz := h2.kp (kp_root (o := .lst (xs.take i.toNat ++ [z] ++ xs.drop i.toNat)) m) _ _ _ fun x hx => nF x (List.mem_append_right _ hx)
      obtain ⟨F', q1, q2⟩ := (kp (.lst (xs.take i.toNat ++ [z] ++ xs.drop i.toNat))).1.take (i := i.toNat)
      obtain ⟨F'', q3, q4⟩ := (kp (.lst (xs.take i.toNat ++ [z] ++ xs.drop i.toNat))).1.drop (i := i.toNat)
      refine ⟨a, xs, _, z, rfl, rfl, s, by rw [r.len]; exact Nat.lt_of_lt_of_le hi.1 (by decide), hi.2.1, hi.2.2, q _ (F' ++ F2 ++ F'') _ [] trivial ⟨a, _, _, rfl, (q1.append (Reps.one hz)).append q3, upd_same, rfl⟩ (fun x hx => ?_) ⟨rfl, rfl⟩ fun x hx => by cases hx⟩
      rcases List.mem_append.mp hx with hx | hx
      · rcases List.mem_append.mp hx with hx | hx
        · exact .inl (q2 x hx)
        · exact .inr (List.mem_append_right _ hx)
      · exact .inl (q4 x hx)
    · cases e
  · cases e
theorem lm_reverse : MtT K cm rReverse lmReverse := fun t args t' res e H v a G vs F h m nG hF nF Q q => by
  unfold lmReverse at e
  split at e
  · cases e
    obtain ⟨xs, rfl, s, r, kp⟩ := lm_lst h m nG hF nF
    obtain ⟨rfl, rfl⟩ := hF
    obtain ⟨F', q1, q2⟩ := (kp (.lst xs.reverse)).1.rev
    exact ⟨a, xs, rfl, rfl, s, q _ F' _ [] trivial ⟨a, _, _, rfl, q1, upd_same, rfl⟩ (fun x hx => .inl (q2 x hx)) ⟨rfl, rfl⟩ fun x hx => by cases hx⟩
  · cases e
theorem lm_clear : MtT K cm rClear lmClear := fun t args t' res e H v a G vs F h m nG hF nF Q q => by
  unfold lmClear at e
  split at e
  · cases e
    obtain ⟨xs, rfl, s, r, kp⟩ := lm_lst h m nG hF nF
    obtain ⟨rfl, rfl⟩ := hF
    exact ⟨a, xs, rfl, rfl, s, q _ [] _ [] trivial ⟨a, _, _, rfl, ⟨rfl, rfl⟩, upd_same, rfl⟩ (fun x hx => by cases hx) ⟨rfl, rfl⟩ fun x hx => by cases hx⟩
  · cases e
end
end Tm
namespace Tm
open PySem PySem.Spec PyProof.Rows L2
/-! ### stores: x[i] = v, x a slot's own list or dict -/
def putT {κ : Type} [DecidableEq κ] (kvs : List (κ × T)) (k : κ) (t : T) : List (κ × T) :=
  if (kvs.any fun kv => decide (kv.1 = k)) = true then kvs.map (fun kv => if kv.1 = k then (kv.1, t) else kv) else kvs ++ [(k, t)]
def stoL : T → T → T → Option T
  | .lst xs, .int i, t => (ixN xs.length i).map fun k => .lst (xs.set k t) | _, _, _ => none
def stoD : T → T → T → Option T
  | .dct kvs, k, t => if kvs.length < 100000 then (keyT k).map fun k => .dct (putT kvs k t) else none
  | .dtt kvs, .tup ks, t => if kvs.length < 100000 then (keysT ks).map fun k => .dtt (putT kvs k t) else none
  | _, _, _ => none
def StT (K : PySem.W.Frag) (cm : Cm) (w : V → V → V → Hp → (Hp → Prop) → Prop) (op : T → T → T → Option T) : Prop :=
  ∀ t i u t', op t i u = some t' → ∀ H v a G iv Gi uv Gu, Rep K cm H t v (a :: G) → Mut (H a) → (∀ x ∈ G, x ≠ a) → Rep K cm H i iv Gi → Rep K cm H u uv Gu → (∀ x ∈ Gu, x ≠ a) →
    ∀ Q : Hp → Prop, (∀ o G2, Mut (some o) → Rep K cm (upd H a o) t' v (a :: G2) → (∀ x ∈ G2, x ∈ G ∨ x ∈ Gu) → Q (upd H a o)) → w v iv uv H Q
def rPut : V → V → V → Hp → (Hp → Prop) → Prop := fun x y v H Q => ∃ a H4, x = .ref a ∧ DPut H a y v H4 ∧ Q H4
section
variable {K : PySem.W.Frag} {cm : Cm} {H : Hp}
theorem keyT_rep {t : T} {k : Key} (e : keyT t = some k) {v : V} {F : List Addr} (h : Rep K cm H t v F) : v = kV k := by
  cases t with
  | int => cases e; exact h.1
  | str => cases e; exact h.1
  | _ => cases e
theorem keysT_reps : ∀ {ts : List T} {ks : List Key}, keysT ts = some ks → ∀ {vs : List V} {F : List Addr}, Reps K cm H ts vs F → vs = ks.map kV
  | [], ks, e, vs, F, h => by cases e; exact h.1
  | t :: ts, ks, e, vs, F, h => by
    obtain ⟨k, e1, e2⟩ := Option.bind_eq_some_iff.mp e
    obtain ⟨ks', e3, rfl⟩ := Option.map_eq_some_iff.mp e2
    obtain ⟨x, r, F1, F2, rfl, rfl, h1, h2⟩ := h
    rw [keyT_rep e1 h1, keysT_reps e3 h2]; rfl
theorem keysT_isK : ∀ {ts : List T} {ks : List Key}, keysT ts = some ks → ts.all isK = true
  | [], _, _ => rfl
  | t :: ts, ks, e => by
    obtain ⟨k, e1, e2⟩ := Option.bind_eq_some_iff.mp e
    obtain ⟨ks', e3, rfl⟩ := Option.map_eq_some_iff.mp e2
    rw [List.all_cons, keysT_isK e3, Bool.and_true]
    cases t with
    | int => rfl
    | str => rfl
    | _ => cases e1
theorem RepD.any {k : Key} {ts : List (Key × T)} {xs : List (Key × V)} {F : List Addr} (h : RepD K cm H ts xs F) : (xs.any fun kv => decide (kv.1 = k)) = ts.any fun kv => decide (kv.1 = k) := by
  have e := h.keys
  have a1 : ∀ (l : List (Key × T)), (l.any fun kv => decide (kv.1 = k)) = (l.map (·.1)).any fun x => decide (x = k) := fun l => by rw [List.any_map]; rfl
  have a2 : ∀ (l : List (Key × V)), (l.any fun kv => decide (kv.1 = k)) = (l.map (·.1)).any fun x => decide (x = k) := fun l => by rw [List.any_map]; rfl
  rw [a1, a2, e]
theorem RepT.any {k : List Key} {ts : List (List Key × T)} {xs : List (List Key × V)} {F : List Addr} (h : RepT K cm H ts xs F) : (xs.any fun kv => decide (kv.1 = k)) = ts.any fun kv => decide (kv.1 = k) := by
  have e := h.keys
  have a1 : ∀ (l : List (List Key × T)), (l.any fun kv => decide (kv.1 = k)) = (l.map (·.1)).any fun x => decide (x = k) := fun l => by rw [List.any_map]; rfl
  have a2 : ∀ (l : List (List Key × V)), (l.any fun kv => decide (kv.1 = k)) = (l.map (·.1)).any fun x => decide (x = k) := fun l => by rw [List.any_map]; rfl
  rw [a1, a2, e]
theorem RepD.app : ∀ {ts us : List (Key × T)} {xs ys : List (Key × V)} {F G : List Addr}, RepD K cm H ts xs F → RepD K cm H us ys G → RepD K cm H (ts ++ us) (xs ++ ys) (F ++ G)
  | [], _, _, _, _, _, h, g => by rw [h.1, h.2]; exact g
  | (k, t) :: ts, _, _, _, _, G, h, g => by
    obtain ⟨x, r, F1, F2, rfl, rfl, h1, h2⟩ := h
    exact ⟨x, r ++ _, F1, F2 ++ G, rfl, List.append_assoc .., h1, RepD.app h2 g⟩
theorem RepT.app : ∀ {ts us : List (List Key × T)} {xs ys : List (List Key × V)} {F G : List Addr}, RepT K cm H ts xs F → RepT K cm H us ys G → RepT K cm H (ts ++ us) (xs ++ ys) (F ++ G)
  | [], _, _, _, _, _, h, g => by rw [h.1, h.2]; exact g
  | (k, t) :: ts, _, _, _, _, G, h, g => by
    obtain ⟨x, r, F1, F2, rfl, rfl, h1, h2⟩ := h
    exact ⟨x, r ++ _, F1, F2 ++ G, rfl, List.append_assoc .., h1, RepT.app h2 g⟩
theorem RepD.mapSet {k : Key} {t : T} {v : V} {G : List Addr} (g : Rep K cm H t v G) : ∀ {ts : List (Key × T)} {xs : List (Key × V)} {F : List Addr}, RepD K cm H ts xs F →
    ∃ F', RepD K cm H (ts.map fun kv => if kv.1 = k then (kv.1, t) else kv) (xs.map fun kv => if kv.1 = k then (kv.1, v) else kv) F' ∧ ∀ y ∈ F', y ∈ F ∨ y ∈ G
  | [], _, F, h => by rw [h.1]; exact ⟨[], ⟨rfl, rfl⟩, fun y hy => by cases hy⟩
  | (k1, u) :: ts, _, _, h => by
    obtain ⟨x, r, F1, F2, rfl, rfl, h1, h2⟩ := h
    obtain ⟨F', q1, q2⟩ := RepD.mapSet g h2
    rw [List.map_cons, List.map_cons]
    by_cases e : k1 = k
    · rw [if_pos e, if_pos e]
      exact ⟨G ++ F', ⟨v, _, G, F', rfl, rfl, g, q1⟩, fun y hy => (List.mem_append.mp hy).elim .inr fun q => (q2 y q).elim (fun q => .inl (List.mem_append_right _ q)) .inr⟩
    · rw [if_neg e, if_neg e]
      exact ⟨F1 ++ F', ⟨x, _, F1, F', rfl, rfl, h1, q1⟩, fun y hy => (List.mem_append.mp hy).elim (fun q => .inl (List.mem_append_left _ q)) fun q => (q2 y q).elim (fun q => .inl (List.mem_append_right _ q)) .inr⟩
theorem RepT.mapSet {k : List Key} {t : T} {v : V} {G : List Addr} (g : Rep K cm H t v G) : ∀ {ts : List (List Key × T)} {xs : List (List Key × V)} {F : List Addr}, RepT K cm H ts xs F →
    ∃ F', RepT K cm H (ts.map fun kv => if kv.1 = k then (kv.1, t) else kv) (xs.map fun kv => if kv.1 = k then (kv.1, v) else kv) F' ∧ ∀ y ∈ F', y ∈ F ∨ y ∈ G
  | [], _, F, h => by rw [h.1]; exact ⟨[], ⟨rfl, rfl⟩, fun y hy => by cases hy⟩
  | (k1, u) :: ts, _, _, h => by
    obtain ⟨x, r, F1, F2, rfl, rfl, h1, h2⟩ := h
    obtain ⟨F', q1, q2⟩ := RepT.mapSet g h2
    rw [List.map_cons, List.map_cons]
    by_cases e : k1 = k
    · rw [if_pos e, if_pos e]
      exact ⟨G ++ F', ⟨v, _, G, F', rfl, rfl, g, q1⟩, fun y hy => (List.mem_append.mp hy).elim .inr fun q => (q2 y q).elim (fun q => .inl (List.mem_append_right _ q)) .inr⟩
    · rw [if_neg e, if_neg e]
      exact ⟨F1 ++ F', ⟨x, _, F1, F', rfl, rfl, h1, q1⟩, fun y hy => (List.mem_append.mp hy).elim (fun q => .inl (List.mem_append_left _ q)) fun q => (q2 y q).elim (fun q => .inl (List.mem_append_right _ q)) .inr⟩
theorem RepD.put {k : Key} {t : T} {v : V} {G F : List Addr} {ts : List (Key × T)} {xs : List (Key × V)} (h : RepD K cm H ts xs F) (g : Rep K cm H t v G) : ∃ F', RepD K cm H (putT ts k t) (putK xs k v) F' ∧ ∀ y ∈ F', y ∈ F ∨ y ∈ G := by
  unfold putT putK
  rw [h.any (k := k)]
  split
  · exact RepD.mapSet g h
  · exact ⟨F ++ (G ++ []), h.app ⟨v, [], G, [], rfl, rfl, g, rfl, rfl⟩, fun y hy => by simpa using hy⟩
theorem RepT.put {k : List Key} {t : T} {v : V} {G F : List Addr} {ts : List (List Key × T)} {xs : List (List Key × V)} (h : RepT K cm H ts xs F) (g : Rep K cm H t v G) : ∃ F', RepT K cm H (putT ts k t) (putK xs k v) F' ∧ ∀ y ∈ F', y ∈ F ∨ y ∈ G := by
  unfold putT putK
  rw [h.any (k := k)]
  split
  · exact RepT.mapSet g h
  · exact ⟨F ++ (G ++ []), h.app ⟨v, [], G, [], rfl, rfl, g, rfl, rfl⟩, fun y hy => by simpa using hy⟩
theorem RepD.len {ts : List (Key × T)} {xs : List (Key × V)} {F : List Addr} (h : RepD K cm H ts xs F) : xs.length = ts.length := by
  have := congrArg List.length h.keys
  rwa [List.length_map, List.length_map, eq_comm] at this
theorem RepT.len {ts : List (List Key × T)} {xs : List (List Key × V)} {F : List Addr} (h : RepT K cm H ts xs F) : xs.length = ts.length := by
  have := congrArg List.length h.keys
  rwa [List.length_map, List.length_map, eq_comm] at this
theorem st_lst : StT K cm rSetL stoL := fun t i u t' e H v a G iv Gi uv Gu h m nG hi hu nu Q q => by
  unfold stoL at e
  split at e
  · obtain ⟨k, ek, rfl⟩ := Option.map_eq_some_iff.mp e
    obtain ⟨b, xs, G', rfl, r, s, z⟩ := h
    cases z
    rw [hi.1]
    have r2 := r.kp (kp_root (o := .lst (xs.set k uv)) m) _ _ _ nG
    have u2 := hu.kp (kp_root (o := .lst (xs.set k uv)) m) _ _ _ nu
    obtain ⟨F', q1, q2⟩ := Reps.set (i := k) r2 u2
    exact ⟨a, xs, _, k, rfl, rfl, s, by rw [r.len]; exact ek, q _ F' trivial ⟨a, _, _, rfl, q1, upd_same, rfl⟩ q2⟩
  · cases e
theorem st_dct : StT K cm rPut stoD := fun t i u t' e H v a G iv Gi uv Gu h m nG hi hu nu Q q => by
  unfold stoD at e
  split at e
  · split at e
    · rename_i hl
      obtain ⟨k, ek, rfl⟩ := Option.map_eq_some_iff.mp e
      obtain ⟨b, xs, G', rfl, r, s, z⟩ := h
      cases z
      have s : H a = some (.dK xs) := by
        rcases s with s | ⟨o, s⟩
        · exact s
        · rw [s] at m; exact m.elim
      have r2 := RepD.kp (kp_root (o := .dK (putK xs k uv)) m) _ _ _ r nG
      have u2 := hu.kp (kp_root (o := .dK (putK xs k uv)) m) _ _ _ nu
      obtain ⟨F', q1, q2⟩ := RepD.put (k := k) r2 u2
      rw [keyT_rep ek hi]
      exact ⟨a, _, rfl, DPut.k s (by rw [r.len]; exact Nat.lt_of_lt_of_le hl (by decide)), q _ F' trivial ⟨a, _, _, rfl, q1, .inl upd_same, rfl⟩ q2⟩
    · cases e
  · split at e
    · rename_i hl
      obtain ⟨k, ek, rfl⟩ := Option.map_eq_some_iff.mp e
      obtain ⟨b, xs, G', rfl, r, s, z⟩ := h
      cases z
      have s : H a = some (.dT xs) := by
        rcases s with s | ⟨o, s⟩
        · exact s
        · rw [s] at m; exact m.elim
      obtain ⟨c, ys, rfl, sc, rc⟩ := hi
      have ec := keysT_reps ek rc
      subst ec
      have r2 := RepT.kp (kp_root (o := .dT (putK xs k uv)) m) _ _ _ r nG
      have u2 := hu.kp (kp_root (o := .dT (putK xs k uv)) m) _ _ _ nu
      obtain ⟨F', q1, q2⟩ := RepT.put (k := k) r2 u2
      exact ⟨a, _, rfl, DPut.t s (sc.2 (keysT_isK ek)) (by rw [r.len]; exact Nat.lt_of_lt_of_le hl (by decide)), q _ F' trivial ⟨a, _, _, rfl, q1, .inl upd_same, rfl⟩ q2⟩
    · cases e
  · cases e
end
def sStoK (op : T → T → T → Option T) (j : Nat) (vf iv : EF) : SF := fun Γ => (vf Γ).sB fun Γ1 u => (iv Γ1).sB fun Γ2 i => match (sl Γ2 j).bind fun t => op t i u with
  | some t' => .nx (Γ2.set j (some t')) | none => .stuck
def sSto (j : Nat) (vf iv : EF) : SF := fun Γ => match (sl Γ j).bind kT with
  | some "list" => sStoK stoL j vf iv Γ
  | some "dict" => sStoK stoD j vf iv Γ
  | _ => .stuck
section
variable {X : Cx} {cm : Cm} {mo mo' : List Mode} {J : Exits} {E : XK} {v i : Expr} {x : Str} {p pos pos' : Pos} {kd ki : Kd} {vf iv : EF} {j : Nat}
theorem sto_core {w : V → V → V → Hp → (Hp → Prop) → Prop} {op : T → T → T → Option T} (hs : StT X.K cm w op) (hm : md mo j = .o1) (l : kle kd .shared = true) (wk : mleL J.r mo = true) {D : Ends} {σ : L2.St} {W : Wd} {Γ : Env} (r : R X.K cm mo W σ Γ) (q : PostS X.K cm J mo E W σ D (sStoK op j vf iv Γ)) :
    tE X.K cm mo kd E vf σ W.H fun uv H1 => ∀ (a : V), sl σ j = some a → tE X.K cm mo ki E iv σ H1 fun y H2 => w a y uv H2 fun H3 => D.nx σ H3 := by
  refine ⟨W, Γ, rfl, r, PostE.imp (PostS.bind q wk) fun u W1 Γ1 ex r1 f1 q1 uv Gu hu ku a ea => ⟨W1, Γ1, rfl, r1, PostE.imp (PostE.start (PostS.bind (q1 Γ1 ex r1 f1) wk) f1) fun y W2 Γ2 ey r2 f2 q2 yv Gy hy ky => ?_⟩⟩
  have f12 := f1.trans f2
  have q3 := q2 Γ2 ey r2 f12
  cases eo : (sl Γ2 j).bind fun t => op t y u with
  | none => rw [eo] at q3; exact q3.elim
  | some t' =>
    rw [eo] at q3
    obtain ⟨t, ht, eo⟩ := Option.bind_eq_some_iff.mp eo
    obtain ⟨v1, a1, G1, hv1, rp1, ca1, nsa1, mu1, g1, fin⟩ := r2.o1 f12 hm ht
    have ev : a = v1 := Option.some.inj (ea.symm.trans hv1)
    subst ev
    have ks := ku.le l
    have ks2 := KOk.step f2 (hu.tr _ _ _) ks
    have hu2 := hu.step r1 f2 fun x hx => (ks x hx).2.1
    refine hs t y u t' eo W2.H a a1 G1 yv Gy uv Gu rp1 mu1 (fun x hx e => nsa1 (e ▸ g1 x hx)) hy hu2 (fun x hx e => (ks2 x hx).2.1 (e ▸ ca1)) _ fun o G2 hmu rp2 sub => ?_
    obtain ⟨W3, e3, r3, f3, -, -, -, -⟩ := fin t' o G2 hmu rp2 fun x hx => (sub x hx).elim (fun h => .inl (g1 x h)) fun h => .inr ⟨(ks2 x h).2.1, (ks2 x h).2.2, hu2.tr _ _ _ x h, (ks2 x h).1⟩
    have := q3 σ W3 r3 f3 Fx.refl
    rw [e3] at this; exact this
/-- x[i] = v -/
theorem s_sto (hN : X.N[j]? = some x) (hv : Vis X.env.scope x) (hm : md mo j = .o1) (l : kle kd .shared = true) (wk : mleL J.r mo = true) (hu : X.A.units + 1 < cLine) (hve : Ee X cm mo E kd v vf) (hie : Ee X cm mo E ki i iv)
    (hs : swapsWith v (some (.Subscript (.Name x p) i pos')) pos.line X.env = pure false := by rfl) (hs2 : swapsWithSole [.Subscript (.Name x p) i pos'] v pos.line X.env = pure false := by rfl) (hw : swappedStores [.Subscript (.Name x p) i pos'] v X.env = pure none := by rfl)
    (h1 : (assignEach [.Subscript (.Name x p) i pos'] X.env).map (·.2) = [assign (.Subscript (.Name x p) i pos') X.env] := by rfl)
    (ha : ∀ v, assign (.Subscript (.Name x p) i pos') X.env v = (do
      let ov ← holding [v] (eval (.Name x p) X.env)
      let iv ← holding [v, ov] (eval i X.env)
      standAt pos'
      holding [v, ov, iv] (setItem ov iv v)
      release [v, ov, iv] []) := by intro _; rfl) (hd : (x == ("__debug__" : Str)) = false := by decide) (hcd : (x == ("__classdict__" : Str)) = false := by decide) :
    Sm X cm J E mo (.Assign [.Subscript (.Name x p) i pos'] v pos) mo (sSto j vf iv) :=
  PS.imp (PS.or (ps_asg hve (pg_sub (pe_var hN hv hd hcd) hie set_list ha) hs2 hw h1) (ps_dput hu (pe_var hN hv hd hcd) hie hve hs)) fun D σ H ⟨W, Γ, e1, r, q⟩ => by
  subst e1
  unfold sSto at q
  cases et : sl Γ j with
  | none => rw [et] at q; exact (show False from q).elim
  | some t0 =>
    rw [et] at q
    obtain ⟨a, G, hv0, -⟩ := sl_R r et (by rw [hm]; decide)
    have e2 : (some t0).bind kT = kT t0 := rfl
    rw [e2] at q
    split at q
    · refine .inl ?_
      have := sto_core st_lst hm l wk r q (ki := ki)
      obtain ⟨W', Γ', e3, r3, q3⟩ := this
      exact ⟨W', Γ', e3, r3, PostE.imp q3 fun u W1 Γ1 _ _ _ z uv Gu hu ku => ⟨a, sl_get hv0, z uv Gu hu ku a hv0⟩⟩
    · refine .inr ?_
      have := sto_core st_dct hm l wk r q (ki := ki)
      obtain ⟨W', Γ', e3, r3, q3⟩ := this
      exact ⟨W', Γ', e3, r3, PostE.imp q3 fun u W1 Γ1 _ _ _ z uv Gu hu ku => ⟨a, sl_get hv0, z uv Gu hu ku a hv0⟩⟩
    · exact q.elim
end
end Tm
namespace Tm
open PySem PySem.Spec PyProof.Rows L2
/-! ### read only: every slot is a view meanwhile -/
def frz : List Mode → List Mode := List.map fun m => match m with | .o1 => .vw | .own => .vw | m => m
def fkd : Kd → Kd
  | .imm => .imm | _ => .any
def eFrz (f : EF) : EF := fun Γ => match f Γ with
  | .ok _ t => .ok Γ t | .ex c _ => .ex c Γ | .stuck => .stuck
theorem frz_le : ∀ mo : List Mode, mleL (frz mo) mo = true
  | [] => rfl
  | m :: mo => by
    show (mle _ m && mleL (frz mo) mo) = true
    rw [frz_le mo, Bool.and_true]
    cases m <;> rfl
theorem frz_md : ∀ (mo : List Mode) (i : Nat), chg (md (frz mo) i) = false
  | [], i => rfl
  | m :: mo, 0 => by cases m <;> rfl
  | m :: mo, i + 1 => frz_md mo i
theorem frz_core {K : PySem.W.Frag} {cm : Cm} {mo : List Mode} {E : XK} {kd : Kd} {ef : EF} {te : TE} (ht : ∀ σ H Q, tE K cm (frz mo) kd E ef σ H Q → te σ H Q) : ∀ σ H Q, tE K cm mo (fkd kd) E (eFrz ef) σ H Q → te σ H Q := fun σ H Q ⟨W, Γ, e1, r, q⟩ => ht σ H Q (by
  subst e1
  obtain ⟨W2, e2, r2, f2⟩ := r.weak (frz_le mo)
  have nC : ∀ x, ¬ W2.C x := fun x c => by
    obtain ⟨Os, r3⟩ := r2
    obtain ⟨i, hi, _⟩ := (r3.hC x).mp c
    rw [frz_md] at hi; cases hi
  have sm : ∀ {W3}, Fr W2 W3 → Same W.H W3.H := fun f b o e => f.keep b o (by rw [e2]; exact e) (nC b)
  refine ⟨W2, Γ, e2, r2, ?_⟩
  unfold eFrz at q
  cases e : ef Γ with
  | ok Γ1 t =>
    rw [e] at q
    intro W3 r3 f3 v G h kk
    refine q { W with H := W3.H } (r.same (sm f3)) (same_fr (sm f3)) v G h ?_
    cases kd <;> first | exact kk | trivial
  | ex c Γ1 =>
    rw [e] at q
    intro W3 r3 f3
    exact q { W with H := W3.H } (r.same (sm f3)) (same_fr (sm f3))
  | stuck => rw [e] at q; exact q)
theorem ee_frz {X : Cx} {cm : Cm} {mo : List Mode} {E : XK} {kd : Kd} {e : Expr} {ef : EF} (h : Ee X cm (frz mo) E kd e ef) : Ee X cm mo E (fkd kd) e (eFrz ef) := PE.imp h (frz_core fun _ _ _ h => h)
/-! ### slots that are dead -/
section
variable {K : PySem.W.Frag} {cm : Cm} {mo mo' mo1 : List Mode} {W W0 W1 : Wd} {σ σ' : L2.St} {Γ Γ' : Env}
theorem R.dead (r : R K cm mo W σ Γ) (h1 : σ'.length = σ.length) (h2 : Γ'.length = Γ.length) (h : ∀ i, md mo i ≠ .dead → sl σ' i = sl σ i ∧ sl Γ' i = sl Γ i) : R K cm mo W σ' Γ' := by
  obtain ⟨Os, r⟩ := r
  refine ⟨Os, fun i => ?_, r.nd, r.dj, r.hC, r.hL, r.sh, r.trS, r.trO, r.mu, h1.trans r.ls, h2.trans r.lg⟩
  by_cases e : md mo i = .dead
  · have s := r.slot i
    rw [e] at s ⊢
    exact s
  · rw [(h i e).1, (h i e).2]
    exact r.slot i
/-- an object that no slot has -/
theorem R.free {D : Addr} {o : HO} (r : R K cm mo W σ Γ) (m : Mut (W.H D)) (nC : ¬ W.C D) (nL : ¬ W.L D) (nS : ¬ W.S D) : R K cm mo { W with H := upd W.H D o } σ Γ := by
  obtain ⟨Os, r⟩ := r
  have nO := r.notOwn nC nL
  refine ⟨Os, fun i => (r.slot i).kp (kp_root m) (fun _ h => h) (fun x h e => nS (e ▸ h)) fun x h e => nO i (e ▸ h), r.nd, r.dj, r.hC, r.hL, r.sh, fun x h => tr_upd x (r.trS x h), fun i x h => tr_upd x (r.trO i x h), fun x c => ?_, r.ls, r.lg⟩
  show Mut (upd W.H D o x)
  have c : W.C x := c
  rw [upd_ne (show x ≠ D from fun e => by rw [e] at c; exact nC c)]
  exact r.mu x c
theorem Fr.free {D : Addr} {o : HO} (f : Fr W0 W1) (n : ¬ Tr W0.H D) : Fr W0 { W1 with H := upd W1.H D o } :=
  ⟨fun b u e c => by show upd W1.H D o b = _; rw [upd_ne (show b ≠ D from fun q => by rw [q] at e; exact n ⟨u, e⟩)]; exact f.keep b u e c, f.chg, f.lck, f.shr, f.shn, fun x t => tr_upd x (f.tr x t)⟩
end
theorem wipe_sl {σ : L2.St} {i : Nat} : ∀ {vs : List Nat}, ¬ i ∈ vs → sl (wipe σ vs) i = sl σ i
  | [], _ => rfl
  | v :: vs, h => by
    show sl ((wipe σ vs).set v none) i = _
    rw [sl_set_ne fun e => h (by rw [e]; exact List.mem_cons_self)]
    exact wipe_sl fun q => h (List.mem_cons_of_mem _ q)
theorem wipe_in {σ : L2.St} {i : Nat} : ∀ {vs : List Nat}, i ∈ vs → sl (wipe σ vs) i = none
  | v :: vs, h => by
    show sl ((wipe σ vs).set v none) i = _
    by_cases e : v = i
    · subst e
      have o : ∀ {l : L2.St} {i : Nat}, sl (l.set i none) i = none := by
        intro l
        induction l with
        | nil => intro i; rfl
        | cons x r ih => intro i; cases i with
          | zero => rfl
          | succ i => exact ih
      exact o
    · rw [sl_set_ne e]
      rcases List.mem_cons.mp h with h | h
      · exact absurd h.symm e
      · exact wipe_in h
theorem sl_ext {α : Type} : ∀ {l l' : List (Option α)}, l.length = l'.length → (∀ i, sl l i = sl l' i) → l = l'
  | [], [], _, _ => rfl
  | [], _ :: _, h, _ => by cases h
  | _ :: _, [], h, _ => by cases h
  | x :: xs, y :: ys, h, e => by
    have e0 : x = y := e 0
    rw [e0, sl_ext (l := xs) (l' := ys) (Nat.succ.inj h) fun i => e (i + 1)]
/-! ### list comprehensions -/
def lcE (g : GF) (u : Env → Res Bool) (f : EF) : List T → List T → Env → Res (List T)
  | [], acc => fun Γ => .ok Γ acc
  | t :: ts, acc => fun Γ => match g t Γ with
    | none => .stuck
    | some Γ1 => match u Γ1 with
      | .ok Γ2 b => if b then (match f Γ2 with
        | .ok Γ3 y => if acc.length < 100000 then lcE g u f ts (acc ++ [y]) Γ3 else .stuck
        | _ => .stuck) else lcE g u f ts acc Γ2
      | _ => .stuck
def eLc (xf : Env → Res (List T)) (g : GF) (u : Env → Res Bool) (f : EF) : EF := fun Γ => (xf Γ).bind fun Γ1 ts => (lcE g u f ts [] Γ1).bind fun Γ2 ys => .ok Γ2 (.lst ys)
def eYes : Env → Res Bool := fun Γ => .ok Γ true
theorem PTs.imp {X : Cx} {ifs : List Expr} {t t' : TT} (h : PTs X ifs t) (i : ∀ σ H Q, t' σ H Q → t σ H Q) : PTs X ifs t' := ⟨fun pins s σ H Q I q => h.run pins s σ H Q I (i _ _ _ q)⟩
theorem pts_yes {X : Cx} {cm : Cm} {mo : List Mode} {E : XK} : PTs X [] (tEb X.K cm mo E eYes) := PTs.imp pts_nil fun σ H Q ⟨W, Γ, e1, r, q⟩ => by
  subst e1
  exact q W r (Fr.refl _)
section
variable {K : PySem.W.Frag} {cm : Cm} {mo mo1 : List Mode} {E : XK} {kd : Kd} {xf : Env → Res (List T)} {gf : GF} {uf : Env → Res Bool} {ef : EF} {vs fi : List Nat}
theorem lc_turns (l : kle kd .shared = true) (hv : ∀ v ∈ vs, md mo v = .dead) (hfi : ∀ i, i < mo.length → ¬ i ∈ vs → i ∈ fi) (hw : mleL mo mo1 = true) {W Wb : Wd} {σ : L2.St} {Γ1 : Env} {J : It} {items : List T} {D : Addr} {Q : VK} (fb : Fr W Wb) (rb : R K cm mo Wb σ Γ1) (sp : ItSp K cm J items Wb) (hD : Wb.H D = none)
    (q1 : PostE K cm mo E W σ ((lcE gf uf ef items [] Γ1).bind fun Γ2 ys => Res.ok Γ2 (T.lst ys)) fun t W' => ∀ v G, Rep K cm W'.H t v G → KOk .fr1 W W' G → Q v W'.H) :
    ∃ Wm : Nat → Nat → Hp → Prop, (∃ m, Wm 0 m (upd Wb.H D (.lst []))) ∧ ∀ i m H, Wm i m H →
      (J.stop i H ∧ Q (.ref D) H) ∨ (J.go i H ∧ ∃ Nx : Hp → Prop, (∀ H', Nx H' → ∃ m', m' < m ∧ Wm (i + 1) m' H') ∧ ∀ x H', J.yld i H x H' → tG K cm mo mo1 fi gf x (wipe σ vs) H' fun σ2 H2 => wipe σ2 vs = wipe σ vs ∧ tEb K cm mo1 E0 uf σ2 H2 fun b H3 =>
        if b = true then tE K cm mo1 kd E0 ef σ2 H3 fun y H4 => ∃ acc, H4 D = some (.lst acc) ∧ acc.length < sizeLine ∧ Nx (upd H4 D (.lst (acc ++ [y]))) else Nx H3) := by
  have nD : ¬ Tr Wb.H D := fun ⟨o, e⟩ => by rw [hD] at e; cases e
  have nD0 : ¬ Tr W.H D := fun t => nD (fb.tr D t)
  have k0 : KOk .fr1 W { Wb with H := upd Wb.H D (.lst []) } (D :: []) := kok_new (kd := .imm) fb (fun x hx => by cases hx) rfl rfl rb hD trivial
  have r0 : R K cm mo { Wb with H := upd Wb.H D (.lst []) } σ Γ1 := rb.same (same_upd hD)
  -- what holds ahead of the i-th turn
  refine ⟨fun i n H' => n = items.length - i ∧ i ≤ items.length ∧ ∃ W' Γ' acc G, W'.H = H' ∧ R K cm mo W' σ Γ' ∧ Fr Wb W' ∧ Rep K cm W'.H (.lst acc) (.ref D) (D :: G) ∧ KOk .fr1 W W' (D :: G) ∧
      PostE K cm mo E W σ ((lcE gf uf ef (items.drop i) acc Γ').bind fun Γ2 ys => Res.ok Γ2 (T.lst ys)) fun t W' => ∀ v G, Rep K cm W'.H t v G → KOk .fr1 W W' G → Q v W'.H,
    ⟨items.length, rfl, Nat.zero_le _, _, Γ1, [], [], rfl, r0, same_fr (same_upd hD), ⟨D, [], [], rfl, ⟨rfl, rfl⟩, upd_same, rfl⟩, k0, q1⟩, ?_⟩
  rintro i n H3 ⟨rfl, hle, W3, Γ3, acc, G3, rfl, r3, f3, h3, k3, q3⟩
  obtain ⟨it, stop⟩ := sp W3 f3
  by_cases hlt : i < items.length
  · obtain ⟨go, yl⟩ := it i items[i] (List.getElem?_eq_getElem hlt)
    rw [List.drop_eq_getElem_cons hlt] at q3
    refine .inr ⟨go, fun H' => ∃ W' Γ' acc G, W'.H = H' ∧ R K cm mo W' σ Γ' ∧ Fr Wb W' ∧ Rep K cm W'.H (.lst acc) (.ref D) (D :: G) ∧ KOk .fr1 W W' (D :: G) ∧
      PostE K cm mo E W σ ((lcE gf uf ef (items.drop (i + 1)) acc Γ').bind fun Γ2 ys => Res.ok Γ2 (T.lst ys)) fun t W' => ∀ v G, Rep K cm W'.H t v G → KOk .fr1 W W' G → Q v W'.H,
      fun H' h => ⟨items.length - (i + 1), by omega, rfl, hlt, h⟩, fun x H' y => ?_⟩
    obtain ⟨s4, Gx, hx, gx⟩ := yl x H' y
    unfold lcE at q3
    cases eg : gf items[i] Γ3 with
    | none => rw [eg] at q3; exact q3.elim
    | some Γ4 =>
    rw [eg] at q3
    have r4 : R K cm mo { W3 with H := H' } (wipe σ vs) Γ3 := (r3.same s4).dead (wipe_length σ vs) rfl fun j hj => ⟨wipe_sl fun q => hj (hv j q), rfl⟩
    have f4 : Fr Wb { W3 with H := H' } := f3.trans (same_fr s4)
    refine ⟨{ W3 with H := H' }, Γ3, items[i], Gx, rfl, r4, hx, fun y hy => f3.shr y (gx y hy), Γ4, eg, fun σ5 W5 r5 f5 x5 => ?_⟩
    have l5 : σ5.length = σ.length := by rw [r5.ls, r3.ls, mleL_len hw]
    have ws : wipe σ5 vs = wipe σ vs := by
      refine sl_ext (by rw [wipe_length, wipe_length, l5]) fun j => ?_
      by_cases hj : j ∈ vs
      · rw [wipe_in hj, wipe_in hj]
      · rw [wipe_sl hj]
        by_cases hj2 : j < mo.length
        · exact x5 j (hfi j hj2 hj)
        · rw [wipe_sl hj]
          have o : ∀ {l : L2.St} {i : Nat}, l.length ≤ i → sl l i = none := by
            intro l
            induction l with
            | nil => intro i _; rfl
            | cons x r ih => intro i hi; cases i with
              | zero => simp at hi
              | succ i => exact ih (by simpa using hi)
          rw [o (by rw [l5, r3.ls]; omega), o (by rw [r3.ls]; omega)]
    refine ⟨ws, W5, Γ4, rfl, r5, ?_⟩
    -- back to the slots as they were
    have back : ∀ {W6 Γ6}, R K cm mo1 W6 σ5 Γ6 → Fr W3 W6 → ∃ W7, W7.H = W6.H ∧ R K cm mo W7 σ Γ6 ∧ Fr W6 W7 := fun r6 _ => by
      obtain ⟨W7, e7, r7, f7⟩ := r6.weak hw
      refine ⟨W7, e7, r7.dead (by rw [l5]) rfl fun j hj => ⟨?_, rfl⟩, f7⟩
      have nv : ¬ j ∈ vs := fun q => hj (hv j q)
      rw [← wipe_sl (σ := σ) nv, ← ws, wipe_sl nv]
    have f45 : Fr W3 W5 := (same_fr s4).trans f5
    change PostE K cm mo E W σ (Res.bind (match uf Γ4 with
      | .ok Γ2 b => if b then (match ef Γ2 with
        | .ok Γ3 y => if acc.length < 100000 then lcE gf uf ef (items.drop (i + 1)) (acc ++ [y]) Γ3 else .stuck
        | _ => .stuck) else lcE gf uf ef (items.drop (i + 1)) acc Γ2
      | _ => .stuck) _) _ at q3
    cases eu : uf Γ4 with
    | stuck => rw [eu] at q3; exact q3.elim
    | ex c Γ6 => rw [eu] at q3; exact q3.elim
    | ok Γ6 b =>
    rw [eu] at q3
    intro W6 r6 f6
    have f56 := f45.trans f6
    have k6 : KOk .fr1 W W6 (D :: G3) := KOk.step f56 (h3.tr _ _ _) k3
    have h6 : Rep K cm W6.H (.lst acc) (.ref D) (D :: G3) := by
      refine h3.step r3 f56 fun x hx c => ?_
      obtain ⟨a, G', e, b, _, g⟩ := k3
      cases e
      rcases List.mem_cons.mp hx with rfl | hx
      · exact b.2.1 c
      · exact (g x hx).2.1 c
    cases b with
    | false =>
      refine iteF ?_
      obtain ⟨W7, e7, r7, f7⟩ := back r6 f56
      exact ⟨W7, Γ6, acc, G3, e7, r7, f3.trans (f56.trans f7), by rw [e7]; exact h6, KOk.step f7 (h6.tr _ _ _) k6, q3⟩
    | true =>
      refine iteT ⟨W6, Γ6, rfl, r6, ?_⟩
      change PostE K cm mo E W σ (Res.bind (match ef Γ6 with
        | .ok Γ3 y => if acc.length < 100000 then lcE gf uf ef (items.drop (i + 1)) (acc ++ [y]) Γ3 else .stuck
        | _ => .stuck) _) _ at q3
      cases ee : ef Γ6 with
      | stuck => rw [ee] at q3; exact q3.elim
      | ex c Γ8 => rw [ee] at q3; exact q3.elim
      | ok Γ8 yt =>
      rw [ee] at q3
      intro W8 r8 f8 yv Gy hy ky
      have k8 : KOk .fr1 W W8 (D :: G3) := KOk.step f8 (h6.tr _ _ _) k6
      have h8 : Rep K cm W8.H (.lst acc) (.ref D) (D :: G3) := by
        refine h6.step r6 f8 fun x hx c => ?_
        obtain ⟨a, G', e, b, _, g⟩ := k6
        cases e
        rcases List.mem_cons.mp hx with rfl | hx
        · exact b.2.1 c
        · exact (g x hx).2.1 c
      change PostE K cm mo E W σ (Res.bind (if acc.length < 100000 then lcE gf uf ef (items.drop (i + 1)) (acc ++ [yt]) Γ8 else .stuck) _) _ at q3
      by_cases hl : acc.length < 100000
      case neg => rw [if_neg hl] at q3; exact q3.elim
      rw [if_pos hl] at q3
      have ks := ky.le l
      obtain ⟨a, xs, G', ea, rp, sD, eG⟩ := id h8
      cases ea
      cases eG
      obtain ⟨a, G', e, ⟨b1, b2, b3, b4, mu⟩, na, g⟩ := id k8
      cases e
      have f08 : Fr Wb W8 := f3.trans (f56.trans f8)
      have nDy : ∀ x ∈ Gy, x ≠ D := fun x hx e => by
        subst e
        rcases (ks x hx).1 with z | z | z
        · obtain ⟨a, G', e, ⟨_, _, _, b4, _⟩, _⟩ := id k6
          cases e
          exact b4 z
        · obtain ⟨a, G', e, ⟨_, b2, _⟩, _⟩ := id k6
          cases e
          exact b2 z
        · exact z (h6.tr _ _ _ _ List.mem_cons_self)
      obtain ⟨W9, e9, r9, f9⟩ := back r8 (f56.trans f8)
      have k9 : KOk .fr1 W W9 (D :: G3) := KOk.step f9 (h8.tr _ _ _) k8
      obtain ⟨a, G', e, ⟨c1, c2, c3, c4, mu9⟩, na9, g9⟩ := id k9
      cases e
      have ky9 : KOk .shared W6 W9 Gy := KOk.step f9 (hy.tr _ _ _) ks
      have f69 : Fr W W6 := fb.trans (f3.trans f56)
      refine ⟨xs, sD, by rw [rp.len]; exact Nat.lt_of_lt_of_le hl (by decide), { W9 with H := upd W9.H D (.lst (xs ++ [yv])) }, Γ8, acc ++ [yt], G3 ++ Gy, by rw [e9], r9.free mu9 c2 c3 c4, (f08.trans f9).free nD, ?_, ?_, q3⟩
      · rw [← e9] at rp hy
        have rp' := rp.kp (kp_root (o := .lst (xs ++ [yv])) mu9) _ _ _ fun x hx e => na9 (e ▸ hx)
        have hy' := hy.kp (kp_root (o := .lst (xs ++ [yv])) mu9) _ _ _ nDy
        exact ⟨D, _, _, rfl, rp'.append (Reps.one hy'), upd_same, rfl⟩
      · refine ⟨D, _, rfl, ⟨c1, c2, c3, c4, ?_⟩, fun h => (List.mem_append.mp h).elim na9 fun h => nDy D h rfl, fun x hx => ?_⟩
        · show Mut (upd W9.H D _ D)
          rw [upd_same]; trivial
        · rcases List.mem_append.mp hx with hx | hx
          · exact g9 x hx
          · have z := ky9 x hx
            refine ⟨z.1.elim (fun s => f69.shn x s) fun q => q.elim (fun c => .inr (f69.chg x c)) fun t => .inr (.inr fun t0 => t (f69.tr x t0)), z.2⟩
  · have e : i = items.length := by omega
    subst e
    rw [List.drop_length] at q3
    exact .inl ⟨stop, q3 W3 r3 (fb.trans f3) _ _ h3 k3⟩
theorem lc_core' (l : kle kd .shared = true) (hv : ∀ v ∈ vs, md mo v = .dead) (hfi : ∀ i, i < mo.length → ¬ i ∈ vs → i ∈ fi) (hw : mleL mo mo1 = true) :
    ∀ σ H Q, tE K cm mo .fr1 E (eLc xf gf uf ef) σ H Q → tLc (tI K cm mo E xf) (tG K cm mo mo1 fi gf) (tEb K cm mo1 E0 uf) (tE K cm mo1 kd E0 ef) vs σ H Q := fun σ H Q ⟨W, Γ, e1, r, q⟩ => by
  subst e1
  refine ⟨W, Γ, rfl, r, PostE.imp (PostE.bind0 q) fun items W1 Γ1 ex r1 f1 q1 J H2 Gs s2 g2 sp D hD => ?_⟩
  have q1 := q1 Γ1 ex r1 f1
  have rb : R K cm mo ⟨H2, W1.C, W1.L, fun x => W1.S x ∨ Gs x⟩ σ Γ1 := by
    obtain ⟨Os, r1⟩ := r1
    exact ⟨Os, (r1.same s2).share fun x gx => ⟨(g2 x gx).2.2.1, r1.notOwn (g2 x gx).1 (g2 x gx).2.1⟩⟩
  have fb : Fr W ⟨H2, W1.C, W1.L, fun x => W1.S x ∨ Gs x⟩ := by
    have f2 := f1.trans (same_fr s2)
    exact ⟨f2.keep, f2.chg, f2.lck, fun x h => .inl (f2.shr x h), fun x h => h.elim (f2.shn x) fun gx => (g2 x gx).2.2.2, f2.tr⟩
  exact lc_turns l hv hfi hw fb rb sp hD q1
end
section
variable {X : Cx} {cm : Cm} {mo mo' mo1 mo2 : List Mode} {J : Exits} {E : XK} {elt tg iter : Expr} {ifs : List Expr} {scope : Scope} {own : List (Str × Nat)} {pos spos py : Pos} {kd : Kd} {xf : Env → Res (List T)} {gf : GF} {uf : Env → Res Bool} {ef : EF} {fi : List Nat} {y : Str} {i : Nat}
theorem ee_lc (hc : X.calm = true) (hN : X.N.Nodup) (l : kle kd .shared = true) (hv : ∀ v ∈ own.map (·.2), md mo v = .dead) (hfi : ∀ i, i < mo.length → ¬ i ∈ own.map (·.2) → i ∈ fi) (hw : mleL mo mo1 = true) (hi : Im X cm mo E tg iter xf) (ok : BlkOk X.N X.env.scope scope own)
    (hg : ∀ (s : Shared) (H : Hp) (C : Addr) (cl : List (Str × Addr)) (fp : List Addr), Gm (X.blk s H scope (compEnvC scope cl C X.env) fp) cm fi mo mo1 tg gf) (ht : ∀ (s : Shared) (H : Hp) (C : Addr) (cl : List (Str × Addr)) (fp : List Addr), PTs (X.blk s H scope (compEnvC scope cl C X.env) fp) ifs (tEb X.K cm mo1 E0 uf))
    (he : ∀ (s : Shared) (H : Hp) (C : Addr) (cl : List (Str × Addr)) (fp : List Addr), Ee (X.blk s H scope (compEnvC scope cl C X.env) fp) cm mo1 E0 kd elt ef) (hs : ∀ x, foldedSetIterable iter X.env x = pure x := by intro _; rfl) :
    Ee X cm mo E .fr1 (.ListComp elt [⟨tg, iter, ifs, 0⟩] scope pos) (eLc xf gf uf ef) := PE.imp (pe_lc hc hN hi ok hg ht he hs) (lc_core' l hv hfi hw)
/-- y = [..], y a slot of its own -/
theorem s_setLcO (hc : X.calm = true) (hN : X.N.Nodup) (hy : X.N[i]? = some y) (hyl : X.env.scope.names.lookup y = some .local) (hj : i < mo.length) (hl : md mo i ≠ .lk) (nf : ¬ i ∈ J.fi) (w : mleL J.r mo = true) (l : kle kd .shared = true) (hv : ∀ v ∈ own.map (·.2), md mo v = .dead) (hfi : ∀ i, i < mo.length → ¬ i ∈ own.map (·.2) → i ∈ fi) (hw : mleL mo mo1 = true) (hi : Im X cm mo E tg iter xf) (ok : BlkOk X.N X.env.scope scope own)
    (hg : ∀ (s : Shared) (H : Hp) (C : Addr) (cl : List (Str × Addr)) (fp : List Addr), Gm (X.blk s H scope (compEnvC scope cl C X.env) fp) cm fi mo mo1 tg gf) (ht : ∀ (s : Shared) (H : Hp) (C : Addr) (cl : List (Str × Addr)) (fp : List Addr), PTs (X.blk s H scope (compEnvC scope cl C X.env) fp) ifs (tEb X.K cm mo1 E0 uf))
    (he : ∀ (s : Shared) (H : Hp) (C : Addr) (cl : List (Str × Addr)) (fp : List Addr), Ee (X.blk s H scope (compEnvC scope cl C X.env) fp) cm mo1 E0 kd elt ef) (hsw : swapsWith (.ListComp elt [⟨tg, iter, ifs, 0⟩] scope pos) (some (.Name y py)) spos.line X.env = pure true) (hs : ∀ x, foldedSetIterable iter X.env x = pure x := by intro _; rfl) :
    Sm X cm J E mo (.Assign [.Name y py] (.ListComp elt [⟨tg, iter, ifs, 0⟩] scope pos) spos) (mo.set i .o1) (sAsg i (eLc xf gf uf ef)) :=
  PS.imp (ps_setLc hc hN hy hyl hsw hi ok hg ht he hs) (asgO_core (lc_core' l hv hfi hw) hj hl nf w)
/-- .. a view -/
theorem s_setLcV (hc : X.calm = true) (hN : X.N.Nodup) (hy : X.N[i]? = some y) (hyl : X.env.scope.names.lookup y = some .local) (hj : i < mo.length) (hl : md mo i ≠ .lk) (nf : ¬ i ∈ J.fi) (w : mleL J.r mo = true) (l : kle kd .shared = true) (hv : ∀ v ∈ own.map (·.2), md mo v = .dead) (hfi : ∀ i, i < mo.length → ¬ i ∈ own.map (·.2) → i ∈ fi) (hw : mleL mo mo1 = true) (hi : Im X cm mo E tg iter xf) (ok : BlkOk X.N X.env.scope scope own)
    (hg : ∀ (s : Shared) (H : Hp) (C : Addr) (cl : List (Str × Addr)) (fp : List Addr), Gm (X.blk s H scope (compEnvC scope cl C X.env) fp) cm fi mo mo1 tg gf) (ht : ∀ (s : Shared) (H : Hp) (C : Addr) (cl : List (Str × Addr)) (fp : List Addr), PTs (X.blk s H scope (compEnvC scope cl C X.env) fp) ifs (tEb X.K cm mo1 E0 uf))
    (he : ∀ (s : Shared) (H : Hp) (C : Addr) (cl : List (Str × Addr)) (fp : List Addr), Ee (X.blk s H scope (compEnvC scope cl C X.env) fp) cm mo1 E0 kd elt ef) (hsw : swapsWith (.ListComp elt [⟨tg, iter, ifs, 0⟩] scope pos) (some (.Name y py)) spos.line X.env = pure true) (hs : ∀ x, foldedSetIterable iter X.env x = pure x := by intro _; rfl) :
    Sm X cm J E mo (.Assign [.Name y py] (.ListComp elt [⟨tg, iter, ifs, 0⟩] scope pos) spos) (mo.set i .vw) (sAsg i (eLc xf gf uf ef)) :=
  PS.imp (ps_setLc hc hN hy hyl hsw hi ok hg ht he hs) (asgV_core (kd := .fr1) (lc_core' l hv hfi hw) rfl hj hl nf w)
end
end Tm
namespace Tm
open PySem PySem.Spec PyProof.Rows L2
/-! ### what a def promises -/
def keepM (pm : List Mode) : List Mode := pm.map fun m => if chg m then m else .dead
section
variable (K : PySem.W.Frag) (cm : Cm)
def PostF (n : Nat) (mo : List Mode) (kd : Kd) (E : XK) (W : Wd) (σ : L2.St) (Q : VK) (o : Out) : Prop :=
  match o with
  | .rt t Γ' => ∀ W' v G, R K cm mo W' σ (Γ'.take n) → Fr W W' → Rep K cm W'.H t v G → KOk kd W W' G → Q v W'.H
  | .nx Γ' => ∀ W', R K cm mo W' σ (Γ'.take n) → Fr W W' → Q .non W'.H
  | .ex c Γ' => ∀ W', R K cm mo W' σ (Γ'.take n) → Fr W W' → exW cm E c W'.H
  | _ => False
def env0 (n : Nat) (ts : List T) : Env := ts.map some ++ List.replicate (n - ts.length) none
/-- params' modes, how many slots, the result's kind, the mirror -/
def SpM (pm : List Mode) (n : Nat) (kd : Kd) (m : SF) : Sp := fun vs H Q E => ∃ W ts, W.H = H ∧ vs.length = pm.length ∧ R K cm pm W (vs.map some) (ts.map some) ∧ PostF K cm pm.length (keepM pm) kd E W (vs.map some) Q (m (env0 n ts))
end
theorem md_app_l : ∀ {a b : List Mode} {i : Nat}, i < a.length → md (a ++ b) i = md a i
  | [], _, _, h => absurd h (Nat.not_lt_zero _)
  | _ :: _, _, 0, _ => rfl
  | _ :: r, b, i + 1, h => md_app_l (a := r) (Nat.lt_of_succ_lt_succ h)
theorem md_rep : ∀ {k i : Nat}, md (List.replicate k .dead) i = .dead
  | 0, _ => rfl
  | _ + 1, 0 => rfl
  | k + 1, i + 1 => md_rep (k := k)
theorem md_app_dead : ∀ {a : List Mode} {k i : Nat}, md (a ++ List.replicate k .dead) i = md a i
  | [], k, i => md_rep
  | _ :: _, _, 0 => rfl
  | _ :: r, k, i + 1 => md_app_dead (a := r)
theorem sl_app_l {α : Type} : ∀ {a b : List (Option α)} {i : Nat}, i < a.length → sl (a ++ b) i = sl a i
  | [], _, _, h => absurd h (Nat.not_lt_zero _)
  | _ :: _, _, 0, _ => rfl
  | _ :: r, b, i + 1, h => sl_app_l (a := r) (Nat.lt_of_succ_lt_succ h)
theorem sl_out {α : Type} : ∀ {l : List (Option α)} {i : Nat}, l.length ≤ i → sl l i = none
  | [], _, _ => rfl
  | _ :: _, 0, h => by simp at h
  | _ :: r, i + 1, h => sl_out (l := r) (by simpa using h)
theorem md_out : ∀ {l : List Mode} {i : Nat}, l.length ≤ i → md l i = .dead
  | [], _, _ => rfl
  | _ :: _, 0, h => by simp at h
  | _ :: r, i + 1, h => md_out (l := r) (by simpa using h)
theorem sl_take {α : Type} : ∀ {l : List (Option α)} {n i : Nat}, i < n → sl (l.take n) i = sl l i
  | [], n, i, _ => by rw [List.take_nil]
  | _ :: _, 0, i, h => absurd h (Nat.not_lt_zero _)
  | _ :: _, _ + 1, 0, _ => rfl
  | _ :: r, n + 1, i + 1, h => sl_take (l := r) (Nat.lt_of_succ_lt_succ h)
theorem sl_map {α : Type} : ∀ {l : List α} {i : Nat}, sl (l.map some) i = l[i]?
  | [], _ => rfl
  | _ :: _, 0 => rfl
  | _ :: r, i + 1 => by rw [List.map_cons]; show sl (r.map some) i = _; rw [sl_map]; simp
theorem keepM_md : ∀ {pm : List Mode} {i : Nat}, md (keepM pm) i = if chg (md pm i) then md pm i else .dead
  | [], _ => rfl
  | _ :: _, 0 => rfl
  | _ :: r, i + 1 => keepM_md (pm := r)
theorem keepM_len {pm : List Mode} : (keepM pm).length = pm.length := List.length_map ..
section
variable {K : PySem.W.Frag} {cm : Cm} {mo mo' mo1 pm : List Mode} {W W0 W1 : Wd} {σ σ' : L2.St} {Γ Γ' : Env}
/-- more slots, dead ones -/
theorem R.more {k : Nat} {a : L2.St} {b : Env} (r : R K cm pm W σ Γ) (ha : a.length = k) (hb : b.length = k) : R K cm (pm ++ List.replicate k .dead) W (σ ++ a) (Γ ++ b) := by
  obtain ⟨Os, r⟩ := r
  have oe : ∀ i, pm.length ≤ i → Os i = [] := fun i h => r.empty (.inl (md_out h))
  refine ⟨Os, fun i => ?_, r.nd, r.dj, fun x => ?_, fun x => ?_, r.sh, r.trS, r.trO, r.mu, by rw [List.length_append, List.length_append, List.length_replicate, r.ls, ha], by rw [List.length_append, List.length_append, List.length_replicate, r.lg, hb]⟩
  · rw [md_app_dead]
    by_cases h : i < pm.length
    · rw [sl_app_l (by rw [r.ls]; exact h), sl_app_l (by rw [r.lg]; exact h)]
      exact r.slot i
    · rw [md_out (by omega)]
      exact oe i (by omega)
  · rw [r.hC x]
    constructor <;> rintro ⟨i, c, h⟩ <;> refine ⟨i, ?_, h⟩ <;> first | (rw [md_app_dead]; exact c) | (rw [md_app_dead] at c; exact c)
  · rw [r.hL x]
    constructor <;> rintro ⟨i, c, h⟩ <;> refine ⟨i, ?_, h⟩ <;> first | (rw [md_app_dead]; exact c) | (rw [md_app_dead] at c; exact c)
/-- fewer, if they are dead -/
theorem R.less {k : Nat} {a : L2.St} (r : R K cm (pm ++ List.replicate k .dead) W σ Γ) (ha : a.length = pm.length) (h : ∀ i, i < pm.length → md pm i ≠ .dead → sl a i = sl σ i) : R K cm pm W a (Γ.take pm.length) := by
  obtain ⟨Os, r⟩ := r
  have lg := r.lg
  rw [List.length_append, List.length_replicate] at lg
  refine ⟨Os, fun i => ?_, r.nd, r.dj, fun x => ?_, fun x => ?_, r.sh, r.trS, r.trO, r.mu, ha, by rw [List.length_take, lg]; omega⟩
  · have s := r.slot i
    rw [md_app_dead] at s
    by_cases e : md pm i = .dead
    · rw [e] at s ⊢; exact s
    · have hi := md_lt e
      rw [h i hi e, sl_take hi]
      exact s
  · rw [r.hC x]
    constructor <;> rintro ⟨i, c, h⟩ <;> refine ⟨i, ?_, h⟩ <;> first | (rw [md_app_dead]; exact c) | (rw [md_app_dead] at c; exact c)
  · rw [r.hL x]
    constructor <;> rintro ⟨i, c, h⟩ <;> refine ⟨i, ?_, h⟩ <;> first | (rw [md_app_dead]; exact c) | (rw [md_app_dead] at c; exact c)
/-- slots that nothing stands in yet are views -/
theorem R.moreV {k : Nat} (r : R K cm pm W σ Γ) : R K cm (pm ++ List.replicate k .vw) W (σ ++ List.replicate k none) (Γ ++ List.replicate k none) := by
  have ls := r.ls
  have lg := r.lg
  obtain ⟨Os, r⟩ := r
  have oe : ∀ i, pm.length ≤ i → Os i = [] := fun i h => r.empty (.inl (md_out h))
  have mv : ∀ i, i < pm.length → md (pm ++ List.replicate k .vw) i = md pm i := fun i h => md_app_l h
  have mo : ∀ {a : List Mode} {i : Nat}, a.length ≤ i → md (a ++ List.replicate k .vw) i = .vw ∨ md (a ++ List.replicate k .vw) i = .dead := by
    intro a
    induction a with
    | nil =>
      intro i _
      have rep : ∀ {k i : Nat}, md (List.replicate k .vw) i = .vw ∨ md (List.replicate k .vw) i = .dead := by
        intro k
        induction k with
        | zero => intro i; exact .inr rfl
        | succ k ih => intro i; cases i with
          | zero => exact .inl rfl
          | succ i => exact ih
      exact rep
    | cons x r ih => intro i h; cases i with
      | zero => simp at h
      | succ i => exact ih (by simpa using h)
  have no : ∀ {α : Type} {a : List (Option α)} {i : Nat}, a.length ≤ i → sl (a ++ List.replicate k none) i = none := by
    intro α a
    induction a with
    | nil =>
      intro i _
      have rep : ∀ {k i : Nat}, sl (List.replicate k (none : Option α)) i = none := by
        intro k
        induction k with
        | zero => intro i; rfl
        | succ k ih => intro i; cases i with
          | zero => rfl
          | succ i => exact ih
      exact rep
    | cons x r ih => intro i h; cases i with
      | zero => simp at h
      | succ i => exact ih (by simpa using h)
  have cg : ∀ {i x}, x ∈ Os i → i < pm.length := fun {i x} hx => by
    by_cases h : i < pm.length
    · exact h
    · rw [oe i (by omega)] at hx; cases hx
  refine ⟨Os, fun i => ?_, r.nd, r.dj, fun x => ?_, fun x => ?_, r.sh, r.trS, r.trO, r.mu, by rw [List.length_append, List.length_append, List.length_replicate, List.length_replicate, ls], by rw [List.length_append, List.length_append, List.length_replicate, List.length_replicate, lg]⟩
  · by_cases h : i < pm.length
    · rw [mv i h, sl_app_l (by rw [ls]; exact h), sl_app_l (by rw [lg]; exact h)]
      exact r.slot i
    · have hi : pm.length ≤ i := by omega
      rw [no (by rw [ls]; exact hi), no (by rw [lg]; exact hi)]
      rcases mo hi with e | e
      · rw [e]; exact ⟨oe i hi, fun u e => by cases e⟩
      · rw [e]; exact oe i hi
  · rw [r.hC x]
    constructor <;> rintro ⟨i, c, h⟩ <;> refine ⟨i, ?_, h⟩ <;> first | (rw [mv i (cg h)]; exact c) | (rw [mv i (cg h)] at c; exact c)
  · rw [r.hL x]
    constructor <;> rintro ⟨i, c, h⟩ <;> refine ⟨i, ?_, h⟩ <;> first | (rw [mv i (cg h)]; exact c) | (rw [mv i (cg h)] at c; exact c)
/-- a body meets its promise -/
theorem spM_run {n : Nat} {kd : Kd} {m : SF} {E : XK} {J : Exits} {mE : List Mode} {N : List Str} {vs : List V} {H : Hp} {Q : VK} (hn : N.length = n) (hp : pm.length ≤ n) (hr : J.r = keepM pm ++ List.replicate (n - pm.length) .dead) (hk : J.k = kd) (hf : ∀ i, i < pm.length → chg (md pm i) = true → i ∈ J.fi) (hE : mleL J.r mE = true) (h : SpM K cm pm n kd m vs H Q E) :
    tS K cm (pm ++ List.replicate (n - pm.length) .vw) mE J E m { nx := fun _ H' => Q .non H', rt := Q } (L2.start N vs) H := by
  obtain ⟨W, ts, e1, hl, r, q⟩ := h
  have hts : ts.length = pm.length := by have := r.lg; rwa [List.length_map] at this
  have es : L2.start N vs = vs.map some ++ List.replicate (n - pm.length) none := by unfold L2.start; rw [hn, hl]
  refine ⟨W, env0 n ts, e1, ?_, ?_⟩
  · rw [es]
    unfold env0
    rw [hts]
    exact r.moreV
  · have fin : ∀ {σ' W' Γ'}, R K cm J.r W' σ' Γ' → Fx J.fi (L2.start N vs) σ' → R K cm (keepM pm) W' (vs.map some) (Γ'.take pm.length) := fun {σ' W' Γ'} r' x => by
      rw [hr] at r'
      have := r'.less (a := vs.map some) (by rw [List.length_map, keepM_len, hl]) fun i hi hd => by
        rw [keepM_len] at hi
        have c : chg (md pm i) = true := by
          rw [keepM_md] at hd
          by_cases c : chg (md pm i) = true
          · exact c
          · rw [if_neg c] at hd; exact absurd rfl hd
        rw [x i (hf i hi c), es, sl_app_l (by rw [List.length_map, hl]; exact hi)]
      rwa [keepM_len] at this
    cases em : m (env0 n ts) with
    | rt t Γ' =>
      rw [em] at q
      intro σ' W' v G r' f x hv kk
      rw [hk] at kk
      exact q W' v G (fin r' x) f hv kk
    | nx Γ' =>
      rw [em] at q
      intro σ' W' r' f x
      obtain ⟨W2, e2, r2, f2⟩ := r'.weak hE
      have := q W2 (fin r2 x) (f.trans f2)
      show Q .non W'.H
      rw [← e2]; exact this
    | ex c Γ' =>
      rw [em] at q
      intro σ' W' r' f x
      exact q W' (fin r' x) f
    | bk Γ' => rw [em] at q; exact q.elim
    | ct Γ' => rw [em] at q; exact q.elim
    | stuck => rw [em] at q; exact q.elim
end
/-! ### arguments, some of them slots that are handed on to be changed -/
def rootT : T → Bool
  | .lst _ => true | .dct _ => true | .dtt _ => true | .ins C _ => decide (C ≠ "") | _ => false
structure RA (K : PySem.W.Frag) (cm : Cm) (H : Hp) (σ : L2.St) (rs : List (Option Nat)) (ts : List T) (vs : List V) (G : List Addr) : Prop where
  lt : ts.length = rs.length
  lv : vs.length = rs.length
  rf : ∀ (i : Nat) (j : Nat), rs[i]? = some (some j) → sl σ j = vs[i]?
  va : ∀ (i : Nat), rs[i]? = some none → ∃ t v F, ts[i]? = some t ∧ vs[i]? = some v ∧ Rep K cm H t v F ∧ ∀ x ∈ F, x ∈ G
  tr : ∀ x ∈ G, Tr H x
def tEr (K : PySem.W.Frag) (cm : Cm) (mo : List Mode) (rs : List (Option Nat)) (E : XK) (f : Env → Res (List T)) : TA := fun σ H Q => ∃ W Γ, W.H = H ∧ R K cm mo W σ Γ ∧ PostE K cm mo E W σ (f Γ) fun ts W' => ∀ vs G, RA K cm W'.H σ rs ts vs G → KOk .shared W W' G → Q vs W'.H
abbrev Ar (X : Cx) (cm : Cm) (mo : List Mode) (E : XK) (rs : List (Option Nat)) (es : List Expr) (f : Env → Res (List T)) : Prop := PA X es (tEr X.K cm mo rs E f)
section
variable {X : Cx} {cm : Cm} {mo : List Mode} {E : XK} {e : Expr} {es : List Expr} {rs : List (Option Nat)} {kd k1 k2 : Kd} {ef : EF} {xf : Env → Res (List T)} {j : Nat} {x : Str} {p pos : Pos}
theorem ar_nil : Ar X cm mo E [] [] eNil := PA.imp pa_nil fun σ H Q ⟨W, Γ, e1, r, q⟩ => by
  subst e1
  exact q W r (Fr.refl _) [] [] ⟨rfl, rfl, fun i j h => by simp at h, fun i h => by simp at h, fun x hx => by cases hx⟩ fun x hx => by cases hx
theorem ar_val (l1 : kle k1 .shared = true) (ha : Ee X cm mo E k1 e ef) (hb : Ar X cm mo E rs es xf) (hs : starEach (e :: es) X.env = (false, eval e X.env) :: starEach es X.env := by rfl) : Ar X cm mo E (none :: rs) (e :: es) (eCons ef xf) := PA.imp (pa_cons ha hb hs) fun σ H Q ⟨W, Γ, e1, r0, q⟩ => by
  subst e1
  refine tE_of r0 (PostE.imp (PostE.bind q) fun x W1 Γ1 ex r1 f1 q1 v1 G1 h1 kk1 => ⟨W1, Γ1, rfl, r1, PostE.imp (PostE.bind (q1 Γ1 ex r1 f1)) fun xs W2 Γ2 ey r2 f2 q2 v2 G2 h2 kk2 => ?_⟩)
  have h1' := h1.step r1 f2 (kk1.nC l1)
  have k1s := KOk.step f2 (h1.tr _ _ _) (kk1.le l1)
  refine q2 Γ2 ey r2 f2 W2 r2 (Fr.refl _) (v1 :: v2) (G1 ++ G2) ⟨by simp [h2.lt], by simp [h2.lv], fun i j e => ?_, fun i e => ?_, fun x hx => (List.mem_append.mp hx).elim (h1'.tr _ _ _ x) (h2.tr x)⟩ ?_
  · cases i with
    | zero => simp at e
    | succ i => simpa using h2.rf i j (by simpa using e)
  · cases i with
    | zero => exact ⟨x, v1, G1, rfl, rfl, h1', fun x hx => List.mem_append_left _ hx⟩
    | succ i =>
      obtain ⟨t, v, F, a, b, c, d⟩ := h2.va i (by simpa using e)
      exact ⟨t, v, F, by simpa using a, by simpa using b, c, fun x hx => List.mem_append_right _ (d x hx)⟩
  · intro x hx
    rcases List.mem_append.mp hx with hx | hx
    · exact k1s x hx
    · exact (KOk.early f1 kk2) x hx
theorem ar_ref (hN : X.N[j]? = some x) (hv : Vis X.env.scope x) (hm : md mo j = .o1) (hb : Ar X cm mo E rs es xf) (hd : (x == ("__debug__" : Str)) = false := by decide) (hcd : (x == ("__classdict__" : Str)) = false := by decide) (hs : starEach (.Name x p :: es) X.env = (false, eval (.Name x p) X.env) :: starEach es X.env := by rfl) :
    Ar X cm mo E (some j :: rs) (.Name x p :: es) (eCons (eP (pVar j)) xf) := PA.imp (pa_cons (pe_var hN hv hd hcd) hb hs) fun σ H Q ⟨W, Γ, e1, r0, q⟩ => by
  subst e1
  change PostE X.K cm mo E W σ ((Res.of Γ (sl Γ j)).bind _) _ at q
  cases et : sl Γ j with
  | none => rw [et] at q; exact (show False from q).elim
  | some t =>
    rw [et] at q
    change PostE X.K cm mo E W σ ((xf Γ).bind _) _ at q
    obtain ⟨v, G, hv, -⟩ := sl_R r0 et (by rw [hm]; decide)
    refine ⟨v, sl_get hv, W, Γ, rfl, r0, PostE.imp (PostE.bind q) fun xs W2 Γ2 ey r2 f2 q2 v2 G2 h2 kk2 => ?_⟩
    refine q2 Γ2 ey r2 f2 W2 r2 (Fr.refl _) (v :: v2) G2 ⟨by simp [h2.lt], by simp [h2.lv], fun i j' e => ?_, fun i e => ?_, h2.tr⟩ kk2
    · cases i with
      | zero =>
        have e : j = j' := by simpa using e
        subst e
        simpa using hv
      | succ i => simpa using h2.rf i j' (by simpa using e)
    · cases i with
      | zero => simp at e
      | succ i => simpa using h2.va i (by simpa using e)
end
/-! ### the call -/
def pmR (rs : List (Option Nat)) : List Mode := rs.map fun o => match o with | some _ => .o1 | none => .vw
def fillR : List (Option Nat) → List T → Env → Option (List T)
  | [], [], _ => some []
  | none :: rs, t :: ts, Γ => (fillR rs ts Γ).map (t :: ·)
  | some j :: rs, _ :: ts, Γ => (sl Γ j).bind fun t => if rootT t then (fillR rs ts Γ).map (t :: ·) else none
  | _, _, _ => none
def wbR : List (Option Nat) → Env → Env → Env
  | [], _, Γ => Γ
  | none :: rs, ts, Γ => wbR rs ts.tail Γ
  | some j :: rs, ts, Γ => wbR rs ts.tail (Γ.set j (sl ts 0))
def okR : List (Option Nat) → Env → Bool
  | [], _ => true
  | none :: rs, ts => okR rs ts.tail
  | some _ :: rs, ts => (match sl ts 0 with | some t => rootT t | none => false) && okR rs ts.tail
theorem sl_tail {α : Type} : ∀ {l : List (Option α)} {i : Nat}, sl l.tail i = sl l (i + 1)
  | [], _ => rfl
  | _ :: _, _ => rfl
def eCallR (rs : List (Option Nat)) (kd : Kd) (m : SF) (n : Nat) (xf : Env → Res (List T)) : EF := fun Γ => (xf Γ).bind fun Γ1 ts => match fillR rs ts Γ1 with
  | none => .stuck
  | some us => match m (env0 n us) with
    | .rt t Γ' => if okR rs Γ' then .ok (wbR rs Γ' Γ1) t else .stuck
    | .nx Γ' => if (okR rs Γ' && kle .imm kd) = true then .ok (wbR rs Γ' Γ1) .non else .stuck
    | .ex c Γ' => if okR rs Γ' then .ex c (wbR rs Γ' Γ1) else .stuck
    | _ => .stuck
theorem pmR_md : ∀ {rs : List (Option Nat)} {i : Nat}, md (pmR rs) i = match rs[i]? with | some (some _) => .o1 | some none => .vw | none => .dead
  | [], _ => rfl
  | none :: _, 0 => rfl
  | some _ :: _, 0 => rfl
  | o :: rs, i + 1 => by
    show md (pmR rs) i = _
    rw [pmR_md]; simp
theorem fillR_spec : ∀ {rs : List (Option Nat)} {ts : List T} {Γ : Env} {us : List T}, fillR rs ts Γ = some us → us.length = rs.length ∧ ts.length = rs.length ∧ (∀ (i : Nat) (j : Nat), rs[i]? = some (some j) → ∃ t, us[i]? = some t ∧ sl Γ j = some t ∧ rootT t = true) ∧ ∀ (i : Nat), rs[i]? = some none → us[i]? = ts[i]?
  | [], [], Γ, us, h => by cases h; exact ⟨rfl, rfl, fun i j e => by simp at e, fun i e => by simp at e⟩
  | none :: rs, t :: ts, Γ, us, h => by
    obtain ⟨vs, h1, rfl⟩ := Option.map_eq_some_iff.mp h
    obtain ⟨a, b, c, d⟩ := fillR_spec h1
    refine ⟨by simp [a], by simp [b], fun i j e => ?_, fun i e => ?_⟩
    · cases i with
      | zero => simp at e
      | succ i => simpa using c i j (by simpa using e)
    · cases i with
      | zero => rfl
      | succ i => simpa using d i (by simpa using e)
  | some j :: rs, _ :: ts, Γ, us, h => by
    obtain ⟨t, h0, h1⟩ := Option.bind_eq_some_iff.mp h
    by_cases ht : rootT t = true
    · rw [if_pos ht] at h1
      obtain ⟨vs, h2, rfl⟩ := Option.map_eq_some_iff.mp h1
      obtain ⟨a, b, c, d⟩ := fillR_spec h2
      refine ⟨by simp [a], by simp [b], fun i j' e => ?_, fun i e => ?_⟩
      · cases i with
        | zero =>
          have e : j = j' := by simpa using e
          subst e
          exact ⟨t, rfl, h0, ht⟩
        | succ i => simpa using c i j' (by simpa using e)
      · cases i with
        | zero => simp at e
        | succ i => simpa using d i (by simpa using e)
    · rw [if_neg ht] at h1; cases h1
  | [], _ :: _, _, _, h => by cases h
  | none :: _, [], _, _, h => by cases h
  | some _ :: _, [], _, _, h => by cases h
theorem okR_spec : ∀ {rs : List (Option Nat)} {ts : Env}, okR rs ts = true → ∀ (i : Nat) (j : Nat), rs[i]? = some (some j) → ∃ t, sl ts i = some t ∧ rootT t = true
  | [], _, _, i, j, e => by simp at e
  | none :: rs, ts, h, i, j, e => by
    cases i with
    | zero => simp at e
    | succ i => rw [← sl_tail]; exact okR_spec (rs := rs) (ts := ts.tail) h i j (by simpa using e)
  | some j' :: rs, ts, h, i, j, e => by
    simp only [okR, Bool.and_eq_true] at h
    cases i with
    | zero =>
      cases q : sl ts 0 with
      | none => rw [q] at h; exact absurd h.1 (by decide)
      | some t => rw [q] at h; exact ⟨t, rfl, h.1⟩
    | succ i => rw [← sl_tail]; exact okR_spec (rs := rs) (ts := ts.tail) h.2 i j (by simpa using e)
theorem wbR_len : ∀ {rs : List (Option Nat)} {ts : Env} {Γ : Env}, (wbR rs ts Γ).length = Γ.length
  | [], _, _ => rfl
  | none :: rs, ts, Γ => wbR_len (rs := rs)
  | some j :: rs, ts, Γ => by
    show (wbR rs ts.tail (Γ.set j (sl ts 0))).length = _
    rw [wbR_len, List.length_set]
theorem wbR_out : ∀ {rs : List (Option Nat)} {ts : Env} {Γ : Env} {k : Nat}, (∀ (i : Nat), rs[i]? ≠ some (some k)) → sl (wbR rs ts Γ) k = sl Γ k
  | [], _, _, _, _ => rfl
  | none :: rs, ts, Γ, k, h => wbR_out (rs := rs) fun i e => h (i + 1) (by simpa using e)
  | some j :: rs, ts, Γ, k, h => by
    show sl (wbR rs ts.tail (Γ.set j (sl ts 0))) k = _
    rw [wbR_out fun i e => h (i + 1) (by simpa using e), sl_set_ne fun e => h 0 (by simp [e])]
theorem wbR_in : ∀ {rs : List (Option Nat)} {ts : Env} {Γ : Env} {i k : Nat}, (∀ (i i' j : Nat), rs[i]? = some (some j) → rs[i']? = some (some j) → i = i') → k < Γ.length → rs[i]? = some (some k) → sl (wbR rs ts Γ) k = sl ts i
  | [], _, _, _, _, _, _, h => by simp at h
  | none :: rs, ts, Γ, i, k, nd, hk, h => by
    cases i with
    | zero => simp at h
    | succ i =>
      rw [← sl_tail]
      exact wbR_in (rs := rs) (ts := ts.tail) (fun a b j e1 e2 => by have := nd (a + 1) (b + 1) j (by simpa using e1) (by simpa using e2); omega) hk (by simpa using h)
  | some j :: rs, ts, Γ, i, k, nd, hk, h => by
    have nd2 : ∀ (a b j : Nat), rs[a]? = some (some j) → rs[b]? = some (some j) → a = b := fun a b j e1 e2 => by have := nd (a + 1) (b + 1) j (by simpa using e1) (by simpa using e2); omega
    show sl (wbR rs ts.tail (Γ.set j (sl ts 0))) k = _
    cases i with
    | zero =>
      have e : j = k := by simpa using h
      subst e
      rw [wbR_out fun i e => by have := nd 0 (i + 1) j (by simp) (by simpa using e); omega, sl_set_self hk]
    | succ i =>
      rw [← sl_tail]
      exact wbR_in (rs := rs) (ts := ts.tail) nd2 (by rw [List.length_set]; exact hk) (by simpa using h)
theorem root_ref {K : PySem.W.Frag} {cm : Cm} {H : Hp} {t : T} {v : V} {a : Addr} {G : List Addr} (e : rootT t = true) (h : Rep K cm H t v (a :: G)) : v = .ref a := by
  cases t with
  | lst => obtain ⟨b, xs, G', rfl, r, s, q⟩ := h; cases q; rfl
  | dct => obtain ⟨b, xs, G', rfl, r, s, q⟩ := h; cases q; rfl
  | dtt => obtain ⟨b, xs, G', rfl, r, s, q⟩ := h; cases q; rfl
  | ins C ts =>
    rcases h with ⟨z, _⟩ | ⟨z, b, dx, Ca, xs, G', rfl, c, r, s, q⟩
    · exact absurd z (of_decide_eq_true e)
    · cases q; rfl
  | _ => cases e
section
variable {K : PySem.W.Frag} {cm : Cm} {mo : List Mode} {E : XK} {rs : List (Option Nat)} {xf : Env → Res (List T)} {m : SF} {n : Nat} {kd : Kd}
theorem pmR_len : (pmR rs).length = rs.length := List.length_map ..
theorem pmR_chg {i : Nat} (h : chg (md (pmR rs) i) = true) : ∃ j, rs[i]? = some (some j) := by
  rw [pmR_md] at h
  cases e : rs[i]? with
  | none => rw [e] at h; cases h
  | some o =>
    rw [e] at h
    cases o with
    | none => cases h
    | some j => exact ⟨j, rfl⟩
theorem keep_o1 {i j : Nat} (h : rs[i]? = some (some j)) : md (keepM (pmR rs)) i = .o1 := by
  rw [keepM_md, pmR_md, h]; rfl
theorem callR_core (nd : ∀ (i i' j : Nat), rs[i]? = some (some j) → rs[i']? = some (some j) → i = i') (hm : ∀ (i j : Nat), rs[i]? = some (some j) → md mo j = .o1) (hk : True) :
    ∀ σ H Q, tE K cm mo kd E (eCallR rs kd m n xf) σ H Q → tCall (SpM K cm (pmR rs) n kd m) [] E (tEr K cm mo rs E xf) σ H Q := fun σ H Q ⟨W, Γ, e1, r0, q⟩ => by
  subst e1
  refine ⟨W, Γ, rfl, r0, PostE.imp (PostE.bind0 q) fun ts W1 Γ1 ex r1 f1 q1 vs G ra ks => ?_⟩
  have q1 := q1 Γ1 ex r1 f1
  cases ef : fillR rs ts Γ1 with
  | none => rw [ef] at q1; exact q1.elim
  | some us =>
  rw [ef] at q1
  dsimp only at q1
  obtain ⟨lu, lt, fu, fv⟩ := fillR_spec ef
  obtain ⟨Os, r⟩ := id r1
  have nG : ∀ x ∈ G, ∀ i, ¬ x ∈ Os i := fun x hx => r.notOwn (ks x hx).2.1 (ks x hx).2.2
  -- the slots that are handed on
  have ow : ∀ (i j : Nat), rs[i]? = some (some j) → ∃ v a F t, sl σ j = some v ∧ vs[i]? = some v ∧ us[i]? = some t ∧ sl Γ1 j = some t ∧ v = .ref a ∧ Os j = [a] ∧ Rep K cm W1.H t v (a :: F) ∧ ∀ x ∈ F, W1.S x := fun i j e => by
    obtain ⟨t, h1, h2, h3⟩ := fu i j e
    have s := r.slot j
    rw [hm i j e] at s
    obtain ⟨v, a, F, e3, e4, h, g⟩ := s t h2
    exact ⟨v, a, F, t, e3, by rw [← ra.rf i j e]; exact e3, h1, h2, root_ref h3 h, e4, h, g⟩
  let Cs : Addr → Prop := fun x => ∃ (i j : Nat), rs[i]? = some (some j) ∧ x ∈ Os j
  have csC : ∀ x, Cs x → W1.C x := fun x ⟨i, j, e, hx⟩ => r.inC (by rw [hm i j e]; rfl) hx
  let Ws : Wd := ⟨W1.H, Cs, fun _ => False, fun x => W1.S x ∨ x ∈ G⟩
  let Oz : Nat → List Addr := fun i => match rs[i]? with | some (some j) => Os j | _ => []
  have oz1 : ∀ {i j : Nat}, rs[i]? = some (some j) → Oz i = Os j := fun {i j} e => by show (match rs[i]? with | some (some j) => Os j | _ => []) = _; rw [e]
  have oz0 : ∀ {i x}, x ∈ Oz i → ∃ j, rs[i]? = some (some j) ∧ x ∈ Os j := fun {i x} hx => by
    have hx : x ∈ (match rs[i]? with | some (some j) => Os j | _ => []) := hx
    cases e : rs[i]? with
    | none => rw [e] at hx; cases hx
    | some o =>
      cases o with
      | none => rw [e] at hx; cases hx
      | some j => rw [e] at hx; exact ⟨j, rfl, hx⟩
  have rz : R K cm (pmR rs) Ws (vs.map some) (us.map some) := by
    refine ⟨Oz, fun i => ?_, fun i => ?_, fun i i' x ne hx hx' => ?_, fun x => ?_, fun x => ?_, fun i x hx => ?_, fun x h => h.elim (r.trS x) (ra.tr x), fun i x hx => ?_, fun x c => r.mu x (csC x c), by rw [List.length_map, pmR_len, ra.lv], by rw [List.length_map, pmR_len, lu]⟩
    · rw [sl_map, sl_map, pmR_md]
      cases e : rs[i]? with
      | none =>
        show Oz i = []
        show (match rs[i]? with | some (some j) => Os j | _ => []) = _
        rw [e]
      | some o =>
        cases o with
        | none =>
          refine ⟨?_, fun u eu => ?_⟩
          · show (match rs[i]? with | some (some j) => Os j | _ => []) = _
            rw [e]
          · obtain ⟨t, v, F, h1, h2, h3, h4⟩ := ra.va i e
            rw [fv i e, h1] at eu
            cases eu
            exact ⟨v, F, h2, h3, fun x hx => .inr (h4 x hx)⟩
        | some j =>
          obtain ⟨v, a, F, t, a1, a2, a3, a4, a5, a6, a7, a8⟩ := ow i j e
          intro u eu
          rw [a3] at eu
          cases eu
          exact ⟨v, a, F, a2, by rw [oz1 e]; exact a6, a7, fun x hx => .inl (a8 x hx)⟩
    · cases e : rs[i]? with
      | none =>
        show (match rs[i]? with | some (some j) => Os j | _ => []).Nodup
        rw [e]; exact List.nodup_nil
      | some o =>
        cases o with
        | none =>
          show (match rs[i]? with | some (some j) => Os j | _ => []).Nodup
          rw [e]; exact List.nodup_nil
        | some j => rw [oz1 e]; exact r.nd j
    · obtain ⟨j, e, hx⟩ := oz0 hx
      obtain ⟨j', e', hx'⟩ := oz0 hx'
      have nj : j ≠ j' := fun q => ne (nd i i' j e (q ▸ e'))
      exact r.dj j j' x nj hx hx'
    · constructor
      · rintro ⟨i, j, e, hx⟩
        exact ⟨i, by rw [pmR_md, e]; rfl, by rw [oz1 e]; exact hx⟩
      · rintro ⟨i, c, hx⟩
        obtain ⟨j, e, hx⟩ := oz0 hx
        exact ⟨i, j, e, hx⟩
    · constructor
      · exact fun h => h.elim
      · rintro ⟨i, c, hx⟩
        obtain ⟨j, e, hx⟩ := oz0 hx
        rw [pmR_md, e] at c; cases c
    · obtain ⟨j, e, hx⟩ := oz0 hx
      exact fun h => h.elim (r.sh j x hx) fun g => nG x g j hx
    · obtain ⟨j, e, hx⟩ := oz0 hx
      exact r.trO j x hx
  -- back in the caller's world
  have back : ∀ {W2 : Wd} {Γ' : Env}, R K cm (keepM (pmR rs)) W2 (vs.map some) (Γ'.take (pmR rs).length) → Fr Ws W2 → okR rs Γ' = true → R K cm mo ⟨W2.H, W1.C, W1.L, fun x => W1.S x ∨ W2.S x⟩ σ (wbR rs Γ' Γ1) ∧ Fr W ⟨W2.H, W1.C, W1.L, fun x => W1.S x ∨ W2.S x⟩ ∧ ∀ x, Cs x → W2.C x := fun {W2 Γ'} rk fk ok => by
    obtain ⟨O2, r2⟩ := id rk
    have lg2 := r2.lg
    rw [keepM_len, List.length_take, pmR_len] at lg2
    have own2 : ∀ (i j : Nat), rs[i]? = some (some j) → ∃ t a F, sl Γ' i = some t ∧ Os j = [a] ∧ O2 i = [a] ∧ sl σ j = some (.ref a) ∧ Rep K cm W2.H t (.ref a) (a :: F) ∧ ∀ x ∈ F, W2.S x := fun i j e => by
      obtain ⟨t, h1, h2⟩ := okR_spec ok i j e
      obtain ⟨v, a, F, t0, a1, a2, a3, a4, a5, a6, a7, a8⟩ := ow i j e
      have s := r2.slot i
      have hi : i < rs.length := by
        by_cases q : i < rs.length
        · exact q
        · rw [List.getElem?_eq_none (by omega)] at e; cases e
      rw [keep_o1 e, sl_map, a2, sl_take (by rw [pmR_len]; exact hi), h1] at s
      obtain ⟨v', a', F', b1, b2, b3, b4⟩ := s t rfl
      cases b1
      have e5 := root_ref h2 b3
      rw [a5] at e5
      cases e5
      rw [a5] at a1 b3
      exact ⟨t, a, F', h1, a6, b2, a1, b3, b4⟩
    have c2 : ∀ x, Cs x → W2.C x := fun x ⟨i, j, e, hx⟩ => by
      obtain ⟨t, a, F, h1, h2, h3, h4, h5, h6⟩ := own2 i j e
      rw [h2] at hx
      exact (r2.hC x).mpr ⟨i, by rw [keep_o1 e]; rfl, by rw [h3]; exact hx⟩
    have nS2 : ∀ k x, x ∈ Os k → ¬ W2.S x := fun k x hx s => by
      rcases fk.shn x s with (z | z) | z | z
      · exact r.sh k x hx z
      · exact nG x z k hx
      · exact (R.sC rk x s) (c2 x z)
      · exact z (r.trO k x hx)
    have kp : Kp Cs W1.H W2.H := fk.kp fun x c => r.mu x (csC x c)
    refine ⟨⟨Os, fun k => ?_, r.nd, r.dj, r.hC, r.hL, fun k x hx h => h.elim (r.sh k x hx) (nS2 k x hx), fun x h => h.elim (fun s => fk.tr x (r.trS x s)) (r2.trS x), fun k x hx => fk.tr x (r.trO k x hx), fun x c => ?_, r.ls, by rw [wbR_len]; exact r.lg⟩, ⟨fun b o e n => ?_, fun x c => f1.chg x c, f1.lck, fun x s => .inl (f1.shr x s), fun x s => ?_, fun x t => fk.tr x (f1.tr x t)⟩, c2⟩
    · by_cases hk : ∃ i : Nat, rs[i]? = some (some k)
      · obtain ⟨i, e⟩ := hk
        obtain ⟨t, a, F, h1, h2, h3, h4, h5, h6⟩ := own2 i k e
        rw [hm i k e, wbR_in nd (by rw [r.lg]; exact md_lt (by rw [hm i k e]; decide)) e, h1]
        intro u eu
        cases eu
        exact ⟨.ref a, a, F, h4, h2, h5, fun x hx => .inr (h6 x hx)⟩
      · rw [wbR_out fun i e => hk ⟨i, e⟩]
        refine (r.slot k).kp kp (fun x s => .inl s) (fun x s c => R.sC r1 x s (csC x c)) fun x hx c => ?_
        obtain ⟨i, j, e, hx2⟩ := c
        have nj : k ≠ j := fun q => hk ⟨i, q ▸ e⟩
        exact r.dj k j x nj hx hx2
    · have mx := r.mu x c
      by_cases hc : Cs x
      · exact r2.mu x (c2 x hc)
      · exact mut_eq mx fun o e => fk.keep x o e hc
    · have e1 := f1.keep b o e n
      exact fk.keep b o e1 fun c => (f1.chg b (csC b c)).elim n fun z => z ⟨o, e⟩
    · rcases s with s | s
      · exact f1.shn x s
      · rcases fk.shn x s with (z | z) | z | z
        · exact f1.shn x z
        · exact (ks x z).1
        · exact .inr (f1.chg x (csC x z))
        · exact .inr (.inr fun t => z (f1.tr x t))
  have trk : ∀ x, ¬ Tr W1.H x → ¬ W1.C x ∧ ¬ W1.L x ∧ ¬ W1.S x ∧ ¬ Tr W.H x := fun x h => ⟨fun c => h (r1.trC x c), fun c => h (r1.trL x c), fun s => h (r.trS x s), fun t => h (f1.tr x t)⟩
  refine ⟨Ws, us, rfl, by rw [List.append_nil, pmR_len]; exact ra.lv, by rw [List.append_nil]; exact rz, ?_⟩
  rw [List.append_nil]
  cases em : m (env0 n us) with
  | rt t Γ' =>
    rw [em] at q1
    change PostE K cm mo E W σ (if okR rs Γ' then .ok (wbR rs Γ' Γ1) t else .stuck) _ at q1
    by_cases ok : okR rs Γ' = true
    case neg => rw [if_neg ok] at q1; exact q1.elim
    rw [if_pos ok] at q1
    intro W2 v G2 rk fk hv kk
    obtain ⟨rb, fb, c2⟩ := back rk fk ok
    refine q1 _ rb fb v G2 hv ?_
    have sh : ∀ x, (Ws.S x ∨ Ws.C x ∨ ¬ Tr Ws.H x) → ¬ W2.C x → (W.S x ∨ W.C x ∨ ¬ Tr W.H x) ∧ ¬ W1.C x ∧ ¬ W1.L x := fun x h nc => by
      rcases h with (z | z) | z | z
      · exact ⟨f1.shn x z, R.sC r1 x z, R.sL r1 x z⟩
      · exact ks x z
      · exact absurd (c2 x z) nc
      · exact ⟨.inr (.inr (trk x z).2.2.2), (trk x z).1, (trk x z).2.1⟩
    cases kd with
    | imm => exact kk
    | any => trivial
    | fresh =>
      refine ⟨kk.1, fun x hx => ?_⟩
      obtain ⟨b1, b2, b3, b4, mu⟩ := kk.2 x hx
      have nt : ¬ Tr W1.H x := b1.elim (fun c => absurd (c2 x c) b2) fun z => z
      obtain ⟨t1, t2, t3, t4⟩ := trk x nt
      exact ⟨.inr t4, t1, t2, fun h => h.elim t3 b4, mu⟩
    | shared => exact fun x hx => sh x (kk x hx).1 (kk x hx).2.1
    | fr1 =>
      obtain ⟨a, G', rfl, ⟨b1, b2, b3, b4, mu⟩, na, g⟩ := kk
      have nt : ¬ Tr W1.H a := b1.elim (fun c => absurd (c2 a c) b2) fun z => z
      obtain ⟨t1, t2, t3, t4⟩ := trk a nt
      exact ⟨a, G', rfl, ⟨.inr t4, t1, t2, fun h => h.elim t3 b4, mu⟩, na, fun x hx => sh x (g x hx).1 (g x hx).2.1⟩
  | nx Γ' =>
    rw [em] at q1
    change PostE K cm mo E W σ (if (okR rs Γ' && kle .imm kd) = true then Res.ok (wbR rs Γ' Γ1) T.non else .stuck) _ at q1
    by_cases ok : (okR rs Γ' && kle .imm kd) = true
    case neg => rw [if_neg ok] at q1; exact q1.elim
    rw [if_pos ok] at q1
    rw [Bool.and_eq_true] at ok
    intro W2 rk fk
    obtain ⟨rb, fb, c2⟩ := back rk fk ok.1
    exact q1 _ rb fb .non [] ⟨rfl, rfl⟩ (KOk.le ok.2 (k := .imm) rfl)
  | ex c Γ' =>
    rw [em] at q1
    change PostE K cm mo E W σ (if okR rs Γ' then .ex c (wbR rs Γ' Γ1) else .stuck) _ at q1
    by_cases ok : okR rs Γ' = true
    case neg => rw [if_neg ok] at q1; exact q1.elim
    rw [if_pos ok] at q1
    intro W2 rk fk
    obtain ⟨rb, fb, c2⟩ := back rk fk ok
    exact q1 ⟨W2.H, W1.C, W1.L, fun x => W1.S x ∨ W2.S x⟩ rb fb
  | bk Γ' => rw [em] at q1; exact q1.elim
  | ct Γ' => rw [em] at q1; exact q1.elim
  | stuck => rw [em] at q1; exact q1.elim
end
section
variable {X : Cx} {cm : Cm} {mo : List Mode} {E : XK} {rs : List (Option Nat)} {xf : Env → Res (List T)} {m : SF} {n k : Nat} {kd : Kd} {CX : CXT} {f : Addr} {fd : FuncData} {ps : List Str} {x : Str} {p pos : Pos} {e : Expr} {es : List Expr}
/-- a def of the program is called -/
theorem ee_call (F : FnOk X.prog X.w X.K X.mg X.base CX k f fd ps (SpM X.K cm (pmR rs) n kd m)) (hr : Room k X.A) (hg : Gl X x) (hm : X.mg x = some (.ref f)) (hkp : PySem.W.keepIn X.K (.ref f) = true) (hb : Binds X.K fd ps []) (hx : Passes CX X E)
    (nd : ∀ (i i' j : Nat), rs[i]? = some (some j) → rs[i']? = some (some j) → i = i') (hmo : ∀ (i j : Nat), rs[i]? = some (some j) → md mo j = .o1) (hk : True) (ha : Ar X cm mo E rs (e :: es) xf)
    (hdb : (x == ("__debug__" : Str)) = false := by decide) (he : starEach (e :: es) X.env = (false, eval e X.env) :: starEach es X.env := by rfl) (hpl : (backTo pos (starEach es X.env)).any (·.1) = false := by rfl) :
    Ee X cm mo E kd (.Call (.Name x p) (e :: es) [] pos) (eCallR rs kd m n xf) := PE.imp (pe_call F hr hg hm hkp hb .nil hx ha hdb he hpl) (callR_core nd hmo hk)
end
end Tm
namespace Tm
open PySem PySem.Spec PyProof.Rows L2
/-! ### subscripts of dicts too -/
def rIxD : R2 := fun x y H Q => ∃ a v, x = .ref a ∧ DGet H a y (some v) ∧ Q v H
theorem ix_dict {X : Cx} (hu : X.A.units + 1 < cLine) : IxR X rIxD := by
  intro value slice pins s σ H x y v u Q I rx ry h hs
  obtain ⟨a, z, rfl, g, q⟩ := h
  obtain rfl : v = Value.ref a := rx
  have hT := dict_typeIs I g
  unfold subscriptTail
  refine wpAny_bind ?_
  rw [getitemInPython_of_ne hT.not_modules]
  refine wpAny_bind (wpAny_specialOf hT PySem.F.slot_dict_getitem.lookup ?_)
  have fin : wpAny (model X.prog X.w) X.A (subscripted slice false (.ref a) u) (fun r s₃ => wpAny (model X.prog X.w) X.A (letTemporaryGo value (.ref a) r >>= fun _ => pure r) (EP X pins σ Q) X.xe s₃) X.xe s := by
    rw [hs]
    exact wpAny_operating (wpAny_mono (d_getItem hu I g ry fun w' s3 I3 rw' => (⟨z, H, I3, rw', q⟩ : EP X pins σ Q w' s3)) (fun r s₃ h₃ => wpAny_bind (wpAny_letTemporaryGo (wpAny_pure h₃))) fun _ _ x => x)
  first
    | exact wpAny_pure (wpAny_bind fin)
    | exact wpAny_bind (wpAny_pure (wpAny_bind fin))
    | exact wpAny_bind fin
def rIxAll (K : PySem.W.Frag) : R2 := fun x y H Q => rIxA K x y H Q ∨ rIxD x y H Q
def tIxA (x i : T) : Option T := match x with
  | .dct _ => dIx x i | .dtt _ => dIx x i | _ => tIx x i
section
variable {K : PySem.W.Frag} {cm : Cm} {H : Hp}
theorem RepD.look {k : Key} : ∀ {ts : List (Key × T)} {xs : List (Key × V)} {F : List Addr}, RepD K cm H ts xs F →
    match lookT ts k with | some t => ∃ v G, valV xs k = some v ∧ Rep K cm H t v G ∧ ∀ y ∈ G, y ∈ F | none => valV xs k = none
  | [], _, _, h => by rw [h.1]; rfl
  | (k1, t) :: ts, _, _, h => by
    obtain ⟨x, r, F1, F2, rfl, rfl, h1, h2⟩ := h
    unfold lookT
    by_cases e : k1 = k
    · rw [if_pos e]
      exact ⟨x, F1, valV_pos e, h1, fun y hy => List.mem_append_left _ hy⟩
    · rw [if_neg e]
      have ih := RepD.look (k := k) h2
      rw [show valV ((k1, x) :: r) k = valV r k from valV_neg e]
      cases q : lookT ts k with
      | none => rw [q] at ih; exact ih
      | some t2 =>
        rw [q] at ih
        obtain ⟨v, G, a, b, c⟩ := ih
        exact ⟨v, G, a, b, fun y hy => List.mem_append_right _ (c y hy)⟩
theorem RepT.look {k : List Key} : ∀ {ts : List (List Key × T)} {xs : List (List Key × V)} {F : List Addr}, RepT K cm H ts xs F →
    match lookT ts k with | some t => ∃ v G, valV xs k = some v ∧ Rep K cm H t v G ∧ ∀ y ∈ G, y ∈ F | none => valV xs k = none
  | [], _, _, h => by rw [h.1]; rfl
  | (k1, t) :: ts, _, _, h => by
    obtain ⟨x, r, F1, F2, rfl, rfl, h1, h2⟩ := h
    unfold lookT
    by_cases e : k1 = k
    · rw [if_pos e]
      exact ⟨x, F1, valV_pos e, h1, fun y hy => List.mem_append_left _ hy⟩
    · rw [if_neg e]
      have ih := RepT.look (k := k) h2
      rw [show valV ((k1, x) :: r) k = valV r k from valV_neg e]
      cases q : lookT ts k with
      | none => rw [q] at ih; exact ih
      | some t2 =>
        rw [q] at ih
        obtain ⟨v, G, a, b, c⟩ := ih
        exact ⟨v, G, a, b, fun y hy => List.mem_append_right _ (c y hy)⟩
/-- what a dict holds -/
def DRes (K : PySem.W.Frag) (cm : Cm) (H : Hp) (a : Addr) (y : V) (F : List Addr) (o : Option T) : Prop := match o with
  | some c => ∃ v Gv, DGet H a y (some v) ∧ Rep K cm H c v Gv ∧ ∀ w ∈ Gv, w ∈ F
  | none => DGet H a y none
theorem dIx_get {t i : T} {o : Option T} (e : (∃ kvs k, t = .dct kvs ∧ keyT i = some k ∧ o = lookT kvs k) ∨ ∃ kvs ks k, t = .dtt kvs ∧ i = .tup ks ∧ keysT ks = some k ∧ o = lookT kvs k) {x y : V} {F G : List Addr} (ha : Rep K cm H t x F) (hb : Rep K cm H i y G) :
    ∃ a F', x = .ref a ∧ F = a :: F' ∧ DRes K cm H a y F' o := by
  rcases e with ⟨kvs, k, rfl, ek, rfl⟩ | ⟨kvs, ks, k, rfl, rfl, ek, rfl⟩
  · obtain ⟨a, xs, G', rfl, r, s, rfl⟩ := ha
    refine ⟨a, G', rfl, rfl, ?_⟩
    rw [keyT_rep ek hb]
    have l := r.look (k := k)
    cases q : lookT kvs k with
    | none => rw [q] at l; exact .inl ⟨xs, k, s, rfl, l.symm⟩
    | some t2 =>
      rw [q] at l
      obtain ⟨v, Gv, e1, e2, e3⟩ := l
      exact ⟨v, Gv, by rw [← e1]; exact .inl ⟨xs, k, s, rfl, rfl⟩, e2, e3⟩
  · obtain ⟨a, xs, G', rfl, r, s, rfl⟩ := ha
    refine ⟨a, G', rfl, rfl, ?_⟩
    obtain ⟨b, ys, rfl, sb, rb⟩ := hb
    have e4 := keysT_reps ek rb
    subst e4
    have l := r.look (k := k)
    cases q : lookT kvs k with
    | none => rw [q] at l; exact .inr ⟨xs, k, b, s, rfl, (sb.2 (keysT_isK ek)), l.symm⟩
    | some t2 =>
      rw [q] at l
      obtain ⟨v, Gv, e1, e2, e3⟩ := l
      exact ⟨v, Gv, by rw [← e1]; exact .inr ⟨xs, k, b, s, rfl, (sb.2 (keysT_isK ek)), rfl⟩, e2, e3⟩
theorem dIx_some {t i c : T} (e : dIx t i = some c) : ((∃ kvs k, t = .dct kvs ∧ keyT i = some k ∧ some c = lookT kvs k) ∨ ∃ kvs ks k, t = .dtt kvs ∧ i = .tup ks ∧ keysT ks = some k ∧ some c = lookT kvs k) := by
  unfold dIx at e
  split at e
  · obtain ⟨k, e1, e2⟩ := Option.bind_eq_some_iff.mp e
    exact .inl ⟨_, k, rfl, e1, e2.symm⟩
  · obtain ⟨k, e1, e2⟩ := Option.bind_eq_some_iff.mp e
    exact .inr ⟨_, _, k, rfl, rfl, e1, e2.symm⟩
  · cases e
/-- the result lies in the children -/
theorem ixA_child {a b c : T} (e : tIxA a b = some c) {x y : V} {F G : List Addr} (ha : Rep K cm H a x F) (hb : Rep K cm H b y G) (Q : VK) (q : ∀ z H' F', Same H H' → Rep K cm H' c z F' → (∀ w ∈ F', w ∈ F) → (∀ p F2, F = p :: F2 → rootT a = true → ∀ w ∈ F', w ∈ F2) → Q z H') : rIxAll K x y H Q := by
  unfold tIxA at e
  have viaD : dIx a b = some c → rIxAll K x y H Q := fun e => by
    obtain ⟨p, F', rfl, rfl, g⟩ := dIx_get (dIx_some e) ha hb
    obtain ⟨v, Gv, g1, g2, g3⟩ := g
    exact .inr ⟨p, v, rfl, g1, q v H Gv (fun _ _ h => h) g2 (fun w hw => List.mem_cons_of_mem _ (g3 w hw)) fun p' F2 e _ w hw => by cases e; exact g3 w hw⟩
  cases a with
  | dct => exact viaD e
  | dtt => exact viaD e
  | lst ts =>
    unfold tIx at e
    cases b with
    | int i =>
      obtain ⟨p, xs, G', rfl, r, s, rfl⟩ := ha
      obtain ⟨v, G2, e1, r1, s1⟩ := r.atI e
      exact .inl (.inl (.inl ⟨p, xs, _, v, rfl, hb.1, SqL.of s, e1, q v H G2 (fun _ _ h => h) r1 (fun w hw => List.mem_cons_of_mem _ (s1 w hw)) fun p' F2 e _ w hw => by cases e; exact s1 w hw⟩))
    | _ => cases e
  | ins => cases e
  | tup ts => exact .inl (sb_ix _ b c e H x y F G ha hb Q fun z H' F' s h sub => q z H' F' s h sub fun p F2 _ hr => by cases hr)
  | scr ts => exact .inl (sb_ix _ b c e H x y F G ha hb Q fun z H' F' s h sub => q z H' F' s h sub fun p F2 _ hr => by cases hr)
  | str ts => exact .inl (sb_ix _ b c e H x y F G ha hb Q fun z H' F' s h sub => q z H' F' s h sub fun p F2 _ hr => by cases hr)
  | _ => cases e
theorem sb_ixA : Sb2 K cm (rIxAll K) tIxA := fun a b c e H x y F G ha hb Q q => ixA_child e ha hb Q fun z H' F' s h sub _ => q z H' F' s h sub
end
section
variable {X : Cx} {cm : Cm} {mo mo' mo1 mo2 : List Mode} {J : Exits} {E : XK} {a b e : Expr} {st : Stmt} {pos p : Pos} {kd kd' k1 k2 : Kd} {f g : PF} {ef eg : EF} {tf : BF} {uf : Env → Res Bool} {m : SF} {x : Str} {j : Nat}
theorem ixA_all (hu : X.A.units + 1 < cLine) : IxR X (rIxAll X.K) := IxR.or ix_all (ix_dict hu)
theorem ep_ixA (hu : X.A.units + 1 < cLine) (ha : Ep X cm mo k1 a f) (hb : Ep X cm mo k2 b g) (hs : PlainIx b := by intro _ _; rfl) : Ep X cm mo (ekd k1) (.Subscript a b pos) (pBin tIxA f g) := PE.imp (pe_ix (ixA_all hu) ha hb hs) (sop_core sb_ixA)
theorem ee_ixA (hu : X.A.units + 1 < cLine) (l1 : kle k1 .shared = true) (ha : Ee X cm mo E k1 a ef) (hb : Ee X cm mo E k2 b eg) (hs : PlainIx b := by intro _ _; rfl) : Ee X cm mo E (ekd k1) (.Subscript a b pos) (eBin tIxA ef eg) := PE.imp (pe_ix (ixA_all hu) ha hb hs) (eop_core sb_ixA (.inl l1))
/-- x[i], x a slot's own: what it holds is shared -/
def tIxO (x i : T) : Option T := if rootT x then tIxA x i else none
def eOwn (j : Nat) (eg : EF) : EF := fun Γ => if (sl Γ j).isSome = true then (eg Γ).bind fun Γ2 y => .of Γ2 ((sl Γ2 j).bind fun t => tIxO t y) else .stuck
theorem own_core {K : PySem.W.Frag} (hm : md mo j = .o1) : ∀ σ H Q, tE K cm mo .shared E (eOwn j eg) σ H Q → tOp (rIxAll K) (tVar j) (tE K cm mo k2 E eg) σ H Q := fun σ H Q ⟨W, Γ, e1, r0, q⟩ => by
  subst e1
  unfold eOwn at q
  by_cases et : (sl Γ j).isSome = true
  case neg => rw [if_neg et] at q; exact q.elim
  rw [if_pos et] at q
  obtain ⟨t, et⟩ := Option.isSome_iff_exists.mp et
  obtain ⟨v, av, G, hv, rp, -, -, -, g, -⟩ := r0.o1 (Fr.refl W) hm et
  refine ⟨v, sl_get hv, W, Γ, rfl, r0, PostE.imp (PostE.bind0 q) fun y W2 Γ2 ey r2 f2 q2 v2 G2 h2 kk2 => ?_⟩
  obtain ⟨c, ec, q3⟩ := PostE.of (q2 Γ2 ey r2 f2)
  obtain ⟨t2, et2, ec⟩ := Option.bind_eq_some_iff.mp ec
  obtain ⟨v', a2, G', hv', rp', -, -, -, g', -⟩ := r2.o1 f2 hm et2
  have ev : v = v' := Option.some.inj (hv.symm.trans hv')
  subst ev
  unfold tIxO at ec
  split at ec
  · rename_i hr
    refine ixA_child ec rp' h2 Q fun z H' F' s h _ sub => q3 { W2 with H := H' } (r2.same s) (f2.trans (same_fr s)) z F' h fun x hx => ?_
    have sx := g' x (sub a2 G' rfl hr x hx)
    exact ⟨f2.shn x sx, R.sC r2 x sx, R.sL r2 x sx⟩
  · cases ec
theorem ee_own (hu : X.A.units + 1 < cLine) (hN : X.N[j]? = some x) (hv : Vis X.env.scope x) (hm : md mo j = .o1) (hb : Ee X cm mo E k2 b eg) (hs : PlainIx b := by intro _ _; rfl) (hd : (x == ("__debug__" : Str)) = false := by decide) (hcd : (x == ("__classdict__" : Str)) = false := by decide) :
    Ee X cm mo E .shared (.Subscript (.Name x p) b pos) (eOwn j eg) := PE.imp (pe_ix (ixA_all hu) (pe_var hN hv hd hcd) hb hs) (own_core hm)
/-! ### small ones -/
def eFrzB (f : Env → Res Bool) : Env → Res Bool := fun Γ => match f Γ with
  | .ok _ t => .ok Γ t | .ex c _ => .ex c Γ | .stuck => .stuck
theorem be_frz (h : Be X cm (frz mo) E e uf) : Be X cm mo E e (eFrzB uf) := PT.imp h fun σ H Q ⟨W, Γ, e1, r, q⟩ => by
  subst e1
  obtain ⟨W2, e2, r2, f2⟩ := r.weak (frz_le mo)
  have nC : ∀ x, ¬ W2.C x := fun x c => by
    obtain ⟨Os, r3⟩ := r2
    obtain ⟨i, hi, _⟩ := (r3.hC x).mp c
    rw [frz_md] at hi; cases hi
  have sm : ∀ {W3}, Fr W2 W3 → Same W.H W3.H := fun f b o e => f.keep b o (by rw [e2]; exact e) (nC b)
  refine ⟨W2, Γ, e2, r2, ?_⟩
  unfold eFrzB at q
  cases e : uf Γ with
  | ok Γ1 t =>
    rw [e] at q
    intro W3 r3 f3
    exact q { W with H := W3.H } (r.same (sm f3)) (same_fr (sm f3))
  | ex c Γ1 =>
    rw [e] at q
    intro W3 r3 f3
    exact q { W with H := W3.H } (r.same (sm f3)) (same_fr (sm f3))
  | stuck => rw [e] at q; exact q
/-- a value that is flat -/
def eFl (f : EF) : EF := fun Γ => (f Γ).bind fun Γ1 t => if flatT t then .ok Γ1 t else .stuck
theorem ee_fl (h : Ee X cm mo E kd e ef) : Ee X cm mo E .imm e (eFl ef) := PE.imp h fun σ H Q ⟨W, Γ, e1, r, q⟩ => by
  subst e1
  refine tE_of r (PostE.imp (PostE.bind0 q) fun t W1 Γ1 ex r1 f1 q1 v G hv kk => ?_)
  have q2 := q1 Γ1 ex r1 f1
  split at q2
  · rename_i hf
    exact q2 W1 r1 f1 v G hv (flat_rep hf hv).1
  · exact q2.elim
theorem sm_pre (h : Sm X cm J E mo1 st mo2 m) (w : mleL mo1 mo = true) : Sm X cm J E mo st mo2 m := PS.imp h fun D σ H q => tS_pre w q
/-- what is not reached -/
def sOff : SF := fun _ => .stuck
theorem s_off : Sm X cm J E mo st mo' sOff := ⟨fun pins s σ H D I ⟨_, _, _, _, q⟩ => q.elim⟩
/-! ### in -/
def bInA (a b : T) : Option T := match b with
  | .dct kvs => (keyT a).map fun k => .bl (lookT kvs k).isSome
  | .dtt kvs => match a with
    | .tup ks => (keysT ks).map fun k => .bl (lookT kvs k).isSome
    | _ => none
  | _ => bIn a b
def rInD (neg : Bool) : R2 := fun x y H Q => ∃ a o, y = .ref a ∧ DGet H a x o ∧ Q (.bl (if neg then !o.isSome else o.isSome)) H
theorem op_inD' (hu : X.A.units + 1 < cLine) : OpR X (compareOp .In) (rInD false) := by
  intro pins s σ H x y v u Q I rx ry h
  obtain ⟨a, o, rfl, g, q⟩ := h
  obtain rfl : u = Value.ref a := ry
  exact d_in hu I g rx fun s3 I3 => ⟨.bl o.isSome, H, I3, rfl, q⟩
theorem op_ninD' (hu : X.A.units + 1 < cLine) : OpR X (compareOp .NotIn) (rInD true) := by
  intro pins s σ H x y v u Q I rx ry h
  obtain ⟨a, o, rfl, g, q⟩ := h
  obtain rfl : u = Value.ref a := ry
  exact d_notIn hu I g rx fun s3 I3 => ⟨.bl (!o.isSome), H, I3, rfl, q⟩
def rInA (K : PySem.W.Frag) (neg : Bool) : R2 := fun x y H Q => rIn K neg x y H Q ∨ rInD neg x y H Q
theorem op_inA (hu : X.A.units + 1 < cLine) : OpR X (compareOp .In) (rInA X.K false) := OpR.or op_in_seq (op_inD' hu)
theorem op_ninA (hu : X.A.units + 1 < cLine) : OpR X (compareOp .NotIn) (rInA X.K true) := OpR.or op_notIn_seq (op_ninD' hu)
theorem inA_core {K : PySem.W.Frag} {neg : Bool} {a b : T} {k : Bool} (e : bInA a b = some (.bl k)) {H : Hp} {x y : V} {F G : List Addr} (ha : Rep K cm H a x F) (hb : Rep K cm H b y G) {Q : VK} (q : Q (.bl (if neg then !k else k)) H) : rInA K neg x y H Q := by
  have dd : ∀ {o : Option T}, ((∃ kvs k, b = .dct kvs ∧ keyT a = some k ∧ o = lookT kvs k) ∨ ∃ kvs ks k, b = .dtt kvs ∧ a = .tup ks ∧ keysT ks = some k ∧ o = lookT kvs k) → k = o.isSome → rInA K neg x y H Q := fun {o} z ek => by
    obtain ⟨p, F', rfl, rfl, g⟩ := dIx_get z hb ha
    cases o with
    | none => exact .inr ⟨p, none, rfl, g, by subst ek; exact q⟩
    | some c =>
      obtain ⟨v, Gv, g1, _, _⟩ := g
      exact .inr ⟨p, some v, rfl, g1, by subst ek; exact q⟩
  unfold bInA at e
  split at e
  · obtain ⟨k', e1, e2⟩ := Option.map_eq_some_iff.mp e
    cases e2
    exact dd (.inl ⟨_, k', rfl, e1, rfl⟩) rfl
  · split at e
    · obtain ⟨k', e1, e2⟩ := Option.map_eq_some_iff.mp e
      cases e2
      exact dd (.inr ⟨_, _, k', rfl, rfl, e1, rfl⟩) rfl
    · cases e
  · obtain ⟨ys, h, h1, h2, e3⟩ := bIn_some e
    cases e3
    exact .inl (in_core h h1 h2 ha hb q)
theorem fl_inA : ∀ a b c, bInA a b = some c → ∃ k, c = .bl k := fun a b c e => by
  unfold bInA at e
  split at e
  · obtain ⟨k', e1, e2⟩ := Option.map_eq_some_iff.mp e
    exact ⟨_, e2.symm⟩
  · split at e
    · obtain ⟨k', e1, e2⟩ := Option.map_eq_some_iff.mp e
      exact ⟨_, e2.symm⟩
    · cases e
  · obtain ⟨ys, h, h1, h2, e3⟩ := bIn_some e
    exact ⟨_, e3⟩
theorem sc_inA {K : PySem.W.Frag} : Sc2 K cm (rInA K false) bInA := fun a b c e H x y F G ha hb Q q => by
  obtain ⟨k, rfl⟩ := fl_inA _ _ _ e
  exact inA_core e ha hb (q _ H (fun _ _ h => h) ⟨rfl, rfl⟩)
theorem sc_ninA {K : PySem.W.Frag} : Sc2 K cm (rInA K true) (bNot bInA) := fun a b c e H x y F G ha hb Q q => by
  obtain ⟨k, e2, rfl⟩ := bNot_some e
  exact inA_core e2 ha hb (q _ H (fun _ _ h => h) ⟨rfl, rfl⟩)
theorem flb_inA : ∀ a b c, bInA a b = some c → flatT c = true := fun a b c e => by obtain ⟨k, rfl⟩ := fl_inA a b c e; rfl
/-! ### dicts compared -/
def eqDD (ks ls : List (Key × T)) : Bool := (ks.length == ls.length) && ks.all fun p => match lookT ls p.1 with | some u => eqT p.2 u | none => false
def datD (ks : List (Key × T)) : Bool := ks.all fun p => dtT 29 p.2
def bEqA : T → T → Option T
  | .dct ks, .dct ls => if datD ks = true ∧ datD ls = true then some (.bl (eqDD ks ls)) else none
  | .scr ns, .lst ys => (tints ys).map fun ms => .bl (decide (ns = ms))
  | a, b => bEq a b
def KvD (K : PySem.W.Frag) (H : Hp) (ks : List (Key × V)) (ds : List (Key × PyData)) : Prop := Paired (fun p q => p.1 = q.1 ∧ Dp K H p.2 q.2 ∧ SeqAt.shaped q.2 = true) ks ds
def lookP (ds : List (Key × PyData)) (k : Key) : Option PyData := (ds.find? fun kv => decide (kv.1 = k)).map (·.2)
def hitsP (ls : List (Key × PyData)) (ks : List (Key × PyData)) : Bool := ks.all fun p => match lookP ls p.1 with | some u => PyData.eqv p.2 u | none => false
def rEqDD (K : PySem.W.Frag) (neg : Bool) : R2 := fun x y H Q => ∃ a b ks ls ds es, x = .ref a ∧ y = .ref b ∧ Rd H a (.dK ks) ∧ Rd H b (.dK ls) ∧ KvD K H ks ds ∧ KvD K H ls es ∧
  Q (.bl (if neg then !((ks.length == ls.length) && hitsP es ds) else ((ks.length == ls.length) && hitsP es ds))) H
theorem KvD.look {K : PySem.W.Frag} {H : Hp} {ls : List (Key × V)} {es : List (Key × PyData)} (h : KvD K H ls es) (k : Key) : match lookP es k with | some u => ∃ v, valV ls k = some v ∧ Dp K H v u ∧ SeqAt.shaped u = true | none => valV ls k = none := by
  unfold KvD at h
  induction h with
  | nil => exact rfl
  | @cons p q ps qs h t ih =>
    obtain ⟨h1, h2, h3⟩ := h
    obtain ⟨k1, d1⟩ := q
    have h1 : p.1 = k1 := h1
    by_cases e : k1 = k
    · have el : lookP ((k1, d1) :: qs) k = some d1 := by unfold lookP; rw [List.find?_cons_of_pos (by simpa using e)]; rfl
      rw [el]
      exact ⟨p.2, valV_pos (h1.trans e), h2, h3⟩
    · have el : lookP ((k1, d1) :: qs) k = lookP qs k := by unfold lookP; rw [List.find?_cons_of_neg (by simpa using e)]
      rw [el, show valV (p :: ps) k = valV ps k from valV_neg fun z => e (h1.symm.trans z)]
      exact ih
theorem hits_dat {pins : List (Addr × Obj)} {σ : L2.St} {H : Hp} {s : Shared} (I : Inv X pins σ H s) (hu : X.A.in1.units + 64 < cLine) {ls : List (Key × V)} {es : List (Key × PyData)} {vb : List (Key × Value)} (rb : KV ls vb) (ke : KvD X.K H ls es) {ks : List (Key × V)} {ds : List (Key × PyData)} {va : List (Key × Value)} (ra : KV ks va) (kd : KvD X.K H ks ds) :
    PySem.W.KeqHits X.A.in1 s vb va (hitsP es ds) := by
  unfold KV at ra
  unfold KvD at kd
  induction kd generalizing va with
  | nil => cases ra; exact .nil
  | @cons p q ps qs h t ih =>
    cases ra with
    | @cons _ w _ ws g u =>
      obtain ⟨h1, h2, h3⟩ := h
      obtain ⟨g1, g2⟩ := g
      obtain ⟨k, v⟩ := w
      have g1 : p.1 = k := g1
      have lk := ke.look q.1
      have rv := rb.val q.1
      have ih := ih u
      have kq : k = q.1 := g1.symm.trans h1
      cases el : lookP es q.1 with
      | none =>
        rw [el] at lk
        rw [lk] at rv
        have eh : hitsP es (q :: qs) = false := by unfold hitsP; rw [List.all_cons, el]; rfl
        rw [eh]
        refine .miss ?_
        rw [kq]
        cases ev : valueAt vb q.1 with
        | none => rfl
        | some _ => rw [ev] at rv; exact rv.elim
      | some d =>
        rw [el] at lk
        obtain ⟨z, e1, e2, e3⟩ := lk
        rw [e1] at rv
        obtain ⟨y, hy, ry⟩ := rv.some_of
        have eh : hitsP es (q :: qs) = (PyData.eqv q.2 d && hitsP es qs) := by unfold hitsP; rw [List.all_cons, el]
        rw [eh]
        obtain ⟨as, r1⟩ := Dp.reads I q.2 p.2 v h2 g2
        obtain ⟨bs, r2⟩ := Dp.reads I d z y e2 ry
        exact .hit (by rw [kq]; exact hy) (PySem.W.keq_at r1 r2 h3 e3 hu) ih
theorem op_eqDD (hu : X.A.in1.units + 64 < cLine) (hu2 : X.A.units < cLine) : OpR X (compareOp .Eq) (rEqDD X.K false) := by
  intro pins s σ H x y v u Q I rx ry h
  obtain ⟨a, b, ks, ls, ds, es, rfl, rfl, ea, eb, kd, ke, q⟩ := h
  obtain rfl : v = Value.ref a := rx
  obtain rfl : u = Value.ref b := ry
  obtain ⟨_, ya, va, ra, da⟩ := dk_rd I.hok ea
  obtain ⟨_, yb, vb, rb, db⟩ := dk_rd I.hok eb
  refine PySem.W.keq_eq (knd := mixKind X.prog X.w) ya yb da db hu2 (fun _ => hits_dat I hu rb ke ra kd) ⟨_, H, I, ?_, q⟩
  rw [← ra.length, ← rb.length]; rfl
theorem op_neDD (hu : X.A.in1.units + 64 < cLine) (hu2 : X.A.units < cLine) : OpR X (compareOp .NotEq) (rEqDD X.K true) := by
  intro pins s σ H x y v u Q I rx ry h
  obtain ⟨a, b, ks, ls, ds, es, rfl, rfl, ea, eb, kd, ke, q⟩ := h
  obtain rfl : v = Value.ref a := rx
  obtain rfl : u = Value.ref b := ry
  obtain ⟨_, ya, va, ra, da⟩ := dk_rd I.hok ea
  obtain ⟨_, yb, vb, rb, db⟩ := dk_rd I.hok eb
  refine PySem.W.keq_ne (knd := mixKind X.prog X.w) ya yb da db hu2 (fun _ => hits_dat I hu rb ke ra kd) ⟨_, H, I, ?_, q⟩
  rw [← ra.length, ← rb.length]; rfl
end
section
variable {K : PySem.W.Frag} {cm : Cm} {H : Hp}
theorem kvD_of : ∀ {ts : List (Key × T)} {xs : List (Key × V)} {F : List Addr}, datD ts = true → RepD K cm H ts xs F → KvD K H xs (ts.map fun p => (p.1, pd 29 p.2))
  | [], _, _, _, h => by rw [h.1]; exact .nil
  | (k, t) :: ts, _, _, e, h => by
    obtain ⟨x, r, F1, F2, rfl, rfl, h1, h2⟩ := h
    unfold datD at e
    rw [List.all_cons, Bool.and_eq_true] at e
    exact .cons ⟨rfl, dp_of _ _ _ _ e.1 h1, pd_shaped e.1 (by decide)⟩ (kvD_of e.2 h2)
theorem lookP_pd (k : Key) : ∀ (ls : List (Key × T)), lookP (ls.map fun p => (p.1, pd 29 p.2)) k = (lookT ls k).map (pd 29)
  | [] => rfl
  | (k1, t) :: ls => by
    rw [List.map_cons]
    by_cases e : k1 = k
    · unfold lookP lookT
      rw [List.find?_cons_of_pos (by simpa using e), if_pos e]; rfl
    · have ih := lookP_pd k ls
      unfold lookP at ih ⊢
      unfold lookT
      rw [List.find?_cons_of_neg (by simpa using e), if_neg e]
      exact ih
theorem lookT_dat {ls : List (Key × T)} {k : Key} {t : T} (h : datD ls = true) (e : lookT ls k = some t) : dtT 29 t = true := by
  induction ls with
  | nil => cases e
  | cons p ls ih =>
    obtain ⟨k1, u⟩ := p
    unfold datD at h
    rw [List.all_cons, Bool.and_eq_true] at h
    unfold lookT at e
    split at e
    · cases e; exact h.1
    · exact ih h.2 e
theorem hitsP_pd {ls : List (Key × T)} (hl : datD ls = true) : ∀ {ks : List (Key × T)}, datD ks = true → hitsP (ls.map fun p => (p.1, pd 29 p.2)) (ks.map fun p => (p.1, pd 29 p.2)) = ks.all fun p => match lookT ls p.1 with | some u => eqT p.2 u | none => false
  | [], _ => rfl
  | (k, t) :: ks, h => by
    unfold datD at h
    rw [List.all_cons, Bool.and_eq_true] at h
    have ih := hitsP_pd hl (ks := ks) h.2
    unfold hitsP at ih ⊢
    rw [List.map_cons, List.all_cons, List.all_cons, ih]
    congr 1
    show (match lookP (ls.map fun p => (p.1, pd 29 p.2)) k with | some u => PyData.eqv (pd 29 t) u | none => false) = _
    rw [lookP_pd]
    cases e : lookT ls k with
    | none => rfl
    | some u => exact eqv_pd 29 29 t u h.1 (lookT_dat hl e)
def rEqA (K : PySem.W.Frag) : R2 := fun x y H Q => rEqD K x y H Q ∨ rEqDD K false x y H Q
def rNeA (K : PySem.W.Frag) : R2 := fun x y H Q => rNeD K x y H Q ∨ rEqDD K true x y H Q
theorem dpAll_ints : ∀ (ns : List Int), DpAll K H (ns.map V.int) (ns.map PyData.int)
  | [] => .nil
  | n :: ns => .cons (.int n) (dpAll_ints ns)
theorem eqA_core {neg : Bool} {a b : T} {k : Bool} (e : bEqA a b = some (.bl k)) {x y : V} {F G : List Addr} (ha : Rep K cm H a x F) (hb : Rep K cm H b y G) {Q : VK} (q : Q (.bl (if neg then !k else k)) H) :
    (bEq a b = some (.bl k)) ∨ rEqDD K neg x y H Q ∨ ∃ d e, Dp K H x d ∧ Dp K H y e ∧ SeqAt.shaped d = true ∧ SeqAt.shaped e = true ∧ PyData.eqv d e = k := by
  unfold bEqA at e
  split at e
  · rename_i ks ls
    split at e
    · rename_i h
      cases e
      obtain ⟨p, xs, G1, rfl, r1, s1, rfl⟩ := ha
      obtain ⟨p', xs', G1', rfl, r2, s2, rfl⟩ := hb
      refine .inr (.inl ⟨p, p', xs, xs', _, _, rfl, rfl, s1, s2, kvD_of h.1 r1, kvD_of h.2 r2, ?_⟩)
      rw [hitsP_pd h.2 h.1, r1.len, r2.len]
      exact q
    · cases e
  · rename_i ns ys
    obtain ⟨ms, e1, e2⟩ := Option.map_eq_some_iff.mp e
    cases e2
    obtain ⟨p, rfl, s1, rfl⟩ := ha
    obtain ⟨p', xs', G1', rfl, r2, s2, rfl⟩ := hb
    rw [tints_eq e1] at r2
    rw [(Reps.ints r2).1] at s2
    refine .inr (.inr ⟨.list (ns.map PyData.int), .list (ms.map PyData.int), .lst s1.sq (dpAll_ints ns), .lst (SqL.of s2) (dpAll_ints ms), PySem.W.shaped_ints ns, PySem.W.shaped_ints ms, ?_⟩)
    rw [← SeqAt.same_eq_eqv _ _ (by simp only [SeqAt.noMix]; exact PySem.W.noMix_ints ns ms)]
    simp only [PySem.Spec.same]
    exact PySem.W.same_ints ns ms
  · exact .inl e
theorem bEqA_bl {a b c : T} (e : bEqA a b = some c) : ∃ k, c = .bl k := by
  unfold bEqA at e
  split at e
  · split at e
    · cases e; exact ⟨_, rfl⟩
    · cases e
  · obtain ⟨ms, e1, e2⟩ := Option.map_eq_some_iff.mp e
    exact ⟨_, e2.symm⟩
  · unfold bEq at e
    split at e
    · cases e; exact ⟨_, rfl⟩
    · cases e
theorem sc_eqA : Sc2 K cm (rEqA K) bEqA := fun a b c e H x y F G ha hb Q q => by
  obtain ⟨k, rfl⟩ := bEqA_bl e
  rcases eqA_core (neg := false) e ha hb (Q := Q) (q _ H (fun _ _ h => h) ⟨rfl, rfl⟩) with h | h | ⟨d, e', h1, h2, h3, h4, h5⟩
  · exact .inl (sc_eq a b _ h H x y F G ha hb Q q)
  · exact .inr h
  · exact .inl ⟨d, e', h1, h2, h3, h4, by rw [h5]; exact q _ H (fun _ _ h => h) ⟨rfl, rfl⟩⟩
theorem sc_neA : Sc2 K cm (rNeA K) (bNot bEqA) := fun a b c e H x y F G ha hb Q q => by
  obtain ⟨k, e2, rfl⟩ := bNot_some e
  rcases eqA_core (neg := true) e2 ha hb (Q := Q) (q _ H (fun _ _ h => h) ⟨rfl, rfl⟩) with h | h | ⟨d, e', h1, h2, h3, h4, h5⟩
  · exact .inl (sc_ne a b _ (by unfold bNe bNot; rw [h]) H x y F G ha hb Q q)
  · exact .inr h
  · exact .inl ⟨d, e', h1, h2, h3, h4, by rw [h5]; exact q _ H (fun _ _ h => h) ⟨rfl, rfl⟩⟩
theorem flb_eqA : ∀ a b c, bEqA a b = some c → flatT c = true := fun a b c e => by obtain ⟨k, rfl⟩ := bEqA_bl e; rfl
end
theorem op_eqA {X : Cx} (hu : X.A.units + 65 < cLine) : OpR X (compareOp .Eq) (rEqA X.K) := OpR.or (op_eqD (by omega)) (op_eqDD (by show X.A.units + 1 + 64 < cLine; omega) (by omega))
theorem op_neA {X : Cx} (hu : X.A.units + 65 < cLine) : OpR X (compareOp .NotEq) (rNeA X.K) := OpR.or (op_neD (by omega)) (op_neDD (by show X.A.units + 1 + 64 < cLine; omega) (by omega))
end Tm
namespace Tm
open PySem PySem.Spec PyProof.Rows L2
/-! ### a comprehension over a dict -/
def noR {α : Type} : Res α → Res α
  | .ex _ _ => .stuck | r => r
def eLcD (i : Nat) (g : GF) (u : Env → Res Bool) (f : EF) : EF := fun Γ => match (sl Γ i).bind keysOf with
  | none => .stuck | some ks => (lcE g u f ks [] Γ).bind fun Γ2 ys => .ok Γ2 (.lst ys)
theorem lcE_noex {g : GF} {u : Env → Res Bool} {f : EF} : ∀ {ts acc : List T} {Γ : Env} {c Γ'}, lcE g u f ts acc Γ ≠ .ex c Γ'
  | [], acc, Γ, c, Γ', h => by cases h
  | t :: ts, acc, Γ, c, Γ', h => by
    unfold lcE at h
    split at h
    · cases h
    · split at h
      · split at h
        · split at h
          · split at h
            · exact lcE_noex h
            · cases h
          · cases h
        · exact lcE_noex h
      · cases h
section
variable {K : PySem.W.Frag} {cm : Cm} {mo mo' mo1 : List Mode} {W W1 Wb : Wd} {σ σ1 : L2.St} {Γ : Env} {E : XK}
/-- an expression within the lock -/
theorem PostE.unlock {d : Addr} {od : Obj} {u : HO} {r : Res T} {Q : VK} (ls : σ.length = mo.length) (hd : W.H d = some u) (hu : (∃ xs, u = .dK xs) ∨ ∃ xs, u = .dT xs) (nC : ¬ W.C d) (sd : W.S d) (nx : ∀ c Γ', r ≠ .ex c Γ') (h : PostE K cm mo E W σ r fun t W' => ∀ v G, Rep K cm W'.H t v G → KOk .fr1 W W' G → Q v W'.H) :
    PostE K cm mo E { W with H := upd W.H d (.frz od u) } σ r fun t W' => ∀ v G, Rep K cm W'.H t v G → KOk .fr1 { W with H := upd W.H d (.frz od u) } W' G → W'.H d = some (.frz od u) ∧ Q v (upd W'.H d u) := by
  cases r with
  | stuck => exact h
  | ex c Γ' => exact absurd rfl (nx c Γ')
  | ok Γ' t =>
    have h2 : PostS K cm ⟨[], [], mo, .fr1, List.range mo.length⟩ mo E W σ { nx := fun _ _ => False, rt := Q } (noEx (.rt t Γ')) := by
      intro σ' W' v G r' f x hv kk
      have es : σ' = σ := sl_ext (by rw [r'.ls, ls]) fun i => by
        by_cases hi : i < mo.length
        · exact x i (List.mem_range.mpr hi)
        · rw [sl_out (by rw [r'.ls]; show mo.length ≤ i; omega), sl_out (by rw [ls]; omega)]
      subst es
      exact h W' r' f v G hv kk
    have h3 := PostS.unlock (od := od) hd hu nC sd h2
    intro W' r' f v G hv kk
    exact h3 σ W' v G r' f Fx.refl hv kk
end
section
variable {X : Cx} {cm : Cm} {mo mo' mo1 mo2 : List Mode} {J : Exits} {E : XK} {elt tg : Expr} {ifs : List Expr} {scope : Scope} {own : List (Str × Nat)} {pos spos py p : Pos} {kd : Kd} {gf : GF} {uf : Env → Res Bool} {ef : EF} {fi : List Nat} {x y : Str} {i j : Nat}
theorem lcD_base {K : PySem.W.Frag} {vs : List Nat} (l : kle kd .shared = true) (hv : ∀ v ∈ vs, md mo v = .dead) (hfi : ∀ i, i < mo.length → ¬ i ∈ vs → i ∈ fi) (hw : mleL mo mo1 = true) (hm : md mo i = .vw) {W : Wd} {Γ : Env} {σ : L2.St} {Q : VK} {d : Addr} {od : Obj} {ks : List T} {t : T} {u : HO} (r : R K cm mo W σ Γ) (hs : sl σ i = some (.ref d)) (ht : sl Γ i = some t) (hk : keysOf t = some ks) (hd : W.H d = some (.frz od u)) (hu : (∃ xs, u = .dK xs) ∨ ∃ xs, u = .dT xs)
    (q : PostE K cm mo E W σ ((lcE gf uf ef ks [] Γ).bind fun Γ2 ys => Res.ok Γ2 (T.lst ys)) fun t W' => ∀ v G, Rep K cm W'.H t v G → KOk .fr1 W W' G → Q v W'.H) :
    tLc (tID K cm mo i) (tG K cm mo mo1 fi gf) (tEb K cm mo1 E0 uf) (tE K cm mo1 kd E0 ef) vs σ W.H Q :=
  ⟨W, Γ, d, od, rfl, r, hm, hs, ks, t, u, ht, hk, hd, hu, fun J sp D hD => lc_turns l hv hfi hw (Fr.refl W) r sp hD q⟩
theorem lcD_core {K : PySem.W.Frag} {vs : List Nat} (l : kle kd .shared = true) (hv : ∀ v ∈ vs, md mo v = .dead) (hfi : ∀ i, i < mo.length → ¬ i ∈ vs → i ∈ fi) (hw : mleL mo mo1 = true) (hm : md mo i = .vw) :
    ∀ σ H Q, tE K cm mo .fr1 E (eLcD i gf uf ef) σ H Q → tLc (tID K cm mo i) (tG K cm mo mo1 fi gf) (tEb K cm mo1 E0 uf) (tE K cm mo1 kd E0 ef) vs σ H Q ∨ tLockE (tLc (tID K cm mo i) (tG K cm mo mo1 fi gf) (tEb K cm mo1 E0 uf) (tE K cm mo1 kd E0 ef) vs) σ H Q := fun σ H Q ⟨W, Γ, e1, r, q⟩ => by
  subst e1
  unfold eLcD at q
  cases et : sl Γ i with
  | none => rw [et] at q; exact (show False from q).elim
  | some t =>
    rw [et] at q
    cases ek : keysOf t with
    | none =>
      have e2 : (some t).bind keysOf = none := ek
      rw [e2] at q; exact (show False from q).elim
    | some ks =>
      have e2 : (some t).bind keysOf = some ks := ek
      rw [e2] at q
      dsimp only at q
      obtain ⟨v, G, e3, rp, g⟩ := sl_V r et hm
      have sh : ∃ d u, v = .ref d ∧ Rd W.H d u ∧ ((∃ xs, u = .dK xs) ∨ ∃ xs, u = .dT xs) ∧ W.S d := by
        cases t with
        | dct ts =>
          obtain ⟨a, xs, G', rfl, rd, s, rfl⟩ := rp
          exact ⟨a, .dK xs, rfl, s, .inl ⟨xs, rfl⟩, g a List.mem_cons_self⟩
        | dtt ts =>
          obtain ⟨a, xs, G', rfl, rd, s, rfl⟩ := rp
          exact ⟨a, .dT xs, rfl, s, .inr ⟨xs, rfl⟩, g a List.mem_cons_self⟩
        | _ => cases ek
      obtain ⟨d, u, rfl, s, hu, sd⟩ := sh
      rcases s with s | ⟨od, s⟩
      · refine .inr ⟨d, u, s, ?_, fun od => ?_⟩
        · rcases hu with ⟨_, rfl⟩ | ⟨_, rfl⟩ <;> trivial
        · have nC := r.sC d sd
          have r2 : R K cm mo { W with H := upd W.H d (.frz od u) } σ Γ := by
            refine r.kp0 (kp_lock s hu) tr_upd fun y c => ?_
            have ne : y ≠ d := fun z => nC (z ▸ c)
            show Mut (upd W.H d _ y)
            rw [upd_ne ne]; exact r.mu y c
          refine lcD_base (W := { W with H := upd W.H d (.frz od u) }) (Q := fun v H' => H' d = some (.frz od u) ∧ Q v (upd H' d u)) l hv hfi hw hm r2 e3 et ek upd_same hu (PostE.unlock r.ls s hu nC sd (fun c Γ' h => ?_) q)
          cases el : lcE gf uf ef ks [] Γ with
          | ok Γ2 ys => rw [el] at h; cases h
          | ex c2 Γ2 => exact lcE_noex el
          | stuck => rw [el] at h; cases h
      · exact .inl (lcD_base l hv hfi hw hm r e3 et ek s hu q)
theorem ee_lcD (hN : X.N[i]? = some x) (hvis : Vis X.env.scope x) (hm : md mo i = .vw) (hc : X.calm = true) (hnd : X.N.Nodup) (l : kle kd .shared = true) (hv : ∀ v ∈ own.map (·.2), md mo v = .dead) (hfi : ∀ i, i < mo.length → ¬ i ∈ own.map (·.2) → i ∈ fi) (hw : mleL mo mo1 = true) (ok : BlkOk X.N X.env.scope scope own)
    (hg : ∀ (s : Shared) (H : Hp) (C : Addr) (cl : List (Str × Addr)) (fp : List Addr), Gm (X.blk s H scope (compEnvC scope cl C X.env) fp) cm fi mo mo1 tg gf) (ht : ∀ (s : Shared) (H : Hp) (C : Addr) (cl : List (Str × Addr)) (fp : List Addr), PTs (X.blk s H scope (compEnvC scope cl C X.env) fp) ifs (tEb X.K cm mo1 E0 uf))
    (he : ∀ (s : Shared) (H : Hp) (C : Addr) (cl : List (Str × Addr)) (fp : List Addr), Ee (X.blk s H scope (compEnvC scope cl C X.env) fp) cm mo1 E0 kd elt ef) (h1 : (x == ("__debug__" : Str)) = false := by decide) (h2 : (x == ("__classdict__" : Str)) = false := by decide) (hs : ∀ z, foldedSetIterable (.Name x p) X.env z = pure z := by intro _; rfl) :
    Ee X cm mo E .fr1 (.ListComp elt [⟨tg, .Name x p, ifs, 0⟩] scope pos) (eLcD i gf uf ef) := by
  have base := pe_lc (elt := elt) (te := tE X.K cm mo1 kd E0 ef) (g := tG X.K cm mo mo1 fi gf) (pos := pos) hc hnd (im_dict (cm := cm) (mo := mo) (tg := tg) (p := p) hN hvis h1 h2) ok hg ht he hs
  exact PE.imp (PE.or base (pe_lock base)) (lcD_core l hv hfi hw hm)
end
/-! ### list(range(..)) -/
def rg1L : T → Option T
  | .int n => (rangeT 0 n).map T.lst | _ => none
def rg2L : T → T → Option T
  | .int a, .int b => (rangeT a b).map T.lst | _, _ => none
theorem rgV_rep {K : PySem.W.Frag} {cm : Cm} {H : Hp} {a b : Int} {ts : List T} (h : rangeT a b = some ts) : Reps K cm H ts (rgV a b) [] := by
  obtain ⟨_, rfl⟩ := rangeT_some h
  have e1 : ((List.range (b - a).toNat).map fun k : Nat => T.int (a + (k : Int))) = (((List.range (b - a).toNat).map fun k : Nat => a + (k : Int))).map T.int := by rw [List.map_map]; rfl
  have e2 : rgV a b = (((List.range (b - a).toNat).map fun k : Nat => a + (k : Int))).map V.int := by unfold rgV; rw [List.map_map]; rfl
  rw [e1, e2]
  exact Reps.of_ints _
section
variable {X : Cx} {cm : Cm} {mo mo' mo1 mo2 : List Mode} {J : Exits} {E : XK} {a b e : Expr} {es : List Expr} {pos p p1 p2 : Pos} {kd kd' k1 k2 : Kd} {f g : PF} {ef eg : EF} {uf : Env → Res Bool} {m : SF} {x : Str} {j : Nat}
theorem ee_rg1L (hc : X.calm = true) (g1 : Gl X "list") (m1 : X.mg "list" = none) (g2 : Gl X "range") (m2 : X.mg "range" = none) (ha : Ee X cm mo E kd a ef) (na : starEach [a] X.env = (false, eval a X.env) :: starEach [] X.env := by rfl)
    (nb : starEach [.Call (.Name "range" p1) [a] [] p2] X.env = (false, eval (.Call (.Name "range" p1) [a] [] p2) X.env) :: starEach [] X.env := by rfl) : Ee X cm mo E .fr1 (.Call (.Name "list" p) [.Call (.Name "range" p1) [a] [] p2] [] pos) (eUn rg1L ef) := PE.imp (pe_listRg hc g1 m1 (prg_1 g2 m2 ha na) nb) fun σ H Q ⟨W, Γ, e1, r0, q⟩ => by
  subst e1
  refine ⟨W, Γ, rfl, r0, PostE.imp (PostE.bind0 q) fun x W1 Γ1 ex r1 f1 q1 v1 G1 h1 kk1 => ?_⟩
  obtain ⟨c, ec, q3⟩ := PostE.of (q1 Γ1 ex r1 f1)
  cases x with
  | int n =>
    obtain ⟨ts, e3, rfl⟩ := Option.map_eq_some_iff.mp ec
    obtain ⟨b, _⟩ := rangeT_some e3
    refine ⟨n, h1.1, ⟨by omega, by omega, by omega, by omega, by omega⟩, fun p hp => ?_⟩
    exact q3 { W1 with H := _ } (r1.same (same_upd hp)) (f1.trans (same_fr (same_upd hp))) (.ref p) [p] ⟨p, _, [], rfl, rgV_rep e3, upd_same, rfl⟩ (kok_new (kd := .imm) f1 (fun x hx => by cases hx) rfl rfl r1 hp trivial)
  | _ => cases ec
theorem ee_rg2L (hc : X.calm = true) (g1 : Gl X "list") (m1 : X.mg "list" = none) (g2 : Gl X "range") (m2 : X.mg "range" = none) (ha : Ee X cm mo E k1 a ef) (hb : Ee X cm mo E k2 b eg) (na : starEach [a, b] X.env = (false, eval a X.env) :: starEach [b] X.env := by rfl) (nb : starEach [b] X.env = (false, eval b X.env) :: starEach [] X.env := by rfl) (hp : (backTo p2 (starEach [b] X.env)).any (·.1) = false := by rfl)
    (nc : starEach [.Call (.Name "range" p1) [a, b] [] p2] X.env = (false, eval (.Call (.Name "range" p1) [a, b] [] p2) X.env) :: starEach [] X.env := by rfl) : Ee X cm mo E .fr1 (.Call (.Name "list" p) [.Call (.Name "range" p1) [a, b] [] p2] [] pos) (eBin rg2L ef eg) := PE.imp (pe_listRg hc g1 m1 (prg_2 g2 m2 ha hb na nb hp) nc) fun σ H Q ⟨W, Γ, e1, r0, q⟩ => by
  subst e1
  refine ⟨W, Γ, rfl, r0, PostE.imp (PostE.bind0 q) fun x W1 Γ1 ex r1 f1 q1 v1 G1 h1 kk1 => ⟨W1, Γ1, rfl, r1, PostE.imp (PostE.start (PostE.bind0 (q1 Γ1 ex r1 f1)) f1) fun y W2 Γ2 ey r2 f2 q2 v2 G2 h2 kk2 => ?_⟩⟩
  have f12 := f1.trans f2
  obtain ⟨c, ec, q3⟩ := PostE.of (q2 Γ2 ey r2 f12)
  cases x with
  | int n =>
    cases y with
    | int n2 =>
      obtain ⟨ts, e3, rfl⟩ := Option.map_eq_some_iff.mp ec
      obtain ⟨b, _⟩ := rangeT_some e3
      refine ⟨n, n2, h1.1, h2.1, ⟨by omega, by omega, by omega, by omega, by omega⟩, fun p hp => ?_⟩
      exact q3 { W2 with H := _ } (r2.same (same_upd hp)) (f12.trans (same_fr (same_upd hp))) (.ref p) [p] ⟨p, _, [], rfl, rgV_rep e3, upd_same, rfl⟩ (kok_new (kd := .imm) f12 (fun x hx => by cases hx) rfl rfl r2 hp trivial)
    | _ => cases ec
  | _ => cases ec
/-! ### + of lists and tuples -/
def catL : T → T → Option T
  | .lst xs, .lst ys => if xs.length + ys.length ≤ 100000 then some (.lst (xs ++ ys)) else none | _, _ => none
def catT : T → T → Option T
  | .tup xs, .tup ys => if xs.length + ys.length ≤ 100000 then some (.tup (xs ++ ys)) else none | _, _ => none
theorem cat_core {K : PySem.W.Frag} {r : R2} {op : T → T → Option T} {kr : Kd} (l1 : kle k1 .shared = true)
    (hs : ∀ a b c, op a b = some c → ∀ H x y F G, Rep K cm H a x F → Rep K cm H b y G → ∀ Q : VK, (∀ W0 W1 : Wd, W1.H = H → Fr W0 W1 → KOk .shared W0 W1 F → KOk k2 W0 W1 G → ∀ σ Γ, R K cm mo W1 σ Γ → True) →
      (∀ z H' F', Same H H' → Rep K cm H' c z F' → (∀ W0 W1 : Wd, W1.H = H → Fr W0 W1 → KOk .shared W0 W1 F → KOk k2 W0 W1 G → (∀ σ Γ, R K cm mo W1 σ Γ → KOk kr W0 { W1 with H := H' } F')) → Q z H') → r x y H Q) :
    ∀ σ H Q, tE K cm mo kr E (eBin op ef eg) σ H Q → tOp r (tE K cm mo k1 E ef) (tE K cm mo k2 E eg) σ H Q := fun σ H Q ⟨W, Γ, e1, r0, q⟩ => by
  subst e1
  refine ⟨W, Γ, rfl, r0, PostE.imp (PostE.bind0 q) fun x W1 Γ1 ex r1 f1 q1 v1 G1 h1 kk1 => ⟨W1, Γ1, rfl, r1, PostE.imp (PostE.start (PostE.bind0 (q1 Γ1 ex r1 f1)) f1) fun y W2 Γ2 ey r2 f2 q2 v2 G2 h2 kk2 => ?_⟩⟩
  have f12 := f1.trans f2
  obtain ⟨c, ec, q3⟩ := PostE.of (q2 Γ2 ey r2 f12)
  have n1 := kk1.nC l1
  have h1' := h1.step r1 f2 n1
  have s1 := KOk.step f2 (h1.tr _ _ _) (kk1.le l1)
  refine hs x y c ec W2.H v1 v2 G1 G2 h1' h2 Q (fun _ _ _ _ _ _ _ _ _ => trivial) fun z H' F' s h' kf => q3 { W2 with H := H' } (r2.same s) (f12.trans (same_fr s)) z F' h' (kf W W2 rfl f12 s1 (KOk.early f1 kk2) σ Γ2 r2)
theorem ee_catL (l1 : kle k1 .shared = true) (l2 : kle k2 .shared = true) (ha : Ee X cm mo E k1 a ef) (hb : Ee X cm mo E k2 b eg) : Ee X cm mo E .fr1 (.BinOp a .Add b pos) (eBin catL ef eg) := PE.imp (pe_op op_cat ha hb) (cat_core l1 fun x y c e H u v F G h1 h2 Q _ q => by
  unfold catL at e
  split at e
  · split at e
    · rename_i hl
      cases e
      obtain ⟨p1, xs, G1, rfl, r1, s1, rfl⟩ := h1
      obtain ⟨p2, ys, G2, rfl, r2, s2, rfl⟩ := h2
      refine ⟨p1, p2, xs, ys, rfl, rfl, s1, s2, by rw [r1.len, r2.len]; exact small hl, fun p hp => q _ _ (p :: (G1 ++ G2)) (same_upd hp) ⟨p, _, _, rfl, (r1.same (same_upd hp)).append (r2.same (same_upd hp)), upd_same, rfl⟩ fun W0 W1 e f ka kb σ Γ r => ?_⟩
      subst e
      refine kok_new f (fun x hx => ?_) (kd := .shared) rfl (fun x hx => ?_) r hp trivial
      · exact (List.mem_append.mp hx).elim (r1.tr _ _ _ x) (r2.tr _ _ _ x)
      · exact (List.mem_append.mp hx).elim (fun h => ka x (List.mem_cons_of_mem _ h)) fun h => (kb.le l2) x (List.mem_cons_of_mem _ h)
    · cases e
  · cases e)
theorem ee_catT (l1 : kle k1 .shared = true) (l2 : kle k2 .shared = true) (ha : Ee X cm mo E k1 a ef) (hb : Ee X cm mo E k2 b eg) : Ee X cm mo E .shared (.BinOp a .Add b pos) (eBin catT ef eg) := PE.imp (pe_op op_catA ha hb) (cat_core l1 fun x y c e H u v F G h1 h2 Q _ q => by
  unfold catT at e
  split at e
  · split at e
    · rename_i xT yT hl
      cases e
      have t1 := h1.tr
      have t2 := h2.tr
      obtain ⟨p1, xs, rfl, s1, r1⟩ := h1
      obtain ⟨p2, ys, rfl, s2, r2⟩ := h2
      refine ⟨p1, p2, xs, ys, rfl, rfl, .inl s1.1, .inl s2.1, by rw [r1.len, r2.len]; exact small hl, fun ex => ?_, fun ex ey => ?_, fun ex ey p hp => ?_⟩
      · subst ex
        have e0 : xT = [] := List.eq_nil_of_length_eq_zero r1.len.symm
        subst e0
        exact q _ _ G (fun _ _ h => h) ⟨p2, ys, rfl, s2, r2⟩ fun W0 W1 e f ka kb σ Γ r => by subst e; exact kb.le l2
      · subst ey
        have e0 : yT = [] := List.eq_nil_of_length_eq_zero r2.len.symm
        subst e0
        exact q _ _ F (fun _ _ h => h) (by rw [List.append_nil]; exact ⟨p1, xs, rfl, s1, r1⟩) fun W0 W1 e f ka kb σ Γ r => by subst e; exact ka
      · refine q _ _ (F ++ G) (same_upd hp) ⟨p, _, rfl, tup_new upd_same, (r1.same (same_upd hp)).append (r2.same (same_upd hp))⟩ fun W0 W1 e f ka kb σ Γ r => ?_
        subst e
        exact KOk.step (same_fr (same_upd hp)) (fun x hx => (List.mem_append.mp hx).elim (t1 x) (t2 x)) (fun x hx => (List.mem_append.mp hx).elim (fun h => ka x h) fun h => (kb.le l2) x h : KOk .shared W0 W1 (F ++ G))
    · cases e
  · cases e)
end
end Tm
namespace Tm
open PySem PySem.Spec PyProof.Rows L2
/-! ### slices -/
def tEo (K : PySem.W.Frag) (cm : Cm) (mo : List Mode) (E : XK) (f : Env → Res (Option Int)) : TO := fun σ H Q => ∃ W Γ, W.H = H ∧ R K cm mo W σ Γ ∧ PostE K cm mo E W σ (f Γ) fun o W' => Q o W'.H
abbrev Po (X : Cx) (cm : Cm) (mo : List Mode) (E : XK) (e : Option Expr) (f : Env → Res (Option Int)) : Prop := PO X e (tEo X.K cm mo E f)
def oN : Env → Res (Option Int) := fun Γ => .ok Γ none
def oS (g : EF) : Env → Res (Option Int) := fun Γ => (g Γ).bind fun Γ1 t => match t with
  | .int i => .ok Γ1 (some i) | _ => .stuck
theorem PO.imp {X : Cx} {e : Option Expr} {t t' : TO} (h : PO X e t) (i : ∀ σ H Q, t' σ H Q → t σ H Q) : PO X e t' := ⟨fun pins s σ H Q I q => h.run pins s σ H Q I (i _ _ _ q)⟩
section
variable {X : Cx} {cm : Cm} {mo mo' mo1 mo2 : List Mode} {J : Exits} {E : XK} {a b e v : Expr} {es : List Expr} {pos p p2 apos cpos : Pos} {kd kd' k1 k2 k3 : Kd} {f g : PF} {ef eg eh : EF} {uf : Env → Res Bool} {m : SF} {x : Str} {j : Nat} {lo hi : Option Expr} {lf hf : Env → Res (Option Int)}
theorem p_none : Po X cm mo E none oN := PO.imp po_none fun σ H Q ⟨W, Γ, e1, r, q⟩ => by
  subst e1
  exact q W r (Fr.refl _)
theorem p_some (h : Ee X cm mo E kd e ef) : Po X cm mo E (some e) (oS ef) := PO.imp (po_some h) fun σ H Q ⟨W, Γ, e1, r, q⟩ => by
  subst e1
  refine ⟨W, Γ, rfl, r, PostE.imp (PostE.bind0 q) fun t W1 Γ1 ex r1 f1 q1 v G hv kk => ?_⟩
  have q2 := q1 Γ1 ex r1 f1
  cases t with
  | int i => exact ⟨i, hv.1, q2 W1 r1 f1⟩
  | _ => exact q2.elim
def cutL (xs : List T) (lo hi : Option Int) : List T := (xs.drop (HT.sIx xs.length 0 lo)).take (HT.sIx xs.length xs.length hi - HT.sIx xs.length 0 lo)
def slT (t : T) (lo hi : Option Int) : Option T := match t with
  | .lst xs => some (.lst (cutL xs lo hi)) | .tup xs => some (.tup (cutL xs lo hi))
  | .scr ns => some (.lst ((ns.drop (HT.sIx ns.length 0 lo)).take (HT.sIx ns.length ns.length hi - HT.sIx ns.length 0 lo) |>.map T.int))
  | .str z => if z.length ≤ 1000000 then some (.str (cutS z lo hi)) else none | _ => none
def eSl (f : EF) (lo hi : Env → Res (Option Int)) : EF := fun Γ => (f Γ).bind fun Γ1 t => (lo Γ1).bind fun Γ2 l => (hi Γ2).bind fun Γ3 u => .of Γ3 (slT t l u)
theorem Reps.cut {K : PySem.W.Frag} {H : Hp} {ts : List T} {xs : List V} {F : List Addr} {lo hi : Option Int} (h : Reps K cm H ts xs F) : ∃ F', Reps K cm H (cutL ts lo hi) (cutV xs lo hi) F' ∧ ∀ y ∈ F', y ∈ F := by
  unfold cutL cutV
  rw [h.len]
  obtain ⟨F1, h1, s1⟩ := h.drop (i := HT.sIx ts.length 0 lo)
  obtain ⟨F2, h2, s2⟩ := h1.take (i := HT.sIx ts.length ts.length hi - HT.sIx ts.length 0 lo)
  exact ⟨F2, h2, fun y hy => s1 y (s2 y hy)⟩
theorem cut_all {ts : List T} {lo hi : Option Int} (h : HT.sIx ts.length 0 lo = 0 ∧ HT.sIx ts.length ts.length hi = ts.length) : cutL ts lo hi = ts := by
  unfold cutL
  rw [h.1, h.2, List.drop_zero, Nat.sub_zero, List.take_length]
def rSlAll (K : PySem.W.Frag) : V → Option Int → Option Int → Hp → VK → Prop := fun x lo hi H Q => (rSlL K x lo hi H Q ∨ rSlA K x lo hi H Q) ∨ rSlS x lo hi H Q
theorem sl_all' : SlR X (rSlAll X.K) := SlR.or (SlR.or sl_list sl_tupA) L2.sl_str
theorem ee_sl (l1 : kle k1 .shared = true) (ha : Ee X cm mo E k1 a ef) (hl : Po X cm mo E lo lf) (hh : Po X cm mo E hi hf) : Ee X cm mo E .shared (.Subscript a (.Slice lo hi none p2) pos) (eSl ef lf hf) := PE.imp (pe_slice sl_all' ha hl hh) fun σ H Q ⟨W, Γ, e1, r0, q⟩ => by
  subst e1
  refine ⟨W, Γ, rfl, r0, PostE.imp (PostE.bind0 q) fun t W1 Γ1 ex r1 f1 q1 v1 G1 h1 kk1 => ⟨W1, Γ1, rfl, r1, PostE.imp (PostE.start (PostE.bind0 (q1 Γ1 ex r1 f1)) f1) fun l W2 Γ2 ey r2 f2 q2 => ⟨W2, Γ2, rfl, r2, PostE.imp (PostE.start (PostE.bind0 (q2 Γ2 ey r2 (f1.trans f2))) (f1.trans f2)) fun u W3 Γ3 ez r3 f3 q3 => ?_⟩⟩⟩
  have f13 := f1.trans (f2.trans f3)
  obtain ⟨c, ec, q4⟩ := PostE.of (q3 Γ3 ez r3 ((f1.trans f2).trans f3))
  have h3 := h1.step r1 (f2.trans f3) (kk1.nC l1)
  have s3 : KOk .shared W W3 G1 := KOk.step (f2.trans f3) (h1.tr _ _ _) (kk1.le l1)
  cases t with
  | lst ts =>
    cases ec
    have tr := h3.tr
    obtain ⟨p, xs, G, rfl, rp, s, rfl⟩ := h3
    refine .inl (.inl ⟨p, xs, rfl, SqL.of s, fun q hq => ?_⟩)
    obtain ⟨F', h4, sub⟩ := (rp.same (same_upd (o := .lst (cutV xs l u)) hq)).cut (lo := l) (hi := u)
    refine q4 { W3 with H := _ } (r3.same (same_upd hq)) (f13.trans (same_fr (same_upd hq))) (.ref q) (q :: F') ⟨q, _, F', rfl, h4, upd_same, rfl⟩ ?_
    exact KOk.le (k := .fr1) rfl (kok_new f13 (fun x hx => tr x (List.mem_cons_of_mem _ (sub x hx))) (kd := .shared) rfl (fun x hx => s3 x (List.mem_cons_of_mem _ (sub x hx))) r3 hq trivial)
  | tup ts =>
    cases ec
    have tr := h3.tr
    have h30 := h3
    obtain ⟨p, xs, rfl, s, rp⟩ := h3
    refine .inl (.inr ⟨p, xs, rfl, .inl s.1, fun ew => ?_, fun _ q hq => ?_⟩)
    · rw [rp.len] at ew
      exact q4 W3 r3 f13 (.ref p) G1 (by rw [cut_all ew]; exact h30) s3
    · obtain ⟨F', h4, sub⟩ := (rp.same (same_upd (o := .tup (cutV xs l u)) hq)).cut (lo := l) (hi := u)
      exact q4 { W3 with H := _ } (r3.same (same_upd hq)) (f13.trans (same_fr (same_upd hq))) (.ref q) F' ⟨q, _, rfl, tup_new upd_same, h4⟩ (KOk.step (same_fr (same_upd hq)) (fun x hx => tr x (sub x hx)) (fun x hx => s3 x (sub x hx) : KOk .shared W W3 F'))
  | scr ns =>
    cases ec
    obtain ⟨p, rfl, s, rfl⟩ := h3
    refine .inl (.inl ⟨p, _, rfl, s.sq, fun q hq => ?_⟩)
    refine q4 { W3 with H := _ } (r3.same (same_upd hq)) (f13.trans (same_fr (same_upd hq))) (.ref q) [q] ⟨q, _, [], rfl, Reps.of_ints _, ?_, rfl⟩ ?_
    · show upd W3.H q _ q = _
      rw [upd_same]
      congr 2
      unfold cutV
      rw [List.length_map, List.map_take, List.map_drop]
    · exact KOk.le (k := .fr1) rfl (kok_new f13 (fun x hx => by cases hx) (kd := .imm) rfl rfl r3 hq trivial)
  | str z =>
    change (if z.length ≤ 1000000 then some (.str (cutS z l u)) else none) = some c at ec
    split at ec
    · rename_i hz
      cases ec
      exact .inr ⟨z, h3.1, Nat.le_trans hz (by decide), q4 W3 r3 f13 _ [] ⟨rfl, rfl⟩ fun x hx => by cases hx⟩
    · cases ec
  | _ => cases ec
/-! ### n, m = .. -/
def sAsgT (g : GF) (f : EF) : SF := fun Γ => (f Γ).sB fun Γ1 t => match g t Γ1 with
  | some Γ2 => .nx Γ2 | none => .stuck
theorem s_asgT {tg : Expr} {gf : GF} (l : kle kd .shared = true) (w : mleL J.r mo = true) (he : Ee X cm mo E kd e ef) (hg : Gm X cm J.fi mo mo1 tg gf) (hs : swapsWithSole [tg] e pos.line X.env = pure false := by rfl) (hw : swappedStores [tg] e X.env = pure none := by rfl)
    (h1 : (assignEach [tg] X.env).map (·.2) = [assign tg X.env] := by rfl) : Sm X cm J E mo (.Assign [tg] e pos) mo1 (sAsgT gf ef) := PS.imp (ps_asg he hg hs hw h1) fun D σ H ⟨W, Γ, e1, r, q⟩ => by
  subst e1
  refine ⟨W, Γ, rfl, r, PostE.imp (PostS.bind q w) fun t W1 Γ1 ex r1 f1 q1 v G h kk => ?_⟩
  have q2 := q1 Γ1 ex r1 f1
  have ks := kk.le l
  cases eg : gf t Γ1 with
  | none => rw [eg] at q2; exact q2.elim
  | some Γ2 =>
    rw [eg] at q2
    have rb : R X.K cm mo ⟨W1.H, W1.C, W1.L, fun x => W1.S x ∨ x ∈ G⟩ σ Γ1 := by
      obtain ⟨Os, r1⟩ := r1
      exact ⟨Os, r1.share fun x gx => ⟨h.tr _ _ _ x gx, r1.notOwn (ks x gx).2.1 (ks x gx).2.2⟩⟩
    have fb : Fr W ⟨W1.H, W1.C, W1.L, fun x => W1.S x ∨ x ∈ G⟩ := ⟨f1.keep, f1.chg, f1.lck, fun x h => .inl (f1.shr x h), fun x h => h.elim (f1.shn x) fun gx => (ks x gx).1, f1.tr⟩
    exact ⟨⟨W1.H, W1.C, W1.L, fun x => W1.S x ∨ x ∈ G⟩, Γ1, t, G, rfl, rb, h, fun x hx => .inr hx, Γ2, eg, fun σ' W' r' f' x' => q2 σ' W' r' (fb.trans f') x'⟩
/-! ### displays of dicts -/
def tEz (K : PySem.W.Frag) (cm : Cm) (mo : List Mode) (E : XK) (f : Env → Res (List (T × T))) : L2.St → Hp → (List (V × V) → Hp → Prop) → Prop := fun σ H Q => ∃ W Γ, W.H = H ∧ R K cm mo W σ Γ ∧ PostE K cm mo E W σ (f Γ) fun ps W' => ∀ vs G, Paired (fun (p : T × T) (q : V × V) => (∃ F, Rep K cm W'.H p.1 q.1 F) ∧ ∃ F, Rep K cm W'.H p.2 q.2 F ∧ ∀ x ∈ F, x ∈ G) ps vs → (∀ x ∈ G, Tr W'.H x) → KOk .shared W W' G → Q vs W'.H
def PzOk (K : PySem.W.Frag) (cm : Cm) (mo : List Mode) (E : XK) (trs : List (TE × TE)) (f : Env → Res (List (T × T))) : Prop := ∀ σ H Q, tEz K cm mo E f σ H Q → tPairs trs σ H Q
def zNil : Env → Res (List (T × T)) := fun Γ => .ok Γ []
def zCons (k v : EF) (r : Env → Res (List (T × T))) : Env → Res (List (T × T)) := fun Γ => (k Γ).bind fun Γ1 kt => if flatT kt then (v Γ1).bind fun Γ2 vt => (r Γ2).bind fun Γ3 ps => .ok Γ3 ((kt, vt) :: ps) else .stuck
theorem pz_nil {K : PySem.W.Frag} : PzOk K cm mo E [] zNil := fun σ H Q ⟨W, Γ, e1, r, q⟩ => by
  subst e1
  exact q W r (Fr.refl _) [] [] .nil (fun x hx => by cases hx) fun x hx => by cases hx
theorem pz_cons {K : PySem.W.Frag} {trs : List (TE × TE)} {zf : Env → Res (List (T × T))} (l2 : kle k2 .shared = true) (h : PzOk K cm mo E trs zf) : PzOk K cm mo E ((tE K cm mo k1 E ef, tE K cm mo k2 E eg) :: trs) (zCons ef eg zf) := fun σ H Q ⟨W, Γ, e1, r, q⟩ => by
  subst e1
  refine ⟨W, Γ, rfl, r, PostE.imp (PostE.bind0 q) fun kt W1 Γ1 ex r1 f1 q1 v1 G1 h1 kk1 => ?_⟩
  have q1 := q1 Γ1 ex r1 f1
  by_cases hf : flatT kt = true
  case neg => rw [if_neg hf] at q1; exact q1.elim
  rw [if_pos hf] at q1
  have e0 := (flat_rep hf h1).1
  subst e0
  refine ⟨W1, Γ1, rfl, r1, PostE.imp (PostE.start (PostE.bind0 q1) f1) fun vt W2 Γ2 ey r2 f2 q2 v2 G2 h2 kk2 => ?_⟩
  have f12 := f1.trans f2
  refine h σ W2.H _ ⟨W2, Γ2, rfl, r2, PostE.imp (PostE.start (PostE.bind0 (q2 Γ2 ey r2 f12)) f12) fun ps W3 Γ3 ez r3 f3 q3 vs G hp tr kk => ?_⟩
  have ks2 := kk2.le l2
  refine q3 Γ3 ez r3 (f12.trans f3) W3 r3 (f12.trans f3) ((v1, v2) :: vs) (G2 ++ G) (.cons ⟨⟨[], (h1.step r1 f2 fun x hx => by cases hx).step r2 f3 fun x hx => by cases hx⟩, G2, h2.step r2 f3 fun x hx => (ks2 x hx).2.1, fun x hx => List.mem_append_left _ hx⟩ ?_) (fun x hx => (List.mem_append.mp hx).elim (fun h => f3.tr x (h2.tr _ _ _ x h)) (tr x)) fun x hx => ?_
  · have mono : ∀ {ps : List (T × T)} {vs : List (V × V)}, Paired (fun (p : T × T) (q : V × V) => (∃ F, Rep K cm W3.H p.1 q.1 F) ∧ ∃ F, Rep K cm W3.H p.2 q.2 F ∧ ∀ x ∈ F, x ∈ G) ps vs → Paired (fun (p : T × T) (q : V × V) => (∃ F, Rep K cm W3.H p.1 q.1 F) ∧ ∃ F, Rep K cm W3.H p.2 q.2 F ∧ ∀ x ∈ F, x ∈ G2 ++ G) ps vs := fun h => by
      induction h with
      | nil => exact .nil
      | cons a _ ih => exact .cons ⟨a.1, let ⟨F, b, c⟩ := a.2; ⟨F, b, fun x hx => List.mem_append_right _ (c x hx)⟩⟩ ih
    exact mono hp
  · rcases List.mem_append.mp hx with hx | hx
    · exact KOk.early f1 (KOk.step f3 (h2.tr _ _ _) ks2) x hx
    · exact KOk.early f12 kk x hx
def mkDct : List (T × T) → List (Key × T) → Option (List (Key × T))
  | [], acc => some acc
  | (k, t) :: r, acc => (keyT k).bind fun k => mkDct r (putT acc k t)
def eDisp (f : Env → Res (List (T × T))) : EF := fun Γ => (f Γ).bind fun Γ1 ps => if ps.length ≤ 15 then .of Γ1 ((mkDct ps []).map T.dct) else .stuck
theorem mkDct_rep {K : PySem.W.Frag} {H : Hp} {G : List Addr} : ∀ {ps : List (T × T)} {vs : List (V × V)} {acc res : List (Key × T)} {xs : List (Key × V)} {F : List Addr}, mkDct ps acc = some res → Paired (fun (p : T × T) (q : V × V) => (∃ F, Rep K cm H p.1 q.1 F) ∧ ∃ F, Rep K cm H p.2 q.2 F ∧ ∀ x ∈ F, x ∈ G) ps vs → RepD K cm H acc xs F → (∀ x ∈ F, x ∈ G) →
    ∃ kvs : List (Key × V), vs = kvs.map (fun kv => (kV kv.1, kv.2)) ∧ kvs.length = ps.length ∧ ∃ F', RepD K cm H res (kvs.foldl (fun acc kv => putK acc kv.1 kv.2) xs) F' ∧ ∀ x ∈ F', x ∈ G := by
  intro ps
  induction ps with
  | nil =>
    intro vs acc res xs F e h r s
    cases h
    cases e
    exact ⟨[], rfl, rfl, F, r, s⟩
  | cons p ps ih =>
    intro vs acc res xs F e h r s
    cases h with
    | @cons _ q _ vs' a b =>
      obtain ⟨k, t⟩ := p
      obtain ⟨qk, qv⟩ := q
      obtain ⟨k', e1, e2⟩ := Option.bind_eq_some_iff.mp e
      obtain ⟨⟨F1, a1⟩, F2, a2, a3⟩ := a
      have ek := keyT_rep e1 a1
      have ek : qk = kV k' := ek
      subst ek
      obtain ⟨F3, r3, s3⟩ := RepD.put (k := k') r a2
      obtain ⟨kvs, b1, b2, F', b3, b4⟩ := ih e2 b r3 fun x hx => (s3 x hx).elim (s x) (a3 x)
      exact ⟨(k', qv) :: kvs, by rw [b1]; rfl, by rw [List.length_cons, List.length_cons, b2], F', b3, b4⟩
theorem ee_disp {keys : List (Option Expr)} {values : List Expr} {trs : List (TE × TE)} {zf : Env → Res (List (T × T))} (h : PPs X pos keys values trs) (hz : PzOk X.K cm mo E trs zf) (hall : keys.all (·.isSome) = true) (hl : keys.length = values.length) (h0 : keys ≠ []) (h15 : keys.length ≤ 15) : Ee X cm mo E .fr1 (.Dict keys values pos) (eDisp zf) := PE.imp (pe_disp h hall hl h0 h15) fun σ H Q ⟨W, Γ, e1, r, q⟩ => by
  subst e1
  intro d hd
  have s0 := same_upd (o := HO.dK []) hd
  have nd : ¬ Tr W.H d := fun ⟨o, e⟩ => by rw [hd] at e; cases e
  refine hz σ _ _ ⟨{ W with H := upd W.H d (.dK []) }, Γ, rfl, r.same s0, PostE.imp (PostE.start (PostE.bind0 q) (same_fr s0)) fun ps W1 Γ1 ex r1 f1 q1 vs G hp tr kk => ?_⟩
  have f01 := (same_fr s0).trans f1
  have q1 := q1 Γ1 ex r1 f01
  have nC0 : ¬ W.C d := fun c => nd (r.trC d c)
  have ed : W1.H d = some (.dK []) := f1.keep d _ upd_same nC0
  by_cases h15 : ps.length ≤ 15
  case neg => rw [if_neg h15] at q1; exact q1.elim
  rw [if_pos h15] at q1
  obtain ⟨c, ec, q2⟩ := PostE.of q1
  obtain ⟨res, er, rfl⟩ := Option.map_eq_some_iff.mp ec
  obtain ⟨kvs, b1, b2, F', b3, b4⟩ := mkDct_rep er hp (F := []) (xs := []) ⟨rfl, rfl⟩ fun x hx => by cases hx
  have nC : ¬ W1.C d := fun c => (f1.chg d c).elim nC0 fun z => z ⟨_, upd_same⟩
  have nL : ¬ W1.L d := fun l => nd (r.trL d (f1.lck d l))
  have nS0 : ¬ W.S d := fun s => by
    obtain ⟨Os, r⟩ := r
    exact nd (r.trS d s)
  have nS : ¬ W1.S d := fun s => (f1.shn d s).elim nS0 fun z => z.elim nC0 fun z => z ⟨_, upd_same⟩
  have nG : ∀ x ∈ G, x ≠ d := fun x hx e => by
    subst e
    rcases (kk x hx).1 with z | z | z
    · exact nS0 z
    · exact nC0 z
    · exact z ⟨_, upd_same⟩
  have mu : Mut (W1.H d) := by rw [ed]; trivial
  refine ⟨ed, kvs, b1, by rw [b2]; exact h15, ?_⟩
  have kk0 : KOk .shared W W1 G := KOk.early (same_fr s0) kk
  refine q2 { W1 with H := upd W1.H d (.dK (mergeK [] kvs)) } (r1.free mu nC nL nS) (f01.free nd) (.ref d) (d :: F') ⟨d, _, F', rfl, RepD.kp (kp_root mu) _ _ _ b3 fun x hx => nG x (b4 x hx), .inl upd_same, rfl⟩ ?_
  refine ⟨d, F', rfl, ⟨.inr nd, nC, nL, nS, ?_⟩, fun h => nG d (b4 d h) rfl, fun x hx => kk0 x (b4 x hx)⟩
  show Mut (upd W1.H d _ d)
  rw [upd_same]; trivial
theorem new_core {K : PySem.W.Frag} {t : T} {o : HO} {Q : VK} {σ : L2.St} {H : Hp} (mu : Mut (some o)) (hr : ∀ H p, H p = some o → Rep K cm H t (.ref p) [p]) (h : tP K cm mo .fr1 (pC t) σ H Q) : ∀ p, H p = none → Q (.ref p) (upd H p o) := by
  obtain ⟨W, Γ, u, e1, r, e2, q⟩ := h
  subst e1
  cases e2
  exact fun p hp => q _ _ [p] (same_upd hp) (hr _ p upd_same) (kok_new (kd := .imm) (Fr.refl W) (fun x hx => by cases hx) rfl rfl r hp mu)
theorem ep_dK : Ep X cm mo .fr1 (.Dict [] [] pos) (pC (.dct [])) := PE.imp pe_dnewK fun σ H Q h => new_core (t := .dct []) (o := .dK []) trivial (fun H p e => ⟨p, [], [], rfl, ⟨rfl, rfl⟩, .inl e, rfl⟩) h
theorem ep_dT : Ep X cm mo .fr1 (.Dict [] [] pos) (pC (.dtt [])) := PE.imp pe_dnewT fun σ H Q h => new_core (t := .dtt []) (o := .dT []) trivial (fun H p e => ⟨p, [], [], rfl, ⟨rfl, rfl⟩, .inl e, rfl⟩) h
/-! ### d.pop(k), x.pop(i) -/
def dropT {κ : Type} [DecidableEq κ] (kvs : List (κ × T)) (k : κ) : List (κ × T) := kvs.filter fun kv => decide (kv.1 ≠ k)
def dmPop : T → List T → Option (T × T)
  | .dct kvs, [k] => (keyT k).bind fun k => (lookT kvs k).map fun t => (.dct (dropT kvs k), t) | _, _ => none
def rDPop1 : V → List V → Hp → VK → Prop := fun x vs H Q => ∃ a y kvs k v, x = .ref a ∧ vs = [y] ∧ H a = some (.dK kvs) ∧ y = kV k ∧ valV kvs k = some v ∧ Q v (upd H a (.dK (dropK kvs k)))
theorem RepD.drop {K : PySem.W.Frag} {H : Hp} {k : Key} : ∀ {ts : List (Key × T)} {xs : List (Key × V)} {F : List Addr}, RepD K cm H ts xs F → ∃ F', RepD K cm H (dropT ts k) (dropK xs k) F' ∧ ∀ y ∈ F', y ∈ F
  | [], _, F, h => by rw [h.1]; exact ⟨[], ⟨rfl, rfl⟩, fun y hy => by cases hy⟩
  | (k1, t) :: ts, _, _, h => by
    obtain ⟨x, r, F1, F2, rfl, rfl, h1, h2⟩ := h
    obtain ⟨F', q1, q2⟩ := RepD.drop (k := k) h2
    unfold dropT dropK at *
    by_cases e : k1 = k
    · rw [List.filter_cons_of_neg (by simpa using e), List.filter_cons_of_neg (by simpa using e)]
      exact ⟨F', q1, fun y hy => List.mem_append_right _ (q2 y hy)⟩
    · rw [List.filter_cons_of_pos (by simpa using e), List.filter_cons_of_pos (by simpa using e)]
      exact ⟨F1 ++ F', ⟨x, _, F1, F', rfl, rfl, h1, q1⟩, fun y hy => (List.mem_append.mp hy).elim (List.mem_append_left _) fun q => List.mem_append_right _ (q2 y q)⟩
theorem dm_pop {K : PySem.W.Frag} : MtT K cm rDPop1 dmPop := fun t args t' res e H v a G vs F h m nG hF nF Q q => by
  unfold dmPop at e
  split at e
  · obtain ⟨k, e1, e⟩ := Option.bind_eq_some_iff.mp e
    obtain ⟨u, e2, e⟩ := Option.map_eq_some_iff.mp e
    cases e
    obtain ⟨b, xs, G', rfl, r, s, z⟩ := h
    cases z
    have s : H a = some (.dK xs) := by
      rcases s with s | ⟨o, s⟩
      · exact s
      · rw [s] at m; exact m.elim
    obtain ⟨y, rfl, hy⟩ := hF.arg1
    have r2 := RepD.kp (kp_root (o := .dK (dropK xs k)) m) _ _ _ r nG
    have lk := r2.look (k := k)
    rw [e2] at lk
    obtain ⟨w, Gw, l1, l2, l3⟩ := lk
    obtain ⟨F', q1, q2⟩ := RepD.drop (k := k) r2
    exact ⟨a, y, xs, k, w, rfl, rfl, s, keyT_rep e1 hy, l1, q _ F' _ Gw trivial ⟨a, _, _, rfl, q1, .inl upd_same, rfl⟩ (fun x hx => .inl (q2 x hx)) l2 fun x hx => .inl (l3 x hx)⟩
  · cases e
def ePop1 (j : Nat) (ef : EF) : EF := fun Γ => match (sl Γ j).bind kT with
  | some "list" => eMut j "list" lmPopAt (eCons ef eNil) Γ
  | some "dict" => eMut j "dict" dmPop (eCons ef eNil) Γ
  | _ => .stuck
theorem ee_pop1 (hN : X.N[j]? = some x) (hv : Vis X.env.scope x) (hm : md mo j = .o1) (l : kle kd .shared = true) (ha : Ee X cm mo E kd e ef) (mm : M1 X (.Name x p) "pop" apos e cpos)
    (hd : (x == ("__debug__" : Str)) = false := by decide) (hcd : (x == ("__classdict__" : Str)) = false := by decide) (hst : starEach [e] X.env = (false, eval e X.env) :: starEach [] X.env := by rfl) (hplain : (backTo cpos (starEach [] X.env)).any (·.1) = false := by rfl) :
    Ee X cm mo E .shared (.Call (.Attribute (.Name x p) "pop" apos) [e] [] cpos) (ePop1 j ef) := by
  have hl : Ee X cm mo E .shared (.Call (.Attribute (.Name x p) "pop" apos) [e] [] cpos) (eMut j "list" lmPopAt (eCons ef eNil)) :=
    ee_mut PySem.F.plainAttrs_list PySem.F.slot_list_pop PySem.F.type_list_pop mt_popAt lm_popAt hN hv hm (kd := akd kd .imm) (by cases kd <;> first | rfl | cases l) (ak_cons l ha ak_nil hst) hd hcd mm.few mm.line hst hplain
  have hdm : Ee X cm mo E .shared (.Call (.Attribute (.Name x p) "pop" apos) [e] [] cpos) (eMut j "dict" dmPop (eCons ef eNil)) := PE.imp (pe_dpop1 (pe_var hN hv hd hcd) ha mm) fun σ H Q h => by
    obtain ⟨v, hv, ty, W, Γ, e1, r, q⟩ := mut_core (X := X) (kd := kd) (Tn := "dict") (r := rDPop1) dm_pop hm l σ H Q h
    subst e1
    cases v with
    | ref a =>
      refine ⟨.ref a, hv, a, rfl, ?_, ?_⟩
      · rcases ty with ⟨z, _⟩ | ⟨z, _⟩ | ⟨_, z⟩ | ⟨z, _⟩
        · exact absurd z (by decide)
        · exact absurd z (by decide)
        · rcases z with ⟨kvs, z⟩ | ⟨kvs, z⟩
          · exact .inl ⟨kvs, .inl z⟩
          · exact .inr ⟨kvs, .inl z⟩
        · exact absurd z (by decide)
      · refine ⟨W, Γ, rfl, r, PostE.imp (PostE.bind0 q) fun t W1 Γ1 ex r1 f1 q1 y G hy kk => ?_⟩
        obtain ⟨a', y', kvs, k, w, z1, z2, z3, z4, z5, z6⟩ := q1 Γ1 ex r1 f1 W1 r1 f1 [y] G (Reps.one hy) kk
        cases z1
        cases z2
        exact ⟨kvs, k, w, z3, z4, z5, z6⟩
    | str => exact absurd (show ("dict" : String) = "str" from ty) (by decide)
    | int => exact absurd (show ("dict" : String) = "int" from ty) (by decide)
    | _ => exact ty.elim
  refine PE.imp (PE.or hl hdm) fun σ H Q ⟨W, Γ, e1, r, q⟩ => ?_
  unfold ePop1 at q
  split at q
  · exact .inl ⟨W, Γ, e1, r, q⟩
  · exact .inr ⟨W, Γ, e1, r, q⟩
  · exact q.elim
end
end Tm
namespace Tm
open PySem PySem.Spec PyProof.Rows L2
/-! ### and, or, not, if as values, with effects -/
def eAndV (f g : EF) : EF := fun Γ => (f Γ).bind fun Γ1 t => match blT t with
  | some true => g Γ1 | some false => .ok Γ1 (.bl false) | none => .stuck
def eOrV (f g : EF) : EF := fun Γ => (f Γ).bind fun Γ1 t => match blT t with
  | some true => .ok Γ1 (.bl true) | some false => g Γ1 | none => .stuck
def eNotV (f : EF) : EF := fun Γ => (f Γ).bind fun Γ1 t => .of Γ1 ((blT t).map fun b => .bl (!b))
def eIf (u : Env → Res Bool) (f g : EF) : EF := fun Γ => (u Γ).bind fun Γ1 b => if b then f Γ1 else g Γ1
section
variable {X : Cx} {cm : Cm} {mo mo' mo1 mo2 : List Mode} {J : Exits} {E : XK} {a b c e o : Expr} {es rest : List Expr} {pos p apos cpos : Pos} {kd kd' k1 k2 k3 : Kd} {f g : PF} {ef eg eh : EF} {uf : Env → Res Bool} {m : SF} {x : Str} {j n k : Nat} {xf : Env → Res (List T)}
theorem ee_one {o} (ha : Ee X cm mo E kd a ef) : Ee X cm mo E kd (.BoolOp o [a] pos) ef := pe_one ha
theorem ee_and (lk : kle .imm k2 = true) (ha : Ee X cm mo E k1 a ef) (hb : Ee X cm mo E k2 (.BoolOp .And (b :: rest) pos) eg) : Ee X cm mo E k2 (.BoolOp .And (a :: b :: rest) pos) (eAndV ef eg) := PE.imp (pe_and ha hb) fun σ H Q ⟨W, Γ, e1, r0, q⟩ => by
  subst e1
  refine ⟨W, Γ, rfl, r0, PostE.imp (PostE.bind0 q) fun t W1 Γ1 ex r1 f1 q1 v G h kk => ?_⟩
  have q2 := q1 Γ1 ex r1 f1
  cases t with
  | bl x =>
    refine ⟨x, h.1, ?_⟩
    cases x with
    | true => exact iteT ⟨W1, Γ1, rfl, r1, PostE.imp (PostE.start q2 f1) fun t W2 Γ2 _ _ _ z v G h kk => z v G h (KOk.early f1 kk)⟩
    | false => exact iteF (q2 W1 r1 f1 _ [] ⟨rfl, rfl⟩ (KOk.le lk (k := .imm) rfl))
  | _ => exact q2.elim
theorem ee_or (lk : kle .imm k2 = true) (ha : Ee X cm mo E k1 a ef) (hb : Ee X cm mo E k2 (.BoolOp .Or (b :: rest) pos) eg) : Ee X cm mo E k2 (.BoolOp .Or (a :: b :: rest) pos) (eOrV ef eg) := PE.imp (pe_or ha hb) fun σ H Q ⟨W, Γ, e1, r0, q⟩ => by
  subst e1
  refine ⟨W, Γ, rfl, r0, PostE.imp (PostE.bind0 q) fun t W1 Γ1 ex r1 f1 q1 v G h kk => ?_⟩
  have q2 := q1 Γ1 ex r1 f1
  cases t with
  | bl x =>
    refine ⟨x, h.1, ?_⟩
    cases x with
    | true => exact iteT (q2 W1 r1 f1 _ [] ⟨rfl, rfl⟩ (KOk.le lk (k := .imm) rfl))
    | false => exact iteF ⟨W1, Γ1, rfl, r1, PostE.imp (PostE.start q2 f1) fun t W2 Γ2 _ _ _ z v G h kk => z v G h (KOk.early f1 kk)⟩
  | _ => exact q2.elim
theorem ee_not (ha : Ee X cm mo E k1 a ef) : Ee X cm mo E .imm (.UnaryOp .Not a pos) (eNotV ef) := PE.imp (pe_not ha) fun σ H Q ⟨W, Γ, e1, r0, q⟩ => by
  subst e1
  refine ⟨W, Γ, rfl, r0, PostE.imp (PostE.bind0 q) fun t W1 Γ1 ex r1 f1 q1 v G h kk => ?_⟩
  have q2 := q1 Γ1 ex r1 f1
  cases t with
  | bl x => exact ⟨x, h.1, q2 W1 r1 f1 _ [] ⟨rfl, rfl⟩ rfl⟩
  | _ => exact q2.elim
theorem ee_if (hc : Be X cm mo E c uf) (ha : Ee X cm mo E kd a ef) (hb : Ee X cm mo E kd b eg) : Ee X cm mo E kd (.IfExp c a b pos) (eIf uf ef eg) := PE.imp (pe_ifExp hc ha hb) fun σ H Q ⟨W, Γ, e1, r0, q⟩ => by
  subst e1
  refine ⟨W, Γ, rfl, r0, PostE.imp (PostE.bind0 q) fun x W1 Γ1 ex r1 f1 q1 => ?_⟩
  have q2 := PostE.start (q1 Γ1 ex r1 f1) f1
  cases x with
  | true => exact iteT ⟨W1, Γ1, rfl, r1, PostE.imp q2 fun t W2 Γ2 _ _ _ z v G h kk => z v G h (KOk.early f1 kk)⟩
  | false => exact iteF ⟨W1, Γ1, rfl, r1, PostE.imp q2 fun t W2 Γ2 _ _ _ z v G h kk => z v G h (KOk.early f1 kk)⟩
theorem op_isA : OpR X (compareOp .Is) rIs := OpR.or op_isN op_is_bl
theorem op_isNotA : OpR X (compareOp .IsNot) rIsNot := OpR.or op_notN op_isnot_bl
theorem ep_ty {T : String} (hg : Gl X x) (hm : X.mg x = none) (hv : bootBuiltins x = some (.type T)) (hn : x ≠ "__name__" := by decide) (hd : (x == ("__debug__" : Str)) = false := by decide) : Ep X cm mo .imm (.Name x pos) (pC (.ty T)) := ep_c (pe_bltn (v := .ty T) hg hm hv rfl hn hd) fun _ => ⟨rfl, rfl⟩
/-- a constant of the module -/
theorem ep_gint {i : Int} (hg : Gl X x) (h : ∃ t, X.mg x = some (.int i t)) (hd : (x == ("__debug__" : Str)) = false := by decide) : Ep X cm mo .imm (.Name x pos) (pC (.int i)) := by
  obtain ⟨t, h⟩ := h
  exact ep_glob (v := .int i) hg h ⟨t, rfl⟩ (fun _ => ⟨rfl, rfl⟩) hd
theorem ep_gstr {i : Str} (hg : Gl X x) (h : ∃ t, X.mg x = some (.str i t)) (hd : (x == ("__debug__" : Str)) = false := by decide) : Ep X cm mo .imm (.Name x pos) (pC (.str i)) := by
  obtain ⟨t, h⟩ := h
  exact ep_glob (v := .str i) hg h ⟨t, rfl⟩ (fun _ => ⟨rfl, rfl⟩) hd
end
/-! ### defs by name -/
structure Def (P : Program) (w : World) (K : PySem.W.Frag) (mg : Str → Option Value) (base : Heap) (CX : CXT) (k : Nat) (x : Str) (ps : List Str) (sp : Sp) : Prop where
  ex : ∃ (f : Addr) (fd : FuncData), FnOk P w K mg base CX k f fd ps sp ∧ mg x = some (.ref f) ∧ PySem.W.keepIn K (.ref f) = true ∧ Binds K fd ps []
theorem Def.mono {P : Program} {w : World} {K : PySem.W.Frag} {mg : Str → Option Value} {base : Heap} {CX : CXT} {j k : Nat} {x : Str} {ps : List Str} {sp : Sp} (D : Def P w K mg base CX j x ps sp) (h : j ≤ k) : Def P w K mg base CX k x ps sp :=
  let ⟨f, fd, a, b, c, d⟩ := D.ex
  ⟨f, fd, a.mono h, b, c, d⟩
def refsOk (rs : List (Option Nat)) (mo : List Mode) : Bool := decide (rs.filterMap id).Nodup && rs.all fun o => match o with | some j => md mo j == .o1 | none => true
theorem refs_nd : ∀ {rs : List (Option Nat)}, (rs.filterMap id).Nodup → ∀ (i i' j : Nat), rs[i]? = some (some j) → rs[i']? = some (some j) → i = i'
  | [], _, i, i', j, h, _ => by simp at h
  | none :: rs, nd, i, i', j, h, h' => by
    have nd : (rs.filterMap id).Nodup := by simpa using nd
    cases i with
    | zero => simp at h
    | succ i =>
      cases i' with
      | zero => simp at h'
      | succ i' => rw [refs_nd nd i i' j (by simpa using h) (by simpa using h')]
  | some k :: rs, nd, i, i', j, h, h' => by
    have nd : k ∉ rs.filterMap id ∧ (rs.filterMap id).Nodup := by simpa using nd
    have mem : ∀ {i : Nat}, rs[i]? = some (some j) → j ∈ rs.filterMap id := fun {i} e => List.mem_filterMap.mpr ⟨some j, List.mem_of_getElem? e, rfl⟩
    cases i with
    | zero =>
      cases i' with
      | zero => rfl
      | succ i' =>
        have e : k = j := by simpa using h
        exact absurd (mem (by simpa using h')) (e ▸ nd.1)
    | succ i =>
      cases i' with
      | zero =>
        have e : k = j := by simpa using h'
        exact absurd (mem (by simpa using h)) (e ▸ nd.1)
      | succ i' => rw [refs_nd nd.2 i i' j (by simpa using h) (by simpa using h')]
section
variable {X : Cx} {cm : Cm} {mo : List Mode} {E : XK} {rs : List (Option Nat)} {xf : Env → Res (List T)} {m : SF} {n k : Nat} {kd : Kd} {CX : CXT} {ps : List Str} {x : Str} {p pos : Pos} {e : Expr} {es : List Expr}
/-- a def of the program is called -/
theorem ee_callD (D : Def X.prog X.w X.K X.mg X.base CX k x ps (SpM X.K cm (pmR rs) n kd m)) (hr : Room k X.A) (hg : Gl X x) (hx : Passes CX X E) (ok : refsOk rs mo = true) (hk : True) (ha : Ar X cm mo E rs (e :: es) xf)
    (hdb : (x == ("__debug__" : Str)) = false := by decide) (he : starEach (e :: es) X.env = (false, eval e X.env) :: starEach es X.env := by rfl) (hpl : (backTo pos (starEach es X.env)).any (·.1) = false := by rfl) :
    Ee X cm mo E kd (.Call (.Name x p) (e :: es) [] pos) (eCallR rs kd m n xf) := by
  obtain ⟨f, fd, F, hm, hkp, hb⟩ := D.ex
  unfold refsOk at ok
  rw [Bool.and_eq_true] at ok
  refine ee_call F hr hg hm hkp hb hx (refs_nd (of_decide_eq_true ok.1)) (fun i j e => ?_) hk ha hdb he hpl
  have := List.all_eq_true.mp ok.2 (some j) (List.mem_of_getElem? e)
  simpa using this
end
/-! ### d.get(k, x); sorted(d) -/
def eGet2 (fd fk fx : EF) : EF := fun Γ => (fd Γ).bind fun Γ1 d => match d with
  | .dct kvs => (fk Γ1).bind fun Γ2 k => (fx Γ2).bind fun Γ3 x => (match keyT k with | some k => .ok Γ3 ((lookT kvs k).getD x) | none => .stuck)
  | _ => .stuck
def tSortedA : List T → Option T
  | [.dct kvs] => (tints (kvs.map fun p => keyV p.1)).bind fun ks => if ks.length < 64 then some (.lst ((sortI ks).map T.int)) else none
  | ts => tSorted ts
def rSortedA (K : PySem.W.Frag) : RC := fun xs H Q => rSortedI K xs H Q ∨ ∃ (a : Addr) (kvs : List (Key × V)) (ks : List Int), xs = [.ref a] ∧ Rd H a (.dK kvs) ∧ kvs.map (·.1) = ks.map Sum.inl ∧ ks.length < 64 ∧
    ∀ (ys : List Int) (p : Addr), ys.Perm ks → ys.Pairwise (· ≤ ·) → H p = none → Q (.ref p) (upd H p (.lst (ys.map V.int)))
theorem cr_sortedA {X : Cx} (hc : X.calm = true) : CallR X (.builtin "sorted") (rSortedA X.K) := CallR.or cr_sortedI (call_sortedDI hc)
theorem keys_ints : ∀ {ks : List Key} {ns : List Int}, tints (ks.map keyV) = some ns → ks = ns.map Sum.inl
  | [], ns, h => by cases h; rfl
  | k :: ks, ns, h => by
    rw [List.map_cons] at h
    cases k with
    | inl i =>
      obtain ⟨ms, h1, rfl⟩ := Option.map_eq_some_iff.mp (show (tints (ks.map keyV)).map (i :: ·) = some ns from h)
      rw [keys_ints h1]; rfl
    | inr s => cases h
theorem nw_sortedA {K : PySem.W.Frag} {cm : Cm} : NwA K cm (rSortedA K) tSortedA := fun ts c e H vs F h Q q => by
  have old : tSorted ts = some c → rSortedA K vs H Q := fun e => .inl (nw_sorted ts c e H vs F h Q q)
  unfold tSortedA at e
  split at e
  · obtain ⟨ks, e1, e2⟩ := Option.bind_eq_some_iff.mp e
    split at e2
    · rename_i hl
      cases e2
      obtain ⟨v, rfl, h1⟩ := h.arg1
      obtain ⟨a, xs, G, rfl, r, s, rfl⟩ := h1
      have ek := r.keys
      have e5 : tints ((xs.map (·.1)).map keyV) = some ks := by rw [← ek, List.map_map]; exact e1
      refine .inr ⟨a, xs, ks, rfl, s, ?_, hl, fun ys p h1 h2 hp => ?_⟩
      · exact keys_ints e5
      · obtain ⟨s1, s2⟩ := sortI_spec ks
        have e3 : ys = sortI ks := sorted_uniq (h1.trans s1.symm) h2 s2
        subst e3
        exact q p _ [] hp trivial ⟨p, _, [], rfl, Reps.of_ints _, upd_same, rfl⟩ fun y hy => by cases hy
    · cases e2
  · exact old e
section
variable {X : Cx} {cm : Cm} {mo : List Mode} {E : XK} {o a b : Expr} {pos p apos cpos : Pos} {kd k1 k2 k3 : Kd} {ef eg eh : EF}
theorem ee_get2 (hu : X.A.units + 1 < cLine) (l1 : kle k1 .shared = true) (l3 : kle k3 .shared = true) (ho : Ee X cm mo E k1 o ef) (ha : Ee X cm mo E k2 a eg) (hb : Ee X cm mo E k3 b eh) (mm : M2 X o "get" apos a b cpos) : Ee X cm mo E .shared (.Call (.Attribute o "get" apos) [a, b] [] cpos) (eGet2 ef eg eh) := by
  refine PE.imp (pe_dget2 hu ho ha hb mm) fun σ H Q ⟨W, Γ, e1, r0, q⟩ => ?_
  subst e1
  refine ⟨W, Γ, rfl, r0, PostE.imp (PostE.bind0 q) fun d W1 Γ1 ex r1 f1 q1 v1 G1 h1 kk1 => ?_⟩
  have q1 := q1 Γ1 ex r1 f1
  have nC := kk1.nC l1
  have ks1 := kk1.le l1
  cases d with
  | dct kvs =>
    have h1' := h1
    obtain ⟨a, xs, G', rfl, rd, s, eG⟩ := h1
    refine ⟨a, rfl, .inl ⟨xs, s⟩, W1, Γ1, rfl, r1, PostE.imp (PostE.start (PostE.bind0 q1) f1) fun y W2 Γ2 ey r2 f2 q2 v2 G2 h2 kk2 => ⟨W2, Γ2, rfl, r2, PostE.imp (PostE.start (PostE.bind0 (q2 Γ2 ey r2 (f1.trans f2))) (f1.trans f2)) fun z W3 Γ3 ez r3 f3 q3 v3 G3 h3 kk3 => ?_⟩⟩
    have f13 := (f1.trans f2).trans f3
    have q3 := q3 Γ3 ez r3 f13
    cases ek : keyT y with
    | none => rw [ek] at q3; exact q3.elim
    | some k =>
      rw [ek] at q3
      dsimp only at q3
      have h4 := h1'.step r1 (f2.trans f3) nC
      have s4 := KOk.step (f2.trans f3) (h1'.tr _ _ _) ks1
      have yk : v2 = kV k := keyT_rep ek h2
      have hy : Rep X.K cm W3.H (keyV k) v2 [] := by rw [yk]; exact rep_key
      have ek2 : keyT (keyV k) = some k := by cases k <;> rfl
      obtain ⟨p', F', e5, e6, g⟩ := dIx_get (o := lookT kvs k) (.inl ⟨kvs, k, rfl, ek2, rfl⟩) h4 hy
      cases e5
      cases el : lookT kvs k with
      | none =>
        rw [el] at g q3
        exact ⟨none, g, q3 W3 r3 f13 v3 G3 h3 (KOk.early (f1.trans f2) (kk3.le l3))⟩
      | some c =>
        rw [el] at g q3
        obtain ⟨w, Gw, g1, g2, g3⟩ := g
        exact ⟨some w, g1, q3 W3 r3 f13 w Gw g2 fun x hx => s4 x (by rw [e6]; exact List.mem_cons_of_mem _ (g3 x hx))⟩
  | _ => exact q1.elim
end
/-- a new object over nothing of the arguments -/
def Nw0A (K : PySem.W.Frag) (cm : Cm) (r : RC) (op : List T → Option T) : Prop :=
  ∀ ts c, op ts = some c → ∀ H vs F, Reps K cm H ts vs F → ∀ Q : VK, (∀ p o, H p = none → Mut (some o) → Rep K cm (upd H p o) c (.ref p) [p] → Q (.ref p) (upd H p o)) → r vs H Q
section
variable {K : PySem.W.Frag} {cm : Cm} {mo : List Mode} {E : XK} {kd : Kd} {r : RC} {op : List T → Option T} {af : AF} {xf : Env → Res (List T)}
theorem cb_nw0 (hs : Nw0A K cm r op) : ∀ σ H Q, tP K cm mo .fr1 (pArg op af) σ H Q → tCB r (tPk K cm mo kd af) σ H Q := fun σ H Q ⟨W, Γ, t, e1, r0, e2, q⟩ => by
  subst e1
  obtain ⟨ts, e3, e4⟩ := Option.bind_eq_some_iff.mp e2
  refine ⟨W, Γ, ts, rfl, r0, e3, fun vs H' G s h kk => hs ts t e4 H' vs G h Q fun p o hp mu h2 => q _ _ [p] (s.trans (same_upd hp)) h2 ?_⟩
  exact kok_new (W1 := { W with H := H' }) (same_fr s) (fun w hw => by cases hw) (kd := .imm) rfl rfl (r0.same s) hp mu
theorem cbe_nw0 (hs : Nw0A K cm r op) : ∀ σ H Q, tE K cm mo .fr1 E (eArg op xf) σ H Q → tCB r (tEk K cm mo kd E xf) σ H Q := fun σ H Q ⟨W, Γ, e1, r0, q⟩ => by
  subst e1
  refine ⟨W, Γ, rfl, r0, PostE.imp (PostE.bind q) fun ts W1 Γ1 ex r1 f1 q1 vs G h kk => ?_⟩
  obtain ⟨t, e4, q2⟩ := PostE.of (q1 Γ1 ex r1 f1)
  exact hs ts t e4 W1.H vs G h Q fun p o hp mu h2 => q2 { W1 with H := _ } (r1.same (same_upd hp)) (same_fr (same_upd hp)) (.ref p) [p] h2 (kok_new f1 (fun w hw => by cases hw) (kd := .imm) rfl rfl r1 hp mu)
theorem nw0_sortedA : Nw0A K cm (rSortedA K) tSortedA := fun ts c e H vs F h Q q => by
  unfold tSortedA at e
  split at e
  · obtain ⟨ks, e1, e2⟩ := Option.bind_eq_some_iff.mp e
    split at e2
    · rename_i hl
      cases e2
      obtain ⟨v, rfl, h1⟩ := h.arg1
      obtain ⟨a, xs, G, rfl, r, s, rfl⟩ := h1
      have ek := r.keys
      have e5 : tints ((xs.map (·.1)).map keyV) = some ks := by rw [← ek, List.map_map]; exact e1
      refine .inr ⟨a, xs, ks, rfl, s, ?_, hl, fun ys p h1 h2 hp => ?_⟩
      · exact keys_ints e5
      · obtain ⟨s1, s2⟩ := sortI_spec ks
        have e3 : ys = sortI ks := sorted_uniq (h1.trans s1.symm) h2 s2
        subst e3
        exact q p _ hp trivial ⟨p, _, [], rfl, Reps.of_ints _, upd_same, rfl⟩
    · cases e2
  · refine .inl ?_
    unfold tSorted at e
    split at e
    · obtain ⟨v, rfl, h1⟩ := h.arg1
      obtain ⟨ns, e1, rfl⟩ := Option.map_eq_some_iff.mp e
      obtain ⟨a, xs, G, rfl, r, s, sub⟩ := seqT h1
      rw [tints_eq e1] at r
      rw [r.ints.1] at s
      refine ⟨a, ns, rfl, s, fun ns' p h1 h2 hp => ?_⟩
      obtain ⟨s1, s2⟩ := sortI_spec ns
      have e3 : ns' = sortI ns := sorted_uniq (h1.trans s1.symm) h2 s2
      subst e3
      exact q p _ hp trivial ⟨p, _, [], rfl, Reps.of_ints _, upd_same, rfl⟩
    · cases e
    · cases e
end
end Tm
namespace Tm
open PySem PySem.Spec PyProof.Rows L2
/-- the law's promise at the script -/
theorem spM_law {K : PySem.W.Frag} {cm : Cm} {m : SF} {n : Nat} {kd : Kd} (hm : ∀ ns : List Int, ∃ Γ, m (env0 n [.scr ns]) = .rt (.bl true) Γ) {H : Hp} {a : Addr} {ns : List Int} (ho : Only H) (hs : SqL K H a (ns.map V.int)) :
    SpM K cm (pmR [none]) n kd m [.ref a] H (fun v _ => v = .bl true) fun _ _ _ => False := by
  have hz : SqLz K H a (ns.map V.int) := by
    rcases hs with (h | h) | h
    · rcases ho a with e | ⟨o, xs, e⟩ <;> rw [e] at h <;> cases h
    · exact .inl h
    · exact .inr h
  obtain ⟨Γ, e⟩ := hm ns
  refine ⟨⟨H, fun _ => False, fun _ => False, fun _ => False⟩, [.scr ns], rfl, rfl, ⟨fun _ => [], fun i => ?_, fun i => List.nodup_nil, (fun i j x _ h => nomatch h), (fun x => ⟨(fun h => h.elim), (fun ⟨i, _, h⟩ => nomatch h)⟩), (fun x => ⟨(fun h => h.elim), (fun ⟨i, _, h⟩ => nomatch h)⟩), (fun i x h => nomatch h), (fun x h => h.elim), (fun i x h => nomatch h), (fun x h => h.elim), rfl, rfl⟩, ?_⟩
  · cases i with
    | zero => exact ⟨rfl, fun u eu => by cases eu; exact ⟨.ref a, [], rfl, ⟨a, rfl, hz, rfl⟩, fun x hx => by cases hx⟩⟩
    | succ i =>
      cases i with
      | zero => rfl
      | succ i => rfl
  · rw [e]
    intro W' v G r f h kk
    exact h.1
end Tm
namespace Tm
open PySem PySem.Spec PyProof.Rows L2
/-! ### two own slots handed out in a tuple -/
/-- a root over what has no footprint -/
def flr : T → Bool
  | .lst ts => ts.all flatT
  | .dct ts => ts.all fun p => flatT p.2
  | _ => false
section
variable {K : PySem.W.Frag} {cm : Cm} {mo mo' : List Mode} {W W' : Wd} {σ : L2.St} {Γ : Env} {Os : Nat → List Addr}
theorem flats_nil : ∀ {ts : List T} {vs : List V} {F : List Addr} {H : Hp}, ts.all flatT = true → Reps K cm H ts vs F → F = []
  | [], _, _, _, _, h => h.2
  | t :: ts, _, _, _, f, h => by
    rw [List.all_cons, Bool.and_eq_true] at f
    obtain ⟨x, r, F1, F2, rfl, rfl, h1, h2⟩ := h
    rw [(flat_rep f.1 h1).1, flats_nil f.2 h2]; rfl
theorem flatd_nil : ∀ {ts : List (Key × T)} {vs : List (Key × V)} {F : List Addr} {H : Hp}, (ts.all fun p => flatT p.2) = true → RepD K cm H ts vs F → F = []
  | [], _, _, _, _, h => h.2
  | (k, t) :: ts, _, _, _, f, h => by
    rw [List.all_cons, Bool.and_eq_true] at f
    obtain ⟨x, r, F1, F2, rfl, rfl, h1, h2⟩ := h
    rw [(flat_rep f.1 h1).1, flatd_nil f.2 h2]; rfl
theorem flr_rep {t : T} {v : V} {F : List Addr} {H : Hp} (f : flr t = true) (h : Rep K cm H t v F) : ∃ a, F = [a] := by
  cases t with
  | lst ts =>
    obtain ⟨a, xs, G, rfl, h1, h2, rfl⟩ := h
    exact ⟨a, by rw [flats_nil f h1]⟩
  | dct ts =>
    obtain ⟨a, xs, G, rfl, h1, h2, rfl⟩ := h
    exact ⟨a, by rw [flatd_nil f h1]⟩
  | _ => cases f
/-- an own slot is let go: its root is nobody's -/
theorem RO.drop {i : Nat} (r0 : RO K cm mo W σ Γ Os) (hm : md mo i = .o1) : ∃ W1, W1.H = W.H ∧ RO K cm (mo.set i .dead) W1 σ Γ (fun k => if k = i then [] else Os k) ∧ Fr W W1 ∧
    (∀ x, W1.C x ↔ W.C x ∧ ¬ x ∈ Os i) ∧ (∀ x, W1.L x ↔ W.L x) ∧ W1.S = W.S := by
  have hi : i < mo.length := md_lt (by rw [hm]; decide)
  have lσ : i < σ.length := by rw [r0.ls]; exact hi
  have lΓ : i < Γ.length := by rw [r0.lg]; exact hi
  have hl : md mo i ≠ .lk := by rw [hm]; decide
  have k1 := r0.put (j := i) (m' := .dead) (v' := sl σ i) (t' := sl Γ i) (O' := []) (H' := W.H) (S' := W.S) hi hl (fun _ _ h _ => h) (fun _ h => h) (fun _ h => h)
    r0.trS (fun i x _ hx => r0.sh i x hx) rfl List.nodup_nil (fun x hx => by cases hx) (fun x hx => by cases hx) (fun x hx => by cases hx) (fun _ x hx => by cases hx)
  rw [set_sl lσ, set_sl lΓ] at k1
  have k2 := r0.put_fr (j := i) (m' := .dead) (O' := []) (H' := W.H) (S' := W.S) hl (by decide) (fun _ _ h _ => h) (fun _ h => h) (fun _ h => h) (fun x h => .inl h) (fun x hx => by cases hx)
  exact ⟨⟨W.H, fun x => (chg .dead = true ∧ x ∈ []) ∨ (W.C x ∧ ¬ x ∈ Os i), fun x => (Mode.dead = .lk ∧ x ∈ []) ∨ (W.L x), W.S⟩, rfl, k1, k2, fun x => ⟨fun h => h.elim (fun q => by cases q.1) fun q => q, .inr⟩, fun x => ⟨fun h => h.elim (fun q => by cases q.1) fun q => q, .inr⟩, rfl⟩
end
theorem mleL_dead : ∀ {l l' : List Mode} {i : Nat}, mleL l l' = true → md l i = .dead → mleL l (l'.set i .dead) = true
  | [], [], _, _, _ => rfl
  | [], _ :: _, _, h, _ => by cases h
  | _ :: _, [], _, h, _ => by cases h
  | x :: r, y :: s, i, h, hd => by
    simp only [mleL, Bool.and_eq_true] at h
    cases i with
    | zero =>
      have hd : x = .dead := hd
      subst hd
      show (mle .dead .dead && mleL r s) = true
      rw [h.2]; rfl
    | succ i =>
      show (mle x y && mleL r (s.set i .dead)) = true
      rw [h.1, mleL_dead h.2 hd]; rfl
section
variable {X : Cx} {cm : Cm} {mo mo' : List Mode} {J : Exits} {E : XK} {a b e : Expr} {pos p p2 pos2 : Pos} {kd kd' k1 k2 : Kd} {ef eg : EF} {x y : Str} {i j : Nat}
def sMoveT (i j : Nat) : SF := fun Γ => match sl Γ i, sl Γ j with
  | some t, some u => if (flr t && flr u) = true then .rt (.tup [t, u]) Γ else .stuck
  | _, _ => .stuck
theorem s_moveT {x1} (hN : X.N[i]? = some x) (hv : Vis X.env.scope x) (hm : md mo i = .o1) (hN2 : X.N[j]? = some y) (hv2 : Vis X.env.scope y) (hm2 : md mo j = .o1) (hij : i ≠ j) (hk : J.k = .fresh) (w : mleL J.r mo = true) (hd : md J.r i = .dead) (hd2 : md J.r j = .dead)
    (hs : starEach [.Name x p, .Name y p2] X.env = (false, eval (.Name x p) X.env) :: starEach [.Name y p2] X.env := by rfl) (hs2 : starEach [.Name y p2] X.env = (false, eval (.Name y p2) X.env) :: starEach [] X.env := by rfl)
    (h1 : (x == ("__debug__" : Str)) = false := by decide) (h2 : (x == ("__classdict__" : Str)) = false := by decide) (h3 : (y == ("__debug__" : Str)) = false := by decide) (h4 : (y == ("__classdict__" : Str)) = false := by decide) :
    Sm X cm J E mo (.Return (some (.Tuple [.Name x p, .Name y p2] x1 pos2)) pos) mo' (sMoveT i j) := PS.imp (ps_ret (pe_tup (pa_cons (pe_var hN hv h1 h2) (pa_cons (pe_var hN2 hv2 h3 h4) pa_nil hs2) hs))) fun D σ H ⟨W, Γ, e1, r, q⟩ => by
  subst e1
  unfold sMoveT at q
  cases e : sl Γ i with
  | none => rw [e] at q; exact q.elim
  | some t =>
  cases e' : sl Γ j with
  | none => rw [e, e'] at q; exact q.elim
  | some u =>
    rw [e, e'] at q
    simp only at q
    by_cases hf : (flr t && flr u) = true
    case neg => rw [if_neg hf] at q; exact q.elim
    rw [if_pos hf] at q
    rw [Bool.and_eq_true] at hf
    obtain ⟨Os, r0⟩ := id r
    have s1 := r0.slot i
    rw [hm] at s1
    obtain ⟨v, a, G, e3, e4, ht, g⟩ := s1 t e
    have s2 := r0.slot j
    rw [hm2] at s2
    obtain ⟨z, b, G2, e5, e6, hu, g2⟩ := s2 u e'
    obtain ⟨a', ea⟩ := flr_rep hf.1 ht
    obtain ⟨b', eb⟩ := flr_rep hf.2 hu
    obtain ⟨rfl, rfl⟩ := List.cons.inj ea
    obtain ⟨rfl, rfl⟩ := List.cons.inj eb
    obtain ⟨W1, q1, r1, f1, c1, l1, t1⟩ := r0.drop hm
    have hm3 : md (mo.set i .dead) j = .o1 := by rw [md_set_ne hij]; exact hm2
    obtain ⟨W2, q2, r2, f2, c2, l2, t2⟩ := r1.drop hm3
    obtain ⟨W3, q3, r3, f3⟩ := R.weak ⟨_, r2⟩ (mleL_dead (mleL_dead w hd) hd2)
    have ha : a ∈ Os i := by rw [e4]; exact List.mem_cons_self
    have hb : b ∈ Os j := by rw [e6]; exact List.mem_cons_self
    have hab : a ≠ b := fun q => r0.dj i j a hij ha (q ▸ hb)
    have H3 : W3.H = W.H := by rw [q3, q2, q1]
    refine ⟨v, sl_get e3, z, sl_get e5, by show 2 ≤ _; decide, fun n hn => ?_⟩
    have sm := same_upd (o := HO.tup [v, z]) hn
    have nC : ∀ c, W.C c → (c ∈ Os i ∨ c ∈ Os j) → ¬ W3.C c := fun c hc ho h3 => by
      rcases f3.chg c h3 with h | h
      · obtain ⟨h, n2⟩ := (c2 c).mp h
        rw [if_neg (Ne.symm hij)] at n2
        obtain ⟨h, n1⟩ := (c1 c).mp h
        exact ho.elim n1 n2
      · exact h (by rw [q2, q1]; exact Mut.tr (r0.mu c hc))
    have nL : ∀ c, W.C c → ¬ W3.L c := fun c hc h3 => R.cL ⟨Os, r0⟩ c hc ((l1 c).mp ((l2 c).mp (f3.lck c h3)))
    have nS : ∀ c, W.C c → ¬ W.S c → (c ∈ Os i ∨ c ∈ Os j) → ¬ W3.S c := fun c hc ns ho h3 => by
      rcases f3.shn c h3 with h | h | h
      · rw [t2, t1] at h; exact ns h
      · obtain ⟨h, n2⟩ := (c2 c).mp h
        rw [if_neg (Ne.symm hij)] at n2
        obtain ⟨h, n1⟩ := (c1 c).mp h
        exact ho.elim n1 n2
      · exact h (by rw [q2, q1]; exact Mut.tr (r0.mu c hc))
    have ca := r0.inC (by rw [hm]; rfl) ha
    have cb := r0.inC (by rw [hm2]; rfl) hb
    have sm3 : Same W3.H (upd W.H n (.tup [v, z])) := by rw [H3]; exact sm
    have := q σ { W3 with H := upd W.H n (.tup [v, z]) } (.ref n) [a, b] (r3.same sm3) ((f1.trans (f2.trans f3)).trans (same_fr sm3)) Fx.refl
      ⟨n, [v, z], rfl, tup_new upd_same, .cons (ht.same sm) (.cons (hu.same sm) ⟨rfl, rfl⟩)⟩ ?_
    · exact this
    rw [hk]
    refine ⟨by simp [hab], fun c hc => ?_⟩
    have key : W.C c ∧ (c ∈ Os i ∨ c ∈ Os j) ∧ ¬ W.S c := by
      simp only [List.mem_cons, List.not_mem_nil, or_false] at hc
      rcases hc with rfl | rfl
      · exact ⟨ca, .inl ha, r0.sh i _ ha⟩
      · exact ⟨cb, .inr hb, r0.sh j _ hb⟩
    exact ⟨.inl key.1, nC c key.1 key.2.1, nL c key.1, nS c key.1 key.2.2 key.2.1, mut_eq (r0.mu c key.1) fun o e => sm _ _ e⟩
/-- x[i], x new as a whole: what stands there is new too, a root over what has no footprint -/
def eFlr (f : EF) : EF := fun Γ => (f Γ).bind fun Γ1 t => if flr t = true then .ok Γ1 t else .stuck
theorem ee_ixF (hu : X.A.units + 1 < cLine) (ha : Ee X cm mo E .fresh a ef) (hb : Ee X cm mo E k2 b eg) (hs : PlainIx b := by intro _ _; rfl) : Ee X cm mo E .fr1 (.Subscript a b pos) (eFlr (eBin tIxA ef eg)) := PE.imp (pe_ix (ixA_all hu) ha hb hs) fun σ H Q ⟨W, Γ, e1, r0, q⟩ => by
  subst e1
  unfold eFlr at q
  have q := PostE.bind q
  refine tE_of r0 (PostE.imp (PostE.bind q) fun x W1 Γ1 ex r1 f1 q1 v1 G1 h1 kk1 => tE_of r1 (PostE.imp (PostE.bind (q1 Γ1 ex r1 f1)) fun y W2 Γ2 ey r2 f2 q2 v2 G2 h2 kk2 => ?_))
  obtain ⟨c, ec, q3⟩ := PostE.of (q2 Γ2 ey r2 f2)
  have h1' := h1.step r1 f2 (kk1.nC rfl)
  refine sb_ixA x y c ec W2.H v1 v2 G1 G2 h1' h2 Q fun z H' F' s h' sub => ?_
  have q4 := q3 { W2 with H := H' } (r2.same s) (same_fr s) Γ2 (by show (ef Γ).bind _ = _; rw [ex]; show (eg Γ1).bind _ = _; rw [ey]; show Res.of Γ2 (tIxA x y) = _; rw [ec]; rfl) (r2.same s) ((f1.trans f2).trans (same_fr s))
  by_cases hf : flr c = true
  case neg => rw [if_neg hf] at q4; exact q4.elim
  rw [if_pos hf] at q4
  obtain ⟨b, rfl⟩ := flr_rep hf h'
  refine q4 { W2 with H := H' } (r2.same s) (Fr.refl _) z [b] h' ?_
  have st : KOk .fresh W { W2 with H := H' } G1 := KOk.step (f2.trans (same_fr s)) (h1.tr _ _ _) kk1
  obtain ⟨b1, b2, b3, b4, mu⟩ := st.2 b (sub b List.mem_cons_self)
  exact ⟨b, [], rfl, ⟨b1, b2, b3, b4, mu⟩, (fun h => nomatch h), fun x hx => nomatch hx⟩
end
end Tm
namespace PySem.SeqAt
open AutoSeq1 (wpAny_loadPart')
open MeetsSeq MeetsSeq2 MeetsSeq3 SeqRoads2
section
variable {prog : Program} {w : World}
/-- two lists, item by item the same: where their comparison stands at the item i -/
def AtSame (prog : Program) (w : World) (p q : Addr) (xs ys : Array Value) (m m' : Nat) (u u' : Option Addr) (z z' : Array (Option Value)) (A : Around) (R : Result → Shared → Prop) (t : Shared) : Prop :=
  (t.heap.get? p = some { cls := .type "list", dict := u, data := .seq xs m, slots := z } ∧ t.heap.get? q = some { cls := .type "list", dict := u', data := .seq ys m', slots := z' }) ∧ (∀ (j : Nat) (h1 : j < xs.size) (h2 : j < ys.size), EqIn prog w A.in1 t xs[j] ys[j] true) ∧ R (.ok (.ret (.bool false))) t
theorem same_tail {p q : Addr} {xs ys : Array Value} {m m' : Nat} {u u' : Option Addr} {z z' : Array (Option Value)} (len : xs.size = ys.size) : ∀ (left i : Nat), left + i = xs.size → MeetsIn prog w (Builtin.«list.__eq__.loop» ⟨[.ref p, .ref q, rawInt i, rawInt 3], []⟩) (AtSame prog w p q xs ys m m' u u' z z') := by
  intro left
  induction left with
  | zero =>
    rintro i there A R ⟨hp, g, d, tk, os⟩ ⟨⟨at1, at2⟩, _, fin⟩
    wp_walk using wpAny_loadPart' at1, wpAny_loadPart' at2
    have out1 : xs[((i : Nat) : Int).toNat]? = none := by rw [Int.toNat_natCast]; exact Array.getElem?_eq_none (by omega)
    have out2 : ys[((i : Nat) : Int).toNat]? = none := by rw [Int.toNat_natCast]; exact Array.getElem?_eq_none (by omega)
    rw [out1, out2]
    wp_walk using wpAny_loadPart' at1, wpAny_loadPart' at2
    show R (.ok (.ret (.bool (bne xs.size ys.size)))) _
    rw [show bne xs.size ys.size = false by simp [len]]
    exact fin
  | succ left ih =>
    rintro i there A R ⟨hp, g, d, tk, os⟩ ⟨⟨at1, at2⟩, alike, fin⟩
    wp_walk using wpAny_loadPart' at1, wpAny_loadPart' at2
    have in1 : i < xs.size := by omega
    have in2 : i < ys.size := by omega
    have here1 : xs[((i : Nat) : Int).toNat]? = some xs[i] := by rw [Int.toNat_natCast]; exact Array.getElem?_eq_getElem in1
    have here2 : ys[((i : Nat) : Int).toNat]? = some ys[i] := by rw [Int.toNat_natCast]; exact Array.getElem?_eq_getElem in2
    rw [here1, here2]
    refine wpAny_bind (alike i in1 in2 _ _ ?_)
    wp_walk
    refine ⟨plainId_quiet plain_eq_loop _, codeAny_builtin entry_eq_loop ?_⟩
    rw [Around.under_plainId plain_eq_loop _, show ((i : Int) + 1) = ((i + 1 : Nat) : Int) from rfl]
    exact ih (i + 1) (by omega) A R _ ⟨⟨at1, at2⟩, alike, fin⟩
theorem same_ne {p q : Addr} {xs ys : Array Value} {m m' : Nat} {u u' : Option Addr} {z z' : Array (Option Value)} (len : xs.size = ys.size) : MeetsIn prog w (Builtin.«list.__ne__» ⟨[.ref p, .ref q], []⟩) (AtSame prog w p q xs ys m m' u u' z z') := by
  rintro A R ⟨hp, g, d, tk, os⟩ ⟨⟨at1, at2⟩, alike, fin⟩
  have sub := AutoSeq1.sub_list_list
  have same : ¬ (xs.size != ys.size) = true := by simp [len]
  wp_walk using wpAny_loadPart' at1, wpAny_loadPart' at2
  refine ⟨plainId_quiet plain_eq_loop _, codeAny_builtin entry_eq_loop ?_⟩
  rw [Around.under_plainId plain_eq_loop _]
  exact same_tail len xs.size 0 (by omega) A R _ ⟨⟨at1, at2⟩, alike, fin⟩
theorem rc_same_ne {A : Around} {t : Shared} {E Q : Value → Shared → Prop} {p q : Addr} {xs ys : Array Value} (l1 : t.heap.IsList p xs) (l2 : t.heap.IsList q ys) (len : xs.size = ys.size) (room : A.units < cLine) (alike : ∀ (j : Nat) (h1 : j < xs.size) (h2 : j < ys.size), EqIn prog w A.in1 t xs[j] ys[j] true) (fin : Q (.bool false) t) : wpAny (model prog w) A (richCompare .NotEq (.ref p) (.ref q)) Q E t := by
  obtain ⟨⟨_, u, _, z⟩, at1, c1, m, d1⟩ := id l1
  obtain ⟨⟨_, u', _, z'⟩, at2, c2, m', d2⟩ := id l2
  dsimp only at c1 d1 c2 d2
  subst c1 d1 c2 d2
  refine wpAny_richCompare_same_room (T := "list") (op := .NotEq) ⟨_, at1, rfl⟩ ⟨_, at2, rfl⟩ F.slot_list_ne ?_ room
  exact call_meetsIn F.slot_list_ne ⟨_, at1, rfl⟩ F.entry_list_ne (F.args_list_ne_2 _ _) (same_ne (m := m) (m' := m') (u := u) (u' := u') (z := z) (z' := z') len) ⟨⟨at1, at2⟩, alike, (fun e => nomatch e), fin⟩
end
end PySem.SeqAt
namespace Tm
open PySem PySem.Spec PyProof.Rows L2
open PySem.SeqAt (EqIn)
open PySem.W (KeqHitsIn)
/-! ### lists that hold dicts, compared: only where they are the same -/
def PrS (K : PySem.W.Frag) (H : Hp) (p q : V) : Prop :=
  (∃ d e, Dp K H p d ∧ Dp K H q e ∧ SeqAt.shaped d = true ∧ SeqAt.shaped e = true ∧ PyData.eqv d e = true) ∨
    ∃ a b ks ls ds es, p = .ref a ∧ q = .ref b ∧ Rd H a (.dK ks) ∧ Rd H b (.dK ls) ∧ KvD K H ks ds ∧ KvD K H ls es ∧ ((ks.length == ls.length) && hitsP es ds) = true
def rNeS (K : PySem.W.Frag) : R2 := fun x y H Q => ∃ a b xs ys, x = .ref a ∧ y = .ref b ∧ H a = some (.lst xs) ∧ H b = some (.lst ys) ∧ Paired (PrS K H) xs ys ∧ Q (.bl false) H
theorem paired_at {α β : Type} {F : α → β → Prop} {l1 : List α} {l2 : List β} (h : Paired F l1 l2) : l1.length = l2.length ∧ ∀ (j : Nat) (h1 : j < l1.length) (h2 : j < l2.length), F l1[j] l2[j] := by
  induction h with
  | nil => exact ⟨rfl, fun j h1 => absurd h1 (Nat.not_lt_zero _)⟩
  | cons f _ ih =>
    refine ⟨by rw [List.length_cons, List.length_cons, ih.1], fun j h1 h2 => ?_⟩
    cases j with
    | zero => exact f
    | succ j => exact ih.2 j (Nat.lt_of_succ_lt_succ h1) (Nat.lt_of_succ_lt_succ h2)
section
variable {X : Cx}
theorem hits_in {A : Around} {pins : List (Addr × Obj)} {σ : L2.St} {H : Hp} {s : Shared} (I : Inv X pins σ H s) (hu : A.in1.units + 64 < cLine) {ls : List (Key × V)} {es : List (Key × PyData)} {vb : List (Key × Value)} (rb : KV ls vb) (ke : KvD X.K H ls es) {ks : List (Key × V)} {ds : List (Key × PyData)} {va : List (Key × Value)} (ra : KV ks va) (kd : KvD X.K H ks ds) :
    KeqHitsIn X.prog X.w A.in1 s vb va (hitsP es ds) := by
  unfold KV at ra
  unfold KvD at kd
  induction kd generalizing va with
  | nil => cases ra; exact .nil
  | @cons p q ps qs h t ih =>
    cases ra with
    | @cons _ w _ ws g u =>
      obtain ⟨h1, h2, h3⟩ := h
      obtain ⟨g1, g2⟩ := g
      obtain ⟨k, v⟩ := w
      have g1 : p.1 = k := g1
      have lk := ke.look q.1
      have rv := rb.val q.1
      have ih := ih u
      have kq : k = q.1 := g1.symm.trans h1
      cases el : lookP es q.1 with
      | none =>
        rw [el] at lk
        rw [lk] at rv
        have eh : hitsP es (q :: qs) = false := by unfold hitsP; rw [List.all_cons, el]; rfl
        rw [eh]
        refine .miss ?_
        rw [kq]
        cases ev : valueAt vb q.1 with
        | none => rfl
        | some _ => rw [ev] at rv; exact rv.elim
      | some d =>
        rw [el] at lk
        obtain ⟨z, e1, e2, e3⟩ := lk
        rw [e1] at rv
        obtain ⟨y, hy, ry⟩ := rv.some_of
        have eh : hitsP es (q :: qs) = (PyData.eqv q.2 d && hitsP es qs) := by unfold hitsP; rw [List.all_cons, el]
        rw [eh]
        obtain ⟨as, r1⟩ := Dp.reads I q.2 p.2 v h2 g2
        obtain ⟨bs, r2⟩ := Dp.reads I d z y e2 ry
        exact .hit (by rw [kq]; exact hy) ((PySem.W.keq_at r1 r2 h3 e3 hu).inModel X.prog X.w) ih
theorem prs_in {A : Around} {pins : List (Addr × Obj)} {σ : L2.St} {H : Hp} {s : Shared} (I : Inv X pins σ H s) (hu : A.in1.in1.units + 64 < cLine) {p q : V} (h : PrS X.K H p q) {v u : Value} (rv : RelV p v) (ru : RelV q u) : EqIn X.prog X.w A.in1 s v u true := by
  rcases h with ⟨d, e, h1, h2, h3, h4, h5⟩ | ⟨a, b, ks, ls, ds, es, rfl, rfl, ea, eb, kd, ke, hk⟩
  · obtain ⟨as, r1⟩ := Dp.reads I d p v h1 rv
    obtain ⟨bs, r2⟩ := Dp.reads I e q u h2 ru
    have := (PySem.W.keq_at (A := A) r1 r2 h3 h4 (by have : A.in1.in1.units = A.in1.units + 1 := rfl; omega)).inModel X.prog X.w
    rw [h5] at this
    exact this
  · obtain rfl : v = Value.ref a := rv
    obtain rfl : u = Value.ref b := ru
    obtain ⟨_, ya, va, ra, da⟩ := dk_rd I.hok ea
    obtain ⟨_, yb, vb, rb, db⟩ := dk_rd I.hok eb
    by_cases hab : a = b
    · subst hab
      exact (SeqAt.EqAt.same _).inModel X.prog X.w
    · refine SeqAt.EqIn.of_refs hab fun E Q hq => ?_
      refine PySem.W.keq_eqIn (knd := mixKind X.prog X.w) (r := hitsP es ds) ya yb da db (by have : A.in1.in1.units = A.in1.units + 1 := rfl; omega) (fun _ => hits_in (A := A.in1) I hu rb ke ra kd) ?_
      rw [← ra.length, ← rb.length, hk]
      exact hq
theorem op_neS (hu : X.A.units + 66 < cLine) : OpR X (compareOp .NotEq) (rNeS X.K) := by
  intro pins s σ H x y v u Q I rx ry h
  obtain ⟨a, b, xs, ys, rfl, rfl, ea, eb, pr, q⟩ := h
  obtain rfl : v = Value.ref a := rx
  obtain rfl : u = Value.ref b := ry
  obtain ⟨i1, r1, ⟨o1, n1, g1, c1, _, d1⟩, _⟩ := I.list (SqL.of ea)
  obtain ⟨i2, r2, ⟨o2, n2, g2, c2, _, d2⟩, _⟩ := I.list (SqL.of eb)
  obtain ⟨len, pr⟩ := paired_at pr
  refine PySem.SeqAt.rc_same_ne (xs := i1.toArray) (ys := i2.toArray) ⟨o1, g1, c1, n1, d1⟩ ⟨o2, g2, c2, n2, d2⟩ (by rw [List.size_toArray, List.size_toArray, ← r1.length, ← r2.length]; exact len) (by omega) (fun j h1 h2 => ?_) ⟨.bl false, H, I, rfl, q⟩
  rw [List.size_toArray] at h1 h2
  refine prs_in I (by show X.A.units + 1 + 1 + 64 < cLine; omega) (pr j (by rw [r1.length]; exact h1) (by rw [r2.length]; exact h2)) ?_ ?_
  · exact (paired_at r1).2 j (by rw [r1.length]; exact h1) h1
  · exact (paired_at r2).2 j (by rw [r2.length]; exact h2) h2
end
def eqB (a b : T) : Bool := match bEqA a b with
  | some (.bl true) => true | _ => false
def allEqA : List T → List T → Bool
  | [], [] => true
  | a :: as, b :: bs => eqB a b && allEqA as bs
  | _, _ => false
def bNeS : T → T → Option T
  | .lst xs, .lst ys => if allEqA xs ys = true then some (.bl false) else none
  | _, _ => none
section
variable {K : PySem.W.Frag} {cm : Cm} {H : Hp}
theorem eqB_eq {a b : T} (h : eqB a b = true) : bEqA a b = some (.bl true) := by
  unfold eqB at h
  split at h
  · assumption
  · cases h
theorem prs_of {a b : T} (h : eqB a b = true) {x y : V} {F G : List Addr} (ha : Rep K cm H a x F) (hb : Rep K cm H b y G) : PrS K H x y := by
  rcases eqA_core (neg := false) (eqB_eq h) ha hb (Q := fun z _ => z = .bl true) rfl with e | e | ⟨d, e, h1, h2, h3, h4, h5⟩
  · unfold bEq at e
    split at e
    · rename_i hd
      have e : eqT a b = true := by simpa using e
      exact .inl ⟨_, _, dp_of _ _ _ _ hd.1 ha, dp_of _ _ _ _ hd.2 hb, pd_shaped hd.1 (by decide), pd_shaped hd.2 (by decide), (eqv_pd _ _ a b hd.1 hd.2).trans e⟩
    · cases e
  · obtain ⟨p, q, ks, ls, ds, es, rfl, rfl, e1, e2, k1, k2, k3⟩ := e
    exact .inr ⟨p, q, ks, ls, ds, es, rfl, rfl, e1, e2, k1, k2, by simpa using k3⟩
  · exact .inl ⟨d, e, h1, h2, h3, h4, h5⟩
theorem prs_all : ∀ {as bs : List T} {xs ys : List V} {F G : List Addr}, allEqA as bs = true → Reps K cm H as xs F → Reps K cm H bs ys G → Paired (PrS K H) xs ys
  | [], [], _, _, _, _, _, h1, h2 => by rw [h1.1, h2.1]; exact .nil
  | a :: as, b :: bs, _, _, _, _, h, h1, h2 => by
    obtain ⟨x, r, F1, F2, rfl, rfl, p1, p2⟩ := h1
    obtain ⟨y, r', G1, G2, rfl, rfl, q1, q2⟩ := h2
    unfold allEqA at h
    rw [Bool.and_eq_true] at h
    exact .cons (prs_of h.1 p1 q1) (prs_all h.2 p2 q2)
  | [], _ :: _, _, _, _, _, h, _, _ => by cases h
  | _ :: _, [], _, _, _, _, h, _, _ => by cases h
theorem sc_neS : Sc2 K cm (rNeS K) bNeS := fun a b c e H x y F G ha hb Q q => by
  unfold bNeS at e
  split at e
  · split at e
    · rename_i hh
      cases e
      obtain ⟨p, xs, F', rfl, r1, s1, rfl⟩ := ha
      obtain ⟨p', ys, G', rfl, r2, s2, rfl⟩ := hb
      exact ⟨p, p', xs, ys, rfl, rfl, s1, s2, prs_all hh r1 r2, q _ H (fun _ _ h => h) ⟨rfl, rfl⟩⟩
    · cases e
  · cases e
theorem flb_neS : ∀ a b c, bNeS a b = some c → flatT c = true := fun a b c e => by
  unfold bNeS at e
  split at e
  · split at e
    · cases e; rfl
    · cases e
  · cases e
end
end Tm
namespace Tm
open PySem PySem.Spec PyProof.Rows L2
/-! ### list(d.values()) -/
def tVals (td : TE) : TE := fun σ H Q => td σ H fun x H1 => ∃ a kvs, x = V.ref a ∧ Rd H1 a (.dK kvs) ∧ ∀ p, H1 p = none → Q (.ref p) (upd H1 p (.lst (kvs.map (·.2))))
section
variable {X : Cx}
theorem vals_each {us : List Value} {xs : List V} (len : us.length = xs.length) (h : ∀ (j : Nat) (v : Value), us[j]? = some v → ∃ x, xs[j]? = some x ∧ RelV x v) : Vals xs us := by
  induction us generalizing xs with
  | nil =>
    cases xs with
    | nil => exact .nil
    | cons x xs => cases len
  | cons u us ih =>
    cases xs with
    | nil => cases len
    | cons x xs =>
      obtain ⟨y, e, r⟩ := h 0 u rfl
      cases e
      exact .cons r (ih (Nat.succ.inj len) fun j v hj => h (j + 1) v hj)
theorem pe_vals {o : Expr} {p pos apos mpos : Pos} {td : TE} (calm : X.calm = true) (hg : Gl X "list") (hm : X.mg "list" = none) (hd : PE X o td) (base : attributeBase o "values" X.env (eval o X.env) = eval o X.env := by rfl) (line : (apos.endLine == mpos.line) = true := by rfl)
    (star : starEach [Expr.Call (.Attribute o "values" apos) [] [] mpos] X.env = [(false, eval (Expr.Call (.Attribute o "values" apos) [] [] mpos) X.env)] := by rfl) :
    PE X (.Call (.Name "list" p) [.Call (.Attribute o "values" apos) [] [] mpos] [] pos) (tVals td) := by
  refine ⟨fun pins s σ H Q I h => ?_⟩
  refine wpAny_Call_Name_kw (ld_blt I hg hm (u := .type "list") (by first | rfl | decide +kernel) ?_ (by first | decide +kernel | decide) (by first | decide +kernel | decide))
  rw [star]
  refine PySem.callWith_type1 (wpAny_Call_method0_late base line (thn (hd.run pins s σ H _ I h) fun v t ⟨x, G, J, rv, a, kvs, ex, at1, q⟩ => ?_))
  subst ex
  obtain rfl : v = Value.ref a := rv
  obtain ⟨size, sys, vs, rel, dof⟩ := dk_rd J.hok at1
  obtain ⟨ep, dat⟩ := dof.dictAt
  obtain ⟨ob, es, there, shape, _⟩ := id dat
  refine ⟨"dict", "dict.values", F.plainAttrs_dict, F.slot_dict_values, F.type_dict_values, ⟨ob, there, shape.1⟩, (fun b e => by cases e; exact ⟨ob, there, shape.2.1⟩), Calls.callWith_builtin rfl (PySem.evalArgs_none (call_meetsIn F.slot_dict_values ⟨ob, there, shape.1⟩ F.entry_dict_values (F.args_dict_values_1 _) (meets_dict_values (mixKind X.prog X.w) a sys) ⟨⟨vs, dof⟩, ?_⟩))⟩
  have old : ∀ b u, t.heap.get? b = some u → (t.heap.push { cls := .type "dict_values", data := .fields #[.ref a] }).get? b = some u := fun b u e => Heap.get?_push_of_some _ e
  have J2 : Inv X pins σ G { t with heap := t.heap.push { cls := .type "dict_values", data := .fields #[.ref a] } } := J.kept (t' := t.toks) old
  refine PySem.W.kdl_call (PySem.W.kdl_values (knd := mixKind X.prog X.w) (kvs := vs) (ep := ep) (r := t.heap.objs.size) (d := a)) (J2.ok.hd calm) ⟨⟨_, Heap.get?_push_size _ rfl, rfl, rfl⟩, dat.keep old⟩ (by rw [← rel.length]; exact size) fun h' tk acc c' keep new items => ?_
  have each : Vals (kvs.map (·.2)) acc.toList := vals_each (by rw [Array.length_toList, items.1, List.length_map, rel.length]) fun j u e => by
    obtain ⟨k, e1⟩ := items.2 j u (by rw [← Array.getElem?_toList]; exact e)
    obtain ⟨y, e2, r⟩ := KV.at' rel e1
    exact ⟨y, by rw [List.getElem?_map, e2]; rfl, r⟩
  exact ⟨.ref _, upd G _ (.lst (kvs.map (·.2))), J2.laid (t' := tk) keep (Nat.le_refl _) (show ObjOk X.prog X.w _ _ _ (.lst (kvs.map (·.2))) from ⟨by rw [List.length_map]; exact size, acc.toList, c', each, by rw [Array.toArray_toList]; exact new⟩), rfl, q _ (J2.hok.fresh (Nat.le_refl _))⟩
def eVals (ef : EF) : EF := fun Γ => (ef Γ).bind fun Γ1 t => match t with
  | .dct kvs => .ok Γ1 (.lst (kvs.map (·.2)))
  | _ => .stuck
theorem RepD.vals {K : PySem.W.Frag} {cm : Cm} {H : Hp} : ∀ {ts : List (Key × T)} {xs : List (Key × V)} {F : List Addr}, RepD K cm H ts xs F → Reps K cm H (ts.map (·.2)) (xs.map (·.2)) F
  | [], _, _, h => by rw [h.1, h.2]; exact ⟨rfl, rfl⟩
  | (k, t) :: ts, _, _, h => by
    obtain ⟨x, r, F1, F2, rfl, rfl, h1, h2⟩ := h
    exact .cons h1 (RepD.vals h2)
theorem ee_vals {cm : Cm} {mo : List Mode} {E : XK} {k : Kd} {ef : EF} {o : Expr} {p pos apos mpos : Pos} (calm : X.calm = true) (hg : Gl X "list") (hm : X.mg "list" = none) (l : kle k .shared = true) (ha : Ee X cm mo E k o ef) (base : attributeBase o "values" X.env (eval o X.env) = eval o X.env := by rfl) (line : (apos.endLine == mpos.line) = true := by rfl)
    (star : starEach [Expr.Call (.Attribute o "values" apos) [] [] mpos] X.env = [(false, eval (Expr.Call (.Attribute o "values" apos) [] [] mpos) X.env)] := by rfl) :
    Ee X cm mo E .fr1 (.Call (.Name "list" p) [.Call (.Attribute o "values" apos) [] [] mpos] [] pos) (eVals ef) := PE.imp (pe_vals calm hg hm ha base line star) fun σ H Q ⟨W, Γ, e1, r0, q⟩ => by
  subst e1
  refine ⟨W, Γ, rfl, r0, PostE.imp (PostE.bind q) fun t W1 Γ1 ex r1 f1 q1 v G h kk => ?_⟩
  have q1 := q1 Γ1 ex r1 f1
  cases t with
  | dct kvs =>
    obtain ⟨a, xs, G', rfl, rd, s, rfl⟩ := h
    refine ⟨a, xs, rfl, s, fun p hp => ?_⟩
    have sm := same_upd (o := HO.lst (xs.map (·.2))) hp
    have ks : KOk .shared W W1 G' := fun x hx => (kk.le l) x (List.mem_cons_of_mem _ hx)
    have tr : ∀ x ∈ G', Tr W1.H x := fun x hx => (RepD.vals rd).tr _ _ _ x hx
    exact q1 { W1 with H := upd W1.H p (.lst (xs.map (·.2))) } (r1.same sm) (same_fr sm) (.ref p) (p :: G') ⟨p, xs.map (·.2), G', rfl, (RepD.vals rd).same sm, upd_same, rfl⟩ (kok_new (kd := .shared) f1 tr rfl ks r1 hp trivial)
  | _ => exact (show False from q1).elim
end
end Tm
namespace Tm
open PySem PySem.Spec PyProof.Rows L2
/-! ### sorted(set(t)), t a tuple of ints -/
def rSetT (X : Cx) : List V → Hp → VK → Prop := fun xs H Q => ∃ (a : Addr) (ns : List Int), xs = [V.ref a] ∧ SqT X.K H a (ns.map V.int) ∧ ns.length < 1000 ∧ ∀ p c, H p = none → c ≤ ns.length → Q (.ref p) (upd H p (SetO X.w p (fun j => decide (j ∈ ns)) c))
theorem cr_setT {X : Cx} (calm : X.calm = true) : CallR X (.type "set") (rSetT X) := by
  intro pins s σ H xs us Q I r h
  obtain ⟨a, ns, rfl, sq, small, q⟩ := h
  rw [Vals.ref1 r]
  obtain ⟨its, rv, tp, _⟩ := I.tuple sq
  refine call_set_tupI ns (I.ok.hd calm) tp (by simpa using ints_of_vals rv) (by unfold scanBound; omega) fun h' tk c R le keep => ?_
  exact ⟨.ref _, upd H s.heap.objs.size (SetO X.w s.heap.objs.size (fun j => decide (j ∈ ns)) c), I.laid (t' := tk) keep (Nat.le_refl _) (setO_new R), rfl, q _ _ (I.hok.fresh (Nat.le_refl _)) le⟩
def ddI : List Int → List Int
  | [] => []
  | x :: xs => if x ∈ ddI xs then ddI xs else x :: ddI xs
theorem ddI_mem {x : Int} : ∀ {xs : List Int}, x ∈ ddI xs ↔ x ∈ xs
  | [] => Iff.rfl
  | y :: ys => by
    unfold ddI
    split
    · rename_i h
      rw [ddI_mem (xs := ys), List.mem_cons]
      exact ⟨.inr, fun q => q.elim (fun e => by rw [e]; exact ddI_mem.mp h) id⟩
    · rw [List.mem_cons, List.mem_cons, ddI_mem (xs := ys)]
theorem ddI_nodup : ∀ (xs : List Int), (ddI xs).Nodup
  | [] => List.nodup_nil
  | y :: ys => by
    unfold ddI
    split
    · exact ddI_nodup ys
    · rename_i h
      exact List.nodup_cons.mpr ⟨h, ddI_nodup ys⟩
theorem rise_eq : ∀ {l1 l2 : List Int}, l1.Pairwise (· < ·) → l2.Pairwise (· < ·) → (∀ x, x ∈ l1 ↔ x ∈ l2) → l1 = l2
  | [], [], _, _, _ => rfl
  | [], y :: l2, _, _, h => by have := (h y).mpr List.mem_cons_self; cases this
  | x :: l1, [], _, _, h => by have := (h x).mp List.mem_cons_self; cases this
  | x :: l1, y :: l2, p1, p2, h => by
    rw [List.pairwise_cons] at p1 p2
    have xy : x = y := by
      have h1 : x ∈ y :: l2 := (h x).mp List.mem_cons_self
      have h2 : y ∈ x :: l1 := (h y).mpr List.mem_cons_self
      rcases List.mem_cons.mp h1 with e | a
      · exact e
      · rcases List.mem_cons.mp h2 with e | b
        · exact e.symm
        · have := p2.1 x a
          have := p1.1 y b
          omega
    subst xy
    rw [rise_eq p1.2 p2.2 fun z => ?_]
    constructor
    · intro hz
      refine (List.mem_cons.mp ((h z).mp (List.mem_cons_of_mem _ hz))).resolve_left fun e => ?_
      have := p1.1 z hz
      omega
    · intro hz
      refine (List.mem_cons.mp ((h z).mpr (List.mem_cons_of_mem _ hz))).resolve_left fun e => ?_
      have := p2.1 z hz
      omega
theorem sd_rise (ns : List Int) : (sortI (ddI ns)).Pairwise (· < ·) := by
  obtain ⟨p, s⟩ := sortI_spec (ddI ns)
  have nd : (sortI (ddI ns)).Nodup := p.nodup_iff.mpr (ddI_nodup ns)
  exact (List.Pairwise.and s nd).imp fun ⟨a, b⟩ => by omega
theorem sd_mem {ns : List Int} {x : Int} : x ∈ sortI (ddI ns) ↔ x ∈ ns := by
  obtain ⟨p, s⟩ := sortI_spec (ddI ns)
  rw [p.mem_iff, ddI_mem]
theorem reps_sd {K : PySem.W.Frag} {cm : Cm} {H : Hp} : ∀ ns : List Int, Reps K cm H (ns.map T.int) (ns.map V.int) []
  | [] => ⟨rfl, rfl⟩
  | n :: ns => ⟨V.int n, ns.map V.int, [], [], rfl, rfl, ⟨rfl, rfl⟩, reps_sd ns⟩
def eSrtSet (ef : EF) : EF := fun Γ => (ef Γ).bind fun Γ1 t => match t with
  | .tup ts => (match tints ts with
    | some ns => if ns.length < 60 then .ok Γ1 (.lst ((sortI (ddI ns)).map T.int)) else .stuck
    | none => .stuck)
  | _ => .stuck
section
variable {X : Cx} {cm : Cm} {mo : List Mode} {E : XK} {k : Kd} {ef : EF} {e : Expr} {p p2 pos pos2 : Pos}
theorem ee_srtSet (calm : X.calm = true) (hg : Gl X "sorted") (hm : X.mg "sorted" = none) (hg2 : Gl X "set") (hm2 : X.mg "set" = none) (ha : Ee X cm mo E k e ef)
    (hs : starEach [e] X.env = (false, eval e X.env) :: starEach [] X.env := by rfl) (hs2 : starEach [Expr.Call (.Name "set" p2) [e] [] pos2] X.env = (false, eval (Expr.Call (.Name "set" p2) [e] [] pos2) X.env) :: starEach [] X.env := by rfl) :
    Ee X cm mo E .fr1 (.Call (.Name "sorted" p) [.Call (.Name "set" p2) [e] [] pos2] [] pos) (eSrtSet ef) :=
  PE.imp (pe_callB (cr_sortedSet calm) hg hm PyProof.Rows.boot_sorted (pa_cons (pe_callTy (T := "set") (cr_setT calm) hg2 hm2 (by first | rfl | decide +kernel) (pa_cons ha pa_nil hs) (he := hs)) pa_nil hs2) (he := hs2)) fun σ H Q ⟨W, Γ, e1, r0, q⟩ => by
  subst e1
  refine ⟨W, Γ, rfl, r0, PostE.imp (PostE.bind q) fun t W1 Γ1 ex r1 f1 q1 v G h kk => ?_⟩
  have q1 := q1 Γ1 ex r1 f1
  cases t with
  | tup ts =>
    simp only at q1
    cases ei : tints ts with
    | none => rw [ei] at q1; exact (show False from q1).elim
    | some ns =>
      rw [ei] at q1
      simp only at q1
      by_cases hl : ns.length < 60
      case neg => rw [if_neg hl] at q1; exact (show False from q1).elim
      rw [if_pos hl] at q1
      obtain ⟨a, xs, rfl, s, rr⟩ := h
      rw [tints_eq ei] at rr
      rw [(Reps.ints rr).1] at s
      refine ⟨a, ns, rfl, .inl s.1, by omega, fun p c hp hc => ⟨p, fun j => decide (j ∈ ns), c, rfl, upd_same, by omega, fun ys p3 so me _ hp3 => ?_⟩⟩
      have e2 : ys = sortI (ddI ns) := rise_eq so (sd_rise ns) fun x => by rw [me x, sd_mem]; simp
      rw [e2]
      have s1 := same_upd (o := SetO X.w p (fun j => decide (j ∈ ns)) c) hp
      have s2 := same_upd (o := HO.lst ((sortI (ddI ns)).map V.int)) hp3
      have r2 := r1.same s1
      have mk := kok_new (kd := .imm) (W := W) (W1 := { W1 with H := upd W1.H p (SetO X.w p (fun j => decide (j ∈ ns)) c) }) (G := []) (f1.trans (same_fr s1)) (fun x hx => by cases hx) rfl rfl r2 hp3 (o := HO.lst ((sortI (ddI ns)).map V.int)) trivial
      exact q1 { W1 with H := _ } (r2.same s2) ((same_fr s1).trans (same_fr s2)) (.ref p3) [p3] ⟨p3, (sortI (ddI ns)).map V.int, [], rfl, reps_sd _, upd_same, rfl⟩ mk
  | _ => exact (show False from q1).elim
end
end Tm
namespace Tm
open PySem PySem.Spec PyProof.Rows L2
/-! ### a statement that changes nothing: every slot is a view meanwhile, then all is as before -/
def sFrz (m : SF) : SF := fun Γ => match m Γ with
  | .nx _ => .nx Γ | .rt t _ => .rt t Γ | .ex c _ => .ex c Γ | _ => .stuck
theorem s_frz {X : Cx} {cm : Cm} {mo mo1 rr : List Mode} {J : Exits} {E : XK} {st : Stmt} {m : SF} {fi : List Nat} (l : kle .imm J.k = true) (hr : mleL J.r mo = true) (hfi : ∀ i ∈ J.fi, i ∈ fi) (hd : ∀ i, i < mo.length → md mo i ≠ .dead → i ∈ fi) (h1 : mo1.length = mo.length) (h2 : rr.length = mo.length)
    (h : Sm X cm ⟨[], [], rr, .imm, fi⟩ E (frz mo) st mo1 m) : Sm X cm J E mo st mo (sFrz m) := PS.imp h fun D σ H ⟨W, Γ, e1, r, q⟩ => by
  subst e1
  obtain ⟨W2, e2, r2, f2⟩ := r.weak (frz_le mo)
  have nC : ∀ x, ¬ W2.C x := fun x c => by
    obtain ⟨Os, r3⟩ := r2
    obtain ⟨i, hi, _⟩ := (r3.hC x).mp c
    rw [frz_md] at hi; cases hi
  have sm : ∀ {W3}, Fr W2 W3 → Same W.H W3.H := fun f b o e => f.keep b o (by rw [e2]; exact e) (nC b)
  have back : ∀ {mo2 : List Mode} {W3 : Wd} {σ3 : L2.St} {Γ3 : Env}, mo2.length = mo.length → R X.K cm mo2 W3 σ3 Γ3 → Fr W2 W3 → Fx fi σ σ3 → R X.K cm mo { W with H := W3.H } σ3 Γ := fun hl r3 f3 x3 => by
    refine (r.same (sm f3)).dead (by rw [r3.ls, hl, r.ls]) rfl fun i hi => ⟨x3 i (hd i (md_lt hi) hi), rfl⟩
  have fx : ∀ {σ3 : L2.St}, Fx fi σ σ3 → Fx J.fi σ σ3 := fun x i hi => x i (hfi i hi)
  refine ⟨W2, Γ, e2, r2, ?_⟩
  unfold sFrz at q
  cases e : m Γ with
  | nx Γ1 =>
    rw [e] at q
    exact fun σ3 W3 r3 f3 x3 => q σ3 { W with H := W3.H } (back h1 r3 f3 x3) (same_fr (sm f3)) (fx x3)
  | rt t Γ1 =>
    rw [e] at q
    intro σ3 W3 v G r3 f3 x3 hrep kk
    obtain ⟨W4, e4, r4, f4⟩ := (back h2 r3 f3 x3).weak hr
    have kk : G = [] := kk
    subst kk
    have := q σ3 W4 v [] r4 ((same_fr (sm f3)).trans f4) (fx x3) (by rw [e4]; exact hrep) (KOk.le (k := .imm) l rfl)
    rw [e4] at this; exact this
  | ex c Γ1 =>
    rw [e] at q
    intro σ3 W3 r3 f3 x3
    obtain ⟨W4, e4, r4, f4⟩ := (back h2 r3 f3 x3).weak hr
    have := q σ3 W4 r4 ((same_fr (sm f3)).trans f4) (fx x3)
    rw [e4] at this; exact this
  | bk Γ1 => rw [e] at q; exact (show False from q).elim
  | ct Γ1 => rw [e] at q; exact (show False from q).elim
  | stuck => rw [e] at q; exact (show False from q).elim
/-! ### d.clear() -/
def lmDClear : T → List T → Option (T × T)
  | .dct _, [] => some (.dct [], .non) | _, _ => none
theorem lm_dclear {K : PySem.W.Frag} {cm : Cm} : MtT K cm rDClear lmDClear := fun t args t' res e H v a G vs F h m nG hF nF Q q => by
  unfold lmDClear at e
  split at e
  · cases e
    obtain ⟨b, xs, G', rfl, r, s, eq⟩ := h
    cases eq
    obtain ⟨rfl, rfl⟩ := hF
    have s : H a = some (.dK xs) := by
      rcases s with s | ⟨o, s⟩
      · exact s
      · rw [s] at m; exact m.elim
    exact ⟨a, xs, rfl, rfl, s, q _ [] _ [] trivial ⟨a, _, _, rfl, ⟨rfl, rfl⟩, .inl upd_same, rfl⟩ (fun x hx => by cases hx) ⟨rfl, rfl⟩ fun x hx => by cases hx⟩
  · cases e
end Tm
namespace Tm
open PySem PySem.Spec PyProof.Rows L2
/-! ### l.extend(t), t a tuple -/
theorem ext_tup {l b : Addr} {xs ys : Array Value} {n k : Nat} {od : Option Addr} {osl : Array (Option Value)} (room : ¬(!xs.isEmpty && Builtin.List.listTooLong (xs.size + ys.size)) = true) (small : xs.size ≤ sizeLine) (both : xs.size + ys.size ≤ sizeLine + 1) :
    Meets (Builtin.«list.extend» ⟨[.ref l, .ref b], []⟩) (fun _ R s => s.heap.get? l = some { cls := .type "list", dict := none, data := .seq xs n, slots := #[] } ∧
      s.heap.get? b = some { cls := .type "tuple", dict := od, data := .seq ys k, slots := osl } ∧ R (.ok (.ret Value.none)) { s with heap := s.heap.update l (Obj.mapSeq fun x => x ++ ys), toks := s.toks }) :=
  .of_wp fun P w A R st h => by
    obtain ⟨hp, g, d, tk, os⟩ := st
    obtain ⟨at1, at2, fin⟩ := h
    have c1 := AutoSeq1.idx_int
    have c2 := AutoSeq1.sub_tuple_tuple
    have c3 := AutoSeq1.sub_list_list
    have c4 := AutoSeq1.sub_tuple_list
    have c5 := AutoSeq1.sub_list_tuple
    have fits : (xs ++ ys).size ≤ sizeLine + 1 := by rw [Array.size_append]; exact both
    wp_walk using (wpAny_updateSeq at1 rfl (hz := small) (_hz' := fits)), AutoSeq1.wpAny_loadPart' at1, AutoSeq1.wpAny_loadPart' at2
    exact ⟨_, rfl, fin⟩
def rExtT : V → List V → Hp → VK → Prop := fun x vs H Q => ∃ (l b : Addr) (xs zs : List V), x = .ref l ∧ vs = [.ref b] ∧ H l = some (.lst xs) ∧ Rd H b (.tup zs) ∧ xs.length + zs.length ≤ sizeLine ∧ Q .non (upd H l (.lst (xs ++ zs)))
theorem mt_extT {X : Cx} : MtM X "list.extend" rExtT := by
  intro pins s σ H x vs v us Q I rx rv h
  obtain ⟨l, b, xs, zs, rfl, rfl, hH, hB, hz, q⟩ := h
  obtain rfl : v = Value.ref l := rx
  obtain ⟨u, rfl, ru⟩ := rv.one
  obtain rfl : u = Value.ref b := ru
  obtain ⟨z, its, n, r, hl, e⟩ := I.lstM hH
  obtain ⟨its2, r2, ⟨o2, e2, oc, n2, od⟩, hl2⟩ := I.tuple (.inl hB)
  have len2 := r2.length
  obtain ⟨ocls, odict, odata, oslots⟩ := o2
  simp only at oc od
  subst oc
  subst od
  have hsz : its.toArray.size + its2.toArray.size ≤ sizeLine := by rw [List.size_toArray, List.size_toArray]; omega
  have room : ¬ (!its.toArray.isEmpty && Builtin.List.listTooLong (its.toArray.size + its2.toArray.size)) = true := by
    rw [notLongL hsz, Bool.and_false]
    exact Bool.false_ne_true
  refine call_meets PySem.F.slot_list_extend ⟨_, e, rfl⟩ PySem.F.entry_list_extend (PySem.F.args_list_extend_2 _ _) (ext_tup room (by omega) (by omega)) ⟨e, e2, ?_⟩
  refine ⟨.non, _, I.lset (its' := its ++ its2) hH e (by simp) (r.append r2) ?_, rfl, q⟩
  rw [List.length_append]
  omega
def lmExtend : T → List T → Option (T × T)
  | .lst xs, [.tup ts] => if xs.length + ts.length ≤ 100000 then some (.lst (xs ++ ts), .non) else none | _, _ => none
theorem lm_extend {K : PySem.W.Frag} {cm : Cm} : MtT K cm rExtT lmExtend := fun t args t' res e H v a G vs F h m nG hF nF Q q => by
  unfold lmExtend at e
  split at e
  · split at e
    · rename_i hlen
      cases e
      obtain ⟨xs, rfl, s, r, kp⟩ := lm_lst h m nG hF nF
      obtain ⟨y, rfl, hy⟩ := hF.arg1
      obtain ⟨b, zs, rfl, hb, rz⟩ := hy
      have rz' := rz.kp (kp_root (o := .lst (xs ++ zs)) m) _ _ _ nF
      refine ⟨a, b, xs, zs, rfl, rfl, s, hb.1, Nat.le_trans (by rw [r.len, rz.len]; exact hlen) (by decide), q _ (G ++ F) _ [] trivial ?_ (fun x hx => List.mem_append.mp hx) ⟨rfl, rfl⟩ fun x hx => by cases hx⟩
      exact ⟨a, _, _, rfl, (kp _).1.append rz', upd_same, rfl⟩
    · cases e
  · cases e
end Tm
namespace Tm
open PySem PySem.Spec PyProof.Rows L2
/-! ### list(range(i, j)) of any whole numbers -/
section
variable {P : Program} {w : World} {A : Around} {E : Value → Shared → Prop} {s : Shared}
/-- the list L, empty, takes in what a wide range tells -/
theorem long_in {R : Result → Shared → Prop} {rg L : Addr} {lo hi st : Int} {t1 t2 t3 : Tok} {m c0 : Nat} {back : Value} (calm : A.handled = none) (at1 : IsRange s.heap rg lo hi st t1 t2 t3)
    (wide : Builtin.Range.small lo hi st = false) (size : Builtin.Range.rangeSize lo hi st = m) (few : m ≤ 2 ^ 24) (at2 : s.heap.get? L = some { cls := .type "list", data := .seq #[] c0 })
    (fin : ∀ h2 tk ys c2, (∀ b o, b ≠ L → s.heap.get? b = some o → h2.get? b = some o) → h2.get? L = some { cls := .type "list", dict := none, data := .seq ys c2, slots := #[] } →
      ItemsOf (fun i v => ∃ t, v = .int (lo + i * st) t) ys m → R (.ok (.ret back)) { s with heap := h2, toks := tk }) :
    wpAny (model P w) A.in1 (Builtin.List.listExtendWith (.ref L) (.ref rg) back)
      (fun f s2 => match f with | .done g => R (.ok g) s2 | .again code => code.quiet = true ∧ codeAny (model P w) A code R s2) (fun e s2 => R (.error e) s2) s := by
  have below : L < s.heap.objs.size := Heap.lt_size at2
  have apart : L ≠ s.heap.objs.size := Nat.ne_of_lt below
  have other : L ≠ rg := fun q => by rw [q, at1] at at2; simp at at2
  have loop : ∀ (h : Heap) (c tk : Nat), IsLongIter h s.heap.objs.size (lo + ((0 : Nat) : Int) * st) ((m : Int) - ((0 : Nat) : Int)) st → (∀ b o, b ≠ L → s.heap.get? b = some o → h.get? b = some o) →
      h.get? L = some { cls := .type "list", data := .seq #[] c } → codeAny (model P w) A (.builtin "list.extend.loop" ⟨[.ref L, .ref s.heap.objs.size, back], []⟩) R { s with heap := h, toks := tk } := fun h c tk it old here => by
    refine codeAny_extend_loopS (Walks.longrange (prog := P) (w := w) (A := A.in1) calm s.heap.objs.size lo st m).toS (by rw [sizeLine_eq]; omega) L (fun q => apart (List.mem_singleton.mp q)) back m 0 _ #[] c rfl (Nat.zero_le _) it here (ItemsOf.nil _) ?_
    intro s2 ys c2 moved here2 told
    rw [Moved.eq_with moved]
    refine fin s2.heap s2.toks ys c2 (fun b o nb eb => moved.heap b o ?_ (old b o nb eb)) here2 told
    intro q
    rcases List.mem_cons.mp q with q | q
    · exact nb q
    · have := Heap.lt_size eb
      rw [List.mem_singleton.mp q] at this
      exact Nat.lt_irrefl _ this
  unfold Builtin.List.listExtendWith
  refine wpAny_bind (wpAny_typeOf (T := "range") ⟨_, at1, rfl⟩ ?_)
  rw [show Builtin.List.listSameRef (.ref L) (.ref rg) = false by simp [Builtin.List.listSameRef, other], show (Value.type "range" == Value.type "list") = false from by decide, show (Value.type "range" == Value.type "tuple") = false from by decide]
  simp only [Bool.or_self, Bool.false_eq_true, if_false]
  refine wpAny_bind (wpAny_pyIter_longrange at1 wide ?_)
  refine wpAny_bind (wpAny_holding (wpAny_hint_range (n := m) (Heap.get?_push_of_some _ at1) size few ?_))
  have it0 : IsLongIter (s.heap.push { cls := .type "longrange_iterator", data := .fields #[rawInt lo, rawInt (Builtin.Range.rangeSize lo hi st), rawInt st] }) s.heap.objs.size (lo + ((0 : Nat) : Int) * st) ((m : Int) - ((0 : Nat) : Int)) st := by
    rw [size]
    show Heap.get? _ _ = _
    simpa using Heap.get?_push_size _ rfl
  have here0 := Heap.get?_push_of_some { cls := .type "longrange_iterator", data := .fields #[rawInt lo, rawInt (Builtin.Range.rangeSize lo hi st), rawInt st] } at2
  refine wpAny_ite_split (fun _ => ?_) fun _ => wpAny_pure ⟨plainId_quiet F.plain_extend_loop _, loop _ c0 _ it0 (fun b o _ eb => Heap.get?_push_of_some _ eb) here0⟩
  refine wpAny_bind (wpAny_rule (wpAny_bind ?_))
  show wpAny _ _ (updateSeq L (·.push .none) >>= fun _ => updateSeq L (·.pop)) _ _ _
  refine wpAny_bind (wpAny_updateSeq here0 rfl ?_)
  have here1 := Heap.get?_update_self (Obj.mapSeq (·.push Value.none)) here0 rfl
  refine wpAny_updateSeq (hz := by seq_fits) here1 rfl (wpAny_pure ⟨plainId_quiet F.plain_extend_loop _, loop _ _ _ ?_ (fun b o nb eb => ?_) (Heap.get?_update_self (Obj.mapSeq (·.pop)) here1 rfl)⟩)
  · exact ((Heap.get?_update_other _ _ apart).trans (Heap.get?_update_other _ _ apart)).trans it0
  · exact ((Heap.get?_update_other _ _ (Ne.symm nb)).trans (Heap.get?_update_other _ _ (Ne.symm nb))).trans (Heap.get?_push_of_some _ eb)
theorem long_list {Q : Value → Shared → Prop} {rg : Addr} {lo hi st : Int} {t1 t2 t3 : Tok} {m : Nat} (calm : A.handled = none) (at1 : IsRange s.heap rg lo hi st t1 t2 t3)
    (wide : Builtin.Range.small lo hi st = false) (size : Builtin.Range.rangeSize lo hi st = m) (few : m ≤ 2 ^ 24)
    (fin : ∀ h2 tk ys c2, (∀ b o, s.heap.get? b = some o → h2.get? b = some o) → h2.get? s.heap.objs.size = some { cls := .type "list", dict := none, data := .seq ys c2, slots := #[] } →
      ItemsOf (fun i v => ∃ t, v = .int (lo + i * st) t) ys m → Q (.ref s.heap.objs.size) { s with heap := h2, toks := tk }) : wpAny (model P w) A (call (.type "list") [.ref rg]) Q E s := by
  refine callType_codes (Q₁ := fun v s2 => v = .ref s.heap.objs.size ∧ s2 = { s with heap := s.heap.push { cls := .type "list", data := .seq #[] } }) PySem.F.called_list (PySem.F.typeCall_list_1 _) PySem.F.entry_list_init
    (code_list_new _ ⟨rfl, rfl⟩) fun v s2 hv => ?_
  obtain ⟨rfl, rfl⟩ := hv
  have made : (s.heap.push { cls := .type "list", data := .seq #[] }).get? s.heap.objs.size = some { cls := .type "list", data := .seq #[] } := Heap.get?_push_size _ rfl
  have kept : ∀ b o, s.heap.get? b = some o → b ≠ s.heap.objs.size := fun b o eb => Nat.ne_of_lt (Heap.lt_size eb)
  refine ⟨⟨_, made, rfl⟩, PySem.F.args_list_init_2 _ _, ?_⟩
  show wpAny _ _ (do let old ← Builtin.List.listItems (.ref s.heap.objs.size); Builtin.List.listUpdate (.ref s.heap.objs.size) (fun _ => #[]); letGo old.toList.reverse; Builtin.List.listExtendWith (.ref s.heap.objs.size) (.ref rg) .none) _ _ _
  unfold Builtin.List.listItems
  refine wpAny_bind (wpAny_bind (wpAny_seqItems made rfl (wpAny_pure ?_)))
  show wpAny _ _ (updateSeq s.heap.objs.size (fun _ => #[]) >>= fun _ => letGo (#[] : Array Value).toList.reverse >>= fun _ => Builtin.List.listExtendWith (.ref s.heap.objs.size) (.ref rg) .none) _ _ _
  refine wpAny_bind (wpAny_updateSeq made rfl (wpAny_bind (wpAny_letGo ?_)))
  have old : ∀ b o, s.heap.get? b = some o → ((s.heap.push { cls := .type "list", data := .seq #[] }).update s.heap.objs.size (Obj.mapSeq (fun _ => (#[] : Array Value)))).get? b = some o :=
    fun b o eb => (Heap.get?_update_other _ _ (Ne.symm (kept b o eb))).trans (Heap.get?_push_of_some _ eb)
  refine long_in (A := A.in1) calm (old rg _ at1) wide size few (Heap.get?_update_self (Obj.mapSeq (fun _ => (#[] : Array Value))) made rfl) fun h2 tk ys c2 keep here told => ?_
  exact ⟨rfl, fin h2 tk ys c2 (fun b o eb => keep b o (kept b o eb) (old b o eb)) here told⟩
end
def tLstRgW (te : L2.St → Hp → (Int → Int → Hp → Prop) → Prop) : TE := fun σ H Q => te σ H fun a b H1 => (b - a).toNat ≤ 2 ^ 24 ∧ ∀ q, H1 q = none → Q (.ref q) (upd H1 q (.lst (rgV a b)))
theorem pe_listRgW {X : Cx} {e : Expr} {te : L2.St → Hp → (Int → Int → Hp → Prop) → Prop} {p pos : Pos} (calm : X.calm = true) (hg : Gl X "list") (hm : X.mg "list" = none) (he : PRg X e te)
    (na : starEach [e] X.env = (false, eval e X.env) :: starEach [] X.env := by rfl) : PE X (.Call (.Name "list" p) [e] [] pos) (tLstRgW te) := ⟨fun pins s σ H Q I h => by
  refine Call_ (ld_blt I hg hm boot_list (PyProof.Rows.callWith_type1 (args_cons (thn (he pins s σ H _ I h) fun x s1 hx => args_nil ?_) na) na))
  obtain ⟨rg, lo, hi, t1, t2, t3, H1, rfl, at1, I1, few, q⟩ := hx
  have end1 : ∀ (h2 : Heap) (tk : Nat) (ys : Array Value) (c2 : Nat), (∀ b o, s1.heap.get? b = some o → h2.get? b = some o) → h2.get? s1.heap.objs.size = some { cls := .type "list", dict := none, data := .seq ys c2, slots := #[] } →
      ItemsOf (fun i v => ∃ t, v = .int (lo + i * 1) t) ys (hi - lo).toNat → EP X pins σ Q (.ref s1.heap.objs.size) { s1 with heap := h2, toks := tk } := fun h2 tk ys c2 keep here told => by
    have len : (rgV lo hi).length ≤ sizeLine := by rw [rgV_length, sizeLine_eq]; omega
    have ob : ObjOk X.prog X.w (upd H1 s1.heap.objs.size (.lst (rgV lo hi))) h2 s1.heap.objs.size (.lst (rgV lo hi)) := ⟨len, ys.toList, c2, vals_rg told, by rw [Array.toArray_toList]; exact here⟩
    exact ⟨.ref s1.heap.objs.size, _, I1.laid keep (Nat.le_refl _) ob, rfl, q _ (I1.hok.fresh (Nat.le_refl _))⟩
  cases wide : Builtin.Range.small lo hi 1 with
  | true => exact call_list_range (n := (hi - lo).toNat) (I1.ok.hd calm) at1 wide (rangeSize_nat lo hi) few end1
  | false => exact long_list (m := (hi - lo).toNat) (I1.ok.hd calm) at1 wide (rangeSize_nat lo hi) few end1⟩
/-- the whole numbers from i on, below j; a thousand at most -/
def rgW : T → T → Option T
  | .int i, .int j => if (j - i).toNat ≤ 1000 then some (.lst ((List.range (j - i).toNat).map fun k : Nat => T.int (i + (k : Int)))) else none
  | _, _ => none
theorem rgW_rep {K : PySem.W.Frag} {cm : Cm} {H : Hp} {a b : Int} : Reps K cm H ((List.range (b - a).toNat).map fun k : Nat => T.int (a + (k : Int))) (rgV a b) [] := by
  have e1 : ((List.range (b - a).toNat).map fun k : Nat => T.int (a + (k : Int))) = (((List.range (b - a).toNat).map fun k : Nat => a + (k : Int))).map T.int := by rw [List.map_map]; rfl
  have e2 : rgV a b = (((List.range (b - a).toNat).map fun k : Nat => a + (k : Int))).map V.int := by unfold rgV; rw [List.map_map]; rfl
  rw [e1, e2]
  exact Reps.of_ints _
theorem ee_rg2W {X : Cx} {cm : Cm} {mo : List Mode} {E : XK} {a b : Expr} {pos p p1 p2 : Pos} {k1 k2 : Kd} {ef eg : EF} (hc : X.calm = true) (g1 : Gl X "list") (m1 : X.mg "list" = none) (g2 : Gl X "range") (m2 : X.mg "range" = none) (ha : Ee X cm mo E k1 a ef) (hb : Ee X cm mo E k2 b eg) (na : starEach [a, b] X.env = (false, eval a X.env) :: starEach [b] X.env := by rfl) (nb : starEach [b] X.env = (false, eval b X.env) :: starEach [] X.env := by rfl) (hp : (backTo p2 (starEach [b] X.env)).any (·.1) = false := by rfl)
    (nc : starEach [.Call (.Name "range" p1) [a, b] [] p2] X.env = (false, eval (.Call (.Name "range" p1) [a, b] [] p2) X.env) :: starEach [] X.env := by rfl) : Ee X cm mo E .fr1 (.Call (.Name "list" p) [.Call (.Name "range" p1) [a, b] [] p2] [] pos) (eBin rgW ef eg) := PE.imp (pe_listRgW hc g1 m1 (prg_2 g2 m2 ha hb na nb hp) nc) fun σ H Q ⟨W, Γ, e1, r0, q⟩ => by
  subst e1
  refine ⟨W, Γ, rfl, r0, PostE.imp (PostE.bind0 q) fun x W1 Γ1 ex r1 f1 q1 v1 G1 h1 kk1 => ⟨W1, Γ1, rfl, r1, PostE.imp (PostE.start (PostE.bind0 (q1 Γ1 ex r1 f1)) f1) fun y W2 Γ2 ey r2 f2 q2 v2 G2 h2 kk2 => ?_⟩⟩
  have f12 := f1.trans f2
  obtain ⟨c, ec, q3⟩ := PostE.of (q2 Γ2 ey r2 f12)
  cases x with
  | int n =>
    cases y with
    | int n2 =>
      unfold rgW at ec
      simp only at ec
      split at ec
      · rename_i few
        cases ec
        refine ⟨n, n2, h1.1, h2.1, Nat.le_trans few (by decide), fun p hp => ?_⟩
        exact q3 { W2 with H := _ } (r2.same (same_upd hp)) (f12.trans (same_fr (same_upd hp))) (.ref p) [p] ⟨p, _, [], rfl, rgW_rep, upd_same, rfl⟩ (kok_new (kd := .imm) f12 (fun x hx => by cases hx) rfl rfl r2 hp trivial)
      · cases ec
    | _ => cases ec
  | _ => cases ec
end Tm
namespace Tm
open PySem PySem.Spec PyProof.Rows L2
/-! ### set(l), l a list of ints -/
/-- a set, just made -/
abbrev nuSet (w : World) : Obj := { cls := .type "set", dict := none, data := .set #[] 0 (.fresh 0 0 (!w.params.followText "set-order")) }
section
variable {P : Program} {w : World} {A : Around} {E : Value → Shared → Prop} {s : Shared}
theorem set_of_list {l : Addr} {xs : Array Value} (ns : List Int) {Q : Value → Shared → Prop} (calm : A.handled = none) (isl : s.heap.IsList l xs) (hin : IntsAre xs.toList ns) (few : ns.length + 1 < scanBound)
    (fin : ∀ (h2 : Heap) (tk m : Nat), SetR w h2 s.heap.objs.size (fun j => decide (j ∈ ns)) m → m ≤ ns.length → (∀ b o, s.heap.get? b = some o → h2.get? b = some o) → Q (.ref s.heap.objs.size) { s with heap := h2, toks := tk }) :
    wpAny (model P w) A (call (.type "set") [.ref l]) Q E s := by
  have sz : xs.size = ns.length := by have := IntsAre.length hin; rwa [Array.length_toList] at this
  obtain ⟨c1, c2, c3⟩ := PySem.F.called_set.mro
  have k1 := PySem.F.called_set.made
  have k2 := PySem.F.called_set.sub
  refine wpAny_call (codeAny_of_tree ?_)
  show wpAny _ _ (callAny (.type "set") _) _ _ _
  refine wpAny_pure ⟨Code.quiet_builtin _ (by decide +kernel), codeAny_builtin PySem.F.entry_type_call ?_⟩
  rw [Around.under_plain (weight_type_call_type "set" [.ref l] []) rfl]
  have k3 := PySem.F.called_set.notType
  have k4 := PySem.F.called_set.canCreate
  have k5 := PySem.F.typeCall_set_1 (.ref l)
  repeat (any_goals (first | assumption | wp_step))
  -- the set is made
  refine codeAny_mono (code_set_led1 (.ref l) (E := E) (Q₁ := fun v s2 => v = .ref s.heap.objs.size ∧ s2 = { s with heap := s.heap.push (nuSet w) }) ⟨rfl, rfl⟩) fun r s2 q1 => ?_
  match r, q1 with
  | .error e, q1 => exact q1
  | .ok (.ret v), q1 => ?_
  | .ok .next, q1 => exact q1.elim
  | .ok .brk, q1 => exact q1.elim
  | .ok .cont, q1 => exact q1.elim
  obtain ⟨rfl, rfl⟩ := q1
  have it : (s.heap.push (nuSet w)).get? s.heap.objs.size = some (nuSet w) := Heap.get?_push_size _ rfl
  have ty : Shared.TypeIs { s with heap := s.heap.push (nuSet w) } (.ref s.heap.objs.size) "set" := ⟨_, it, rfl⟩
  have k6 := PySem.F.called_set.init.lookup
  have k7 := PySem.F.called_set.init.bind (.ref s.heap.objs.size)
  repeat (any_goals (first | assumption | wp_step))
  -- it takes in what the list has
  refine codeAny_mono (codeAny_call_builtin (R := wants (fun v s3 => v = .none ∧ ∃ h2 tk m, s3 = { s with heap := h2, toks := tk } ∧ SetR w h2 s.heap.objs.size (fun j => decide (j ∈ ns)) m ∧ m ≤ ns.length ∧ (∀ b o, s.heap.get? b = some o → h2.get? b = some o)) E)
    PySem.F.called_set.init.plain PySem.F.entry_set_init (check_set_init_1 ty ?_)) fun r s3 q2 => ?_
  · obtain ⟨⟨lc, ld, lt, lo⟩, il, e1, n1, e2⟩ := isl
    simp only at e1 e2
    subst e1
    subst e2
    have lay : (s.heap.push (nuSet w)).IsList l xs := ⟨_, Heap.get?_push_of_some _ il, rfl, n1, rfl⟩
    have il2 : (s.heap.push (nuSet w)).get? l = some { cls := .type "list", dict := ld, data := .seq xs n1, slots := lo } := Heap.get?_push_of_some _ il
    have k8 := PySem.F.sub_list_set
    have k9 := PySem.F.sub_list_frozenset
    have k10 : (Value.type "list" == Value.type "dict") = false := by decide
    unfold Builtin.«set.__init__» noKeywords Builtin.Frozenset.updateFrom
    generalize hold : pyIter = walkOf
    wp_walk
    subst hold
    refine wpAny_pyIter_list lay (wpAny_bind (wpAny_runValue ?_))
    have inl : l < s.heap.objs.size := Heap.lt_size il
    have grown : (s.heap.push (nuSet w)).objs.size = s.heap.objs.size + 1 := Heap.size_push ..
    refine set_update_ints ((Walks.list (by simp [calm]) _ l (by rw [grown]; exact Nat.ne_of_lt (Nat.lt_succ_of_lt inl)) xs).toS) s.heap.objs.size ?_ ns sz few ?_ (xs.size - 0) 0 _ (by omega) (Nat.zero_le _) ⟨⟨_, Heap.get?_push_size _ rfl, rfl, rfl⟩, lay.push _⟩ ⟨0, Nat.le_refl 0, setR_new_at (Heap.get?_push_of_some _ it)⟩ ?_
    · rw [grown]
      intro q
      rcases List.mem_cons.mp q with q | q
      · exact Nat.ne_of_lt (Nat.lt_succ_self _) q
      · exact Nat.ne_of_gt inl (List.mem_singleton.mp q)
    · intro i v hv
      have hi : i < ns.length := by rw [← sz]; exact (Array.getElem?_eq_some_iff.mp hv).1
      obtain ⟨t, ev⟩ := PyProof.Rows.IntsAre.int_at hin i v (by rw [Array.getElem?_toList]; exact hv)
      exact ⟨ns[i], t, List.getElem?_eq_getElem hi, by rw [ev, List.getD_eq_getElem?_getD, List.getElem?_eq_getElem hi]; rfl⟩
    · rintro ⟨h2, g2, d2, tk2, os2⟩ m moved hm made
      obtain rfl : g2 = s.gens := moved.gens
      obtain rfl : d2 = s.drawn := moved.drawn
      obtain rfl : os2 = s.os := moved.os
      show wpAny _ _ _ _ _ _
      refine wpAny_pure ?_
      show wpAny _ _ (ret Value.none) _ _ _
      refine wpAny_pure ⟨rfl, h2, tk2, m, rfl, made, by rw [sz] at hm; exact hm, fun b o eb => ?_⟩
      have hb := Heap.lt_size eb
      refine moved.heap b o (fun q => ?_) (Heap.get?_push_of_some _ (Heap.get?_push_of_some _ eb))
      rw [grown] at q
      rcases List.mem_cons.mp q with q | q
      · exact Nat.ne_of_lt hb q
      · exact Nat.ne_of_lt (Nat.lt_succ_of_lt hb) (List.mem_singleton.mp q)
  · match r, q2 with
    | .error e, q2 => exact q2
    | .ok .next, q2 => exact q2.elim
    | .ok .brk, q2 => exact q2.elim
    | .ok .cont, q2 => exact q2.elim
    | .ok (.ret v), q2 =>
      obtain ⟨rfl, h2, tk, m, rfl, made, hm, keep⟩ := q2
      repeat (any_goals (first | assumption | wp_step))
      exact fin _ _ _ made hm keep
end
/-! ### sorted(set(l)), l a list of ints -/
theorem nodup_le : ∀ {a b : List Int}, a.Nodup → a ⊆ b → a.length ≤ b.length
  | [], _, _, _ => Nat.zero_le _
  | x :: a, b, h, s => by
    rw [List.nodup_cons] at h
    have hx : x ∈ b := s List.mem_cons_self
    have := nodup_le (a := a) (b := b.erase x) h.2 fun y hy => (List.mem_erase_of_ne (fun e => h.1 (by rw [← e]; exact hy))).mpr (s (List.mem_cons_of_mem _ hy))
    rw [List.length_erase_of_mem hx] at this
    have : 0 < b.length := List.length_pos_of_mem hx
    rw [List.length_cons]
    omega
theorem setR_few {w : World} {h : Heap} {a : Addr} {ns : List Int} {m : Nat} (r : SetR w h a (fun j => decide (j ∈ ns)) m) : m ≤ (ddI ns).length := by
  obtain ⟨o, es, ep, t, _, _, _, _, nd, mem, _, _, size, _⟩ := r
  rw [← size, ← Array.length_toList, ← List.length_map (f := keyOf)]
  refine nodup_le nd fun x hx => ddI_mem.mpr ?_
  have := (mem x).mpr hx
  exact of_decide_eq_true this
def rSetL (X : Cx) : List V → Hp → VK → Prop := fun xs H Q => ∃ (a : Addr) (ns : List Int), xs = [V.ref a] ∧ SqL X.K H a (ns.map V.int) ∧ ns.length < 1000 ∧ ∀ p c, H p = none → c ≤ (ddI ns).length → Q (.ref p) (upd H p (SetO X.w p (fun j => decide (j ∈ ns)) c))
theorem cr_setL {X : Cx} (calm : X.calm = true) : CallR X (.type "set") (rSetL X) := by
  intro pins s σ H xs us Q I r h
  obtain ⟨a, ns, rfl, sq, small, q⟩ := h
  rw [Vals.ref1 r]
  obtain ⟨its, rv, tp, _⟩ := I.list sq
  refine set_of_list ns (I.ok.hd calm) tp.isList (by simpa using ints_of_vals rv) (by unfold scanBound; omega) fun h' tk c R le keep => ?_
  exact ⟨.ref _, upd H s.heap.objs.size (SetO X.w s.heap.objs.size (fun j => decide (j ∈ ns)) c), I.laid (t' := tk) keep (Nat.le_refl _) (setO_new R), rfl, q _ _ (I.hok.fresh (Nat.le_refl _)) (setR_few R)⟩
def eSrtSetL (ef : EF) : EF := fun Γ => (ef Γ).bind fun Γ1 t => match t with
  | .lst ts => (match tints ts with
    | some ns => if ns.length < 1000 ∧ (ddI ns).length < 60 then .ok Γ1 (.lst ((sortI (ddI ns)).map T.int)) else .stuck
    | none => .stuck)
  | _ => .stuck
section
variable {X : Cx} {cm : Cm} {mo : List Mode} {E : XK} {k : Kd} {ef : EF} {e : Expr} {p p2 pos pos2 : Pos}
theorem ee_srtSetL (calm : X.calm = true) (hg : Gl X "sorted") (hm : X.mg "sorted" = none) (hg2 : Gl X "set") (hm2 : X.mg "set" = none) (ha : Ee X cm mo E k e ef)
    (hs : starEach [e] X.env = (false, eval e X.env) :: starEach [] X.env := by rfl) (hs2 : starEach [Expr.Call (.Name "set" p2) [e] [] pos2] X.env = (false, eval (Expr.Call (.Name "set" p2) [e] [] pos2) X.env) :: starEach [] X.env := by rfl) :
    Ee X cm mo E .fr1 (.Call (.Name "sorted" p) [.Call (.Name "set" p2) [e] [] pos2] [] pos) (eSrtSetL ef) :=
  PE.imp (pe_callB (cr_sortedSet calm) hg hm PyProof.Rows.boot_sorted (pa_cons (pe_callTy (T := "set") (cr_setL calm) hg2 hm2 (by first | rfl | decide +kernel) (pa_cons ha pa_nil hs) (he := hs)) pa_nil hs2) (he := hs2)) fun σ H Q ⟨W, Γ, e1, r0, q⟩ => by
  subst e1
  refine ⟨W, Γ, rfl, r0, PostE.imp (PostE.bind q) fun t W1 Γ1 ex r1 f1 q1 v G h kk => ?_⟩
  have q1 := q1 Γ1 ex r1 f1
  cases t with
  | lst ts =>
    simp only at q1
    cases ei : tints ts with
    | none => rw [ei] at q1; exact (show False from q1).elim
    | some ns =>
      rw [ei] at q1
      simp only at q1
      by_cases hl : ns.length < 1000 ∧ (ddI ns).length < 60
      case neg => rw [if_neg hl] at q1; exact (show False from q1).elim
      rw [if_pos hl] at q1
      obtain ⟨a, xs, G', rfl, rr, s, rfl⟩ := h
      rw [tints_eq ei] at rr
      rw [(Reps.ints rr).1] at s
      refine ⟨a, ns, rfl, SqL.of s, by omega, fun p c hp hc => ⟨p, fun j => decide (j ∈ ns), c, rfl, upd_same, by omega, fun ys p3 so me _ hp3 => ?_⟩⟩
      have e2 : ys = sortI (ddI ns) := rise_eq so (sd_rise ns) fun x => by rw [me x, sd_mem]; simp
      rw [e2]
      have s1 := same_upd (o := SetO X.w p (fun j => decide (j ∈ ns)) c) hp
      have s2 := same_upd (o := HO.lst ((sortI (ddI ns)).map V.int)) hp3
      have r2 := r1.same s1
      have mk := kok_new (kd := .imm) (W := W) (W1 := { W1 with H := upd W1.H p (SetO X.w p (fun j => decide (j ∈ ns)) c) }) (G := []) (f1.trans (same_fr s1)) (fun x hx => by cases hx) rfl rfl r2 hp3 (o := HO.lst ((sortI (ddI ns)).map V.int)) trivial
      exact q1 { W1 with H := _ } (r2.same s2) ((same_fr s1).trans (same_fr s2)) (.ref p3) [p3] ⟨p3, (sortI (ddI ns)).map V.int, [], rfl, reps_sd _, upd_same, rfl⟩ mk
  | _ => exact (show False from q1).elim
end
end Tm
namespace Tm
open PySem PySem.Spec PyProof.Rows L2
/-! ### t[::-1], t a tuple -/
section
variable {P : Program} {w : World} {A : Around} {E : Value → Shared → Prop} {s : Shared}
theorem back_parts {sl : Addr} {v1 v2 v3 : Value} {n : Nat} {Q : Int × Int × Nat → Shared → Prop} (at1 : s.heap.IsSliceOf sl v1 v2 v3) (p1 : IsPart v1 none) (p2 : IsPart v2 none) (p3 : IsPart v3 (some (-1)))
    (fin : Q ((n : Int) - 1, -1, n) s) : wpAny (model P w) A (Builtin.Slice.sliceApplied (.ref sl) (pure (n : Int))) Q E s := by
  obtain ⟨ob, ho, _, hd⟩ := id at1
  unfold Builtin.Slice.sliceApplied Builtin.Slice.sliceFields
  refine wpAny_bind (wpAny_bind (wpAny_field ho hd (x := v1) rfl (wpAny_bind (wpAny_field ho hd (x := v2) rfl (wpAny_bind (wpAny_field ho hd (x := v3) rfl (wpAny_pure ?_)))))))
  refine wpAny_bind (HT.slicePart_ p3 ?_)
  show wpAny _ _ (if ((-1 : Int) == 0) = true then _ else _) _ _ s
  rw [if_neg (by decide)]
  refine wpAny_bind (HT.slicePart_ p1 (wpAny_bind (HT.slicePart_ p2 (wpAny_bind (wpAny_pure ?_)))))
  show wpAny _ _ (match Builtin.Slice.sliceAdjust none none (-1) (n : Int) with | (lo, hi) => pure (lo, (-1 : Int), Builtin.Slice.slicePlaces lo hi (-1))) _ _ s
  rw [show Builtin.Slice.sliceAdjust none none (-1) (n : Int) = ((n : Int) - 1, -1) from rfl]
  show wpAny _ _ (pure ((n : Int) - 1, (-1 : Int), Builtin.Slice.slicePlaces ((n : Int) - 1) (-1) (-1))) _ _ s
  have e : Builtin.Slice.slicePlaces ((n : Int) - 1) (-1) (-1) = n := by
    unfold Builtin.Slice.slicePlaces
    rw [if_neg (by decide), show (- -1 : Int) = 1 by decide, Int.ediv_one]
    split <;> omega
  rw [e]
  exact wpAny_pure fin
theorem back_pick (xs : Array Value) : ((List.range xs.size).filterMap fun (k : Nat) => xs[((xs.size : Int) - 1 + (k : Int) * -1).toNat]?).toArray = xs.toList.reverse.toArray := by
  have e : ((List.range xs.size).filterMap fun (k : Nat) => xs[((xs.size : Int) - 1 + (k : Int) * -1).toNat]?) = ((List.range xs.size).map fun k => xs.size - 1 - k).filterMap (xs[·]?) := by
    rw [List.filterMap_map]
    congr 1
    funext k
    show xs[((xs.size : Int) - 1 + (k : Int) * -1).toNat]? = xs[xs.size - 1 - k]?
    rw [show ((xs.size : Int) - 1 + (k : Int) * -1).toNat = xs.size - 1 - k by omega]
  rw [e, PySem.W.krv_range, List.filterMap_reverse, PySem.W.krv_all]
theorem tup_back {t sl : Addr} {xs : Array Value} {v1 v2 v3 : Value} {Q : Value → Shared → Prop} (ht : IsTup s.heap t xs) (at1 : s.heap.IsSliceOf sl v1 v2 v3) (p1 : IsPart v1 none) (p2 : IsPart v2 none) (p3 : IsPart v3 (some (-1)))
    (few : xs.size ≤ sizeLine) (fin : Q (.ref s.heap.objs.size) { s with heap := s.heap.push { cls := .type "tuple", data := .seq xs.toList.reverse.toArray } }) : wpAny (model P w) A (getItem (.ref t) (.ref sl)) Q E s := by
  have okz : sizeOk (.seq xs.toList.reverse.toArray) := by
    show xs.toList.reverse.toArray.size ≤ sizeLine
    rw [List.size_toArray, List.length_reverse, Array.length_toList]
    exact few
  obtain ⟨ob, ho, hc, hd⟩ := id at1
  have isS : s.TypeIs (.ref sl) "slice" := ⟨ob, ho, hc⟩
  unfold getItem
  try with_reducible refine wpAny_holding ?_
  first | refine wpAny_bind (wpAny_pure ?_) | skip
  refine wpAny_bind (wpAny_sequenceKey ht.typeIs (by decide) (wpAny_bind (wpAny_callSpecial?_slot (name := Str.ofString "__getitem__") ht.typeIs PyProof.Rows.slot_tuple_getitem (wpAny_call_entry PyProof.Rows.slot_tuple_getitem ht.typeIs entry_tuple_getitem ?_ (args_tuple_getitem _ _)))))
  show wpAny _ _ (Builtin.Tuple.tupleItemsOf (.ref t) >>= _) _ _ s
  refine wpAny_bind (PyProof.Rows.tupleItemsOf_ ht (wpAny_bind (wpAny_typeOf isS ?_)))
  rw [if_pos (by decide)]
  refine wpAny_bind (back_parts at1 p1 p2 p3 ?_)
  show wpAny _ _ (if (((xs.size : Int) - 1) == 0 && (-1 : Int) == 1 && xs.size == xs.size) = true then _ else _) _ _ s
  rw [if_neg (by rw [show ((-1 : Int) == 1) = false from by decide, Bool.and_false, Bool.false_and]; exact Bool.false_ne_true), back_pick]
  first
    | exact wpAny_bind (m := Builtin.Tuple.tupleExact _) (wpAny_newObj_type (wpAny_pure ⟨_, rfl, wpAny_pure fin⟩) okz)
    | exact wpAny_bind (wpAny_bind (m := Builtin.Tuple.tupleExact _) (wpAny_newObj_type (wpAny_pure (wpAny_pure ⟨_, rfl, wpAny_pure fin⟩)) okz))
    | exact wpAny_bind (m := Builtin.Tuple.tupleExact _) (wpAny_newObj_type (wpAny_bind (wpAny_pure (wpAny_pure ⟨_, rfl, wpAny_pure fin⟩))) okz)
end
def tRevT (K : PySem.W.Frag) (te : TE) : TE := fun σ H Q => te σ H fun x H1 => ∃ a xs, x = .ref a ∧ SqT K H1 a xs ∧ ∀ p, H1 p = none → Q (.ref p) (upd H1 p (.tup xs.reverse))
theorem pe_revT {X : Cx} {e : Expr} {te : TE} {k : Nat} {p1 p2 p3 pos : Pos} (he : PE X e te) : PE X (.Subscript e (.Slice none none (some (.UnaryOp .USub (.Constant (.int 1) k p1) p2)) p3) pos) (tRevT X.K te) := ⟨fun pins s σ H Q I h => by
  refine Subscript_ (thn (he.run pins s σ H _ I h) fun v s1 hv => ?_)
  obtain ⟨_, H1, I1, r1, a, xs, rfl, hx, q⟩ := hv
  obtain rfl : v = Value.ref a := r1
  have one : PO X (some (.UnaryOp .USub (.Constant (.int 1) k p1) p2)) (tPart (tUn (rU fun i => .int (-i)) (tC (.int 1)))) := po_some (pe_un un_neg pe_int)
  refine wpAny_Slice (thn (po_none.run pins s1 σ H1 (fun o H2 => o = none ∧ H2 = H1) I1 ⟨rfl, rfl⟩) fun v1 s2 z1 => ?_)
  obtain ⟨_, _, I2, q1, rfl, rfl⟩ := z1
  refine thn (po_none.run pins s2 σ _ (fun o H3 => o = none ∧ H3 = _) I2 ⟨rfl, rfl⟩) fun v2 s3 z2 => ?_
  obtain ⟨_, _, I3, q2, rfl, rfl⟩ := z2
  refine thn (one.run pins s3 σ _ (fun o H4 => o = some (-1) ∧ H4 = _) I3 ⟨1, rfl, -1, rfl, rfl, rfl⟩) fun v3 s4 z3 => ?_
  obtain ⟨_, _, I4, q3, rfl, rfl⟩ := z3
  have I5 : Inv X pins σ _ { s4 with heap := s4.heap.push { cls := .type "slice", data := .fields #[v1, v2, v3] } } := I4.kept (t' := s4.toks) fun b ob z => Heap.get?_push_of_some _ z
  obtain ⟨its, r, ht, hz⟩ := I5.tuple hx
  have len := r.length
  show wpAny (model X.prog X.w) X.A (subscriptTail e (.Slice none none (some (.UnaryOp .USub (.Constant (.int 1) k p1) p2)) p3) (.ref a) (.ref s4.heap.objs.size)) (EP X pins σ Q) X.xe _
  refine tail_any (ops := [.ref a, .ref s4.heap.objs.size]) ht.typeIs PyProof.Rows.slot_tuple_getitem.lookup ?_ (by with_unfolding_all rfl)
  refine tup_back ht (Heap.IsSliceOf.new _ v1 v2 v3) q1 q2 q3 (by rw [List.size_toArray]; omega) ?_
  refine ⟨.ref _, _, I5.laid (t' := s4.toks) (o := .tup xs.reverse) (fun b ob z => Heap.get?_push_of_some _ z) (Nat.le_refl _) ?_, rfl, q _ (I5.hok.fresh (Nat.le_refl _))⟩
  exact ⟨by rw [List.length_reverse]; exact hz, its.reverse, r.reverse, IsTup.new _ _⟩⟩
def tBack : T → Option T
  | .tup ts => some (.tup ts.reverse) | _ => none
section
variable {X : Cx} {cm : Cm} {mo : List Mode} {E : XK} {kd : Kd} {ef : EF} {e : Expr}
theorem ee_revT {k : Nat} {p1 p2 p3 pos : Pos} (l : kle kd .shared = true) (ha : Ee X cm mo E kd e ef) : Ee X cm mo E .shared (.Subscript e (.Slice none none (some (.UnaryOp .USub (.Constant (.int 1) k p1) p2)) p3) pos) (eUn tBack ef) := PE.imp (pe_revT ha) fun σ H Q ⟨W, Γ, e1, r0, q⟩ => by
  subst e1
  refine ⟨W, Γ, rfl, r0, PostE.imp (PostE.bind0 q) fun t W1 Γ1 ex r1 f1 q1 v G h kk => ?_⟩
  obtain ⟨c, ec, q3⟩ := PostE.of (q1 Γ1 ex r1 f1)
  cases t with
  | tup ts =>
    cases ec
    have ks : KOk .shared W W1 G := kk.le l
    obtain ⟨a, xs, rfl, s, rr⟩ := h
    refine ⟨a, xs, rfl, .inl s.1, fun p hp => ?_⟩
    have sm := same_upd (o := HO.tup xs.reverse) hp
    obtain ⟨F', r2, sub⟩ := (rr.kp (same_kp sm) _ _ _ fun _ _ h => h).rev
    refine q3 { W1 with H := _ } (r1.same sm) (f1.trans (same_fr sm)) (.ref p) F' ⟨p, xs.reverse, rfl, tup_new upd_same, r2⟩ fun x hx => ?_
    have z := ks x (sub x hx)
    exact ⟨z.1, z.2.1, z.2.2⟩
  | _ => cases ec
/-- tuple(range(n)) -/
def rg1T : T → Option T
  | .int j => (rangeT 0 j).map T.tup | _ => none
theorem ee_rg1T {a : Expr} {p p1 p2 pos : Pos} (hc : X.calm = true) (g1 : Gl X "tuple") (m1 : X.mg "tuple" = none) (g2 : Gl X "range") (m2 : X.mg "range" = none) (ha : Ee X cm mo E kd a ef) (na : starEach [a] X.env = (false, eval a X.env) :: starEach [] X.env := by rfl)
    (nb : starEach [.Call (.Name "range" p1) [a] [] p2] X.env = (false, eval (.Call (.Name "range" p1) [a] [] p2) X.env) :: starEach [] X.env := by rfl) : Ee X cm mo E .shared (.Call (.Name "tuple" p) [.Call (.Name "range" p1) [a] [] p2] [] pos) (eUn rg1T ef) := PE.imp (pe_tupRg hc g1 m1 (prg_1 g2 m2 ha na) nb) fun σ H Q ⟨W, Γ, e1, r0, q⟩ => by
  subst e1
  refine ⟨W, Γ, rfl, r0, PostE.imp (PostE.bind0 q) fun x W1 Γ1 ex r1 f1 q1 v1 G1 h1 kk1 => ?_⟩
  obtain ⟨c, ec, q3⟩ := PostE.of (q1 Γ1 ex r1 f1)
  cases x with
  | int n =>
    obtain ⟨ts, e3, rfl⟩ := Option.map_eq_some_iff.mp ec
    obtain ⟨b, _⟩ := rangeT_some e3
    refine ⟨n, h1.1, ⟨by omega, by omega, by omega, by omega, by omega⟩, fun p hp => ?_⟩
    have sm := same_upd (o := HO.tup (rgV 0 n)) hp
    exact q3 { W1 with H := _ } (r1.same sm) (f1.trans (same_fr sm)) (.ref p) [] ⟨p, _, rfl, tup_new upd_same, rgV_rep e3⟩ fun x hx => by cases hx
  | _ => cases ec
end
end Tm
namespace Tm
open PySem PySem.Spec PyProof.Rows L2
/-! ### slots that own all that stands in them: a new tuple, its parts changed in place, handed out again -/
section
variable {K : PySem.W.Frag} {cm : Cm} {mo mo' mo1 : List Mode} {W W0 : Wd} {σ : L2.St} {Γ : Env} {Os : Nat → List Addr}
/-- a value that is new as a whole is put into a slot -/
theorem R.setF {j : Nat} {v : V} {t : T} {G : List Addr} (r : R K cm mo W σ Γ) (f0 : Fr W0 W) (hj : j < mo.length) (hl : md mo j ≠ .lk) (h : Rep K cm W.H t v G) (kk : KOk .fresh W0 W G) :
    ∃ W', W'.H = W.H ∧ R K cm (mo.set j .own) W' (σ.set j (some v)) (Γ.set j (some t)) ∧ Fr W0 W' ∧ (∀ x, W'.C x → x ∈ G ∨ W.C x) ∧ ∀ x, W'.L x → W.L x := by
  obtain ⟨Os, r⟩ := r
  obtain ⟨nd, g⟩ := kk
  have k1 := r.put (j := j) (m' := .own) (v' := some v) (t' := some t) (O' := G) (H' := W.H) (S' := W.S) hj hl (fun _ _ h _ => h) (fun _ h => h) (fun _ h => h) r.trS (fun i x _ hx => r.sh i x hx)
    (fun u e => by cases e; exact ⟨v, rfl, h⟩) nd (fun x hx i _ => r.notOwn (g x hx).2.1 (g x hx).2.2.1 i) (fun x hx => (g x hx).2.2.2.1) (fun x hx => h.tr _ _ _ x hx) (fun _ x hx => (g x hx).2.2.2.2)
  have k2 := r.put_fr0 (W0 := W0) (j := j) (m' := .own) (O' := G) (H' := W.H) (S' := W.S) f0 hl (by decide) (fun _ _ h _ => h) (fun _ h => h) (fun _ h => h) f0.shn (fun x hx => (g x hx).1)
  refine ⟨_, ?_, ⟨_, k1⟩, k2, fun x hx => hx.elim (fun q => .inl q.2) fun q => .inr q.1, fun x hx => hx.elim (fun q => by cases q.1) fun q => q⟩
  rfl
theorem Reps.at1 {H : Hp} : ∀ {ts : List T} {vs : List V} {F : List Addr} {k : Nat} {u : T}, Reps K cm H ts vs F → ts[k]? = some u → ∃ vk Fk, vs[k]? = some vk ∧ Rep K cm H u vk Fk ∧ (∀ x ∈ Fk, x ∈ F) ∧
    ∀ H' u', F.Nodup → Kp (fun x => x ∈ Fk) H H' → Rep K cm H' u' vk Fk → Reps K cm H' (ts.set k u') vs F
  | [], _, _, _, _, _, e => by cases e
  | t :: ts, _, _, 0, u, h, e => by
    cases e
    obtain ⟨x, r, F1, F2, rfl, rfl, h1, h2⟩ := h
    refine ⟨x, F1, rfl, h1, fun y hy => List.mem_append_left _ hy, fun H' u' nd k r' => ⟨x, r, F1, F2, rfl, rfl, r', h2.kp k _ _ _ fun y hy q => ?_⟩⟩
    exact (List.nodup_append.mp nd).2.2 y q y hy rfl
  | t :: ts, _, _, k + 1, u, h, e => by
    obtain ⟨x, r, F1, F2, rfl, rfl, h1, h2⟩ := h
    obtain ⟨vk, Fk, e1, r1, s1, fin⟩ := Reps.at1 (k := k) h2 (by simpa using e)
    refine ⟨vk, Fk, by simpa using e1, r1, fun y hy => List.mem_append_right _ (s1 y hy), fun H' u' nd kp r' => ⟨x, r, F1, F2, rfl, rfl, h1.kp kp _ _ _ fun y hy q => ?_, fin H' u' (List.nodup_append.mp nd).2.1 kp r'⟩⟩
    exact (List.nodup_append.mp nd).2.2 y hy y (s1 y q) rfl
theorem not_allK {K : PySem.W.Frag} {cm : Cm} {H : Hp} {ts : List T} {k : Nat} {u u' : T} {v : V} {b : Addr} (hk : ts[k]? = some u) (r : Rep K cm H u' v [b]) (q : (ts.set k u').all isK = true) : False := by
  have hl : k < ts.length := (List.getElem?_eq_some_iff.mp hk).1
  have := List.all_eq_true.mp q u' (List.mem_of_getElem? (i := k) (by rw [List.getElem?_set_self hl]))
  cases u' with
  | int => cases r.2
  | str => cases r.2
  | _ => cases this
/-- a part of a tuple that a slot owns -/
theorem R.ownAt {j k : Nat} {ts : List T} {u : T} (r : R K cm mo W σ Γ) (hm : md mo j = .own) (ht : sl Γ j = some (.tup ts)) (hk : ts[k]? = some u) (hf : flr u = true) :
    ∃ a vs vk b, sl σ j = some (.ref a) ∧ Rd W.H a (.tup vs) ∧ vs[k]? = some vk ∧ Rep K cm W.H u vk [b] ∧ Mut (W.H b) ∧
      ∀ u' o, Mut (some o) → Rep K cm (upd W.H b o) u' vk [b] → ∃ W', W'.H = upd W.H b o ∧ R K cm mo W' σ (Γ.set j (some (.tup (ts.set k u')))) ∧ Fr W W' := by
  obtain ⟨Os, r⟩ := r
  have hj : j < mo.length := md_lt (by rw [hm]; decide)
  have hl : md mo j ≠ .lk := by rw [hm]; decide
  have s := r.slot j
  rw [hm] at s
  obtain ⟨v, e1, a, vs, rfl, e2, rp⟩ := s _ ht
  obtain ⟨vk, Fk, e3, rk, sub, fin⟩ := Reps.at1 rp hk
  obtain ⟨b, rfl⟩ := flr_rep hf rk
  have inO : b ∈ Os j := sub b List.mem_cons_self
  have inC : W.C b := r.inC (by rw [hm]; rfl) inO
  have mu := r.mu b inC
  refine ⟨a, vs, vk, b, e1, e2.1, e3, rk, mu, fun u' o hu r' => ?_⟩
  have ab : a ≠ b := fun q => by rcases e2.1 with z | ⟨oo, z⟩ <;> (rw [← q, z] at mu; exact mu)
  have kp : Kp (fun x => x ∈ [b]) W.H (upd W.H b o) := kp_of (fun c o' e n => by rw [upd_ne fun q => n (by rw [q]; exact List.mem_cons_self)]; exact e) fun x hx => by rw [List.mem_singleton.mp hx]; exact mu
  have k1 := r.put (j := j) (m' := .own) (v' := sl σ j) (t' := some (.tup (ts.set k u'))) (O' := Os j) (H' := upd W.H b o) (S' := W.S) hj hl (fun c o' e n => by rw [upd_ne fun q => n (by rw [q]; exact inO)]; exact e) tr_upd (fun _ h => h)
    (fun x q => tr_upd x (r.trS x q)) (fun i x _ hx => r.sh i x hx) (fun u e => by cases e; exact ⟨.ref a, e1, a, vs, rfl, ⟨kp.tupR e2.1, fun q => (not_allK hk r' q).elim⟩, fin _ _ (r.nd j) kp r'⟩) (r.nd j)
    (fun x hx i n q => r.dj i j x n q hx) (r.sh j) (fun x hx => tr_upd x (r.trO j x hx)) (fun _ x hx => by
      by_cases q : x = b
      · rw [q, upd_same]; exact hu
      · rw [upd_ne q]; exact r.mu x (r.inC (by rw [hm]; rfl) hx))
  have k2 := r.put_fr0 (W0 := W) (j := j) (m' := .own) (O' := Os j) (H' := upd W.H b o) (S' := W.S) (Fr.refl W) hl (by decide) (fun c o' e n => by rw [upd_ne fun q => n (by rw [q]; exact inO)]; exact e) tr_upd (fun _ h => h) (fun x h => .inl h) (fun x hx => .inl (r.inC (by rw [hm]; rfl) hx))
  have lσ : j < σ.length := by rw [r.ls]; exact hj
  rw [set_sl lσ, show mo.set j .own = mo from ?_] at k1
  · refine ⟨_, ?_, ⟨_, k1⟩, k2⟩
    rfl
  · refine md_ext (by rw [List.length_set]) fun i => ?_
    by_cases q : i = j
    · subst q; rw [md_set_self hj, hm]
    · rw [md_set_ne (Ne.symm q)]
/-- slots are let go -/
theorem RO.dropC {i : Nat} (r0 : RO K cm mo W σ Γ Os) (hm : chg (md mo i) = true) : ∃ W1, W1.H = W.H ∧ RO K cm (mo.set i .dead) W1 σ Γ (fun k => if k = i then [] else Os k) ∧ Fr W W1 ∧
    (∀ x, W1.C x → W.C x ∧ ¬ x ∈ Os i) ∧ (∀ x, W1.L x → W.L x) ∧ W1.S = W.S := by
  have hd : md mo i ≠ .dead := fun q => by rw [q] at hm; cases hm
  have hi : i < mo.length := md_lt hd
  have lσ : i < σ.length := by rw [r0.ls]; exact hi
  have lΓ : i < Γ.length := by rw [r0.lg]; exact hi
  have hl : md mo i ≠ .lk := fun q => by rw [q] at hm; cases hm
  have k1 := r0.put (j := i) (m' := .dead) (v' := sl σ i) (t' := sl Γ i) (O' := []) (H' := W.H) (S' := W.S) hi hl (fun _ _ h _ => h) (fun _ h => h) (fun _ h => h)
    r0.trS (fun i x _ hx => r0.sh i x hx) rfl List.nodup_nil (fun x hx => by cases hx) (fun x hx => by cases hx) (fun x hx => by cases hx) (fun _ x hx => by cases hx)
  rw [set_sl lσ, set_sl lΓ] at k1
  have k2 := r0.put_fr (j := i) (m' := .dead) (O' := []) (H' := W.H) (S' := W.S) hl (by decide) (fun _ _ h _ => h) (fun _ h => h) (fun _ h => h) (fun x h => .inl h) (fun x hx => by cases hx)
  refine ⟨_, ?_, k1, k2, fun x h => h.elim (fun q => by cases q.1) fun q => q, fun x h => h.elim (fun q => by cases q.1) fun q => q, rfl⟩
  rfl
theorem RO.dropL : ∀ (is : List Nat) {mo : List Mode} {W : Wd} {Os : Nat → List Addr}, RO K cm mo W σ Γ Os → (∀ i ∈ is, chg (md mo i) = true) → is.Nodup → ∃ W1, W1.H = W.H ∧ R K cm (is.foldl (fun m i => m.set i .dead) mo) W1 σ Γ ∧ Fr W W1 ∧
    (∀ x, W1.C x → W.C x ∧ ∀ i ∈ is, ¬ x ∈ Os i) ∧ (∀ x, W1.L x → W.L x) ∧ W1.S = W.S
  | [], mo, W, Os, r, _, _ => ⟨W, rfl, ⟨Os, r⟩, Fr.refl _, fun x h => ⟨h, fun i hi => nomatch hi⟩, fun _ h => h, rfl⟩
  | i :: is, mo, W, Os, r, hc, nd => by
    rw [List.nodup_cons] at nd
    obtain ⟨W1, q1, r1, f1, c1, l1, t1⟩ := r.dropC (hc i List.mem_cons_self)
    have ne : ∀ k ∈ is, k ≠ i := fun k hk q => nd.1 (q ▸ hk)
    obtain ⟨W2, q2, r2, f2, c2, l2, t2⟩ := RO.dropL is r1 (fun k hk => by rw [md_set_ne (Ne.symm (ne k hk))]; exact hc k (List.mem_cons_of_mem _ hk)) nd.2
    refine ⟨W2, by rw [q2, q1], r2, f1.trans f2, fun x h => ⟨(c1 x (c2 x h).1).1, fun k hk q => ?_⟩, fun x h => l1 x (l2 x h), by rw [t2, t1]⟩
    rcases List.mem_cons.mp hk with rfl | hk
    · exact (c1 x (c2 x h).1).2 q
    · have := (c2 x h).2 k hk
      rw [if_neg (ne k hk)] at this
      exact this q
theorem mleL_deads : ∀ (is : List Nat) {l l' : List Mode}, mleL l l' = true → (∀ i ∈ is, md l i = .dead) → mleL l (is.foldl (fun m i => m.set i .dead) l') = true
  | [], _, _, h, _ => h
  | i :: is, _, _, h, hd => mleL_deads is (mleL_dead h (hd i List.mem_cons_self)) fun k hk => hd k (List.mem_cons_of_mem _ hk)
theorem RO.nodups (r : RO K cm mo W σ Γ Os) : ∀ {is : List Nat}, is.Nodup → (is.flatMap Os).Nodup
  | [], _ => List.nodup_nil
  | i :: is, nd => by
    rw [List.nodup_cons] at nd
    rw [List.flatMap_cons]
    refine List.nodup_append.mpr ⟨r.nd i, RO.nodups r nd.2, fun x hx y hy e => ?_⟩
    subst e
    obtain ⟨k, hk, q⟩ := List.mem_flatMap.mp hy
    exact r.dj i k x (fun e => nd.1 (e ▸ hk)) hx q
/-! ### a tuple of own slots and of what has no footprint -/
def tOw (K : PySem.W.Frag) (cm : Cm) (mo : List Mode) (is : List Nat) (f : AF) : TA := fun σ H Q => ∃ W Γ Os ts, W.H = H ∧ RO K cm mo W σ Γ Os ∧ f Γ = some ts ∧ ∀ vs H', Same H H' → Reps K cm H' ts vs (is.flatMap Os) → Q vs H'
def pFlr (i : Nat) : PF := fun Γ => (sl Γ i).bind fun t => if flr t = true then some t else none
def pFl (f : PF) : PF := fun Γ => (f Γ).bind fun t => if flatT t = true then some t else none
end
abbrev Ow (X : Cx) (cm : Cm) (mo : List Mode) (is : List Nat) (es : List Expr) (f : AF) : Prop := PA X es (tOw X.K cm mo is f)
def sRetO (f : AF) : SF := fun Γ => match f Γ with
  | some ts => if ts.length ≤ 100 then .rt (.tup ts) Γ else .stuck
  | none => .stuck
section
variable {X : Cx} {cm : Cm} {mo mo' : List Mode} {J : Exits} {E : XK} {e : Expr} {es : List Expr} {pos p p2 pos2 : Pos} {kd : Kd} {f : PF} {g : AF} {x y : Str} {i j k : Nat} {is : List Nat} {ef : EF}
theorem ow_nil : Ow X cm mo [] [] pNil := PA.imp pa_nil fun σ H Q ⟨W, Γ, Os, ts, e1, r, e2, q⟩ => by
  cases e2
  exact q [] H (fun _ _ h => h) ⟨rfl, rfl⟩
theorem ow_own (hN : X.N[i]? = some x) (hv : Vis X.env.scope x) (hm : md mo i = .own) (h : Ow X cm mo is es g) (hs : starEach (.Name x p :: es) X.env = (false, eval (.Name x p) X.env) :: starEach es X.env := by rfl)
    (h1 : (x == ("__debug__" : Str)) = false := by decide) (h2 : (x == ("__classdict__" : Str)) = false := by decide) : Ow X cm mo (i :: is) (.Name x p :: es) (pCons (pVar i) g) := PA.imp (pa_cons (pe_var hN hv h1 h2) h hs) fun σ H Q ⟨W, Γ, Os, ts, e1, r, e2, q⟩ => by
  subst e1
  obtain ⟨t, et, e2⟩ := Option.bind_eq_some_iff.mp e2
  obtain ⟨ts', es', e2⟩ := Option.bind_eq_some_iff.mp e2
  cases e2
  have s := r.slot i
  rw [hm] at s
  obtain ⟨v, e3, rp⟩ := s t et
  exact ⟨v, sl_get e3, W, Γ, Os, ts', rfl, r, es', fun vs H' s hr => q (v :: vs) H' s ⟨v, vs, Os i, _, rfl, rfl, rp.same s, hr⟩⟩
theorem ow_o1 (hN : X.N[i]? = some x) (hv : Vis X.env.scope x) (hm : md mo i = .o1) (h : Ow X cm mo is es g) (hs : starEach (.Name x p :: es) X.env = (false, eval (.Name x p) X.env) :: starEach es X.env := by rfl)
    (h1 : (x == ("__debug__" : Str)) = false := by decide) (h2 : (x == ("__classdict__" : Str)) = false := by decide) : Ow X cm mo (i :: is) (.Name x p :: es) (pCons (pFlr i) g) := PA.imp (pa_cons (pe_var hN hv h1 h2) h hs) fun σ H Q ⟨W, Γ, Os, ts, e1, r, e2, q⟩ => by
  subst e1
  obtain ⟨t, et, e2⟩ := Option.bind_eq_some_iff.mp e2
  obtain ⟨ts', es', e2⟩ := Option.bind_eq_some_iff.mp e2
  cases e2
  obtain ⟨t0, et, hf⟩ := Option.bind_eq_some_iff.mp et
  split at hf
  case isFalse => cases hf
  case isTrue hf2 =>
  cases hf
  have s := r.slot i
  rw [hm] at s
  obtain ⟨v, a, G, e3, e4, rp, _⟩ := s t et
  obtain ⟨b, eb⟩ := flr_rep hf2 rp
  obtain ⟨rfl, rfl⟩ := List.cons.inj eb
  exact ⟨v, sl_get e3, W, Γ, Os, ts', rfl, r, es', fun vs H' s hr => q (v :: vs) H' s ⟨v, vs, Os i, _, rfl, rfl, by rw [e4]; exact rp.same s, hr⟩⟩
theorem ow_fl (ha : Ep X cm mo kd e f) (h : Ow X cm mo is es g) (hs : starEach (e :: es) X.env = (false, eval e X.env) :: starEach es X.env := by rfl) : Ow X cm mo is (e :: es) (pCons (pFl f) g) := PA.imp (pa_cons ha h hs) fun σ H Q ⟨W, Γ, Os, ts, e1, r, e2, q⟩ => by
  subst e1
  obtain ⟨t, et, e2⟩ := Option.bind_eq_some_iff.mp e2
  obtain ⟨ts', es', e2⟩ := Option.bind_eq_some_iff.mp e2
  cases e2
  obtain ⟨t0, et, hf⟩ := Option.bind_eq_some_iff.mp et
  split at hf
  case isFalse => cases hf
  case isTrue hf2 =>
  cases hf
  refine ⟨W, Γ, t, rfl, ⟨Os, r⟩, et, fun v H' G s rp _ => ⟨{ W with H := H' }, Γ, Os, ts', rfl, r.same s, es', fun vs H2 s2 hr => q (v :: vs) H2 (fun b o h => s2 b o (s b o h)) ⟨v, vs, [], _, rfl, rfl, ?_, hr⟩⟩⟩
  have := (flat_rep hf2 rp).1
  subst this
  exact rp.same s2
/-- return a, .., b: the slots are let go -/
theorem s_retO {x1} (h : Ow X cm mo is es g) (hk : J.k = .fresh) (nd : is.Nodup) (hc : ∀ i ∈ is, chg (md mo i) = true) (w : mleL J.r mo = true) (hd : ∀ i ∈ is, md J.r i = .dead) : Sm X cm J E mo (.Return (some (.Tuple es x1 pos2)) pos) mo' (sRetO g) := PS.imp (ps_ret (pe_tup h)) fun D σ H ⟨W, Γ, e1, r, q⟩ => by
  subst e1
  unfold sRetO at q
  cases eg : g Γ with
  | none => rw [eg] at q; exact q.elim
  | some ts =>
  rw [eg] at q
  simp only at q
  by_cases hl : ts.length ≤ 100
  case neg => rw [if_neg hl] at q; exact q.elim
  rw [if_pos hl] at q
  obtain ⟨Os, r0⟩ := r
  refine ⟨W, Γ, Os, ts, rfl, r0, eg, fun vs H' s hr => ⟨by rw [hr.len]; exact Nat.le_trans hl (by decide), fun n hn => ?_⟩⟩
  have rs := r0.same s
  obtain ⟨W1, q1, r1, f1, c1, l1, t1⟩ := RO.dropL is rs hc nd
  obtain ⟨W3, q3, r3, f3⟩ := R.weak r1 (mleL_deads is w hd)
  have H3 : W3.H = H' := by rw [q3, q1]
  have sm := same_upd (o := HO.tup vs) hn
  have sm3 : Same W3.H (upd H' n (.tup vs)) := by rw [H3]; exact sm
  have inC : ∀ i ∈ is, ∀ c ∈ Os i, W.C c := fun i hi c hx => r0.inC (hc i hi) hx
  have := q σ { W3 with H := upd H' n (.tup vs) } (.ref n) (is.flatMap Os) (r3.same sm3) ((same_fr s).trans (f1.trans (f3.trans (same_fr sm3)))) Fx.refl ⟨n, vs, rfl, tup_new upd_same, hr.same sm⟩ ?_
  · exact this
  rw [hk]
  refine ⟨r0.nodups nd, fun c hx => ?_⟩
  obtain ⟨i, hi, hx⟩ := List.mem_flatMap.mp hx
  have cc := inC i hi c hx
  have tr1 : Tr W1.H c := by rw [q1]; exact rs.trO i c hx
  have n1 : ¬ W1.C c := fun z => (c1 c z).2 i hi hx
  refine ⟨.inl cc, fun z => (f3.chg c z).elim n1 fun z => z tr1, fun z => R.cL ⟨Os, r0⟩ c cc (l1 c (f3.lck c z)), fun z => ?_, mut_eq (r0.mu c cc) fun o e => sm _ _ (s _ _ e)⟩
  rcases f3.shn c z with z | z | z
  · rw [t1] at z; exact r0.sh i c hx z
  · exact n1 z
  · exact z tr1
/-- name = value, new as a whole -/
theorem s_asgF (hN : X.N.Nodup) (hi : X.N[i]? = some x) (hx : Loc X.env.scope x) (hj : i < mo.length) (hl : md mo i ≠ .lk) (nf : ¬ i ∈ J.fi) (w : mleL J.r mo = true) (he : Ee X cm mo E .fresh e ef)
    (hs : swapsWith e (some (.Name x p)) pos.line X.env = pure false := by rfl) (hf : X.fn x = true ∨ X.env.scope.names.lookup x = some .local := by first | exact .inl rfl | exact .inr rfl | assumption) :
    Sm X cm J E mo (.Assign [.Name x p] e pos) (mo.set i .own) (sAsg i ef) := PS.imp (ps_set hN hi hx he hs hf) fun D σ H ⟨W, Γ, e1, r, q⟩ => by
  subst e1
  refine ⟨W, Γ, rfl, r, PostE.imp (PostS.bind q w) fun t W1 Γ1 ex r1 f1 q1 v G h kk => ?_⟩
  obtain ⟨W2, e2, r2, f2, -, -⟩ := r1.setF f1 hj hl h kk
  have := q1 Γ1 ex r1 f1 _ W2 r2 f2 (Fx.set nf)
  rw [e2] at this
  exact this
/-- x, y = a pair new as a whole: x owns what it gets, y shows it -/
theorem s_unF {k1 : Nat} {tp : Pos} (hc : X.calm = true) (hN : X.N.Nodup) (hi : X.N[i]? = some x) (hx : Loc X.env.scope x) (hi2 : X.N[j]? = some y) (hx2 : Loc X.env.scope y) (hj : i < mo.length) (hl : md mo i ≠ .lk) (nf : ¬ i ∈ J.fi) (hj2 : j < mo.length) (hl2 : md mo j ≠ .lk) (nf2 : ¬ j ∈ J.fi) (hij : i ≠ j) (w : mleL J.r mo = true) (he : Ee X cm mo E .fresh e ef)
    (hn : (assignEach [.Name x p, .Name y p2] X.env).length = 2 := by rfl) (hst : (assignEach [.Name x p, .Name y p2] X.env).findIdx? (·.1) = none := by rfl)
    (hs : swapsWithSole [.Tuple [.Name x p, .Name y p2] k1 tp] e pos.line X.env = pure false := by rfl) (hw : swappedStores [.Tuple [.Name x p, .Name y p2] k1 tp] e X.env = pure none := by rfl)
    (h1 : (assignEach [.Tuple [.Name x p, .Name y p2] k1 tp] X.env).map (·.2) = [assign (.Tuple [.Name x p, .Name y p2] k1 tp) X.env] := by rfl)
    (g1 : (assignEach [.Name x p, .Name y p2] X.env).map (·.2) = assign (.Name x p) X.env :: (assignEach [.Name y p2] X.env).map (·.2) := by rfl) (g2 : (assignEach [.Name y p2] X.env).map (·.2) = assign (.Name y p2) X.env :: (assignEach [] X.env).map (·.2) := by rfl)
    (hf : X.fn x = true ∨ X.env.scope.names.lookup x = some .local := by first | exact .inl rfl | exact .inr rfl | assumption) (hf2 : X.fn y = true ∨ X.env.scope.names.lookup y = some .local := by first | exact .inl rfl | exact .inr rfl | assumption) :
    Sm X cm J E mo (.Assign [.Tuple [.Name x p, .Name y p2] k1 tp] e pos) ((mo.set i .own).set j .vw) (sAsgT (gT [i, j]) ef) :=
  PS.imp (ps_asg he (pg_tup hc (pgs_cons (pg_name hN hi hx hf) (pgs_cons (pg_name hN hi2 hx2 hf2) pgs_nil g2) g1) hn hst) hs hw h1) fun D σ H ⟨W, Γ, e1, r, q⟩ => by
  subst e1
  refine ⟨W, Γ, rfl, r, PostE.imp (PostS.bind q w) fun t W1 Γ1 ex r1 f1 q1 v G h kk => ?_⟩
  have q2 := q1 Γ1 ex r1 f1
  cases eg : gT [i, j] t Γ1 with
  | none => rw [eg] at q2; exact q2.elim
  | some Γ2 =>
  rw [eg] at q2
  unfold gT at eg
  split at eg
  case h_2 => cases eg
  case h_1 ts =>
  match ts, eg with
  | [], eg => cases eg
  | [a], eg => cases eg
  | a :: b :: c :: r, eg => cases eg
  | [a, b], eg =>
  cases eg
  obtain ⟨n, vs, rfl, hn', v1, r', F1, F', rfl, rfl, ha, v2, r'', F2, F3, rfl, rfl, hb, rfl, rfl⟩ := h
  rw [List.append_nil] at kk
  obtain ⟨nd, g⟩ := kk
  rw [List.nodup_append] at nd
  have ka : KOk .fresh W W1 F1 := ⟨nd.1, fun x hx => g x (List.mem_append_left _ hx)⟩
  obtain ⟨W2, e2, r2, f2, c2, l2⟩ := r1.setF f1 hj hl ha ka
  have kb : KOk .shared W W2 F2 := fun x hx => by
    have gx := g x (List.mem_append_right _ hx)
    exact ⟨gx.1.elim (fun z => .inr (.inl z)) fun z => .inr (.inr z), fun z => (c2 x z).elim (fun z => nd.2.2 x z x hx rfl) gx.2.1, fun z => gx.2.2.1 (l2 x z)⟩
  obtain ⟨W3, e3, r3, f3⟩ := r2.setV f2 (by rw [List.length_set]; exact hj2) (by rw [md_set_ne hij]; exact hl2) (by rw [e2]; exact hb) kb
  refine ⟨n, [v1, v2], rfl, .inl hn'.1, rfl, v1, [v2], rfl, v2, [], rfl, rfl, ?_⟩
  have := q2 _ W3 r3 f3 ((Fx.set nf).trans (Fx.set nf2))
  rw [e3, e2] at this
  exact this
/-! ### x[k].clear(), x[k][i] = v: x owns all -/
def ownD (t : Option T) (k : Nat) : Option (List T × List (Key × T)) := match t with
  | some (.tup ts) => match ts[k]? with
    | some (.dct d) => if flr (.dct d) = true then some (ts, d) else none
    | _ => none
  | _ => none
def sOwnClr (j k : Nat) : SF := fun Γ => match ownD (sl Γ j) k with
  | some (ts, _) => .nx (Γ.set j (some (.tup (ts.set k (.dct []))))) | none => .stuck
def sOwnSto (j k : Nat) (i v : Int) : SF := fun Γ => match ownD (sl Γ j) k with
  | some (ts, d) => if d.length < 100000 then .nx (Γ.set j (some (.tup (ts.set k (.dct (putT d (.inl i) (.int v))))))) else .stuck | none => .stuck
theorem ownD_some {t : Option T} {ts : List T} {d : List (Key × T)} (e : ownD t k = some (ts, d)) : t = some (.tup ts) ∧ ts[k]? = some (.dct d) ∧ flr (.dct d) = true := by
  unfold ownD at e
  split at e
  · rename_i ts0
    cases eu : ts0[k]? with
    | none => rw [eu] at e; cases e
    | some u =>
      rw [eu] at e
      cases u with
      | dct d0 =>
        simp only at e
        by_cases hf : flr (.dct d0) = true
        · rw [if_pos hf] at e; cases e; exact ⟨rfl, eu, hf⟩
        · rw [if_neg hf] at e; cases e
      | _ => cases e
  · cases e
theorem atI_nat {α : Type} {xs : List α} {k : Nat} {v : α} (h : xs[k]? = some v) : atI xs (k : Int) = some v := by
  have hl : k < xs.length := (List.getElem?_eq_some_iff.mp h).1
  unfold atI ixN
  rw [if_pos (Int.natCast_nonneg k), if_pos (by omega)]
  exact h
theorem s_ownClr {c1 : Nat} {pc ps apos cpos : Pos} (hN : X.N[j]? = some x) (hv : Vis X.env.scope x) (hm : md mo j = .own) (hd : (x == ("__debug__" : Str)) = false := by decide) (hcd : (x == ("__classdict__" : Str)) = false := by decide)
    (hsl : PlainIx (.Constant (.int (k : Int)) c1 pc) := by intro _ _; rfl)
    (hbase : attributeBase (.Subscript (.Name x p) (.Constant (.int (k : Int)) c1 pc) ps) "clear" X.env (eval (.Subscript (.Name x p) (.Constant (.int (k : Int)) c1 pc) ps) X.env) = eval (.Subscript (.Name x p) (.Constant (.int (k : Int)) c1 pc) ps) X.env := by rfl) (hline : (apos.endLine == cpos.line) = true := by rfl)
    (hs : swapsWith (.Call (.Attribute (.Subscript (.Name x p) (.Constant (.int (k : Int)) c1 pc) ps) "clear" apos) [] [] cpos) none pos.line X.env = pure false := by rfl) :
    Sm X cm J E mo (.Expr (.Call (.Attribute (.Subscript (.Name x p) (.Constant (.int (k : Int)) c1 pc) ps) "clear" apos) [] [] cpos) pos) mo (sOwnClr j k) :=
  PS.imp (ps_expr (pe_dclear (pe_ix ix_tup (pe_var hN hv hd hcd) pe_int hsl) hbase hline) hs) fun D σ H ⟨W, Γ, e1, r, q⟩ => by
  subst e1
  unfold sOwnClr at q
  cases eo : ownD (sl Γ j) k with
  | none => rw [eo] at q; exact q.elim
  | some pr =>
  obtain ⟨ts, d⟩ := pr
  rw [eo] at q
  obtain ⟨h1, h2, h3⟩ := ownD_some eo
  obtain ⟨a, vs, vk, b, e3, e4, e5, rk, mu, fin⟩ := r.ownAt hm h1 h2 h3
  have ty := tyV_of (n := "dict") rfl rk mu
  obtain ⟨b', xs, G, rfl, rd, hd2, eq⟩ := rk
  obtain ⟨rfl, rfl⟩ := List.cons.inj eq
  have hk : W.H b = some (.dK xs) := by
    rcases hd2 with s | ⟨o, s⟩
    · exact s
    · rw [s] at mu; exact mu.elim
  obtain ⟨W2, e6, r2, f2⟩ := fin (.dct []) (.dK []) trivial ⟨b, [], [], rfl, ⟨rfl, rfl⟩, .inl upd_same, rfl⟩
  refine ⟨.ref a, sl_get e3, a, vs, (k : Int), .ref b, rfl, rfl, .inl e4, atI_nat e5, ty, b, xs, rfl, rfl, hk, ?_⟩
  have := q σ W2 r2 f2 Fx.refl
  rw [e6] at this; exact this
theorem s_ownSto {c1 c2 c3 : Nat} {pc pi pv ps ps' : Pos} {i v : Int} (hu : X.A.units + 1 < cLine) (hN : X.N[j]? = some x) (hv : Vis X.env.scope x) (hm : md mo j = .own) (hd : (x == ("__debug__" : Str)) = false := by decide) (hcd : (x == ("__classdict__" : Str)) = false := by decide)
    (hsl : PlainIx (.Constant (.int (k : Int)) c1 pc) := by intro _ _; rfl)
    (hs : swapsWith (.Constant (.int v) c3 pv) (some (.Subscript (.Subscript (.Name x p) (.Constant (.int (k : Int)) c1 pc) ps) (.Constant (.int i) c2 pi) ps')) pos.line X.env = pure false := by rfl) :
    Sm X cm J E mo (.Assign [.Subscript (.Subscript (.Name x p) (.Constant (.int (k : Int)) c1 pc) ps) (.Constant (.int i) c2 pi) ps'] (.Constant (.int v) c3 pv) pos) mo (sOwnSto j k i v) :=
  PS.imp (ps_dput hu (pe_ix ix_tup (pe_var hN hv hd hcd) pe_int hsl) pe_int pe_int hs) fun D σ H ⟨W, Γ, e1, r, q⟩ => by
  subst e1
  unfold sOwnSto at q
  cases eo : ownD (sl Γ j) k with
  | none => rw [eo] at q; exact q.elim
  | some pr =>
  obtain ⟨ts, d⟩ := pr
  rw [eo] at q
  simp only at q
  by_cases hl : d.length < 100000
  case neg => rw [if_neg hl] at q; exact q.elim
  rw [if_pos hl] at q
  obtain ⟨h1, h2, h3⟩ := ownD_some eo
  obtain ⟨a, vs, vk, b, e3, e4, e5, rk, mu, fin⟩ := r.ownAt hm h1 h2 h3
  obtain ⟨b', xs, G, rfl, rd, hd2, eq⟩ := rk
  obtain ⟨rfl, rfl⟩ := List.cons.inj eq
  have hk : W.H b = some (.dK xs) := by
    rcases hd2 with s | ⟨o, s⟩
    · exact s
    · rw [s] at mu; exact mu.elim
  have r2 := RepD.kp (kp_root (o := .dK (putK xs (.inl i) (.int v))) mu) _ _ _ rd (fun y hy => nomatch hy)
  obtain ⟨F', q1, q2⟩ := RepD.put (k := .inl i) (t := .int v) (v := .int v) (G := []) r2 ⟨rfl, rfl⟩
  have : F' = [] := List.eq_nil_iff_forall_not_mem.mpr fun y hy => (q2 y hy).elim (fun z => nomatch z) fun z => nomatch z
  subst this
  obtain ⟨W2, e6, r3, f2⟩ := fin (.dct (putT d (.inl i) (.int v))) (.dK (putK xs (.inl i) (.int v))) trivial ⟨b, _, [], rfl, q1, .inl upd_same, rfl⟩
  refine ⟨.ref a, sl_get e3, a, vs, (k : Int), .ref b, rfl, rfl, .inl e4, atI_nat e5, b, _, rfl, DPut.k (k := .inl i) (v := .int v) hk (by rw [rd.len]; exact Nat.lt_of_lt_of_le hl (by decide)), ?_⟩
  have := q σ W2 r3 f2 Fx.refl
  rw [e6] at this; exact this
end
end Tm
namespace Tm
open PySem PySem.Spec PyProof.Rows L2
/-! ### d.get(k) -/
def eGet1 (fd fk : EF) : EF := fun Γ => (fd Γ).bind fun Γ1 d => match d with
  | .dct kvs => (fk Γ1).bind fun Γ2 k => (match keyT k with | some k => .ok Γ2 ((lookT kvs k).getD .non) | none => .stuck)
  | _ => .stuck
section
variable {X : Cx} {cm : Cm} {mo : List Mode} {E : XK} {o a : Expr} {apos cpos : Pos} {k1 k2 : Kd} {ef eg : EF}
theorem ee_get1 (hu : X.A.units + 1 < cLine) (l1 : kle k1 .shared = true) (ho : Ee X cm mo E k1 o ef) (ha : Ee X cm mo E k2 a eg) (mm : M1 X o "get" apos a cpos) : Ee X cm mo E .shared (.Call (.Attribute o "get" apos) [a] [] cpos) (eGet1 ef eg) := by
  refine PE.imp (pe_dget1 hu ho ha mm) fun σ H Q ⟨W, Γ, e1, r0, q⟩ => ?_
  subst e1
  refine ⟨W, Γ, rfl, r0, PostE.imp (PostE.bind0 q) fun d W1 Γ1 ex r1 f1 q1 v1 G1 h1 kk1 => ?_⟩
  have q1 := q1 Γ1 ex r1 f1
  have nC := kk1.nC l1
  have ks1 := kk1.le l1
  cases d with
  | dct kvs =>
    have h1' := h1
    obtain ⟨a, xs, G', rfl, rd, s, eG⟩ := h1
    refine ⟨a, rfl, .inl ⟨xs, s⟩, W1, Γ1, rfl, r1, PostE.imp (PostE.start (PostE.bind0 q1) f1) fun y W2 Γ2 ey r2 f2 q2 v2 G2 h2 kk2 => ?_⟩
    have q2 := q2 Γ2 ey r2 (f1.trans f2)
    cases ek : keyT y with
    | none => rw [ek] at q2; exact q2.elim
    | some k =>
      rw [ek] at q2
      dsimp only at q2
      have h4 := h1'.step r1 f2 nC
      have s4 := KOk.step f2 (h1'.tr _ _ _) ks1
      have yk : v2 = kV k := keyT_rep ek h2
      have hy : Rep X.K cm W2.H (keyV k) v2 [] := by rw [yk]; exact rep_key
      have ek2 : keyT (keyV k) = some k := by cases k <;> rfl
      obtain ⟨p', F', e5, e6, g⟩ := dIx_get (o := lookT kvs k) (.inl ⟨kvs, k, rfl, ek2, rfl⟩) h4 hy
      cases e5
      cases el : lookT kvs k with
      | none =>
        rw [el] at g q2
        exact ⟨none, g, q2 W2 r2 (f1.trans f2) .non [] ⟨rfl, rfl⟩ fun x hx => nomatch hx⟩
      | some c =>
        rw [el] at g q2
        obtain ⟨w, Gw, g1, g2, g3⟩ := g
        exact ⟨some w, g1, q2 W2 r2 (f1.trans f2) w Gw g2 fun x hx => s4 x (by rw [e6]; exact List.mem_cons_of_mem _ (g3 x hx))⟩
  | _ => exact q1.elim
theorem pps_cons2 {k v : Expr} {ks : List (Option Expr)} {vs : List Expr} {trs : List (TE × TE)} {pos : Pos} (hk : Ee X cm mo E k1 k ef) (hv : Ee X cm mo E k2 v eg) (hr : PPs X pos ks vs trs) :
    PPs X pos (some k :: ks) (v :: vs) ((tE X.K cm mo k1 E ef, tE X.K cm mo k2 E eg) :: trs) := pps_cons hk hv hr
end
end Tm
namespace Tm
open PySem PySem.Spec PyProof.Rows L2
/-! ### x in l, l a list of data of any depth -/
def bInL : T → T → Option T
  | x, .lst ys => if dtT 30 x = true ∧ dtT 30 (.lst ys) = true then some (.bl (ys.any fun y => eqT y x)) else none
  | _, _ => none
section
variable {K : PySem.W.Frag} {cm : Cm}
theorem bInL_some {a b c : T} (e : bInL a b = some c) : ∃ ys, b = .lst ys ∧ dtT 30 a = true ∧ dtT 30 (.lst ys) = true ∧ c = .bl (ys.any fun y => eqT y a) := by
  unfold bInL at e
  split at e
  · split at e
    · rename_i h
      cases e
      exact ⟨_, rfl, h.1, h.2, rfl⟩
    · cases e
  · cases e
theorem any_pd {x : T} (hx : dtT 30 x = true) : ∀ {ys : List T}, (∀ y ∈ ys, dtT 29 y = true) → ((ys.map (pd 29)).any fun z => PyData.eqv z (pd 30 x)) = ys.any fun y => eqT y x
  | [], _ => rfl
  | y :: ys, h => by
    rw [List.map_cons, List.any_cons, List.any_cons, eqv_pd 29 30 y x (h y List.mem_cons_self) hx, any_pd hx fun z hz => h z (List.mem_cons_of_mem _ hz)]
theorem inL_core {neg : Bool} {a : T} {ys : List T} (h1 : dtT 30 a = true) (h2 : dtT 30 (.lst ys) = true) {H : Hp} {x y : V} {F G : List Addr} (ha : Rep K cm H a x F) (hb : Rep K cm H (.lst ys) y G) :
    ∃ d ds, Dp K H x d ∧ Dp K H y (.list ds) ∧ SeqAt.shaped d = true ∧ SeqAt.shaped (.list ds) = true ∧ (ds.any fun z => PyData.eqv z d) = ys.any fun y => eqT y a := by
  have l : ∀ z ∈ ys, dtT 29 z = true := List.all_eq_true.mp h2
  exact ⟨pd 30 a, ys.map (pd 29), dp_of _ _ _ _ h1 ha, dp_of _ _ _ _ h2 hb, pd_shaped h1 (by decide), pd_shaped (t := .lst ys) h2 (by decide), any_pd h1 l⟩
theorem sc_inL : Sc2 K cm (L2.rInD K) bInL := fun a b c e H x y F G ha hb Q q => by
  obtain ⟨ys, rfl, h1, h2, rfl⟩ := bInL_some e
  obtain ⟨d, ds, k1, k2, k3, k4, k5⟩ := inL_core (neg := false) h1 h2 ha hb
  exact ⟨d, ds, k1, k2, k3, k4, by rw [k5]; exact q _ H (fun _ _ h => h) ⟨rfl, rfl⟩⟩
theorem sc_ninL : Sc2 K cm (L2.rNotInD K) (bNot bInL) := fun a b c e H x y F G ha hb Q q => by
  obtain ⟨k, e2, rfl⟩ := bNot_some e
  obtain ⟨ys, rfl, h1, h2, e3⟩ := bInL_some e2
  cases e3
  obtain ⟨d, ds, k1, k2, k3, k4, k5⟩ := inL_core (neg := true) h1 h2 ha hb
  exact ⟨d, ds, k1, k2, k3, k4, by rw [k5]; exact q _ H (fun _ _ h => h) ⟨rfl, rfl⟩⟩
theorem flb_inL : ∀ a b c, bInL a b = some c → flatT c = true := fun a b c e => by obtain ⟨_, _, _, _, rfl⟩ := bInL_some e; rfl
end
end Tm
namespace Tm
open PySem PySem.Spec PyProof.Rows L2
/-! ### texts -/
def strsOf : List T → Option (List Str)
  | [] => some []
  | .str x :: r => (strsOf r).map (x :: ·)
  | _ :: _ => none
section
variable {K : PySem.W.Frag} {cm : Cm} {H : Hp}
theorem strs_reps : ∀ {ts : List T} {ys : List Str} {vs : List V} {F : List Addr}, strsOf ts = some ys → Reps K cm H ts vs F → vs = ys.map V.str
  | [], _, _, _, e, h => by cases e; exact h.1
  | .str x :: r, ys, vs, F, e, h => by
    obtain ⟨zs, e1, rfl⟩ := Option.map_eq_some_iff.mp e
    obtain ⟨v, r', F1, F2, rfl, rfl, h1, h2⟩ := h
    rw [h1.1, strs_reps e1 h2]; rfl
theorem reps_strs : ∀ ys : List Str, Reps K cm H (ys.map T.str) (ys.map V.str) []
  | [] => ⟨rfl, rfl⟩
  | y :: ys => ⟨V.str y, ys.map V.str, [], [], rfl, rfl, ⟨rfl, rfl⟩, reps_strs ys⟩
def bInS : T → T → Option T
  | .str x, .str z => match x.cps.toList with
    | [c] => some (.bl (decide (c ∈ z.cps.toList)))
    | _ => none
  | _, _ => none
theorem bInS_some {a b c : T} (e : bInS a b = some c) : ∃ (n : Nat) (z : Str), a = .str ⟨#[n]⟩ ∧ b = .str z ∧ c = .bl (decide (n ∈ z.cps.toList)) := by
  unfold bInS at e
  split at e
  · rename_i x z
    split at e
    · rename_i n hx
      cases e
      refine ⟨n, z, ?_, rfl, rfl⟩
      have : x.cps = #[n] := Array.toList_inj.mp hx
      cases x
      simp only at this
      rw [this]
    · cases e
  · cases e
theorem sc_inS : Sc2 K cm (fun x y H Q => ∃ (c : Nat) (z : Str), x = .str ⟨#[c]⟩ ∧ y = .str z ∧ Q (.bl (decide (c ∈ z.cps.toList))) H) bInS := fun a b c e H x y F G ha hb Q q => by
  obtain ⟨n, z, rfl, rfl, rfl⟩ := bInS_some e
  exact ⟨n, z, ha.1, hb.1, q _ H (fun _ _ h => h) ⟨rfl, rfl⟩⟩
theorem flb_inS : ∀ a b c, bInS a b = some c → flatT c = true := fun a b c e => by obtain ⟨_, _, _, _, rfl⟩ := bInS_some e; rfl
def tIntS : List T → Option T
  | [.str a] => if a.length ≤ 640 then (PySem.intText? a).map T.int else none
  | _ => none
theorem sc_intS : ScA K cm (fun xs H Q => ∃ a n, xs = [.str a] ∧ PySem.intText? a = some n ∧ a.length ≤ 640 ∧ Q (.int n) H) tIntS := fun ts c e H vs F h Q q => by
  unfold tIntS at e
  split at e
  · rename_i a
    split at e
    · rename_i hl
      obtain ⟨n, e1, rfl⟩ := Option.map_eq_some_iff.mp e
      obtain ⟨v, rfl, h1⟩ := h.arg1
      rw [h1.1]
      exact ⟨a, n, rfl, e1, hl, q _ H (fun _ _ h => h) ⟨rfl, rfl⟩⟩
    · cases e
  · cases e
def lmExtendL : T → List T → Option (T × T)
  | .lst xs, [.lst ts] => if xs.length + ts.length ≤ 100000 then some (.lst (xs ++ ts), .non) else none | _, _ => none
theorem lm_extendL : MtT K cm rExtend lmExtendL := fun t args t' res e H v a G vs F h m nG hF nF Q q => by
  unfold lmExtendL at e
  split at e
  · split at e
    · rename_i hlen
      cases e
      obtain ⟨xs, rfl, s, r, kp⟩ := lm_lst h m nG hF nF
      obtain ⟨y, rfl, hy⟩ := hF.arg1
      obtain ⟨b, zs, G', rfl, rz, hb, rfl⟩ := hy
      have rz' := rz.kp (kp_root (o := .lst (xs ++ zs)) m) _ _ _ (fun x hx => nF x (List.mem_cons_of_mem _ hx))
      refine ⟨a, b, xs, zs, rfl, rfl, s, hb, Nat.le_trans (by rw [r.len, rz.len]; exact hlen) (by decide), q _ (G ++ G') _ [] trivial ?_ (fun x hx => (List.mem_append.mp hx).elim .inl fun h => .inr (List.mem_cons_of_mem _ h)) ⟨rfl, rfl⟩ fun x hx => by cases hx⟩
      exact ⟨a, _, _, rfl, (kp _).1.append rz', upd_same, rfl⟩
    · cases e
  · cases e
end
def eJoin (ef eg : EF) : EF := fun Γ => (ef Γ).bind fun Γ1 x => match x with
  | .str a => (eg Γ1).bind fun Γ2 y => (match y with
    | .lst ts => (match strsOf ts with
      | some ys => if (ys.map (·.length)).sum + ys.length * a.length ≤ 1000000 then .ok Γ2 (.str (Txt.join a ys)) else .stuck
      | none => .stuck)
    | _ => .stuck)
  | _ => .stuck
def eSplit (ef eg : EF) : EF := fun Γ => (ef Γ).bind fun Γ1 x => match x with
  | .str a => (eg Γ1).bind fun Γ2 y => (match y with
    | .str b => if (b.length == 0) = false ∧ a.length ≤ 1000000 then .ok Γ2 (.lst ((Txt.split a b).map T.str)) else .stuck
    | _ => .stuck)
  | _ => .stuck
def eItemsS (ef : EF) : Env → Res (List T) := fun Γ => (ef Γ).bind fun Γ1 t => match t with
  | .str x => .ok Γ1 (x.cps.toList.map fun c => T.str ⟨#[c]⟩)
  | _ => .stuck
section
variable {X : Cx} {cm : Cm} {mo : List Mode} {E : XK} {o e tg iter : Expr} {apos pos : Pos} {k1 k2 kd : Kd} {ef eg : EF}
theorem ee_join (ho : Ee X cm mo E k1 o ef) (he : Ee X cm mo E k2 e eg) (hs : starEach [e] X.env = [(false, eval e X.env)] := by rfl) (hbase : attributeBase o "join" X.env (eval o X.env) = eval o X.env := by rfl) (hline : (apos.endLine == pos.line) = true := by rfl) :
    Ee X cm mo E .imm (.Call (.Attribute o "join" apos) [e] [] pos) (eJoin ef eg) := PE.imp (pe_join ho he hs hbase hline) fun σ H Q ⟨W, Γ, e1, r0, q⟩ => by
  subst e1
  refine ⟨W, Γ, rfl, r0, PostE.imp (PostE.bind0 q) fun x W1 Γ1 ex r1 f1 q1 v1 G1 h1 kk1 => ?_⟩
  have q1 := q1 Γ1 ex r1 f1
  cases x with
  | str a =>
    refine ⟨⟨a, h1.1⟩, W1, Γ1, rfl, r1, PostE.imp (PostE.start (PostE.bind0 q1) f1) fun y W2 Γ2 ey r2 f2 q2 v2 G2 h2 kk2 => ?_⟩
    have q2 := q2 Γ2 ey r2 (f1.trans f2)
    cases y with
    | lst ts =>
      simp only at q2
      cases es : strsOf ts with
      | none => rw [es] at q2; exact (show False from q2).elim
      | some ys =>
        rw [es] at q2
        simp only at q2
        by_cases hl : (ys.map (·.length)).sum + ys.length * a.length ≤ 1000000
        case neg => rw [if_neg hl] at q2; exact (show False from q2).elim
        rw [if_pos hl] at q2
        obtain ⟨p, xs, G', rfl, rp, s, rfl⟩ := h2
        rw [strs_reps es rp] at s
        exact ⟨a, p, ys, h1.1, rfl, .inl (SqL.of s), Nat.le_trans hl (by decide), q2 W2 r2 (f1.trans f2) _ [] ⟨rfl, rfl⟩ rfl⟩
    | _ => exact (show False from q2).elim
  | _ => exact (show False from q1).elim
theorem ee_split (ho : Ee X cm mo E k1 o ef) (he : Ee X cm mo E k2 e eg) (hs : starEach [e] X.env = [(false, eval e X.env)] := by rfl) (hbase : attributeBase o "split" X.env (eval o X.env) = eval o X.env := by rfl) (hline : (apos.endLine == pos.line) = true := by rfl) :
    Ee X cm mo E .fr1 (.Call (.Attribute o "split" apos) [e] [] pos) (eSplit ef eg) := PE.imp (pe_split ho he hs hbase hline) fun σ H Q ⟨W, Γ, e1, r0, q⟩ => by
  subst e1
  refine ⟨W, Γ, rfl, r0, PostE.imp (PostE.bind0 q) fun x W1 Γ1 ex r1 f1 q1 v1 G1 h1 kk1 => ?_⟩
  have q1 := q1 Γ1 ex r1 f1
  cases x with
  | str a =>
    refine ⟨⟨a, h1.1⟩, W1, Γ1, rfl, r1, PostE.imp (PostE.start (PostE.bind0 q1) f1) fun y W2 Γ2 ey r2 f2 q2 v2 G2 h2 kk2 => ?_⟩
    have f12 := f1.trans f2
    have q2 := q2 Γ2 ey r2 f12
    cases y with
    | str b =>
      simp only at q2
      by_cases hl : (b.length == 0) = false ∧ a.length ≤ 1000000
      case neg => rw [if_neg hl] at q2; exact (show False from q2).elim
      rw [if_pos hl] at q2
      refine ⟨a, b, h1.1, by rw [h2.1], hl.1, Nat.le_trans (Nat.add_le_add_right hl.2 2) (by decide), fun p hp => ?_⟩
      have s2 := same_upd (o := HO.lst ((Txt.split a b).map V.str)) hp
      have mk := kok_new (kd := .imm) (W := W) (W1 := W2) (G := []) f12 (fun x hx => by cases hx) rfl rfl r2 hp (o := HO.lst ((Txt.split a b).map V.str)) trivial
      exact q2 { W2 with H := _ } (r2.same s2) (f12.trans (same_fr s2)) (.ref p) [p] ⟨p, (Txt.split a b).map V.str, [], rfl, reps_strs _, upd_same, rfl⟩ mk
    | _ => exact (show False from q2).elim
  | _ => exact (show False from q1).elim
theorem itSp_str {K : PySem.W.Frag} {Wb : Wd} (x : Str) : ItSp K cm (Its x) (x.cps.toList.map fun c => T.str ⟨#[c]⟩) Wb := fun W f => by
  refine ⟨fun i t e => ?_, by rw [List.length_map, Array.length_toList]; exact Nat.le_refl _⟩
  rw [List.getElem?_map] at e
  obtain ⟨c, e1, rfl⟩ := Option.map_eq_some_iff.mp e
  have hi := (List.getElem?_eq_some_iff.mp e1).1
  rw [Array.length_toList] at hi
  refine ⟨hi, fun v H' y => ?_⟩
  obtain ⟨e2, c', e3, e4⟩ := y
  subst e2 e4
  rw [Array.getElem?_toList] at e1
  rw [e1] at e3
  cases e3
  exact ⟨fun _ _ h => h, [], ⟨rfl, rfl⟩, fun y hy => by cases hy⟩
theorem im_str (ha : Ee X cm mo E kd iter ef) : Im X cm mo E tg iter (eItemsS ef) := PI.imp (pi_str ha) fun σ H R' ⟨W, Γ, e1, r, q⟩ => by
  subst e1
  refine tE_of r (PostE.imp (PostE.bind q) fun t W1 Γ1 ex r1 f1 q1 v G h kk => ?_)
  have q1 := q1 Γ1 ex r1 f1
  cases t with
  | str x => exact ⟨x, h.1, q1 W1 r1 (Fr.refl _) (Its x) W1.H (fun _ => False) (fun _ _ h => h) (fun x hx => hx.elim) (itSp_str x)⟩
  | _ => exact (show False from q1).elim
end
end Tm
namespace Tm
open PySem PySem.Spec PyProof.Rows L2
/-! ### tuples that are known to bear no dict of their own: t.index(x) -/
def mkFs (ts : List T) : List (Str × T) := ts.map fun t => (("" : Str), t)
def wk0 : T → T
  | .ins C fs => if C ≠ "" ∨ (fs.map Prod.snd).all isK = true then .ins C fs else .tup (fs.map Prod.snd)
  | t => t
def wk1 : T → T
  | .tup ts => .tup (ts.map wk0)
  | t => wk0 t
def pWk (f : PF) : PF := fun Γ => (f Γ).map wk1
def eWk (f : EF) : EF := fun Γ => (f Γ).bind fun Γ1 t => .ok Γ1 (wk1 t)
def tTupP : List T → Option T
  | [.lst xs] => some (if xs.all isK then .tup xs else .ins "" (mkFs xs))
  | _ => none
def ixOf (xs : List T) (t : T) : Option Nat := xs.findIdx? fun y => eqT y t
def eTix (fo fa : EF) : EF := fun Γ => (fo Γ).bind fun Γ1 d => match d with
  | .ins C fs => if C ≠ "" then .stuck else (fa Γ1).bind fun Γ2 a => if (dtT 60 (.tup (fs.map Prod.snd)) && dtT 60 a) = true then (match ixOf (fs.map Prod.snd) a with | some j => .ok Γ2 (.int (j : Nat)) | none => .stuck) else .stuck
  | _ => .stuck
def eLix (fo fa : EF) : EF := fun Γ => (fo Γ).bind fun Γ1 d => match d with
  | .lst xs => (fa Γ1).bind fun Γ2 a => if (dtT 60 (.lst xs) && dtT 60 a) = true then (match ixOf xs a with | some j => .ok Γ2 (.int (j : Nat)) | none => .stuck) else .stuck
  | _ => .stuck
section
variable {K : PySem.W.Frag} {cm : Cm} {H : Hp}
theorem repF_of : ∀ {ts : List T} {vs : List V} {F : List Addr}, Reps K cm H ts vs F → RepF K cm H (mkFs ts) (vs.map fun v => (("" : Str), v)) F
  | [], _, _, h => by obtain ⟨rfl, rfl⟩ := h; exact ⟨rfl, rfl⟩
  | t :: ts, _, _, h => by
    obtain ⟨x, r, F1, F2, rfl, rfl, h1, h2⟩ := h
    exact ⟨x, _, F1, F2, rfl, rfl, h1, repF_of h2⟩
theorem reps_of : ∀ {fs : List (Str × T)} {xs : List (Str × V)} {F : List Addr}, RepF K cm H fs xs F → Reps K cm H (fs.map Prod.snd) (xs.map Prod.snd) F
  | [], _, _, h => by obtain ⟨rfl, rfl⟩ := h; exact ⟨rfl, rfl⟩
  | (k, t) :: ts, _, _, h => by
    obtain ⟨x, r, F1, F2, rfl, rfl, h1, h2⟩ := h
    exact ⟨x, _, F1, F2, rfl, rfl, h1, reps_of h2⟩
theorem isK_wk0 (t : T) : isK (wk0 t) = isK t := by
  cases t with
  | ins C fs =>
    show isK (if C ≠ "" ∨ (fs.map Prod.snd).all isK = true then .ins C fs else .tup (fs.map Prod.snd)) = _
    split <;> rfl
  | _ => rfl
theorem rep_wk0 : ∀ {t : T} {v : V} {F : List Addr}, Rep K cm H t v F → Rep K cm H (wk0 t) v F
  | .ins C fs, v, F, h => by
    show Rep K cm H (if C ≠ "" ∨ (fs.map Prod.snd).all isK = true then .ins C fs else .tup (fs.map Prod.snd)) v F
    split
    · exact h
    · rename_i n
      rcases h with ⟨_, a, o, xs, rfl, r, s, _⟩ | ⟨z, _⟩
      · exact ⟨a, _, rfl, ⟨.inr ⟨o, s⟩, fun q => (n (.inr q)).elim⟩, reps_of r⟩
      · exact (n (.inl z)).elim
  | .non, _, _, h => h | .bl _, _, _, h => h | .int _, _, _, h => h | .str _, _, _, h => h | .ty _, _, _, h => h | .exc _, _, _, h => h
  | .scr _, _, _, h => h | .tup _, _, _, h => h | .lst _, _, _, h => h | .dct _, _, _, h => h | .dtt _, _, _, h => h
theorem reps_wk0 : ∀ {ts : List T} {vs : List V} {F : List Addr}, Reps K cm H ts vs F → Reps K cm H (ts.map wk0) vs F
  | [], _, _, h => h
  | t :: ts, _, _, h => by
    obtain ⟨x, r, F1, F2, rfl, rfl, h1, h2⟩ := h
    exact ⟨x, r, F1, F2, rfl, rfl, rep_wk0 h1, reps_wk0 h2⟩
theorem rep_wk1 {t : T} {v : V} {F : List Addr} (h : Rep K cm H t v F) : Rep K cm H (wk1 t) v F := by
  cases t with
  | tup ts =>
    obtain ⟨a, xs, rfl, s, r⟩ := h
    refine ⟨a, xs, rfl, ⟨s.1, fun q => s.2 ?_⟩, reps_wk0 r⟩
    rw [List.all_map] at q
    rw [← q]
    congr 1
    funext t
    exact (isK_wk0 t).symm
  | _ => exact rep_wk0 h
end
section
variable {X : Cx} {cm : Cm} {mo : List Mode} {E : XK} {e : Expr} {kd : Kd} {f : PF} {ef : EF}
theorem ep_wk (h : Ep X cm mo kd e f) : Ep X cm mo kd e (pWk f) := PE.imp h fun σ H Q ⟨W, Γ, t, e1, r, e2, q⟩ => by
  obtain ⟨t', e3, rfl⟩ := Option.map_eq_some_iff.mp e2
  exact ⟨W, Γ, t', e1, r, e3, fun v H' G s h k => q v H' G s (rep_wk1 h) k⟩
theorem ee_wk (h : Ee X cm mo E kd e ef) : Ee X cm mo E kd e (eWk ef) := PE.imp h fun σ H Q ⟨W, Γ, e1, r0, q⟩ => by
  subst e1
  refine ⟨W, Γ, rfl, r0, PostE.imp (PostE.bind0 q) fun t W1 Γ1 ex r1 f1 q1 v G h kk => ?_⟩
  exact q1 Γ1 ex r1 f1 W1 r1 f1 v G (rep_wk1 h) kk
end
/-! tuple(list) -/
def rTupF (K : PySem.W.Frag) : RC := fun xs H Q => ∃ p ys, xs = [.ref p] ∧ SqL K H p ys ∧ ((∀ l, H l = none → Q (.ref l) (upd H l (.tup ys))) ∨
  (∀ l o, H l = none → o.cls = .type "tuple" → o.dict = none → Q (.ref l) (upd H l (.frz o (.tup ys)))))
theorem call_tuple_frz {X : Cx} : CallR X (.type "tuple") (rTupF X.K) := by
  intro pins s σ H xs us Q I r h
  obtain ⟨p, ys, rfl, hq, h⟩ := h
  obtain ⟨u, rfl, rx⟩ := vals1 r
  cases rx
  rcases h with q | q
  · obtain ⟨its, r', pl, hz⟩ := I.list hq
    have hlen := r'.length
    refine call_tuple_list pl.isList (fun h' kp => ?_) (by have := sizeLine_eq; simp only [List.size_toArray] <;> omega)
    have I1 : Inv X pins σ H { s with heap := h' } := I.kept (t' := s.toks) kp
    have I2 : Inv X pins σ (upd H h'.objs.size (.tup ys)) { s with heap := h'.push { cls := .type "tuple", data := .seq its.toArray } } :=
      I1.laid (t' := s.toks) (fun b o e => Heap.get?_push_of_some _ e) (Nat.le_refl _) (show ObjOk X.prog X.w _ _ _ (.tup ys) from ⟨hz, its, r', IsTup.new _ _⟩)
    exact ⟨.ref h'.objs.size, _, I2, rfl, q _ (I1.hok.fresh (Nat.le_refl _))⟩
  · obtain ⟨its, r', pl, hz⟩ := I.list hq
    have hlen := r'.length
    refine call_tuple_list pl.isList (fun h' kp => ?_) (by have := sizeLine_eq; simp only [List.size_toArray] <;> omega)
    have I1 : Inv X pins σ H { s with heap := h' } := I.kept (t' := s.toks) kp
    have I2 : Inv X pins σ (upd H h'.objs.size (.frz { cls := .type "tuple", data := .seq its.toArray } (.tup ys))) { s with heap := h'.push { cls := .type "tuple", data := .seq its.toArray } } :=
      I1.laid (t' := s.toks) (fun b o e => Heap.get?_push_of_some _ e) (Nat.le_refl _) (show ObjOk X.prog X.w _ _ _ (.frz _ (.tup ys)) from ⟨Heap.get?_push_size _ rfl, hz, its, r', IsTup.new _ _⟩)
    exact ⟨.ref h'.objs.size, _, I2, rfl, q _ _ (I1.hok.fresh (Nat.le_refl _)) rfl rfl⟩
theorem sb_tupleF {K : PySem.W.Frag} {cm : Cm} : SbA K cm (rTupF K) tTupP := fun ts c e H vs F h Q q => by
  unfold tTupP at e
  split at e
  · obtain ⟨v, rfl, h1⟩ := h.arg1
    obtain ⟨a, xs, G, rfl, r, s, sub⟩ := seqT h1
    refine ⟨a, xs, rfl, s, ?_⟩
    rename_i ts'
    by_cases ak : ts'.all isK = true
    · rw [if_pos ak] at e
      cases e
      exact .inl fun l hl => q _ _ G (same_upd hl) ⟨l, xs, rfl, tup_new upd_same, r.same (same_upd hl)⟩ sub
    · rw [if_neg ak] at e
      cases e
      refine .inr fun l o hl hc hd => q _ _ G (same_upd hl) (.inl ⟨rfl, l, o, _, rfl, repF_of (r.same (same_upd hl)), ?_, hc, hd⟩) sub
      rw [upd_same, List.map_map]
      have : (xs.map (Prod.snd ∘ fun v => (("" : Str), v))) = xs := by
        have : (Prod.snd ∘ fun v : V => (("" : Str), v)) = id := rfl
        rw [this, List.map_id]
      rw [this]
  · cases e
/-! the calls of index -/
def tyF (x : V) (H : Hp) : Prop := ∃ p o xs, x = .ref p ∧ H p = some (.frz o (.tup xs)) ∧ o.cls = .type "tuple" ∧ o.dict = none
def tBF (r : V → List V → Hp → VK → Prop) (to : TE) (t : TA) : TE := fun σ H Q => to σ H fun x H1 => tyF x H1 ∧ t σ H1 fun xs H2 => r x xs H2 Q
section
variable {X : Cx} {o e : Expr} {es : List Expr} {to : TE} {t : TA} {name : Str} {apos cpos : Pos} {id : String} {r : V → List V → Hp → VK → Prop}
theorem pe_bf (slot : Slot "tuple" name id) (hty : typeOf (.builtin id) = pure (.type "method_descriptor")) (hm : MtR X id r) (ho : PE X o to) (ha : PA X (e :: es) t)
    (hbase : attributeBase o name X.env (eval o X.env) = eval o X.env := by rfl)
    (hfew : ((backTo cpos (starEach (e :: es) X.env)).all (fun x => !x.1) && (backToKw cpos (keywordEach [] X.env)).all (fun x => x.1.isSome)
      && decide ((e :: es).length + ([] : List Keyword).length + (if ([] : List Keyword).isEmpty then 0 else 1) < 30)) = true := by rfl)
    (hline : (apos.endLine == cpos.line) = true := by rfl) (hs : starEach (e :: es) X.env = (false, eval e X.env) :: starEach es X.env := by rfl) (hplain : (backTo cpos (starEach es X.env)).any (·.1) = false := by rfl) :
    PE X (.Call (.Attribute o name apos) (e :: es) [] cpos) (tBF r to t) := by
  refine ⟨fun pins s σ H Q I h => ?_⟩
  refine wpAny_Call_method_late hbase hfew hline rfl (thn (ho.run pins s σ H _ I h) fun v s1 ⟨x, H1, I1, r1, ty, q1⟩ => ?_)
  have hh : s1.TypeIs v "tuple" ∧ ∀ a, v = .ref a → ∃ ob, s1.heap.get? a = some ob ∧ ob.dict = none := by
    obtain ⟨p, ob, ys, rfl, hp, hc, hd⟩ := ty
    cases r1
    obtain ⟨e1, _⟩ := (show ObjOk X.prog X.w H1 s1.heap p (.frz ob (.tup ys)) from I1.hok p _ hp)
    refine ⟨⟨ob, e1, hc⟩, fun a e => ?_⟩
    cases e
    exact ⟨ob, e1, hd⟩
  refine ⟨"tuple", id, PySem.F.plainAttrs_tuple, slot, hty, hh.1, hh.2, ?_⟩
  have hA := ha.run cpos pins s1 σ H1 _ I1 q1
  rw [hs] at hA ⊢
  refine Calls.callWith_builtin (by show (false || (backTo cpos (starEach es X.env)).any (·.1)) = false; rw [hplain] <;> rfl) (Calls.evalArgs_plain ?_)
  exact thn hA fun us s2 ⟨vs, H2, I2, r2, q2⟩ => hm pins s2 σ H2 x vs v us Q I2 r1 r2 q2
end
def rIndexDT (K : PySem.W.Frag) : V → List V → Hp → VK → Prop := fun x xs H Q => ∃ (a : Addr) (y : V) (d : PyData) (ds : List PyData) (j : Nat) (z : PyData), x = V.ref a ∧ xs = [y] ∧ Dp K H (V.ref a) (.tuple ds) ∧ Dp K H y d ∧
  SeqAt.shaped (.tuple ds) = true ∧ SeqAt.shaped d = true ∧ ds[j]? = some z ∧ PyData.eqv z d = true ∧ (∀ (m : Nat) (z' : PyData), m < j → ds[m]? = some z' → PyData.eqv z' d = false) ∧ Q (.int (j : Nat)) H
theorem mt_indexDT {X : Cx} (hu : X.A.units + 65 < cLine) : MtR X "tuple.index" (rIndexDT X.K) := by
  intro pins s σ H x xs v us Q I rx rxs h
  obtain ⟨a, y, d, ds, j, z, rfl, rfl, hl, hy, sl, sd, hz, hzj, hno, q⟩ := h
  cases rx
  cases rxs with
  | cons ry rt =>
    rename_i uy ut
    cases rt
    obtain ⟨bs, r1⟩ := Dp.reads I d y uy hy ry
    have hxs : PyData.canLayAll0 ds = true := SeqAt.canLay_of_shaped sl
    have hroom : X.A.units + 1 + min (PyData.depthAll ds) d.depth < cLine := room_in_shaped sd hu
    cases hl with
    | tup hs ha =>
      obtain ⟨its, rv, ⟨⟨cls, dd, data, sls⟩, ho, hc, n, hdt⟩, hlen⟩ := I.tuple hs
      simp only at hc hdt
      subst hc hdt
      obtain ⟨as, h4⟩ := Dp.readsAll I ds _ its ha rv
      have hn : its.length = ds.length := SeqAt.ReadsAll.length ds its as h4
      have hmap : its.map (SeqAt.readOf s.heap) = ds := SeqAt.readsAll_map ds its as hxs h4
      have hvl := rv.length
      obtain ⟨hjd, _⟩ := List.getElem?_eq_some_iff.mp hz
      have hjl : j < its.length := by omega
      have hj : j < its.toArray.size := by simpa using hjl
      have at_ : ∀ (m : Nat) (hm : m < its.toArray.size) (z' : PyData), ds[m]? = some z' → SeqAt.readOf s.heap its.toArray[m] = z' := by
        intro m hm z' hz'
        have hml : m < its.length := by simpa using hm
        rw [← hmap, List.getElem?_map, List.getElem?_eq_getElem hml] at hz'
        have e1 : SeqAt.readOf s.heap its[m] = z' := Option.some.inj (show some (SeqAt.readOf s.heap its[m]) = some z' from hz')
        simpa using e1
      refine call_meets PySem.F.slot_tuple_index ⟨_, ho, rfl⟩ PySem.F.entry_tuple_index (PySem.F.args_tuple_index_2 _ _)
        (TI.tuple_indexAt a its.toArray n dd sls uy (fun u => PyData.eqv (SeqAt.readOf s.heap u) d) j hj ?_ ?_) ⟨ho, SeqAt.items_eqAt (vs := its.toArray) (show ReadsAll s.heap its.toArray.toList ds as from h4) r1 hxs (SeqAt.canLay_of_shaped sd) hroom, ?_⟩
      · show PyData.eqv (SeqAt.readOf s.heap its.toArray[j]) d = true
        rw [at_ j hj z hz]
        exact hzj
      · intro m hm hmj
        have hmd : m < ds.length := by omega
        have hz' : ds[m]? = some ds[m] := List.getElem?_eq_getElem hmd
        show PyData.eqv (SeqAt.readOf s.heap its.toArray[m]) d = false
        rw [at_ m hm _ hz']
        exact hno m _ hmj hz'
      · exact ⟨.int (j : Nat), H, I.tok _, ⟨_, rfl⟩, q⟩
theorem ix_data {xs : List T} {a : T} {j n : Nat} (e : ixOf xs a = some j) (hx : ∀ x ∈ xs, dtT n x = true) {m : Nat} (ha : dtT m a = true) :
    ∃ z, (xs.map (pd n))[j]? = some z ∧ PyData.eqv z (pd m a) = true ∧ ∀ (k : Nat) (z' : PyData), k < j → (xs.map (pd n))[k]? = some z' → PyData.eqv z' (pd m a) = false := by
  obtain ⟨hj, h1, h2⟩ := List.findIdx?_eq_some_iff_getElem.mp e
  refine ⟨pd n xs[j], by rw [List.getElem?_map, List.getElem?_eq_getElem hj]; rfl, ?_, fun k z' hk hz => ?_⟩
  · rw [eqv_pd n m _ _ (hx _ (List.getElem_mem hj)) ha]; exact h1
  · have hkl : k < xs.length := Nat.lt_trans hk hj
    rw [List.getElem?_map, List.getElem?_eq_getElem hkl] at hz
    cases hz
    rw [eqv_pd n m _ _ (hx _ (List.getElem_mem hkl)) ha]
    have := h2 k hk
    cases q : eqT xs[k] a with
    | false => rfl
    | true => exact absurd q this
section
variable {X : Cx} {cm : Cm} {mo : List Mode} {E : XK} {o a : Expr} {apos cpos : Pos} {k1 k2 : Kd} {ef eg : EF}
theorem ee_tix (hu : X.A.units + 65 < cLine) (l1 : kle k1 .shared = true) (ho : Ee X cm mo E k1 o ef) (ha : Ee X cm mo E k2 a eg)
    (hbase : attributeBase o "index" X.env (eval o X.env) = eval o X.env := by rfl)
    (hfew : ((backTo cpos (starEach [a] X.env)).all (fun x => !x.1) && (backToKw cpos (keywordEach [] X.env)).all (fun x => x.1.isSome)
      && decide ([a].length + ([] : List Keyword).length + (if ([] : List Keyword).isEmpty then 0 else 1) < 30)) = true := by rfl)
    (hline : (apos.endLine == cpos.line) = true := by rfl) (hs : starEach [a] X.env = (false, eval a X.env) :: starEach [] X.env := by rfl) (hplain : (backTo cpos (starEach [] X.env)).any (·.1) = false := by rfl) :
    Ee X cm mo E .imm (.Call (.Attribute o "index" apos) [a] [] cpos) (eTix ef eg) := by
  refine PE.imp (pe_bf PySem.F.slot_tuple_index PySem.F.type_tuple_index (mt_indexDT hu) ho (pa_cons ha pa_nil (hs := hs)) hbase hfew hline hs hplain) fun σ H Q ⟨W, Γ, e1, r0, q⟩ => ?_
  subst e1
  refine ⟨W, Γ, rfl, r0, PostE.imp (PostE.bind0 q) fun d W1 Γ1 ex r1 f1 q1 v1 G1 h1 kk1 => ?_⟩
  have q1 := q1 Γ1 ex r1 f1
  have nC := kk1.nC l1
  have ks1 := kk1.le l1
  cases d with
  | ins C fs =>
    have h1' := h1
    dsimp only at q1
    by_cases hC : C ≠ ""
    · rw [if_pos hC] at q1; exact q1.elim
    rw [if_neg hC] at q1
    have h1 := h1.resolve_right fun z => hC z.1
    obtain ⟨_, p, ob, xs, rfl, rd, s, hc, hd⟩ := h1
    refine ⟨⟨p, ob, _, rfl, s, hc, hd⟩, W1, Γ1, rfl, r1, PostE.imp (PostE.start (PostE.bind0 q1) f1) fun y W2 Γ2 ey r2 f2 q2 v2 G2 h2 kk2 => ?_⟩
    have q2 := q2 Γ2 ey r2 (f1.trans f2)
    by_cases hd : (dtT 60 (.tup (fs.map Prod.snd)) && dtT 60 y) = true
    · rw [if_pos hd] at q2
      rw [Bool.and_eq_true] at hd
      cases ei : ixOf (fs.map Prod.snd) y with
      | none => rw [ei] at q2; exact q2.elim
      | some j =>
        rw [ei] at q2
        have h4 := h1'.step r1 f2 nC
        obtain ⟨_, p', ob', xs', e5, rd', s', _⟩ := h4.resolve_right fun z => hC z.1
        cases e5
        have hx : ∀ x ∈ fs.map Prod.snd, dtT 59 x = true := List.all_eq_true.mp (by have h9 := hd.1; unfold dtT at h9; exact h9)
        obtain ⟨z, z1, z2, z3⟩ := ix_data ei hx hd.2
        have rT : Rep X.K cm W2.H (.tup (fs.map Prod.snd)) (.ref p) G1 ∨ True := .inr trivial
        have dA : DpAll X.K W2.H (xs'.map Prod.snd) ((fs.map Prod.snd).map (pd 59)) := dpAll_of (dp_of 59) _ _ _ hx (reps_of rd')
        refine ⟨p, v2, pd 60 y, _, j, z, rfl, rfl, .tup (.inl (.inr ⟨ob', s'⟩)) dA, dp_of 60 y v2 G2 hd.2 h2, ?_, pd_shaped hd.2 (by decide), z1, z2, z3, ?_⟩
        · have := pd_shaped (n := 60) hd.1 (by decide)
          exact this
        · exact q2 W2 r2 (f1.trans f2) (.int (j : Nat)) [] ⟨rfl, rfl⟩ rfl
    · rw [if_neg hd] at q2; exact q2.elim
  | _ => exact q1.elim
theorem ee_lix (hu : X.A.units + 65 < cLine) (l1 : kle k1 .shared = true) (ho : Ee X cm mo E k1 o ef) (ha : Ee X cm mo E k2 a eg)
    (hbase : attributeBase o "index" X.env (eval o X.env) = eval o X.env := by rfl)
    (hfew : ((backTo cpos (starEach [a] X.env)).all (fun x => !x.1) && (backToKw cpos (keywordEach [] X.env)).all (fun x => x.1.isSome)
      && decide ([a].length + ([] : List Keyword).length + (if ([] : List Keyword).isEmpty then 0 else 1) < 30)) = true := by rfl)
    (hline : (apos.endLine == cpos.line) = true := by rfl) (hs : starEach [a] X.env = (false, eval a X.env) :: starEach [] X.env := by rfl) (hplain : (backTo cpos (starEach [] X.env)).any (·.1) = false := by rfl) :
    Ee X cm mo E .imm (.Call (.Attribute o "index" apos) [a] [] cpos) (eLix ef eg) := by
  refine PE.imp (pe_bm PySem.F.plainAttrs_list PySem.F.slot_list_index PySem.F.type_list_index (mt_indexD hu) ho (pa_cons ha pa_nil (hs := hs)) hbase hfew hline hs hplain) fun σ H Q ⟨W, Γ, e1, r0, q⟩ => ?_
  subst e1
  refine ⟨W, Γ, rfl, r0, PostE.imp (PostE.bind0 q) fun d W1 Γ1 ex r1 f1 q1 v1 G1 h1 kk1 => ?_⟩
  have q1 := q1 Γ1 ex r1 f1
  have nC := kk1.nC l1
  have ks1 := kk1.le l1
  cases d with
  | lst xs =>
    have h1' := h1
    obtain ⟨p, vs, G, rfl, rd, s, eG⟩ := h1
    refine ⟨.inl ⟨rfl, vs, .inl (.inl s)⟩, W1, Γ1, rfl, r1, PostE.imp (PostE.start (PostE.bind0 q1) f1) fun y W2 Γ2 ey r2 f2 q2 v2 G2 h2 kk2 => ?_⟩
    have q2 := q2 Γ2 ey r2 (f1.trans f2)
    by_cases hd : (dtT 60 (.lst xs) && dtT 60 y) = true
    · rw [if_pos hd] at q2
      rw [Bool.and_eq_true] at hd
      cases ei : ixOf xs y with
      | none => rw [ei] at q2; exact q2.elim
      | some j =>
        rw [ei] at q2
        have h4 := h1'.step r1 f2 nC
        have hx : ∀ x ∈ xs, dtT 59 x = true := by have := hd.1; simpa [dtT] using this
        obtain ⟨z, z1, z2, z3⟩ := ix_data ei hx hd.2
        refine ⟨p, v2, pd 60 y, _, j, z, rfl, rfl, dp_of 60 _ _ _ hd.1 h4, dp_of 60 y v2 G2 hd.2 h2, pd_shaped (n := 60) hd.1 (by decide), pd_shaped hd.2 (by decide), z1, z2, z3, ?_⟩
        exact q2 W2 r2 (f1.trans f2) (.int (j : Nat)) [] ⟨rfl, rfl⟩ rfl
    · rw [if_neg hd] at q2; exact q2.elim
  | _ => exact q1.elim
end
end Tm
namespace Tm
open PySem PySem.Spec PyProof.Rows L2
open PySem.Sem (wp)
open PySem.AutoSeq1 (wpAny_loadPart')
/-! ### enumerate(tuple) -/
theorem enumNewT (l : Addr) (items : Array Value) (n : Nat) (dct : Option Addr) (sl : Array (Option Value)) :
    Meets (Builtin.«enumerate.__new__» ⟨[.type "enumerate", .ref l], []⟩) (fun _ R s => s.heap.get? l = some { cls := .type "tuple", dict := dct, data := .seq items n, slots := sl } ∧
      R (.ok (.ret (.ref (s.heap.push { cls := .type "tuple_iterator", data := .fields #[.ref l, .int 0 0] }).objs.size)))
        { s with heap := (s.heap.push { cls := .type "tuple_iterator", data := .fields #[.ref l, .int 0 0] }).push { cls := .type "enumerate", data := .fields #[.none, .bool false, .ref s.heap.objs.size, rawInt 0, .none, .none] } }) :=
  .of_wp fun prog w A R s h => by
    obtain ⟨hp, g, d, tk, os⟩ := s; obtain ⟨hl, h⟩ := h
    have hsub := sub_enumerate
    have hL : Heap.IsTuple (Shared.heap ⟨hp, g, d, tk, os⟩) l items := ⟨_, hl, rfl, n, rfl⟩
    wp_walk using wpAny_loadPart' hl
    refine wpAny_stack_any fun st => wpAny_pure ?_
    split
    · rename_i c _ _ _ _ _
      cases (c == Value.type "enumerate")
      · wp_walk using wpAny_loadPart' hl, wpAny_pyIter_tuple hL
        exact ⟨_, rfl, h⟩
      · wp_walk using wpAny_loadPart' hl, wpAny_pyIter_tuple hL
        exact ⟨_, rfl, h⟩
    · wp_walk using wpAny_loadPart' hl, wpAny_pyIter_tuple hL
      exact ⟨_, rfl, h⟩
section
variable {prog : Program} {w : World} {A : Around} {E : Value → Shared → Prop} {s : Shared}
theorem call_enumT {l : Addr} {items : Array Value} {Q : Value → Shared → Prop} (hL : s.heap.IsTuple l items)
    (h : ∀ h', IsEnum h' (s.heap.objs.size + 1) s.heap.objs.size 0 .none → h'.IsTupleIter s.heap.objs.size l 0 → h'.objs.size = s.heap.objs.size + 2 →
      (∀ b o, s.heap.get? b = some o → h'.get? b = some o) → Q (.ref (s.heap.objs.size + 1)) { s with heap := h' }) :
    wpAny (model prog w) A (call (.type "enumerate") [.ref l]) Q E s := by
  obtain ⟨⟨c, dct, dt, sl⟩, hl, hc, n, hd⟩ := hL
  replace hc : c = .type "tuple" := hc
  replace hd : dt = .seq items n := hd
  subst hc hd
  refine callType_new F.called_enumerate (by decide) (F.typeCall_enumerate_1 _) (F.newCall_enumerate_1 _) (fun obj => F.args_object_init_2 obj _) F.entry_enumerate_new
    (enumNewT l items n dct sl) ⟨hl, ?_⟩
  have hz : (s.heap.push { cls := .type "tuple_iterator", data := .fields #[.ref l, .int 0 0] }).objs.size = s.heap.objs.size + 1 := Heap.size_push ..
  show _ ∧ _
  rw [hz]
  have he : IsEnum ((s.heap.push { cls := .type "tuple_iterator", data := .fields #[.ref l, .int 0 0] }).push
      { cls := .type "enumerate", data := .fields #[.none, .bool false, .ref s.heap.objs.size, rawInt 0, .none, .none] }) (s.heap.objs.size + 1) s.heap.objs.size 0 .none := by
    have := Heap.get?_push_size (s.heap.push { cls := .type "tuple_iterator", data := .fields #[.ref l, .int 0 0] })
      (o := { cls := .type "enumerate", data := .fields #[.none, .bool false, .ref s.heap.objs.size, rawInt 0, .none, .none] }) rfl
    rw [hz] at this; exact this
  refine ⟨⟨_, he, rfl⟩, h _ he ⟨_, Heap.get?_push_of_some _ (Heap.get?_push_size _ rfl), rfl, rfl⟩ (by rw [Heap.size_push, hz]) fun b o x => Heap.get?_push_of_some _ (Heap.get?_push_of_some _ x)⟩
end
def IteT (K : PySem.W.Frag) (a : Addr) : It :=
  ⟨fun i H => ∃ (xs : List V) (x : V), SqT K H a xs ∧ xs[i]? = some x, fun i H v H' => ∃ T x, v = .ref T ∧ H T = none ∧ H' = upd H T (.tup [.int (i : Nat), x]) ∧ ∀ xs, SqT K H a xs → xs[i]? = some x, fun i H => ∃ xs : List V, SqT K H a xs ∧ xs.length ≤ i⟩
theorem turn_enumT {P : Program} {w : World} {K : PySem.W.Frag} {elts : List Expr} {kk : Nat} {tpos : Pos} (a e it : Addr) (hea : e ≠ a) (hia : it ≠ a) :
    Turn P w K (.Tuple elts kk tpos) (IteT K a) [e, it] e (fun i h => (∃ old, IsEnum h e it ((i : Nat) : Int) old) ∧ h.IsTupleIter it a i ∧ e ≠ it) where
  mem := by simp
  obj := fun i h st b hb => by
    obtain ⟨⟨old, he⟩, ⟨o, ho, hc, hd⟩, _⟩ := st
    have e' : b = e ∨ b = it := by simpa using hb
    rcases e' with z | z
    · rw [z]; exact ⟨_, he, fun v q => nomatch q⟩
    · rw [z]; exact ⟨o, ho, fun v q => by rw [hd] at q; cases q⟩
  keep := fun i h h' st k => let ⟨⟨old, he⟩, hi, hne⟩ := st; ⟨⟨old, k e (by simp) _ he⟩, hi.at fun o q => k it (by simp) o q, hne⟩
  item := by
    intro X hP hw hK hc i pins s σ H E I hf st hg
    subst hP hw hK
    obtain ⟨⟨old, he⟩, hit, hne⟩ := st
    obtain ⟨xs, x, hq, hx⟩ := hg
    obtain ⟨its, rv, p, hz⟩ := I.tuple hq
    obtain ⟨u, hu, ru⟩ := rv.get hx
    have hel : e < s.heap.objs.size := Heap.lt_size he
    have hil : it < s.heap.objs.size := by obtain ⟨_, q, _⟩ := hit; exact Heap.lt_size q
    have hlt : i < its.toArray.size := by have := (List.getElem?_eq_some_iff.mp hu).1; simpa using this
    refine wpAny_pyNext_enum_itemD (Draws.tuple (A := X.A.in1) (show X.A.in1.handled = none from I.ok.hd hc) it a (Ne.symm hia) its.toArray) he ⟨hit, p⟩ hlt hne (by simp [hne, hea]) fun u' h' tk hu' ho hst' hT hsz hk => ?_
    obtain ⟨hit', _⟩ := hst'
    have eu : u' = u := by
      have h2 : its.toArray[i]? = some u := by simpa using hu
      rw [h2] at hu'
      exact (Option.some.inj hu').symm
    subst eu
    refine ⟨_, rfl, wpAny_letOwnedTupleGo_enum (s := { s with heap := h', toks := tk + 1 }) ho fun h'' he' sb => ?_⟩
    have hT2 : h''.get? s.heap.objs.size = some { cls := .type "tuple", data := .seq #[.int i tk, u'] } := (sb.2 _ (Nat.ne_of_gt hel)).trans hT
    have new : ObjOk X.prog X.w (upd H s.heap.objs.size (.tup [.int (i : Nat), x])) h'' s.heap.objs.size (.tup [.int (i : Nat), x]) :=
      ⟨by show 2 ≤ sizeLine; decide, [.int i tk, u'], .cons ⟨_, rfl⟩ (.cons ru .nil), ⟨_, hT2, rfl, _, rfl⟩⟩
    have I1 : Inv X pins σ (upd H s.heap.objs.size (.tup [.int (i : Nat), x])) { s with heap := h'', toks := tk + 1 } :=
      I.turnedNew (ch := [e, it]) (fun b ob hb q => (sb.2 b (fun z => hb (by simp [z]))).trans (hk b ob (fun z => hb (by simp [z])) (fun z => hb (by simp [z])) q)) hf (Nat.le_refl _) new
    refine ⟨.ref s.heap.objs.size, _, I1, rfl, ⟨_, x, rfl, I.hok.fresh (Nat.le_refl _), rfl, fun ys hy => by rw [I.tuple_inj hy hq]; exact hx⟩, ⟨⟨u', ?_⟩, hit'.at fun o q => (sb.2 it (Ne.symm hne)).trans q, hne⟩, fun b hb => ?_⟩
    · have e1 : ((i + 1 : Nat) : Int) = (i : Int) + 1 := by omega
      rw [e1]; exact he'
    · have hb' : b < s.heap.objs.size := by
        have e' : b = e ∨ b = it := by simpa using hb
        rcases e' with z | z
        · rw [z]; exact hel
        · rw [z]; exact hil
      rw [upd_ne (Nat.ne_of_lt hb')]
      exact (hf b hb).1
  done := by
    intro X hP hw hK hc i pins s σ H E I hf st hg
    subst hP hw hK
    obtain ⟨⟨old, he⟩, hit, hne⟩ := st
    obtain ⟨xs, hq, hx⟩ := hg
    obtain ⟨its, rv, p, hz⟩ := I.tuple hq
    obtain ⟨f0, f1, f2, f3, f4, f5⟩ := hf it (by simp)
    have hl := rv.length
    have hT : s.TypeIs (.ref e) "enumerate" := ⟨_, he, rfl⟩
    unfold pyNext
    refine wpAny_bind (wpAny_attempt (wpAny_callSpecial?_slot (name := Str.ofString "__next__") hT F.slot_enumerate_next
      (wpAny_call_entry F.slot_enumerate_next hT F.entry_enumerate_next ?_ (F.args_enumerate_next_1 _))))
    show wpAny _ _ (field (.ref e) 2 >>= _) _ _ _
    refine wpAny_bind (wpAny_field he rfl (x := .ref it) rfl ?_)
    refine wpAny_bind (wpAny_nextOf_tuple_end (I.ok.hd hc) hit p (by simp; omega) fun h' x he' hx' => ?_)
    obtain ⟨o, ho, hc⟩ := hx'
    refine wpAny_bind (wpAny_isInstance (T := "StopIteration") (b := true) ⟨o, ho, hc⟩ isSubtype_stop ?_)
    exact wpAny_pure ⟨rfl, I.turned (t' := s.toks) (fun b o hb q => he' b o hb q) f0 f1 f3 f4 f5⟩
  self := fun A i s Q E st h => let ⟨⟨_, he⟩, _⟩ := st; wpAny_pyIter_enum he h
def iEnumT (K : PySem.W.Frag) (ta : TA) : TI := fun σ H R => ta σ H fun vs H1 => ∃ a xs, vs = [.ref a] ∧ SqT K H1 a xs ∧ R (IteT K a) H1
theorem pi_enumT {X : Cx} {e : Expr} {ta : TA} {p pos tpos : Pos} {elts : List Expr} {kk : Nat} (hg : Gl X "enumerate") (hm : X.mg "enumerate" = none) (ha : PA X [e] ta) (hs : starEach [e] X.env = [(false, eval e X.env)] := by rfl) :
    PI X (.Tuple elts kk tpos) (.Call (.Name "enumerate" p) [e] [] pos) (iEnumT X.K ta) := by
  refine ⟨fun pins s σ H R I h => ?_⟩
  refine Call_ (ld_blt I hg hm boot_enumerate (PyProof.Rows.callWith_type1 (thn (ha.run pos pins s σ H _ I h) fun us s1 ⟨vs, H1, I1, r1, q1⟩ => ?_) hs rfl))
  obtain ⟨a, xs, ex, hq, q⟩ := q1
  subst ex
  cases r1 with
  | cons r rr =>
    cases rr
    cases r
    obtain ⟨its, rv, p', hz⟩ := I1.tuple hq
    have hal : a < s1.heap.objs.size := by obtain ⟨_, q, _⟩ := p'; exact Heap.lt_size q
    refine call_enumT p' fun h' he hit hsz hk => wpAny_pyIter_enum he ?_
    have I2 : Inv X pins σ H1 { s1 with heap := h' } := I1.kept (t' := s1.toks) hk
    refine ⟨s1.heap.objs.size + 1, [s1.heap.objs.size + 1, s1.heap.objs.size], _, _, H1, rfl, I2, turn_enumT a (s1.heap.objs.size + 1) s1.heap.objs.size (Nat.ne_of_gt (Nat.lt_succ_of_lt hal)) (Nat.ne_of_gt hal), ⟨⟨.none, he⟩, hit, Nat.succ_ne_self _⟩, fun b hb => ?_, q⟩
    have e' : b = s1.heap.objs.size + 1 ∨ b = s1.heap.objs.size := by simpa using hb
    have hle : s1.heap.objs.size ≤ b := by
      rcases e' with z | z
      · rw [z]; exact Nat.le_add_right _ _
      · rw [z]; exact Nat.le_refl _
    exact I1.fpOk hle (I1.hok.fresh hle)
/-- the places counted -/
def ixd : Nat → List T → List T
  | _, [] => []
  | n, t :: ts => .tup [.int (n : Nat), t] :: ixd (n + 1) ts
def enumT : List T → Option (List T)
  | [.tup xs] => some (ixd 0 xs) | _ => none
theorem ixd_get : ∀ {ts : List T} {n i : Nat} {t : T}, (ixd n ts)[i]? = some t → ∃ u, ts[i]? = some u ∧ t = .tup [.int ((n + i : Nat) : Int), u]
  | [], n, i, t, h => by simp [ixd] at h
  | u :: ts, n, 0, t, h => by
    simp [ixd] at h
    exact ⟨u, rfl, h.symm⟩
  | u :: ts, n, i + 1, t, h => by
    obtain ⟨v, h1, h2⟩ := ixd_get (ts := ts) (n := n + 1) (i := i) (t := t) (by simpa [ixd] using h)
    exact ⟨v, by simpa using h1, by rw [h2, show n + 1 + i = n + (i + 1) by omega]⟩
theorem ixd_len : ∀ (ts : List T) (n : Nat), (ixd n ts).length = ts.length
  | [], _ => rfl
  | _ :: ts, n => by show (ixd (n + 1) ts).length + 1 = _; rw [ixd_len ts (n + 1)]; rfl
section
variable {K : PySem.W.Frag} {cm : Cm} {Wb : Wd}
theorem itSp_enumT {a : Addr} {ts : List T} {xs : List V} {G : List Addr} (h : Rd Wb.H a (.tup xs)) (r : Reps K cm Wb.H ts xs G) (g : ∀ x ∈ G, Wb.S x) (sc : ∀ x, Wb.S x → ¬ Wb.C x) (mu : ∀ x, Wb.C x → Mut (Wb.H x)) : ItSp K cm (IteT K a) (ixd 0 ts) Wb := fun W f => by
  have e := (f.kp mu).tupR h
  have r2 := r.kp (f.kp mu) _ _ _ fun x hx => sc x (g x hx)
  refine ⟨fun i t et => ?_, ⟨xs, .inl e, by rw [r.len, ixd_len]; exact Nat.le_refl _⟩⟩
  obtain ⟨u, e5, rfl⟩ := ixd_get et
  obtain ⟨x, Gx, e1, rx, s⟩ := r2.get e5
  refine ⟨⟨xs, x, .inl e, e1⟩, fun y H' hy => ?_⟩
  obtain ⟨q, x2, rfl, hq, rfl, e3⟩ := hy
  have e4 := e3 xs (.inl e)
  rw [e1] at e4
  cases e4
  have sm := same_upd (o := HO.tup [V.int (i : Nat), x]) hq
  refine ⟨sm, Gx, ⟨q, _, rfl, tup_new upd_same, ?_⟩, fun y hy => g y (s y hy)⟩
  have r3 := rx.same sm
  have : Reps K cm (upd W.H q (HO.tup [V.int (i : Nat), x])) [T.int ((0 + i : Nat) : Int), u] [V.int (i : Nat), x] ([] ++ Gx) := by
    refine .cons ⟨?_, rfl⟩ (.one r3)
    rw [Nat.zero_add]
  exact this
end
section
variable {X : Cx} {cm : Cm} {mo : List Mode} {E : XK} {a : Expr} {elts : List Expr} {kk : Nat} {p pos tpos : Pos} {kd : Kd} {xf : Env → Res (List T)}
theorem im_enumT (l : kle kd .shared = true) (hg : Gl X "enumerate") (hm : X.mg "enumerate" = none) (ha : Ak X cm mo E kd [a] xf) (hs : starEach [a] X.env = [(false, eval a X.env)] := by rfl) :
    Im X cm mo E (.Tuple elts kk tpos) (.Call (.Name "enumerate" p) [a] [] pos) (eArgs enumT xf) := PI.imp (pi_enumT hg hm ha hs) fun σ H R' ⟨W, Γ, e1, r, q⟩ => by
  subst e1
  refine tEk_of r (PostE.imp (PostE.bind q) fun ts W1 Γ1 ex r1 f1 q1 vs G h kk => ?_)
  obtain ⟨items, ei, q2⟩ := PostE.of (q1 Γ1 ex r1 f1)
  unfold enumT at ei
  split at ei
  · cases ei
    have ks : ∀ x ∈ G, (W.S x ∨ W.C x ∨ ¬ Tr W.H x) ∧ ¬ W1.C x ∧ ¬ W1.L x := kk.le l
    have sc : ∀ x, (W1.S x ∨ x ∈ G) → ¬ W1.C x := fun x hx => hx.elim (r1.sC x) fun hx => (ks x hx).2.1
    have tr := h.tr
    obtain ⟨v, rfl, h1⟩ := h.arg1
    obtain ⟨a, xs, rfl, s, rp⟩ := h1
    exact ⟨a, xs, rfl, .inl s.1, q2 W1 r1 (Fr.refl _) (IteT X.K a) W1.H (fun x => x ∈ G) (fun _ _ h => h) (fun x hx => ⟨(ks x hx).2.1, (ks x hx).2.2, tr x hx, (ks x hx).1⟩) (itSp_enumT (Wb := ⟨W1.H, W1.C, W1.L, fun x => W1.S x ∨ x ∈ G⟩) s.1 rp (fun x hx => .inr hx) sc r1.mu)⟩
  · cases ei
end
end Tm
namespace Tm
open PySem PySem.Spec PyProof.Rows L2
/-! ### instances: attributes read and set -/
def putFT (f : Str) (t : T) : List (Str × T) → List (Str × T)
  | [] => [(f, t)]
  | (g, x) :: r => if g = f then (g, t) :: r else (g, x) :: putFT f t r
def lookFT (f : Str) : List (Str × T) → Option T
  | [] => none
  | (g, x) :: r => if g = f then some x else lookFT f r
theorem lookup_cons (f g : Str) (x : V) (r : List (Str × V)) : ((g, x) :: r).lookup f = if g = f then some x else r.lookup f := by
  by_cases h : g = f
  · subst h
    rw [if_pos rfl, List.lookup_cons, beq_self_eq_true]
  · rw [if_neg h, List.lookup_cons, beq_eq_false_iff_ne.mpr (Ne.symm h)]
section
variable {K : PySem.W.Frag} {cm : Cm} {H : Hp}
theorem RepF.put {f : Str} {t : T} {v : V} {Gt : List Addr} (ht : Rep K cm H t v Gt) : ∀ {fs : List (Str × T)} {xs : List (Str × V)} {F : List Addr}, RepF K cm H fs xs F → ∃ F', RepF K cm H (putFT f t fs) (putF f v xs) F' ∧ ∀ w ∈ F', w ∈ F ∨ w ∈ Gt
  | [], xs, F, h => by
    obtain ⟨rfl, rfl⟩ := h
    exact ⟨Gt ++ [], ⟨v, [], Gt, [], rfl, rfl, ht, rfl, rfl⟩, fun w hw => .inr (by simpa using hw)⟩
  | (g, u) :: fs, xs, F, h => by
    obtain ⟨x, r, F1, F2, rfl, rfl, h1, h2⟩ := h
    by_cases e : g = f
    · refine ⟨Gt ++ F2, ?_, fun w hw => (List.mem_append.mp hw).elim .inr fun q => .inl (List.mem_append_right _ q)⟩
      show RepF K cm H (if g = f then (g, t) :: fs else (g, u) :: putFT f t fs) (if g = f then (g, v) :: r else (g, x) :: putF f v r) _
      rw [if_pos e, if_pos e]
      exact ⟨v, r, Gt, F2, rfl, rfl, ht, h2⟩
    · obtain ⟨F', q1, q2⟩ := RepF.put (f := f) ht h2
      refine ⟨F1 ++ F', ?_, fun w hw => (List.mem_append.mp hw).elim (fun q => .inl (List.mem_append_left _ q)) fun q => (q2 w q).elim (fun q => .inl (List.mem_append_right _ q)) .inr⟩
      show RepF K cm H (if g = f then (g, t) :: fs else (g, u) :: putFT f t fs) (if g = f then (g, v) :: r else (g, x) :: putF f v r) _
      rw [if_neg e, if_neg e]
      exact ⟨x, _, F1, F', rfl, rfl, h1, q1⟩
theorem RepF.len : ∀ {fs : List (Str × T)} {xs : List (Str × V)} {F : List Addr}, RepF K cm H fs xs F → xs.length = fs.length
  | [], _, _, h => by rw [h.1]; rfl
  | (g, u) :: fs, _, _, h => by
    obtain ⟨x, r, F1, F2, rfl, rfl, h1, h2⟩ := h
    rw [List.length_cons, List.length_cons, RepF.len h2]
theorem RepF.look {f : Str} : ∀ {fs : List (Str × T)} {xs : List (Str × V)} {F : List Addr} {t : T}, RepF K cm H fs xs F → lookFT f fs = some t → ∃ v G, xs.lookup f = some v ∧ Rep K cm H t v G ∧ ∀ w ∈ G, w ∈ F
  | [], _, _, _, _, e => by cases e
  | (g, u) :: fs, xs, F, t, h, e => by
    obtain ⟨x, r, F1, F2, rfl, rfl, h1, h2⟩ := h
    unfold lookFT at e
    by_cases q : g = f
    · rw [if_pos q] at e
      cases e
      exact ⟨x, F1, by rw [lookup_cons, if_pos q], h1, fun w hw => List.mem_append_left _ hw⟩
    · rw [if_neg q] at e
      obtain ⟨v, G, e1, e2, e3⟩ := RepF.look h2 e
      exact ⟨v, G, by rw [lookup_cons, if_neg q]; exact e1, e2, fun w hw => List.mem_append_right _ (e3 w hw)⟩
theorem RepF.lookNo {f : Str} : ∀ {fs : List (Str × T)} {xs : List (Str × V)} {F : List Addr}, RepF K cm H fs xs F → lookFT f fs = none → xs.lookup f = none
  | [], _, _, h, _ => by rw [h.1]; rfl
  | (g, u) :: fs, xs, F, h, e => by
    obtain ⟨x, r, F1, F2, rfl, rfl, h1, h2⟩ := h
    unfold lookFT at e
    by_cases q : g = f
    · rw [if_pos q] at e; cases e
    · rw [if_neg q] at e
      rw [lookup_cons, if_neg q]
      exact RepF.lookNo h2 e
end
def sAttr (j : Nat) (C f : Str) (vf : EF) : SF := fun Γ => if (sl Γ j).isSome = true then (vf Γ).sB fun Γ1 u => match sl Γ1 j with
  | some (.ins C' fs) => if C' = C ∧ C ≠ "" ∧ fs.length < 900 then .nx (Γ1.set j (some (.ins C (putFT f u fs)))) else .stuck
  | _ => .stuck
  else .stuck
def fldT (C f : Str) : T → Option T
  | .ins C' fs => if C' = C ∧ C ≠ "" then lookFT f fs else none
  | _ => none
/-- self.f, self a slot that is changed -/
def eFldO (j : Nat) (C f : Str) : EF := fun Γ => .of Γ ((sl Γ j).bind (fldT C f))
/-- e.f -/
def eFldE (C f : Str) (ef : EF) : EF := fun Γ => (ef Γ).bind fun Γ1 t => .of Γ1 (fldT C f t)
section
variable {X : Cx} {cm : Cm} {mo : List Mode} {J : Exits} {E : XK} {o v : Expr} {x C f : Str} {p pos pos' : Pos} {kd : Kd} {vf ef : EF} {j : Nat}
theorem s_attr (hc : ∀ Ca, cm C = some Ca → Cls X.K Ca ∧ NoAttr X.K Ca f) (hN : X.N[j]? = some x) (hv : Vis X.env.scope x) (hm : md mo j = .o1) (l : kle kd .shared = true) (wk : mleL J.r mo = true) (hve : Ee X cm mo E kd v vf)
    (hs : swapsWith v (some (.Attribute (.Name x p) f pos')) pos.line X.env = pure false := by rfl) (hd : (x == ("__debug__" : Str)) = false := by decide) (hcd : (x == ("__classdict__" : Str)) = false := by decide) :
    Sm X cm J E mo (.Assign [.Attribute (.Name x p) f pos'] v pos) mo (sAttr j C f vf) := PS.imp (ps_fld (pe_var hN hv hd hcd) hve hs) fun D σ H ⟨W, Γ, e1, r, q⟩ => by
  subst e1
  unfold sAttr at q
  by_cases et : (sl Γ j).isSome = true
  case neg => rw [if_neg et] at q; exact (show False from q).elim
  rw [if_pos et] at q
  refine ⟨W, Γ, rfl, r, PostE.imp (PostS.bind q wk) fun u W1 Γ1 ex r1 f1 q1 uv Gu hu ku => ?_⟩
  have q3 := q1 Γ1 ex r1 f1
  cases es : sl Γ1 j with
  | none => rw [es] at q3; exact q3.elim
  | some t =>
    rw [es] at q3
    cases t with
    | ins C' fs =>
      dsimp only at q3
      by_cases hcond : C' = C ∧ C ≠ "" ∧ fs.length < 900
      case neg => rw [if_neg hcond] at q3; exact q3.elim
      rw [if_pos hcond] at q3
      obtain ⟨rfl, hne, hlen⟩ := hcond
      obtain ⟨v1, a1, G1, hv1, rp1, ca1, nsa1, mu1, g1, fin⟩ := r1.o1 f1 hm es
      have ks := ku.le l
      obtain ⟨_, a, dx, Ca, xs, G, rfl, hcm, rf, ha, eG⟩ := (show (C' = "" ∧ _) ∨ (C' ≠ "" ∧ ∃ a dx Ca xs G, v1 = .ref a ∧ cm C' = some Ca ∧ RepF X.K cm W1.H fs xs G ∧ W1.H a = some (.ins Ca dx xs) ∧ a1 :: G1 = a :: G) from rp1).resolve_left fun z => hne z.1
      cases eG
      obtain ⟨hcl, hna⟩ := hc Ca hcm
      have nG : ∀ y ∈ G1, ¬ y = a1 := fun y hy e => nsa1 (e ▸ g1 y hy)
      have nu : ∀ y ∈ Gu, ¬ y = a1 := fun y hy e => (ks y hy).2.1 (e ▸ ca1)
      have rf2 := RepF.kp (kp_root (o := .ins Ca dx (putF f uv xs)) mu1) _ _ _ rf nG
      have hu2 := hu.kp (kp_root (o := .ins Ca dx (putF f uv xs)) mu1) _ _ _ nu
      obtain ⟨F', q4, q5⟩ := RepF.put (f := f) hu2 rf2
      refine ⟨.ref a1, sl_get hv1, a1, Ca, dx, xs, rfl, ha, hcl, hna, by rw [rf.len]; exact Nat.lt_trans hlen (by decide), ?_⟩
      obtain ⟨W3, e3, r3, f3, -, -, -, -⟩ := fin (.ins C' (putFT f u fs)) (.ins Ca dx (putF f uv xs)) F' trivial (.inr ⟨hne, a1, dx, Ca, _, F', rfl, hcm, q4, upd_same, rfl⟩) fun y hy => (q5 y hy).elim (fun h => .inl (g1 y h)) fun h => .inr ⟨(ks y h).2.1, (ks y h).2.2, hu.tr _ _ _ y h, (ks y h).1⟩
      have := q3 σ W3 r3 f3 Fx.refl
      rw [e3] at this; exact this
    | _ => exact q3.elim
theorem ee_fldO (hc : ∀ Ca, cm C = some Ca → Cls X.K Ca ∧ NoAttr X.K Ca f) (hN : X.N[j]? = some x) (hv : Vis X.env.scope x) (hm : md mo j = .o1) (hb : attributeBase (.Name x p) f X.env (eval (.Name x p) X.env) = eval (.Name x p) X.env := by rfl)
    (hd : (x == ("__debug__" : Str)) = false := by decide) (hcd : (x == ("__classdict__" : Str)) = false := by decide) : Ee X cm mo E .shared (.Attribute (.Name x p) f pos) (eFldO j C f) := PE.imp (pe_fld (pe_var hN hv hd hcd) hb) fun σ H Q ⟨W, Γ, e1, r0, q⟩ => by
  subst e1
  unfold eFldO at q
  obtain ⟨c, ec, q3⟩ := PostE.of q
  obtain ⟨t, et, ec⟩ := Option.bind_eq_some_iff.mp ec
  obtain ⟨v, a1, G1, hv1, rp, -, -, -, g, -⟩ := r0.o1 (Fr.refl W) hm et
  cases t with
  | ins C' fs =>
    have ec2 : (if C' = C ∧ C ≠ "" then lookFT f fs else none) = some c := ec
    by_cases hcond : C' = C ∧ C ≠ ""
    case neg => rw [if_neg hcond] at ec2; cases ec2
    rw [if_pos hcond] at ec2
    obtain ⟨rfl, hne⟩ := hcond
    obtain ⟨_, a, dx, Ca, xs, G, rfl, hcm, rf, ha, eG⟩ := (show (C' = "" ∧ _) ∨ (C' ≠ "" ∧ ∃ a dx Ca xs G, v = .ref a ∧ cm C' = some Ca ∧ RepF X.K cm W.H fs xs G ∧ W.H a = some (.ins Ca dx xs) ∧ a1 :: G1 = a :: G) from rp).resolve_left fun z => hne z.1
    cases eG
    obtain ⟨hcl, hna⟩ := hc Ca hcm
    obtain ⟨w, Gw, l1, l2, l3⟩ := rf.look ec2
    exact ⟨.ref a1, sl_get hv1, a1, Ca, dx, xs, w, rfl, ha, hcl, hna, l1, q3 W r0 (Fr.refl W) w Gw l2 fun y hy => ⟨.inl (g y (l3 y hy)), R.sC r0 y (g y (l3 y hy)), R.sL r0 y (g y (l3 y hy))⟩⟩
  | _ => cases ec
theorem ee_fldE (hc : ∀ Ca, cm C = some Ca → Cls X.K Ca ∧ NoAttr X.K Ca f) (l : kle kd .shared = true) (he : Ee X cm mo E kd o ef) (hb : attributeBase o f X.env (eval o X.env) = eval o X.env := by rfl) : Ee X cm mo E .shared (.Attribute o f pos) (eFldE C f ef) := PE.imp (pe_fld he hb) fun σ H Q ⟨W, Γ, e1, r0, q⟩ => by
  subst e1
  refine ⟨W, Γ, rfl, r0, PostE.imp (PostE.bind0 q) fun d W1 Γ1 ex r1 f1 q1 v1 G1 h1 kk1 => ?_⟩
  obtain ⟨c, ec, q3⟩ := PostE.of (q1 Γ1 ex r1 f1)
  have ks1 := kk1.le l
  cases d with
  | ins C' fs =>
    have ec2 : (if C' = C ∧ C ≠ "" then lookFT f fs else none) = some c := ec
    by_cases hcond : C' = C ∧ C ≠ ""
    case neg => rw [if_neg hcond] at ec2; cases ec2
    rw [if_pos hcond] at ec2
    obtain ⟨rfl, hne⟩ := hcond
    obtain ⟨_, a, dx, Ca, xs, G, rfl, hcm, rf, ha, eG⟩ := (show (C' = "" ∧ _) ∨ (C' ≠ "" ∧ ∃ a dx Ca xs G, v1 = .ref a ∧ cm C' = some Ca ∧ RepF X.K cm W1.H fs xs G ∧ W1.H a = some (.ins Ca dx xs) ∧ G1 = a :: G) from h1).resolve_left fun z => hne z.1
    obtain ⟨hcl, hna⟩ := hc Ca hcm
    obtain ⟨w, Gw, l1, l2, l3⟩ := rf.look ec2
    exact ⟨a, Ca, dx, xs, w, rfl, ha, hcl, hna, l1, q3 W1 r1 f1 w Gw l2 fun y hy => ks1 y (by rw [eG]; exact List.mem_cons_of_mem _ (l3 y hy))⟩
  | _ => cases ec
end
end Tm
namespace Tm
open PySem PySem.Spec PyProof.Rows L2
/-! ### instances: made, asked by a method -/
structure MDef (P : Program) (w : World) (K : PySem.W.Frag) (mg : Str → Option Value) (base : Heap) (CX : CXT) (k : Nat) (Ca : Addr) (nm : Str) (ps : List Str) (sp : Sp) : Prop where
  ex : ∃ (f : Addr) (fd : FuncData), FnOk P w K mg base CX k f fd ps sp ∧ Meth K Ca nm f ∧ Cls K Ca ∧ Binds K fd ps []
structure KDef (P : Program) (w : World) (K : PySem.W.Frag) (mg : Str → Option Value) (base : Heap) (CX : CXT) (k : Nat) (x : Str) (Ca : Addr) (ps : List Str) (sp : Sp) : Prop where
  ex : ∃ (f : Addr) (fd : FuncData), FnOk P w K mg base CX k f fd ps sp ∧ Mk K Ca f ∧ mg x = some (.ref Ca) ∧ Binds K fd ps []
theorem MDef.mono {P : Program} {w : World} {K : PySem.W.Frag} {mg : Str → Option Value} {base : Heap} {CX : CXT} {j k : Nat} {Ca : Addr} {nm : Str} {ps : List Str} {sp : Sp} (D : MDef P w K mg base CX j Ca nm ps sp) (h : j ≤ k) : MDef P w K mg base CX k Ca nm ps sp :=
  let ⟨f, fd, a, b, c, d⟩ := D.ex
  ⟨f, fd, a.mono h, b, c, d⟩
theorem KDef.mono {P : Program} {w : World} {K : PySem.W.Frag} {mg : Str → Option Value} {base : Heap} {CX : CXT} {j k : Nat} {x : Str} {Ca : Addr} {ps : List Str} {sp : Sp} (D : KDef P w K mg base CX j x Ca ps sp) (h : j ≤ k) : KDef P w K mg base CX k x Ca ps sp :=
  let ⟨f, fd, a, b, c, d⟩ := D.ex
  ⟨f, fd, a.mono h, b, c, d⟩
/-- the classes by their names -/
def cmK (K : PySem.W.Frag) : Cm := fun n => match PySem.W.nsIn K mainGlobals n with
  | some (some (.ref C)) => some C | _ => none
abbrev SpK (K : PySem.W.Frag) (pm : List Mode) (n : Nat) (kd : Kd) (m : SF) : Sp := SpM K (cmK K) pm n kd m
def okI (C nm : Str) : T → Bool
  | .ins C' fs => decide (C' = C) && (decide (C ≠ "") && (lookFT nm fs).isNone) | _ => false
def eChk (C nm : Str) (ef : EF) : EF := fun Γ => (ef Γ).bind fun Γ1 d => if okI C nm d = true then .ok Γ1 d else .stuck
def eMeth0 (C nm : Str) (kd : Kd) (m : SF) (n : Nat) (ef : EF) : EF := eCallR [none] kd m n (eCons (eChk C nm ef) eNil)
section
variable {X : Cx} {cm : Cm} {mo : List Mode} {E : XK} {o e : Expr} {es : List Expr} {C nm x : Str} {p pos apos cpos : Pos} {kd ki : Kd} {ef : EF} {m : SF} {n k : Nat} {CX : CXT} {ps : List Str} {Ca : Addr}
theorem ee_meth0 (hcm : cm C = some Ca) (D : MDef X.prog X.w X.K X.mg X.base CX k Ca nm ps (SpM X.K cm (pmR [none]) n kd m)) (hr : Room k X.A) (hx : Passes CX X E) (l : kle ki .shared = true) (he : Ee X cm mo E ki o ef) {pl : Sem Bool}
    (ht : eval (.Call (.Attribute o nm apos) [] [] pos) X.env = (do
      let ov ← eval o X.env
      standAt apos.atName
      let (f, first) ← holding [ov] (getMethod ov nm pl)
      callWith pos f first (backTo pos (starEach [] X.env)) (backToKw pos (keywordEach [] X.env))) := by rfl) :
    Ee X cm mo E kd (.Call (.Attribute o nm apos) [] [] pos) (eMeth0 C nm kd m n ef) := by
  obtain ⟨f, fd, F, hm, hcl, hb⟩ := D.ex
  refine PE.imp (pe_meth0 (pl := pl) he hcl hm F hr hb .nil hx ht) fun σ H Q h => ?_
  have h2 := callR_core (rs := [none]) (fun i i' j e => by
    cases i with
    | zero => simp at e
    | succ i => simp at e) (fun i j e => by
    cases i with
    | zero => simp at e
    | succ i => simp at e) trivial σ H Q h
  obtain ⟨W, Γ, e1, r0, q⟩ := h2
  subst e1
  have q : PostE X.K cm mo E W σ ((eChk C nm ef Γ).bind fun Γ1 t => Res.ok Γ1 [t]) _ := q
  have q : PostE X.K cm mo E W σ ((ef Γ).bind fun Γ1 d => (if okI C nm d = true then Res.ok Γ1 d else .stuck).bind fun Γ1 t => Res.ok Γ1 [t]) (fun ts W' => ∀ vs G, RA X.K cm W'.H σ [none] ts vs G → KOk .shared W W' G → SpM X.K cm (pmR [none]) n kd m (vs ++ []) W'.H Q E) := by
    unfold eChk at q
    cases e2 : ef Γ with
    | ok Γ1 d =>
      rw [e2] at q
      exact q
    | ex c Γ1 => rw [e2] at q; exact q
    | stuck => rw [e2] at q; exact q
  refine ⟨W, Γ, rfl, r0, PostE.imp (PostE.bind0 q) fun d W1 Γ1 ex r1 f1 q1 v G hv kk => ?_⟩
  have q1 := q1 Γ1 ex r1 f1
  by_cases ok : okI C nm d = true
  case neg => rw [if_neg ok] at q1; exact q1.elim
  rw [if_pos ok] at q1
  have q2 := q1 W1 r1 f1
  cases d with
  | ins C' fs =>
    unfold okI at ok
    rw [Bool.and_eq_true, Bool.and_eq_true, decide_eq_true_eq, decide_eq_true_eq] at ok
    obtain ⟨rfl, hne, hno⟩ := ok
    obtain ⟨_, a, dx, Ca', xs, G', rfl, hcm', rf, ha, eG⟩ := (show (C' = "" ∧ _) ∨ (C' ≠ "" ∧ ∃ a dx Ca xs G', v = .ref a ∧ cm C' = some Ca ∧ RepF X.K cm W1.H fs xs G' ∧ W1.H a = some (.ins Ca dx xs) ∧ G = a :: G') from hv).resolve_left fun z => hne z.1
    rw [hcm] at hcm'
    cases hcm'
    refine ⟨a, dx, xs, rfl, ha, rf.lookNo (by cases e3 : lookFT nm fs with
      | none => rfl
      | some t => rw [e3] at hno; cases hno), ?_⟩
    have hv' : Rep X.K cm W1.H (.ins C' fs) (.ref a) G := hv
    have := q2 [.ref a] G ⟨rfl, rfl, fun i j e => by
      cases i with
      | zero => simp at e
      | succ i => simp at e, fun i e => by
      cases i with
      | zero => exact ⟨_, _, G, rfl, rfl, hv', fun y hy => hy⟩
      | succ i => simp at e, hv'.tr⟩ (kk.le l)
    exact this
  | _ => cases ok
/-- C(..): a new instance, its __init__ run -/
def eMk (C : Str) (m : SF) (n : Nat) (xf : Env → Res (List T)) : EF := fun Γ => (xf Γ).bind fun Γ1 ts => match m (env0 n (.ins C [] :: ts)) with
  | .nx Γ' => (match sl Γ' 0 with | some t => if rootT t = true then .ok Γ1 t else .stuck | none => .stuck)
  | _ => .stuck
theorem ee_mk {rs : List (Option Nat)} {xf : Env → Res (List T)} (hcm : cm C = some Ca) (hne : C ≠ "") (hrs : ∀ (i : Nat) (j : Nat), rs[i]? ≠ some (some j)) (D : KDef X.prog X.w X.K X.mg X.base CX k x Ca ps (SpM X.K cm (pmR (some 0 :: rs)) n .imm m)) (hr : Room (k + 1) X.A) (hg : Gl X x) (hx : Passes CX X E) (ha : Ar X cm mo E rs (e :: es) xf)
    (hdb : (x == ("__debug__" : Str)) = false := by decide) (he : starEach (e :: es) X.env = (false, eval e X.env) :: starEach es X.env := by rfl) (hpl : (backTo pos (starEach es X.env)).any (·.1) = false := by rfl) :
    Ee X cm mo E .fr1 (.Call (.Name x p) (e :: es) [] pos) (eMk C m n xf) := by
  obtain ⟨f, fd, F, hM, hm, hb⟩ := D.ex
  refine PE.imp (pe_make hM F hr hg hm hb .nil hx ha hdb he hpl) fun σ H Q ⟨W, Γ, e1, r0, q⟩ => ?_
  subst e1
  refine ⟨W, Γ, rfl, r0, PostE.imp (PostE.bind0 q) fun ts W1 Γ1 ex r1 f1 q1 vs G ra ks x dx nx ndx ne => ?_⟩
  have q1 := q1 Γ1 ex r1 f1
  rw [List.append_nil]
  obtain ⟨Os, r⟩ := id r1
  have s1 : Same W1.H (upd W1.H dx (.own x)) := same_upd ndx
  have s2 : Same W1.H (upd (upd W1.H dx (.own x)) x (.ins Ca dx [])) := s1.trans (same_upd (by rw [upd_ne (Ne.symm ne)]; exact nx))
  have nt : ¬ Tr W1.H x := fun ⟨o, e⟩ => by rw [nx] at e; cases e
  have hx0 : upd (upd W1.H dx (.own x)) x (.ins Ca dx []) x = some (.ins Ca dx []) := upd_same
  have rep0 : Rep X.K cm (upd (upd W1.H dx (.own x)) x (.ins Ca dx [])) (.ins C []) (.ref x) [x] := .inr ⟨hne, x, dx, Ca, [], [], rfl, hcm, ⟨rfl, rfl⟩, upd_same, rfl⟩
  let Ws : Wd := ⟨upd (upd W1.H dx (.own x)) x (.ins Ca dx []), fun y => y = x, fun _ => False, fun y => W1.S y ∨ y ∈ G⟩
  have nSx : ¬ (W1.S x ∨ x ∈ G) := fun h => h.elim (fun s => nt (r.trS x s)) fun g => nt (ra.tr x g)
  have rz : R X.K cm (pmR (some 0 :: rs)) Ws ((V.ref x :: vs).map some) ((T.ins C [] :: ts).map some) := by
    refine ⟨fun i => match i with | 0 => [x] | _ + 1 => [], fun i => ?_, fun i => ?_, fun i i' y nei hy hy' => ?_, fun y => ?_, fun y => ?_, fun i y hy => ?_, fun y h => ?_, fun i y hy => ?_, fun y c => ?_, ?_, ?_⟩
    · cases i with
      | zero => exact fun u eu => by cases eu; exact ⟨.ref x, x, [], rfl, rfl, rep0, fun y hy => by cases hy⟩
      | succ i =>
        show SlotOk X.K cm Ws.H Ws.S (md (pmR rs) i) (sl (vs.map some) i) (sl (ts.map some) i) []
        rw [sl_map, sl_map, pmR_md]
        cases e : rs[i]? with
        | none => rfl
        | some o =>
          cases o with
          | none =>
            refine ⟨rfl, fun u eu => ?_⟩
            obtain ⟨t, v, F, h1, h2, h3, h4⟩ := ra.va i e
            rw [h1] at eu
            cases eu
            exact ⟨v, F, h2, h3.same s2, fun y hy => .inr (h4 y hy)⟩
          | some j => exact absurd e (hrs i j)
    · cases i with
      | zero => exact List.nodup_cons.mpr ⟨by simp, List.nodup_nil⟩
      | succ i => exact List.nodup_nil
    · cases i with
      | zero =>
        cases i' with
        | zero => exact nei rfl
        | succ i' => cases hy'
      | succ i => cases hy
    · constructor
      · intro h
        exact ⟨0, rfl, by rw [show y = x from h]; exact List.mem_cons_self⟩
      · rintro ⟨i, c, hy⟩
        cases i with
        | zero => exact List.mem_singleton.mp hy
        | succ i => cases hy
    · constructor
      · exact fun h => h.elim
      · rintro ⟨i, c, hy⟩
        cases i with
        | zero => cases c
        | succ i => cases hy
    · cases i with
      | zero => rw [List.mem_singleton.mp hy]; exact nSx
      | succ i => cases hy
    · exact (h.elim (r.trS y) (ra.tr y)).same s2
    · cases i with
      | zero => rw [List.mem_singleton.mp hy]; exact ⟨_, hx0⟩
      | succ i => cases hy
    · rw [show y = x from c]
      show Mut (upd (upd W1.H dx (.own x)) x (.ins Ca dx []) x)
      rw [hx0]; trivial
    · simp [pmR, ra.lv]
    · simp [pmR, ra.lt]
  refine ⟨Ws, .ins C [] :: ts, rfl, by simp [pmR, ra.lv], rz, ?_⟩
  cases em : m (env0 n (.ins C [] :: ts)) with
  | nx Γ' =>
    rw [em] at q1
    dsimp only at q1
    intro W2 rk fk
    cases e0 : sl Γ' 0 with
    | none => rw [e0] at q1; exact q1.elim
    | some t =>
    rw [e0] at q1
    dsimp only at q1
    by_cases rt : rootT t = true
    case neg => rw [if_neg rt] at q1; exact q1.elim
    rw [if_pos rt] at q1
    obtain ⟨O2, r2⟩ := id rk
    have sl0 := r2.slot 0
    have sl0 : SlotOk X.K cm W2.H W2.S .o1 (some (.ref x)) (sl (Γ'.take (pmR (some 0 :: rs)).length) 0) (O2 0) := sl0
    rw [sl_take (by simp [pmR]), e0] at sl0
    obtain ⟨v', a', F', b1, b2, b3, b4⟩ := sl0 t rfl
    cases b1
    have e5 := root_ref rt b3
    cases e5
    have c2 : W2.C x := (r2.hC x).mpr ⟨0, rfl, by rw [b2]; exact List.mem_cons_self⟩
    have nS2 : ¬ W2.S x := fun s => R.sC rk x s c2
    have mx := r2.mu x c2
    have kp : Kp (fun y => y = x) Ws.H W2.H := fk.kp fun y c => by
      rw [show y = x from c]
      show Mut (upd (upd W1.H dx (.own x)) x (.ins Ca dx []) x)
      rw [hx0]; trivial
    have nO : ∀ j y, y ∈ Os j → ¬ y = x := fun j y hy e => nt (by rw [← e]; exact r.trO j y hy)
    have keep1 : ∀ b o, W1.H b = some o → W2.H b = some o := fun b o e => fk.keep b o (s2 b o e) fun c => by
      rw [show b = x from c, nx] at e; cases e
    have shS : ∀ y, W2.S y → (W1.S y ∨ y ∈ G) ∨ ¬ Tr W1.H y := fun y h => by
      rcases fk.shn y h with z | z | z
      · exact .inl z
      · rw [show y = x from z] at h; exact absurd h nS2
      · exact .inr fun t => z (t.same s2)
    have rb : R X.K cm mo ⟨W2.H, W1.C, W1.L, fun y => W1.S y ∨ W2.S y⟩ σ Γ1 := by
      refine ⟨Os, fun j => ?_, r.nd, r.dj, r.hC, r.hL, fun j y hy h => ?_, fun y h => h.elim (fun s => fk.tr y ((r.trS y s).same s2)) (r2.trS y), fun j y hy => fk.tr y ((r.trO j y hy).same s2), fun y c => mut_eq (r.mu y c) fun o e => keep1 y o e, r.ls, r.lg⟩
      · refine ((r.slot j).kp (same_kp s2) (fun _ h => h) (fun _ _ h => h) fun _ _ h => h).kp kp (fun y s => .inl s) (fun y s e => nt (by rw [← show y = x from e]; exact r.trS y s)) fun y hy => nO j y hy
      · rcases h with h | h
        · exact r.sh j y hy h
        · rcases shS y h with (z | z) | z
          · exact r.sh j y hy z
          · exact r.notOwn (ks y z).2.1 (ks y z).2.2 j hy
          · exact z (r.trO j y hy)
    have fb : Fr W ⟨W2.H, W1.C, W1.L, fun y => W1.S y ∨ W2.S y⟩ := by
      refine ⟨fun b o e nC => keep1 b o (f1.keep b o e nC), fun y c => f1.chg y c, f1.lck, fun y s => .inl (f1.shr y s), fun y s => ?_, fun y t => fk.tr y ((f1.tr y t).same s2)⟩
      rcases s with s | s
      · exact f1.shn y s
      · rcases shS y s with (z | z) | z
        · exact f1.shn y z
        · exact (ks y z).1
        · exact .inr (.inr fun t => z (f1.tr y t))
    refine ⟨rfl, q1 _ rb fb (.ref x) (x :: F') b3 ⟨x, F', rfl, ⟨.inr fun t => nt (f1.tr x t), fun c => nt (r1.trC x c), fun c => nt (r1.trL x c), fun h => h.elim (fun s => nt (r.trS x s)) nS2, mx⟩, fun h => nS2 (b4 x h), fun y hy => ?_⟩⟩
    rcases shS y (b4 y hy) with (z | z) | z
    · exact ⟨f1.shn y z, R.sC r1 y z, R.sL r1 y z⟩
    · exact ks y z
    · exact ⟨.inr (.inr fun t => z (f1.tr y t)), fun c => z (r1.trC y c), fun c => z (r1.trL y c)⟩
  | rt t Γ' => rw [em] at q1; exact q1.elim
  | ex c Γ' => rw [em] at q1; exact q1.elim
  | bk Γ' => rw [em] at q1; exact q1.elim
  | ct Γ' => rw [em] at q1; exact q1.elim
  | stuck => rw [em] at q1; exact q1.elim
end
end Tm
namespace Tm
open PySem PySem.Spec PyProof.Rows L2
theorem mkFs_snd (xs : List T) : (mkFs xs).map Prod.snd = xs := by
  unfold mkFs
  rw [List.map_map]
  exact (List.map_congr_left fun _ _ => rfl).trans (List.map_id _)
theorem wk0_plain {xs : List T} (h : xs.all isK = false) : wk0 (.ins "" (mkFs xs)) = .tup xs := by
  show (if ("" : Str) ≠ "" ∨ ((mkFs xs).map Prod.snd).all isK = true then T.ins "" (mkFs xs) else .tup ((mkFs xs).map Prod.snd)) = _
  rw [mkFs_snd, if_neg (by rw [h]; rintro (z | z) <;> exact absurd z (by simp))]
theorem wk1_plain {xs : List T} (h : xs.all isK = false) : wk1 (.ins "" (mkFs xs)) = .tup xs := wk0_plain h
/-! ### (0,) * 8 -/
def mulT : T → T → Option T
  | .tup ts, .int k => if ts ≠ [] ∧ ts.length ≤ 1000 ∧ 2 ≤ k ∧ k ≤ 50 ∧ ts.all flatT = true then some (.tup (List.replicate k.toNat ts).flatten) else none
  | _, _ => none
section
variable {K : PySem.W.Frag} {cm : Cm} {H : Hp}
theorem flats_emp : ∀ {ts : List T} {vs : List V} {F : List Addr}, ts.all flatT = true → Reps K cm H ts vs F → F = []
  | [], _, _, _, h => h.2
  | t :: ts, _, _, f, h => by
    obtain ⟨x, r, F1, F2, rfl, rfl, h1, h2⟩ := h
    rw [List.all_cons, Bool.and_eq_true] at f
    rw [(flat_rep f.1 h1).1, flats_emp f.2 h2]; rfl
theorem reps_rep {ts : List T} {vs : List V} (h : Reps K cm H ts vs []) : ∀ k : Nat, Reps K cm H (List.replicate k ts).flatten (List.replicate k vs).flatten []
  | 0 => ⟨rfl, rfl⟩
  | k + 1 => by
    rw [List.replicate_succ, List.replicate_succ, List.flatten_cons, List.flatten_cons]
    exact h.append (reps_rep h k)
end
section
variable {X : Cx} {cm : Cm} {mo : List Mode} {E : XK} {a b : Expr} {pos : Pos} {k1 k2 : Kd} {ef eg : EF}
theorem ee_mulT (l1 : kle k1 .shared = true) (ha : Ee X cm mo E k1 a ef) (hb : Ee X cm mo E k2 b eg) : Ee X cm mo E .shared (.BinOp a .Mult b pos) (eBin mulT ef eg) := PE.imp (pe_op op_repT ha hb) (cat_core l1 fun x y c e H u v F G h1 h2 Q _ q => by
  unfold mulT at e
  split at e
  · split at e
    · rename_i ts k hl
      cases e
      obtain ⟨hne, hlen, k2, k3, hfl⟩ := hl
      obtain ⟨p1, xs, rfl, s1, r1⟩ := h1
      have eF := flats_emp hfl r1
      subst eF
      refine ⟨p1, k, xs, rfl, h2.1, .inl s1.1, fun ex => hne (List.eq_nil_of_length_eq_zero (by rw [← r1.len, ex]; rfl)), k2, by omega, by rw [r1.len]; exact hlen, fun p hp => q _ _ [] (same_upd hp) ⟨p, _, rfl, tup_new upd_same, reps_rep (r1.same (same_upd hp)) _⟩ fun W0 W1 e f ka kb σ Γ r x hx => by cases hx⟩
    · cases e
  · cases e)
end
end Tm
namespace Tm
open PySem PySem.Spec PyProof.Rows L2
/-! ### wishes: how a mirror is run -/
structure Wi where
  nx : Env → Prop
  rt : T → Env → Prop
  bk : Env → Prop
  ct : Env → Prop
  ex : Str → Env → Prop
structure WS (o : Out) (K : Wi) : Prop where
  h : match o with | .nx Γ => K.nx Γ | .rt t Γ => K.rt t Γ | .bk Γ => K.bk Γ | .ct Γ => K.ct Γ | .ex c Γ => K.ex c Γ | .stuck => False
structure WE {α : Type} (r : Res α) (Q : Env → α → Prop) (X : Str → Env → Prop) : Prop where
  h : match r with | .ok Γ t => Q Γ t | .ex c Γ => X c Γ | .stuck => False
structure WP {α : Type} (o : Option α) (Q : α → Prop) : Prop where
  h : ∃ t, o = some t ∧ Q t
abbrev noX : Str → Env → Prop := fun _ _ => False
/-- only a return is wished -/
abbrev rtW (P : T → Env → Prop) : Wi := ⟨fun _ => False, P, fun _ => False, fun _ => False, noX⟩
/-- only that it goes on -/
abbrev nxW (P : Env → Prop) : Wi := ⟨P, fun _ _ => False, fun _ => False, fun _ => False, noX⟩
section
variable {α β : Type} {r : Res α} {Q Q' : Env → α → Prop} {X X' : Str → Env → Prop} {o : Option α} {q q' : α → Prop} {Γ : Env}
theorem WP.of {t : α} (e : o = some t) (h : q t) : WP o q := ⟨⟨t, e, h⟩⟩
theorem WP.imp (h : WP o q) (i : ∀ t, q t → q' t) : WP o q' := let ⟨⟨t, e, w⟩⟩ := h; ⟨⟨t, e, i t w⟩⟩
theorem WP.get (h : WP o q) : ∃ t, o = some t ∧ q t := h.h
theorem WE.imp (h : WE r Q X) (i : ∀ Γ t, Q Γ t → Q' Γ t) (j : ∀ c Γ, X c Γ → X' c Γ) : WE r Q' X' := by
  obtain ⟨h⟩ := h
  cases r with
  | ok Γ t => exact ⟨i _ _ h⟩
  | ex c Γ => exact ⟨j _ _ h⟩
  | stuck => exact h.elim
theorem WE.mono (h : WE r Q X) (i : ∀ Γ t, Q Γ t → Q' Γ t) : WE r Q' X := h.imp i fun _ _ x => x
theorem WE.get (h : WE r Q noX) : ∃ Γ t, r = .ok Γ t ∧ Q Γ t := by
  obtain ⟨h⟩ := h
  cases r with
  | ok Γ t => exact ⟨Γ, t, rfl, h⟩
  | ex c Γ => exact h.elim
  | stuck => exact h.elim
theorem WE.ok {t : α} (e : r = .ok Γ t) (h : Q Γ t) : WE r Q X := by subst e; exact ⟨h⟩
theorem WE.bind {k : Env → α → Res β} {Q : Env → β → Prop} (h : WE r (fun Γ a => WE (k Γ a) Q X) X) : WE (r.bind k) Q X := by
  obtain ⟨h⟩ := h
  cases r with
  | ok Γ t => exact h
  | ex c Γ => exact ⟨h⟩
  | stuck => exact h.elim
theorem WE.sB {k : Env → α → Out} {K : Wi} (h : WE r (fun Γ a => WS (k Γ a) K) K.ex) : WS (r.sB k) K := by
  obtain ⟨h⟩ := h
  cases r with
  | ok Γ t => exact h
  | ex c Γ => exact ⟨h⟩
  | stuck => exact h.elim
theorem WE.rof (h : WP o (Q Γ)) : WE (Res.of Γ o) Q X := by
  obtain ⟨t, e, w⟩ := h.h
  rw [e]; exact ⟨w⟩
theorem WS.imp {o : Out} {K K' : Wi} (h : WS o K) (h1 : ∀ Γ, K.nx Γ → K'.nx Γ) (h2 : ∀ t Γ, K.rt t Γ → K'.rt t Γ) (h3 : ∀ Γ, K.bk Γ → K'.bk Γ) (h4 : ∀ Γ, K.ct Γ → K'.ct Γ) (h5 : ∀ c Γ, K.ex c Γ → K'.ex c Γ) : WS o K' := by
  obtain ⟨h⟩ := h
  cases o with
  | nx Γ => exact ⟨h1 _ h⟩
  | rt t Γ => exact ⟨h2 _ _ h⟩
  | bk Γ => exact ⟨h3 _ h⟩
  | ct Γ => exact ⟨h4 _ h⟩
  | ex c Γ => exact ⟨h5 _ _ h⟩
  | stuck => exact h.elim
theorem WS.rt {o : Out} {P : T → Env → Prop} (h : WS o (rtW P)) : ∃ t Γ, o = .rt t Γ ∧ P t Γ := by
  obtain ⟨h⟩ := h
  cases o with
  | rt t Γ => exact ⟨t, Γ, rfl, h⟩
  | nx Γ => exact h.elim
  | bk Γ => exact h.elim
  | ct Γ => exact h.elim
  | ex c Γ => exact h.elim
  | stuck => exact h.elim
theorem WS.nx {o : Out} {P : Env → Prop} (h : WS o (nxW P)) : ∃ Γ, o = .nx Γ ∧ P Γ := by
  obtain ⟨h⟩ := h
  cases o with
  | nx Γ => exact ⟨Γ, rfl, h⟩
  | rt t Γ => exact h.elim
  | bk Γ => exact h.elim
  | ct Γ => exact h.elim
  | ex c Γ => exact h.elim
  | stuck => exact h.elim
theorem WS.rtI {o : Out} {P : T → Env → Prop} {t : T} (e : o = .rt t Γ) (h : P t Γ) : WS o (rtW P) := by subst e; exact ⟨h⟩
theorem WS.nxI {o : Out} {K : Wi} (e : o = .nx Γ) (h : K.nx Γ) : WS o K := by subst e; exact ⟨h⟩
end
section
variable {α : Type} {K : Wi} {Γ : Env} {a b : SF} {i j n : Nat} {f g : EF} {p q : PF} {u v : Env → Res Bool} {xf yf : Env → Res (List T)} {bf bg : BF} {af : AF} {op op' : T → T → Option T} {X : Str → Env → Prop} {Q : Env → T → Prop} {QB : Env → Bool → Prop} {QL : Env → List T → Prop} {P : T → Prop} {PB : Bool → Prop} {PL : List T → Prop}
/-! ### statements -/
theorem ws_nil (h : K.nx Γ) : WS (sNil Γ) K := ⟨h⟩
theorem ws_seq (h : WS (a Γ) { K with nx := fun Γ1 => WS (b Γ1) K }) : WS (sSeq a b Γ) K := by
  unfold sSeq
  obtain ⟨h⟩ := h
  cases e : a Γ with
  | nx Γ1 => rw [e] at h; exact h
  | rt t Γ1 => rw [e] at h; exact ⟨h⟩
  | bk Γ1 => rw [e] at h; exact ⟨h⟩
  | ct Γ1 => rw [e] at h; exact ⟨h⟩
  | ex c Γ1 => rw [e] at h; exact ⟨h⟩
  | stuck => rw [e] at h; exact h.elim
/-- .. with what holds between -/
theorem ws_mid (M : Env → Prop) (h : WS (a Γ) { K with nx := M }) (h2 : ∀ Γ1, M Γ1 → WS (b Γ1) K) : WS (sSeq a b Γ) K := ws_seq (h.imp h2 (fun _ _ x => x) (fun _ x => x) (fun _ x => x) fun _ _ x => x)
theorem ws_cut {o : Out} (M : Env → Prop) (h : WS o ⟨M, K.rt, K.bk, K.ct, K.ex⟩) (h2 : ∀ Γ1, M Γ1 → K.nx Γ1) : WS o K := h.imp h2 (fun _ _ x => x) (fun _ x => x) (fun _ x => x) fun _ _ x => x
theorem ws_asg (h : WE (f Γ) (fun Γ1 t => K.nx (Γ1.set j (some t))) K.ex) : WS (sAsg j f Γ) K := WE.sB (h.imp (fun _ _ x => ⟨x⟩) fun _ _ x => x)
theorem ws_expr (h : WE (f Γ) (fun Γ1 _ => K.nx Γ1) K.ex) : WS (sExpr f Γ) K := WE.sB (h.imp (fun _ _ x => ⟨x⟩) fun _ _ x => x)
theorem ws_if (h : WE (u Γ) (fun Γ1 k => (k = true → WS (a Γ1) K) ∧ (k = false → WS (b Γ1) K)) K.ex) : WS (sIf u a b Γ) K := WE.sB (h.imp (fun Γ k x => by
  cases k with
  | true => exact x.1 rfl
  | false => exact x.2 rfl) fun _ _ x => x)
theorem ws_ret (h : WE (f Γ) (fun Γ1 t => K.rt t Γ1) K.ex) : WS (sRet f Γ) K := by
  unfold sRet
  obtain ⟨h⟩ := h
  cases e : f Γ with
  | ok Γ1 t => rw [e] at h; exact ⟨h⟩
  | ex c Γ1 => rw [e] at h; exact ⟨h⟩
  | stuck => rw [e] at h; exact h.elim
theorem ws_retN (h : K.rt .non Γ) : WS (sRetN Γ) K := ⟨h⟩
theorem ws_move {t : T} (e : sl Γ j = some t) (h : K.rt t Γ) : WS (sMove j Γ) K := by unfold sMove; rw [e]; exact ⟨h⟩
theorem ws_brk (h : K.bk Γ) : WS (sBrk Γ) K := ⟨h⟩
theorem ws_cnt (h : K.ct Γ) : WS (sCnt Γ) K := ⟨h⟩
theorem ws_for {gf : GF} (h : WE (xf Γ) (fun Γ1 ts => WS (sForL gf b ts Γ1) K) K.ex) : WS (sFor xf gf b Γ) K := WE.sB h
/-- a loop: I k ahead of turn k, Dn where it is left -/
theorem ws_forL {gf : GF} {items : List T} (I : Nat → Env → Prop) (Dn : Env → Prop) (h0 : I 0 Γ)
    (hs : ∀ (k : Nat) (t : T) (Γ : Env), items[k]? = some t → I k Γ → ∃ Γ1, gf t Γ = some Γ1 ∧ WS (b Γ1) ⟨I (k + 1), K.rt, Dn, I (k + 1), K.ex⟩)
    (h1 : ∀ Γ, I items.length Γ → K.nx Γ) (h2 : ∀ Γ, Dn Γ → K.nx Γ) : WS (sForL gf b items Γ) K := by
  have aux : ∀ (n k : Nat) (Γ : Env), n = items.length - k → k ≤ items.length → I k Γ → WS (sForL gf b (items.drop k) Γ) K := by
    intro n
    induction n with
    | zero =>
      intro k Γ hn hk hi
      have e : k = items.length := by omega
      subst e
      rw [List.drop_length]
      exact ⟨h1 _ hi⟩
    | succ n ih =>
      intro k Γ hn hk hi
      have hlt : k < items.length := by omega
      obtain ⟨Γ1, e1, w⟩ := hs k items[k] Γ (List.getElem?_eq_getElem hlt) hi
      rw [List.drop_eq_getElem_cons hlt]
      unfold sForL
      rw [e1]
      simp only
      obtain ⟨w⟩ := w
      cases e : b Γ1 with
      | nx Γ2 => rw [e] at w; exact ih (k + 1) Γ2 (by omega) (by omega) w
      | ct Γ2 => rw [e] at w; exact ih (k + 1) Γ2 (by omega) (by omega) w
      | bk Γ2 => rw [e] at w; exact ⟨h2 _ w⟩
      | rt t Γ2 => rw [e] at w; exact ⟨w⟩
      | ex c Γ2 => rw [e] at w; exact ⟨w⟩
      | stuck => rw [e] at w; exact w.elim
  have := aux items.length 0 Γ (by omega) (by omega) h0
  rwa [List.drop_zero] at this
theorem ws_forD {gf : GF} {ks : List T} (e : (sl Γ i).bind keysOf = some ks) (h : WS (sForL gf b ks Γ) { K with ex := noX }) : WS (sForD i gf b Γ) K := by
  unfold sForD
  rw [e]
  simp only
  obtain ⟨h⟩ := h
  cases e1 : sForL gf b ks Γ with
  | ex c Γ1 => rw [e1] at h; exact h.elim
  | nx Γ1 => rw [e1] at h; exact ⟨h⟩
  | rt t Γ1 => rw [e1] at h; exact ⟨h⟩
  | bk Γ1 => rw [e1] at h; exact ⟨h⟩
  | ct Γ1 => rw [e1] at h; exact ⟨h⟩
  | stuck => rw [e1] at h; exact h.elim
/-- a while: by a measure -/
theorem ws_while (I : Nat → Env → Prop) (Dn : Env → Prop) {m F : Nat} (h0 : I m Γ) (hF : m < F)
    (hs : ∀ (m : Nat) (Γ : Env), I m Γ → WE (u Γ) (fun Γ1 k => (k = true → WS (b Γ1) ⟨fun Γ2 => ∃ m', m' < m ∧ I m' Γ2, K.rt, Dn, fun Γ2 => ∃ m', m' < m ∧ I m' Γ2, K.ex⟩) ∧ (k = false → Dn Γ1)) K.ex)
    (h1 : ∀ Γ, Dn Γ → K.nx Γ) : WS (sWhile u b F Γ) K := by
  induction F generalizing m Γ with
  | zero => omega
  | succ F ih =>
    unfold sWhile
    refine WE.sB ((hs m Γ h0).imp (fun Γ1 k w => ?_) fun _ _ x => x)
    cases k with
    | false => exact ⟨h1 _ (w.2 rfl)⟩
    | true =>
      obtain ⟨w⟩ := w.1 rfl
      simp only [if_true]
      cases e : b Γ1 with
      | nx Γ2 => rw [e] at w; obtain ⟨m', l, q⟩ := w; exact ih q (by omega)
      | ct Γ2 => rw [e] at w; obtain ⟨m', l, q⟩ := w; exact ih q (by omega)
      | bk Γ2 => rw [e] at w; exact ⟨h1 _ w⟩
      | rt t Γ2 => rw [e] at w; exact ⟨w⟩
      | ex c Γ2 => rw [e] at w; exact ⟨w⟩
      | stuck => rw [e] at w; exact w.elim
theorem ws_stoL (e : (sl Γ j).bind kT = some "list") (h : WE (f Γ) (fun Γ1 x => WE (g Γ1) (fun Γ2 y => ∃ t t', sl Γ2 j = some t ∧ stoL t y x = some t' ∧ K.nx (Γ2.set j (some t'))) K.ex) K.ex) : WS (sSto j f g Γ) K := by
  unfold sSto
  rw [e]
  show WS (sStoK stoL j f g Γ) K
  unfold sStoK
  refine WE.sB (h.imp (fun Γ1 x w => WE.sB (w.imp (fun Γ2 y w => ?_) fun _ _ x => x)) fun _ _ x => x)
  obtain ⟨t, t', e1, e2, q⟩ := w
  rw [e1]
  show WS (match stoL t y x with | some t' => Out.nx _ | none => .stuck) K
  rw [e2]; exact ⟨q⟩
theorem ws_stoD (e : (sl Γ j).bind kT = some "dict") (h : WE (f Γ) (fun Γ1 x => WE (g Γ1) (fun Γ2 y => ∃ t t', sl Γ2 j = some t ∧ stoD t y x = some t' ∧ K.nx (Γ2.set j (some t'))) K.ex) K.ex) : WS (sSto j f g Γ) K := by
  unfold sSto
  rw [e]
  show WS (sStoK stoD j f g Γ) K
  unfold sStoK
  refine WE.sB (h.imp (fun Γ1 x w => WE.sB (w.imp (fun Γ2 y w => ?_) fun _ _ x => x)) fun _ _ x => x)
  obtain ⟨t, t', e1, e2, q⟩ := w
  rw [e1]
  show WS (match stoD t y x with | some t' => Out.nx _ | none => .stuck) K
  rw [e2]; exact ⟨q⟩
theorem ws_asgT {gf : GF} (h : WE (f Γ) (fun Γ1 t => WP (gf t Γ1) K.nx) K.ex) : WS (sAsgT gf f Γ) K := WE.sB (h.imp (fun Γ1 t w => by
  obtain ⟨Γ2, e, w⟩ := w.h
  rw [e]; exact ⟨w⟩) fun _ _ x => x)
theorem wp_gT {is : List Nat} {ts : List T} {PE : Env → Prop} (h : WP (gTs is ts Γ) PE) : WP (gT is (.tup ts) Γ) PE := h
theorem wp_gTs0 {PE : Env → Prop} (h : PE Γ) : WP (gTs [] [] Γ) PE := .of rfl h
theorem wp_gTs1 {is : List Nat} {t : T} {ts : List T} {PE : Env → Prop} (h : WP (gTs is ts (Γ.set i (some t))) PE) : WP (gTs (i :: is) (t :: ts) Γ) PE := h
theorem wp_gN {t : T} {PE : Env → Prop} (h : PE (Γ.set i (some t))) : WP (gN i t Γ) PE := .of rfl h
theorem ws_frz (h : WS (a Γ) ⟨fun _ => K.nx Γ, fun t _ => K.rt t Γ, fun _ => False, fun _ => False, fun c _ => K.ex c Γ⟩) : WS (sFrz a Γ) K := by
  unfold sFrz
  obtain ⟨h⟩ := h
  cases e : a Γ with
  | nx Γ1 => rw [e] at h; exact ⟨h⟩
  | rt t Γ1 => rw [e] at h; exact ⟨h⟩
  | bk Γ1 => rw [e] at h; exact h.elim
  | ct Γ1 => rw [e] at h; exact h.elim
  | ex c Γ1 => rw [e] at h; exact ⟨h⟩
  | stuck => rw [e] at h; exact h.elim
theorem ws_attr {C fn : Str} (e : (sl Γ j).isSome = true) (h : WE (f Γ) (fun Γ1 x => ∃ fs, sl Γ1 j = some (.ins C fs) ∧ (C ≠ "" ∧ fs.length < 900) ∧ K.nx (Γ1.set j (some (.ins C (putFT fn x fs))))) K.ex) : WS (sAttr j C fn f Γ) K := by
  unfold sAttr
  rw [if_pos e]
  refine WE.sB (h.imp (fun Γ1 x w => ?_) fun _ _ x => x)
  obtain ⟨fs, e1, e2, q⟩ := w
  rw [e1]
  show WS (if C = C ∧ C ≠ "" ∧ fs.length < 900 then _ else _) K
  rw [if_pos ⟨rfl, e2⟩]; exact ⟨q⟩
/-! ### expressions -/
theorem we_eP (h : WP (p Γ) (Q Γ)) : WE (eP p Γ) Q X := WE.rof h
theorem we_eB (h : WP (bf Γ) (QB Γ)) : WE (eB bf Γ) QB X := WE.rof h
theorem we_eBin (h : WE (f Γ) (fun Γ1 x => WE (g Γ1) (fun Γ2 y => WP (op x y) (Q Γ2)) X) X) : WE (eBin op f g Γ) Q X := WE.bind (h.mono fun _ _ w => WE.bind (w.mono fun _ _ w => WE.rof w))
theorem we_eUn {op : T → Option T} (h : WE (f Γ) (fun Γ1 x => WP (op x) (Q Γ1)) X) : WE (eUn op f Γ) Q X := WE.bind (h.mono fun _ _ w => WE.rof w)
theorem we_eNil (h : QL Γ []) : WE (eNil Γ) QL X := ⟨h⟩
theorem we_eCons (h : WE (f Γ) (fun Γ1 x => WE (xf Γ1) (fun Γ2 xs => QL Γ2 (x :: xs)) X) X) : WE (eCons f xf Γ) QL X := WE.bind (h.mono fun _ _ w => WE.bind (w.mono fun _ _ w => ⟨w⟩))
theorem we_eArg {op : List T → Option T} (h : WE (xf Γ) (fun Γ1 ts => WP (op ts) (Q Γ1)) X) : WE (eArg op xf Γ) Q X := WE.bind (h.mono fun _ _ w => WE.rof w)
theorem we_eArgs {op : List T → Option (List T)} (h : WE (xf Γ) (fun Γ1 ts => WP (op ts) (QL Γ1)) X) : WE (eArgs op xf Γ) QL X := WE.bind (h.mono fun _ _ w => WE.rof w)
theorem we_eItems (h : WE (f Γ) (fun Γ1 t => WP (itemsT t) (QL Γ1)) X) : WE (eItems f Γ) QL X := WE.bind (h.mono fun _ _ w => WE.rof w)
theorem we_eTru (h : WE (f Γ) (fun Γ1 t => WP (truT t) (QB Γ1)) X) : WE (eTru f Γ) QB X := WE.bind (h.mono fun _ _ w => WE.rof w)
theorem we_eBl (h : WE (f Γ) (fun Γ1 t => WP (blT t) (QB Γ1)) X) : WE (eBl f Γ) QB X := WE.bind (h.mono fun _ _ w => WE.rof w)
theorem we_eYes (h : QB Γ true) : WE (eYes Γ) QB X := ⟨h⟩
theorem we_eAndB (h : WE (u Γ) (fun Γ1 b => (b = true → WE (v Γ1) QB X) ∧ (b = false → QB Γ1 false)) X) : WE (eAndB u v Γ) QB X := WE.bind (h.mono fun Γ1 b w => by
  cases b with
  | true => exact w.1 rfl
  | false => exact ⟨w.2 rfl⟩)
theorem we_eOrB (h : WE (u Γ) (fun Γ1 b => (b = false → WE (v Γ1) QB X) ∧ (b = true → QB Γ1 true)) X) : WE (eOrB u v Γ) QB X := WE.bind (h.mono fun Γ1 b w => by
  cases b with
  | true => exact ⟨w.2 rfl⟩
  | false => exact w.1 rfl)
theorem we_eNotB (h : WE (u Γ) (fun Γ1 b => QB Γ1 (!b)) X) : WE (eNotB u Γ) QB X := WE.bind (h.mono fun _ _ w => ⟨w⟩)
theorem we_eNotV (h : WE (f Γ) (fun Γ1 t => WP (blT t) fun b => Q Γ1 (.bl (!b))) X) : WE (eNotV f Γ) Q X := WE.bind (h.mono fun _ t w => WE.rof (by
  obtain ⟨b, e, w⟩ := w.h
  exact .of (by rw [e]; rfl) w))
theorem we_eAndV (h : WE (f Γ) (fun Γ1 t => WP (blT t) fun b => (b = true → WE (g Γ1) Q X) ∧ (b = false → Q Γ1 (.bl false))) X) : WE (eAndV f g Γ) Q X := WE.bind (h.mono fun _ t w => by
  obtain ⟨b, e, w⟩ := w.h
  rw [e]
  cases b with
  | true => exact w.1 rfl
  | false => exact ⟨w.2 rfl⟩)
theorem we_eOrV (h : WE (f Γ) (fun Γ1 t => WP (blT t) fun b => (b = false → WE (g Γ1) Q X) ∧ (b = true → Q Γ1 (.bl true))) X) : WE (eOrV f g Γ) Q X := WE.bind (h.mono fun _ t w => by
  obtain ⟨b, e, w⟩ := w.h
  rw [e]
  cases b with
  | true => exact ⟨w.2 rfl⟩
  | false => exact w.1 rfl)
theorem we_eIf (h : WE (u Γ) (fun Γ1 b => (b = true → WE (f Γ1) Q X) ∧ (b = false → WE (g Γ1) Q X)) X) : WE (eIf u f g Γ) Q X := WE.bind (h.mono fun Γ1 b w => by
  cases b with
  | true => exact w.1 rfl
  | false => exact w.2 rfl)
theorem we_eFl (h : WE (f Γ) (fun Γ1 t => WP (if flatT t = true then some t else none) (Q Γ1)) X) : WE (eFl f Γ) Q X := WE.bind (h.mono fun Γ1 t w => by
  obtain ⟨t', e, w⟩ := w.h
  by_cases c : flatT t = true
  · rw [if_pos c] at e ⊢; cases e; exact ⟨w⟩
  · rw [if_neg c] at e; cases e)
theorem we_eFlr (h : WE (f Γ) (fun Γ1 t => WP (if flr t = true then some t else none) (Q Γ1)) X) : WE (eFlr f Γ) Q X := WE.bind (h.mono fun Γ1 t w => by
  obtain ⟨t', e, w⟩ := w.h
  by_cases c : flr t = true
  · rw [if_pos c] at e ⊢; cases e; exact ⟨w⟩
  · rw [if_neg c] at e; cases e)
theorem we_eFrz (h : WE (f Γ) (fun _ t => Q Γ t) fun c _ => X c Γ) : WE (eFrz f Γ) Q X := by
  unfold eFrz
  obtain ⟨h⟩ := h
  cases e : f Γ with
  | ok Γ1 t => rw [e] at h; exact ⟨h⟩
  | ex c Γ1 => rw [e] at h; exact ⟨h⟩
  | stuck => rw [e] at h; exact h.elim
theorem we_eFrzB (h : WE (u Γ) (fun _ t => QB Γ t) fun c _ => X c Γ) : WE (eFrzB u Γ) QB X := by
  unfold eFrzB
  obtain ⟨h⟩ := h
  cases e : u Γ with
  | ok Γ1 t => rw [e] at h; exact ⟨h⟩
  | ex c Γ1 => rw [e] at h; exact ⟨h⟩
  | stuck => rw [e] at h; exact h.elim
theorem we_eOwn (e : (sl Γ j).isSome = true) (h : WE (f Γ) (fun Γ2 y => WP ((sl Γ2 j).bind fun t => tIxO t y) (Q Γ2)) X) : WE (eOwn j f Γ) Q X := by
  unfold eOwn
  rw [if_pos e]
  exact WE.bind (h.mono fun _ _ w => WE.rof w)
theorem we_eMut {nm : String} {op : T → List T → Option (T × T)} (e : (sl Γ j).bind kT = some nm) (h : WE (xf Γ) (fun Γ1 ts => ∃ t t' z, sl Γ1 j = some t ∧ op t ts = some (t', z) ∧ Q (Γ1.set j (some t')) z) X) : WE (eMut j nm op xf Γ) Q X := by
  unfold eMut
  rw [if_pos e]
  refine WE.bind (h.mono fun Γ1 ts w => ?_)
  obtain ⟨t, t', z, e1, e2, w⟩ := w
  rw [e1]
  show WE (match op t ts with | some (t', res) => Res.ok _ res | none => .stuck) Q X
  rw [e2]; exact ⟨w⟩
theorem we_ePop1L (e : (sl Γ j).bind kT = some "list") (h : WE (eMut j "list" lmPopAt (eCons f eNil) Γ) Q X) : WE (ePop1 j f Γ) Q X := by unfold ePop1; rw [e]; exact h
theorem we_ePop1D (e : (sl Γ j).bind kT = some "dict") (h : WE (eMut j "dict" dmPop (eCons f eNil) Γ) Q X) : WE (ePop1 j f Γ) Q X := by unfold ePop1; rw [e]; exact h
theorem we_eLc {gf : GF} (h : WE (xf Γ) (fun Γ1 ts => WE (lcE gf u f ts [] Γ1) (fun Γ2 ys => Q Γ2 (.lst ys)) X) X) : WE (eLc xf gf u f Γ) Q X := WE.bind (h.mono fun _ _ w => WE.bind (w.mono fun _ _ w => ⟨w⟩))
theorem we_eLcD {gf : GF} {ks : List T} (e : (sl Γ i).bind keysOf = some ks) (h : WE (lcE gf u f ks [] Γ) (fun Γ2 ys => Q Γ2 (.lst ys)) X) : WE (eLcD i gf u f Γ) Q X := by
  unfold eLcD
  rw [e]
  exact WE.bind (h.mono fun _ _ w => ⟨w⟩)
theorem set_set' : ∀ {l : Env} {i : Nat} {a b : Option T}, (l.set i a).set i b = l.set i b := fun {l i a b} => by simp
/-- a comprehension over one name whose parts change nothing -/
theorem we_lc (P : T → Bool) (hf : T → T) {items : List T} {v0 : Nat} {QL : Env → List T → Prop} (hl : items.length ≤ 100000)
    (hu : ∀ t ∈ items, WE (u (Γ.set v0 (some t))) (fun Γ1 b => Γ1 = Γ.set v0 (some t) ∧ b = P t) noX)
    (hv : ∀ t ∈ items, P t = true → WE (f (Γ.set v0 (some t))) (fun Γ1 y => Γ1 = Γ.set v0 (some t) ∧ y = hf t) noX)
    (h : ∀ x, QL (Γ.set v0 x) ((items.filter P).map hf)) : WE (lcE (gN v0) u f items [] Γ) QL X := by
  have aux : ∀ (its : List T) (acc : List T) (x : Option T), (∀ t ∈ its, t ∈ items) → acc.length + its.length ≤ 100000 → (∀ x, QL (Γ.set v0 x) (acc ++ (its.filter P).map hf)) → WE (lcE (gN v0) u f its acc (Γ.set v0 x)) QL X := by
    intro its
    induction its with
    | nil =>
      intro acc x _ _ q
      have := q x
      simp only [List.filter_nil, List.map_nil, List.append_nil] at this
      exact WE.ok (r := Res.ok _ _) rfl this
    | cons t ts ih =>
      intro acc x hm ha q
      obtain ⟨Γ1, b, e1, rfl, rfl⟩ := (hu t (hm t List.mem_cons_self)).get
      unfold lcE
      simp only [gN, set_set']
      rw [e1]
      simp only
      cases c : P t with
      | false =>
        rw [if_neg (by simp)]
        refine ih acc (some t) (fun y hy => hm y (List.mem_cons_of_mem _ hy)) (by simp only [List.length_cons] at ha; omega) fun x => ?_
        have := q x
        rwa [List.filter_cons_of_neg (by rw [c]; simp)] at this
      | true =>
        obtain ⟨Γ2, y, e2, rfl, rfl⟩ := (hv t (hm t List.mem_cons_self) c).get
        rw [if_pos rfl, e2]
        simp only
        rw [if_pos (by simp only [List.length_cons] at ha; omega)]
        refine ih (acc ++ [hf t]) (some t) (fun y hy => hm y (List.mem_cons_of_mem _ hy)) (by simp only [List.length_cons, List.length_append, List.length_nil] at ha ⊢; omega) fun x => ?_
        have := q x
        rw [List.filter_cons_of_pos (by rw [c]), List.map_cons] at this
        simpa using this
  by_cases hi : v0 < Γ.length
  · have := aux items [] (sl Γ v0) (fun _ h => h) (by simpa using hl) fun x => by simpa using h x
    rwa [set_sl hi] at this
  · have e : ∀ x, Γ.set v0 x = Γ := fun x => List.set_eq_of_length_le (by omega)
    have := aux items [] none (fun _ h => h) (by simpa using hl) fun x => by simpa using h x
    rwa [e] at this
theorem we_eSl {lo hi : Env → Res (Option Int)} (h : WE (f Γ) (fun Γ1 t => WE (lo Γ1) (fun Γ2 l => WE (hi Γ2) (fun Γ3 k => WP (slT t l k) (Q Γ3)) X) X) X) : WE (eSl f lo hi Γ) Q X := WE.bind (h.mono fun _ _ w => WE.bind (w.mono fun _ _ w => WE.bind (w.mono fun _ _ w => WE.rof w)))
theorem we_oN {QO : Env → Option Int → Prop} (h : QO Γ none) : WE (oN Γ) QO X := ⟨h⟩
theorem we_oS {QO : Env → Option Int → Prop} (h : WE (f Γ) (fun Γ1 t => ∃ k, t = .int k ∧ QO Γ1 (some k)) X) : WE (oS f Γ) QO X := WE.bind (h.mono fun Γ1 t w => by
  obtain ⟨k, rfl, w⟩ := w
  exact ⟨w⟩)
theorem we_eGet1 (h : WE (f Γ) (fun Γ1 d => ∃ kvs, d = .dct kvs ∧ WE (g Γ1) (fun Γ2 k => WP (keyT k) fun k => Q Γ2 ((lookT kvs k).getD .non)) X) X) : WE (eGet1 f g Γ) Q X := WE.bind (h.mono fun Γ1 d w => by
  obtain ⟨kvs, rfl, w⟩ := w
  refine WE.bind (w.mono fun Γ2 k w => ?_)
  obtain ⟨k', e, w⟩ := w.h
  rw [e]; exact ⟨w⟩)
theorem we_eGet2 {f2 : EF} (h : WE (f Γ) (fun Γ1 d => ∃ kvs, d = .dct kvs ∧ WE (g Γ1) (fun Γ2 k => WE (f2 Γ2) (fun Γ3 x => WP (keyT k) fun k => Q Γ3 ((lookT kvs k).getD x)) X) X) X) : WE (eGet2 f g f2 Γ) Q X := WE.bind (h.mono fun Γ1 d w => by
  obtain ⟨kvs, rfl, w⟩ := w
  refine WE.bind (w.mono fun Γ2 k w => WE.bind (w.mono fun Γ3 x w => ?_))
  obtain ⟨k', e, w⟩ := w.h
  rw [e]; exact ⟨w⟩)
theorem we_eFldO {C fn : Str} (h : WP ((sl Γ j).bind (fldT C fn)) (Q Γ)) : WE (eFldO j C fn Γ) Q X := WE.rof h
theorem we_eFldE {C fn : Str} (h : WE (f Γ) (fun Γ1 t => WP (fldT C fn t) (Q Γ1)) X) : WE (eFldE C fn f Γ) Q X := WE.bind (h.mono fun _ _ w => WE.rof w)
theorem we_eWk (h : WE (f Γ) (fun Γ1 t => Q Γ1 (wk1 t)) X) : WE (eWk f Γ) Q X := WE.bind (h.mono fun _ _ w => ⟨w⟩)
theorem we_eVals (h : WE (f Γ) (fun Γ1 t => ∃ kvs, t = .dct kvs ∧ Q Γ1 (.lst (kvs.map (·.2)))) X) : WE (eVals f Γ) Q X := WE.bind (h.mono fun Γ1 t w => by
  obtain ⟨kvs, rfl, w⟩ := w
  exact ⟨w⟩)
theorem we_eTix (h : WE (f Γ) (fun Γ1 d => ∃ fs, d = .ins "" fs ∧ WE (g Γ1) (fun Γ2 a => dtT 60 (.tup (fs.map Prod.snd)) = true ∧ dtT 60 a = true ∧ ∃ j : Nat, ixOf (fs.map Prod.snd) a = some j ∧ Q Γ2 (.int (j : Nat))) X) X) : WE (eTix f g Γ) Q X := WE.bind (h.mono fun Γ1 d w => by
  obtain ⟨fs, rfl, w⟩ := w
  show WE (if ("" : Str) ≠ "" then Res.stuck else _) Q X
  rw [if_neg (by simp)]
  refine WE.bind (w.mono fun Γ2 a w => ?_)
  obtain ⟨w1, w2, j, w3, w⟩ := w
  rw [w1, w2, w3]; exact ⟨w⟩)
theorem we_eLix (h : WE (f Γ) (fun Γ1 d => ∃ xs, d = .lst xs ∧ WE (g Γ1) (fun Γ2 a => dtT 60 (.lst xs) = true ∧ dtT 60 a = true ∧ ∃ j : Nat, ixOf xs a = some j ∧ Q Γ2 (.int (j : Nat))) X) X) : WE (eLix f g Γ) Q X := WE.bind (h.mono fun Γ1 d w => by
  obtain ⟨fs, rfl, w⟩ := w
  refine WE.bind (w.mono fun Γ2 a w => ?_)
  obtain ⟨w1, w2, j, w3, w⟩ := w
  rw [w1, w2, w3]; exact ⟨w⟩)
theorem we_eChk {C nm : Str} (h : WE (f Γ) (fun Γ1 d => okI C nm d = true ∧ Q Γ1 d) X) : WE (eChk C nm f Γ) Q X := WE.bind (h.mono fun Γ1 d w => by
  rw [if_pos w.1]; exact ⟨w.2⟩)
/-! ### calls -/
structure CK (rs : List (Option Nat)) (kd : Kd) (m : SF) (n : Nat) (Γ : Env) (ts : List T) (Q : Env → T → Prop) (X : Str → Env → Prop) : Prop where
  h : ∃ us, fillR rs ts Γ = some us ∧ WS (m (env0 n us)) ⟨fun Γ' => (okR rs Γ' && kle .imm kd) = true ∧ Q (wbR rs Γ' Γ) .non, fun t Γ' => okR rs Γ' = true ∧ Q (wbR rs Γ' Γ) t, fun _ => False, fun _ => False, fun c Γ' => okR rs Γ' = true ∧ X c (wbR rs Γ' Γ)⟩
theorem we_eCallR {rs : List (Option Nat)} {kd : Kd} {m : SF} (h : WE (xf Γ) (fun Γ1 ts => CK rs kd m n Γ1 ts Q X) X) : WE (eCallR rs kd m n xf Γ) Q X := WE.bind (h.mono fun Γ1 ts w => by
  obtain ⟨us, e1, w⟩ := w.h
  rw [e1]
  obtain ⟨w⟩ := w
  cases e : m (env0 n us) with
  | nx Γ2 =>
    rw [e] at w
    simp only at w ⊢
    rw [e]
    simp only
    rw [if_pos w.1]; exact ⟨w.2⟩
  | rt t Γ2 =>
    rw [e] at w
    simp only at w ⊢
    rw [e]
    simp only
    rw [if_pos w.1]; exact ⟨w.2⟩
  | ex c Γ2 =>
    rw [e] at w
    simp only at w ⊢
    rw [e]
    simp only
    rw [if_pos w.1]; exact ⟨w.2⟩
  | bk Γ2 => rw [e] at w; exact w.elim
  | ct Γ2 => rw [e] at w; exact w.elim
  | stuck => rw [e] at w; exact w.elim)
theorem we_eMeth0 {C nm : Str} {kd : Kd} {m : SF} (h : WE (eCallR [none] kd m n (eCons (eChk C nm f) eNil) Γ) Q X) : WE (eMeth0 C nm kd m n f Γ) Q X := h
theorem we_eMk {C : Str} {m : SF} (h : WE (xf Γ) (fun Γ1 ts => WS (m (env0 n (.ins C [] :: ts))) (nxW fun Γ' => ∃ t, sl Γ' 0 = some t ∧ rootT t = true ∧ Q Γ1 t)) X) : WE (eMk C m n xf Γ) Q X := WE.bind (h.mono fun Γ1 ts w => by
  obtain ⟨Γ', e, t, e1, e2, w⟩ := w.nx
  rw [e]
  simp only
  rw [e1]
  simp only
  rw [if_pos e2]; exact ⟨w⟩)
/-- a call by values whose answer is known -/
theorem fill_nones : ∀ {rs : List (Option Nat)} {ts : List T} {Γ : Env}, rs.all (·.isNone) = true → rs.length = ts.length → fillR rs ts Γ = some ts
  | [], [], _, _, _ => rfl
  | [], _ :: _, _, _, h => by cases h
  | none :: rs, [], _, _, h => by cases h
  | none :: rs, t :: ts, Γ, h, l => by
    show (fillR rs ts Γ).map (t :: ·) = _
    rw [fill_nones (by simpa using h) (by simpa using l)]; rfl
  | some _ :: rs, _, _, h, _ => by simp at h
theorem ok_nones : ∀ {rs : List (Option Nat)} {ts : Env}, rs.all (·.isNone) = true → okR rs ts = true
  | [], _, _ => rfl
  | none :: rs, ts, h => by
    show okR rs ts.tail = true
    exact ok_nones (by simpa using h)
  | some _ :: rs, _, h => by simp at h
theorem wb_nones : ∀ {rs : List (Option Nat)} {ts Γ : Env}, rs.all (·.isNone) = true → wbR rs ts Γ = Γ
  | [], _, _, _ => rfl
  | none :: rs, ts, Γ, h => by
    show wbR rs ts.tail Γ = Γ
    exact wb_nones (by simpa using h)
  | some _ :: rs, _, _, h => by simp at h
theorem ck_v {rs : List (Option Nat)} {kd : Kd} {m : SF} {ts : List T} {t : T} (h : ∃ G, m (env0 n ts) = .rt t G) (hq : Q Γ t) (hr : rs.all (·.isNone) = true := by rfl) (hl : rs.length = ts.length := by rfl) : CK rs kd m n Γ ts Q X := by
  obtain ⟨G, h⟩ := h
  refine ⟨⟨ts, fill_nones hr hl, ?_⟩⟩
  rw [h]
  exact ⟨ok_nones hr, by rw [wb_nones hr]; exact hq⟩
theorem ck_w {rs : List (Option Nat)} {kd : Kd} {m : SF} {ts : List T} {P : T → Env → Prop} (h : WS (m (env0 n ts)) (rtW P)) (hq : ∀ t G, P t G → Q Γ t) (hr : rs.all (·.isNone) = true := by rfl) (hl : rs.length = ts.length := by rfl) : CK rs kd m n Γ ts Q X := by
  obtain ⟨t, G, e, p⟩ := h.rt
  exact ck_v ⟨G, e⟩ (hq t G p) hr hl
/-- .. that answers or refuses -/
theorem ck_x {rs : List (Option Nat)} {kd : Kd} {m : SF} {ts : List T} {P : T → Env → Prop} {Z : Str → Env → Prop} (h : WS (m (env0 n ts)) ⟨fun _ => False, P, fun _ => False, fun _ => False, Z⟩) (hq : ∀ t G, P t G → Q Γ t) (hx : ∀ c G, Z c G → X c Γ) (hr : rs.all (·.isNone) = true := by rfl) (hl : rs.length = ts.length := by rfl) : CK rs kd m n Γ ts Q X := by
  refine ⟨⟨ts, fill_nones hr hl, h.imp (fun _ x => x.elim) (fun t G x => ⟨ok_nones hr, by rw [wb_nones hr]; exact hq t G x⟩) (fun _ x => x) (fun _ x => x) fun c G x => ⟨ok_nones hr, by rw [wb_nones hr]; exact hx c G x⟩⟩⟩
/-- a call whose first argument is changed -/
theorem ck_r {rs : List (Option Nat)} {kd : Kd} {m : SF} {t0 x : T} {ts : List T} (e : sl Γ j = some x) (rt : rootT x = true) (h : WS (m (env0 n (x :: ts))) (rtW fun t Γ' => ∃ y G, Γ' = some y :: G ∧ rootT y = true ∧ Q (Γ.set j (some y)) t)) (hr : rs.all (·.isNone) = true := by rfl) (hl : rs.length = ts.length := by rfl) : CK (some j :: rs) kd m n Γ (t0 :: ts) Q X := by
  obtain ⟨t, Γ', e1, y, G, rfl, ry, hq⟩ := h.rt
  refine ⟨⟨x :: ts, ?_, ?_⟩⟩
  · show (sl Γ j).bind _ = _
    rw [e]
    show (if rootT x = true then (fillR rs ts Γ).map (x :: ·) else none) = _
    rw [if_pos rt, fill_nones hr hl]; rfl
  · rw [e1]
    refine ⟨?_, ?_⟩
    · show (rootT y && okR rs G) = true
      rw [ry, ok_nones hr]; rfl
    · show Q (wbR rs G (Γ.set j (some y))) t
      rw [wb_nones hr]; exact hq
/-! ### pure parts -/
theorem wp_pVar {t : T} (e : sl Γ i = some t) (h : P t) : WP (pVar i Γ) P := .of e h
theorem wp_pC {t : T} (h : P t) : WP (pC t Γ) P := .of rfl h
theorem wp_pBin (h : WP (p Γ) fun x => WP (q Γ) fun y => WP (op x y) P) : WP (pBin op p q Γ) P := by
  obtain ⟨x, e1, h⟩ := h.h
  obtain ⟨y, e2, h⟩ := h.h
  obtain ⟨z, e3, h⟩ := h.h
  exact .of (by unfold pBin; rw [e1, e2]; exact e3) h
theorem wp_pUn {op : T → Option T} (h : WP (p Γ) fun x => WP (op x) P) : WP (pUn op p Γ) P := by
  obtain ⟨x, e1, h⟩ := h.h
  obtain ⟨z, e3, h⟩ := h.h
  exact .of (by unfold pUn; rw [e1]; exact e3) h
theorem wp_pNil (h : PL []) : WP (pNil Γ) PL := .of rfl h
theorem wp_pCons (h : WP (p Γ) fun x => WP (af Γ) fun xs => PL (x :: xs)) : WP (pCons p af Γ) PL := by
  obtain ⟨x, e1, h⟩ := h.h
  obtain ⟨y, e2, h⟩ := h.h
  exact .of (by unfold pCons; rw [e1, e2]; rfl) h
theorem wp_pArg {op : List T → Option T} (h : WP (af Γ) fun xs => WP (op xs) P) : WP (pArg op af Γ) P := by
  obtain ⟨x, e1, h⟩ := h.h
  obtain ⟨z, e3, h⟩ := h.h
  exact .of (by unfold pArg; rw [e1]; exact e3) h
theorem wp_pBl (h : WP (p Γ) fun x => WP (blT x) PB) : WP (pBl p Γ) PB := by
  obtain ⟨x, e1, h⟩ := h.h
  obtain ⟨z, e3, h⟩ := h.h
  exact .of (by unfold pBl; rw [e1]; exact e3) h
theorem wp_pTru (h : WP (p Γ) fun x => WP (truT x) PB) : WP (pTru p Γ) PB := by
  obtain ⟨x, e1, h⟩ := h.h
  obtain ⟨z, e3, h⟩ := h.h
  exact .of (by unfold pTru; rw [e1]; exact e3) h
theorem wp_pNotB (h : WP (bf Γ) fun b => PB (!b)) : WP (pNotB bf Γ) PB := by
  obtain ⟨x, e1, h⟩ := h.h
  exact .of (by unfold pNotB; rw [e1]; rfl) h
theorem wp_pNotV (h : WP (bf Γ) fun b => P (.bl (!b))) : WP (pNotV bf Γ) P := by
  obtain ⟨x, e1, h⟩ := h.h
  exact .of (by unfold pNotV; rw [e1]; rfl) h
/-- both parts have answers -/
theorem wp_pAndB (h : WP (bf Γ) fun b => WP (bg Γ) fun c => PB (b && c)) : WP (pAndB bf bg Γ) PB := by
  obtain ⟨x, e1, h⟩ := h.h
  obtain ⟨y, e2, h⟩ := h.h
  refine .of (t := x && y) ?_ h
  unfold pAndB; rw [e1]
  cases x
  · rfl
  · exact e2
theorem wp_pAndB' (h : WP (bf Γ) fun b => (b = true → WP (bg Γ) PB) ∧ (b = false → PB false)) : WP (pAndB bf bg Γ) PB := by
  obtain ⟨x, e1, h⟩ := h.h
  cases x with
  | false => exact .of (by unfold pAndB; rw [e1]; rfl) (h.2 rfl)
  | true =>
    obtain ⟨y, e2, h⟩ := (h.1 rfl).h
    exact .of (by unfold pAndB; rw [e1]; exact e2) h
theorem wp_pOrB (h : WP (bf Γ) fun b => WP (bg Γ) fun c => PB (b || c)) : WP (pOrB bf bg Γ) PB := by
  obtain ⟨x, e1, h⟩ := h.h
  obtain ⟨y, e2, h⟩ := h.h
  refine .of (t := x || y) ?_ h
  unfold pOrB; rw [e1]
  cases x
  · exact e2
  · rfl
theorem wp_pOrB' (h : WP (bf Γ) fun b => (b = false → WP (bg Γ) PB) ∧ (b = true → PB true)) : WP (pOrB bf bg Γ) PB := by
  obtain ⟨x, e1, h⟩ := h.h
  cases x with
  | true => exact .of (by unfold pOrB; rw [e1]; rfl) (h.2 rfl)
  | false =>
    obtain ⟨y, e2, h⟩ := (h.1 rfl).h
    exact .of (by unfold pOrB; rw [e1]; exact e2) h
theorem wp_pAndV' (h : WP (p Γ) fun t => WP (blT t) fun b => (b = true → WP (q Γ) P) ∧ (b = false → P (.bl false))) : WP (pAndV p q Γ) P := by
  obtain ⟨t, e0, h⟩ := h.h
  obtain ⟨x, e1, h⟩ := h.h
  cases x with
  | false => exact .of (by unfold pAndV; rw [e0]; show ((blT t).bind _) = _; rw [e1]; rfl) (h.2 rfl)
  | true =>
    obtain ⟨y, e2, h⟩ := (h.1 rfl).h
    exact .of (by unfold pAndV; rw [e0]; show ((blT t).bind _) = _; rw [e1]; exact e2) h
theorem wp_pOrV' (h : WP (p Γ) fun t => WP (blT t) fun b => (b = false → WP (q Γ) P) ∧ (b = true → P (.bl true))) : WP (pOrV p q Γ) P := by
  obtain ⟨t, e0, h⟩ := h.h
  obtain ⟨x, e1, h⟩ := h.h
  cases x with
  | true => exact .of (by unfold pOrV; rw [e0]; show ((blT t).bind _) = _; rw [e1]; rfl) (h.2 rfl)
  | false =>
    obtain ⟨y, e2, h⟩ := (h.1 rfl).h
    exact .of (by unfold pOrV; rw [e0]; show ((blT t).bind _) = _; rw [e1]; exact e2) h
theorem wp_pIf (h : WP (bf Γ) fun b => (b = true → WP (p Γ) P) ∧ (b = false → WP (q Γ) P)) : WP (pIf bf p q Γ) P := by
  obtain ⟨x, e1, h⟩ := h.h
  cases x with
  | true =>
    obtain ⟨y, e2, h⟩ := (h.1 rfl).h
    exact .of (by unfold pIf; rw [e1]; exact e2) h
  | false =>
    obtain ⟨y, e2, h⟩ := (h.2 rfl).h
    exact .of (by unfold pIf; rw [e1]; exact e2) h
/-- a chain of which all is known -/
theorem wp_pChain {r : PF} (h : WP (p Γ) fun x => WP (q Γ) fun y => WP (op x y) fun z => WP (blT z) fun b => WP (r Γ) fun w => WP (op' y w) fun z' => WP (blT z') fun c => P (.bl (b && c))) : WP (pChain op op' p q r Γ) P := by
  obtain ⟨x, e1, h⟩ := h.h
  obtain ⟨y, e2, h⟩ := h.h
  obtain ⟨z, e3, h⟩ := h.h
  obtain ⟨b, e4, h⟩ := h.h
  obtain ⟨w, e5, h⟩ := h.h
  obtain ⟨z', e6, h⟩ := h.h
  obtain ⟨c, e7, h⟩ := h.h
  have ez : z' = .bl c := by cases z' <;> simp [blT] at e7; rw [e7]
  refine .of (t := .bl (b && c)) ?_ h
  show (p Γ).bind (fun x => (q Γ).bind fun y => ((op x y).bind blT).bind fun b => if b then (r Γ).bind fun z => op' y z else some (.bl false)) = _
  rw [e1]
  show (q Γ).bind (fun y => ((op x y).bind blT).bind fun b => if b then (r Γ).bind fun z => op' y z else some (.bl false)) = _
  rw [e2]
  show ((op x y).bind blT).bind (fun b => if b then (r Γ).bind fun z => op' y z else some (.bl false)) = _
  rw [e3]
  show (blT z).bind (fun b => if b then (r Γ).bind fun z => op' y z else some (.bl false)) = _
  rw [e4]
  cases b with
  | false => rfl
  | true =>
    show (r Γ).bind (fun z => op' y z) = _
    rw [e5]
    show op' y w = _
    rw [e6, ez]; rfl
theorem wp_pWk (h : WP (p Γ) fun t => P (wk1 t)) : WP (pWk p Γ) P := by
  obtain ⟨x, e1, h⟩ := h.h
  exact .of (by unfold pWk; rw [e1]; rfl) h
/-! ### operations -/
theorem wo_bl {b : Bool} (h : PB b) : WP (blT (.bl b)) PB := .of rfl h
theorem wo_add {x y : Int} (h : P (.int (x + y))) : WP (bAdd (.int x) (.int y)) P := .of rfl h
theorem wo_sub {x y : Int} (h : P (.int (x - y))) : WP (bSub (.int x) (.int y)) P := .of rfl h
theorem wo_lt {x y : Int} (h : P (.bl (decide (x < y)))) : WP (bLt (.int x) (.int y)) P := .of rfl h
theorem wo_le {x y : Int} (h : P (.bl (decide (x ≤ y)))) : WP (bLe (.int x) (.int y)) P := .of rfl h
theorem wo_gt {x y : Int} (h : P (.bl (decide (y < x)))) : WP (bGt (.int x) (.int y)) P := .of rfl h
theorem wo_ge {x y : Int} (h : P (.bl (decide (y ≤ x)))) : WP (bGe (.int x) (.int y)) P := .of rfl h
theorem wo_eq {x y : Int} (h : P (.bl (decide (x = y)))) : WP (bEqA (.int x) (.int y)) P := .of (by simp [bEqA, bEq, dtT, eqT]; rfl) h
theorem wo_neq {x y : Int} (h : P (.bl (!decide (x = y)))) : WP (bNot bEqA (.int x) (.int y)) P := .of (by simp [bNot, bEqA, bEq, dtT, eqT]; rfl) h
theorem wo_not {x y : T} (h : WP (op x y) fun t => WP (blT t) fun k => P (.bl (!k))) : WP (bNot op x y) P := by
  obtain ⟨z, e3, h⟩ := h.h
  obtain ⟨b, e4, h⟩ := h.h
  have ez : z = .bl b := by cases z <;> simp [blT] at e4; rw [e4]
  exact .of (by unfold bNot; rw [e3, ez]) h
theorem wo_isN {x : T} (h : P (.bl (isNon x))) : WP (bIs x .non) P := .of (by cases x <;> rfl) h
theorem wo_isB {x y : Bool} (h : P (.bl (decide (x = y)))) : WP (bIs (.bl x) (.bl y)) P := .of rfl h
theorem wo_tup {ts : List T} (e : decide (ts.length ≤ 100000) = true) (h : P (.tup ts)) : WP (mkTup ts) P := .of (by unfold mkTup; rw [if_pos (of_decide_eq_true e)]) h
theorem wo_lst {ts : List T} (e : decide (ts.length ≤ 100000) = true) (h : P (.lst ts)) : WP (mkLst ts) P := .of (by unfold mkLst; rw [if_pos (of_decide_eq_true e)]) h
theorem wo_cutT {ts : List T} {l k : Option Int} (h : P (.tup (cutL ts l k))) : WP (slT (.tup ts) l k) P := .of rfl h
theorem wo_lenL {ts : List T} (h : P (.int (ts.length : Nat))) : WP (tLen [.lst ts]) P := .of rfl h
theorem wo_lenT {ts : List T} (h : P (.int (ts.length : Nat))) : WP (tLen [.tup ts]) P := .of rfl h
theorem wo_lenD {ts : List (Key × T)} (h : P (.int (ts.length : Nat))) : WP (tLen [.dct ts]) P := .of rfl h
theorem wo_itL {ts : List T} (h : PL ts) : WP (itemsT (.lst ts)) PL := .of rfl h
theorem wo_itT {ts : List T} (h : PL ts) : WP (itemsT (.tup ts)) PL := .of rfl h
theorem wo_truB {b : Bool} (h : PB b) : WP (truT (.bl b)) PB := .of rfl h
theorem wo_truL {ts : List T} (h : PB (!ts.isEmpty)) : WP (truT (.lst ts)) PB := .of rfl h
theorem wo_neg {x : Int} (h : P (.int (-x))) : WP (uNeg (.int x)) P := .of rfl h
theorem wo_mod {x y : Int} (e : 0 < y) (h : P (.int (x % y))) : WP (bMod (.int x) (.int y)) P := .of (if_pos e) h
theorem wo_div {x y : Int} (e : 0 < y ∧ y < 1000000000000000000000000000000) (h : P (.int (x / y))) : WP (bDiv (.int x) (.int y)) P := .of (if_pos e) h
theorem wo_mul {x y : Int} (e : (-(2 ^ 64) < x ∧ x < 2 ^ 64) ∨ (-(2 ^ 64) < y ∧ y < 2 ^ 64)) (h : P (.int (x * y))) : WP (bMul (.int x) (.int y)) P := .of (if_pos e) h
theorem wo_rg1 {x : Int} (e : 0 ≤ x ∧ x ≤ 1000000) (h : PL ((List.range x.toNat).map fun k : Nat => T.int (k : Int))) : WP (rng1 [.int x]) PL := .of (by
  show rangeT 0 x = _
  unfold rangeT
  rw [if_pos (by omega)]
  simp) h
theorem wo_rg2 {x y : Int} (e : (-1000000 ≤ x ∧ x ≤ 1000000) ∧ -1000000 ≤ y ∧ y ≤ 1000000) (h : PL ((List.range (y - x).toNat).map fun k : Nat => T.int (x + (k : Int)))) : WP (rng2 [.int x, .int y]) PL := .of (by
  show rangeT x y = _
  unfold rangeT
  rw [if_pos (by omega)]) h
theorem wo_rfl {o : Option α} {t : α} {q : α → Prop} (e : o = some t) (h : q t) : WP o q := .of e h
end
end Tm
local macro_rules | `(tactic| walk_at "w1") => `(tactic| with_reducible first | refine Tm.ws_seq ?_ | refine Tm.ws_asg ?_ | refine Tm.ws_ret ?_ | refine Tm.ws_expr ?_ | refine Tm.ws_nil ?_ | refine Tm.ws_for ?_ | refine Tm.ws_retN ?_ | refine Tm.ws_brk ?_ | refine Tm.ws_cnt ?_ | refine Tm.ws_asgT ?_ | refine Tm.ws_frz ?_ | refine Tm.we_eP ?_ | refine Tm.we_eB ?_ | refine Tm.we_eBin ?_ | refine Tm.we_eCons ?_ | refine Tm.we_eNil ?_ | refine Tm.we_eArg ?_ | refine Tm.we_eArgs ?_ | refine Tm.we_eCallR ?_ | refine Tm.we_eItems ?_ | refine Tm.we_eBl ?_ | refine Tm.we_eTru ?_ | refine Tm.we_eUn ?_ | refine Tm.we_eNotB ?_ | refine Tm.we_eNotV ?_ | refine Tm.we_eFrz ?_ | refine Tm.we_eFrzB ?_ | refine Tm.we_eFl ?_ | refine Tm.we_eFlr ?_ | refine Tm.we_eYes ?_ | refine Tm.we_eLc ?_ | refine Tm.we_eSl ?_ | refine Tm.we_oN ?_ | refine Tm.we_eFldO ?_ | refine Tm.we_eFldE ?_ | refine Tm.we_eWk ?_ | refine Tm.we_eAndB ?_ | refine Tm.we_eOrB ?_ | refine Tm.we_eAndV ?_ | refine Tm.we_eOrV ?_ | refine Tm.we_eIf ?_ | refine Tm.we_eMeth0 ?_ | refine Tm.we_eMk ?_ | refine Tm.we_eChk ?_ | refine Tm.wp_pC ?_ | refine Tm.wp_pBin ?_ | refine Tm.wp_pCons ?_ | refine Tm.wp_pNil ?_ | refine Tm.wp_pArg ?_ | refine Tm.wp_pBl ?_ | refine Tm.wp_pUn ?_ | refine Tm.wp_pTru ?_ | refine Tm.wp_pNotB ?_ | refine Tm.wp_pNotV ?_ | refine Tm.wp_pIf ?_ | refine Tm.wp_pChain ?_ | refine Tm.wp_pWk ?_ | refine Tm.wo_bl ?_ | refine Tm.wo_add ?_ | refine Tm.wo_sub ?_ | refine Tm.wo_lt ?_ | refine Tm.wo_le ?_ | refine Tm.wo_gt ?_ | refine Tm.wo_ge ?_ | refine Tm.wo_eq ?_ | refine Tm.wo_neq ?_ | refine Tm.wo_not ?_ | refine Tm.wo_truB ?_ | refine Tm.wo_truL ?_ | refine Tm.wo_neg ?_ | refine Tm.wo_isN ?_ | refine Tm.wo_isB ?_ | refine Tm.wo_lenL ?_ | refine Tm.wo_lenT ?_ | refine Tm.wo_lenD ?_ | refine Tm.wo_itL ?_ | refine Tm.wo_itT ?_ | refine Tm.wp_gT ?_ | refine Tm.wp_gTs0 ?_ | refine Tm.wp_gTs1 ?_ | refine Tm.wp_gN ?_)
local macro_rules | `(tactic| walk_at "w2") => `(tactic| with_reducible first | refine Tm.wp_pVar (by with_unfolding_all exact rfl) ?_ | refine Tm.wo_tup (by with_unfolding_all exact rfl) ?_ | refine Tm.wo_lst (by with_unfolding_all exact rfl) ?_ | refine Tm.we_eOwn (by with_unfolding_all exact rfl) ?_ | refine Tm.we_eMut (by with_unfolding_all exact rfl) ?_ | refine Tm.ws_stoL (by with_unfolding_all exact rfl) ?_ | refine Tm.ws_stoD (by with_unfolding_all exact rfl) ?_ | refine Tm.ws_forD (by with_unfolding_all exact rfl) ?_ | refine Tm.ws_move (by with_unfolding_all exact rfl) ?_ | refine Tm.ws_attr (by with_unfolding_all exact rfl) ?_ | refine Tm.wo_cutT ?_)
local macro_rules | `(tactic| walk_at "w3") => `(tactic| with_reducible first | refine Tm.wp_pAndB ?_ | refine Tm.wp_pOrB ?_)
local macro_rules | `(tactic| walk_at "w4") => `(tactic| with_reducible refine Tm.ws_if ?_)
local macro_rules | `(tactic| walk_at "wgt") => `(tactic| repeat (first | walk_at "w1" | walk_at "w4" | walk_at "w2" | walk_at "w3"))
local macro_rules | `(tactic| walk_at "wgo") => `(tactic| repeat (first | walk_at "w1" | walk_at "w4" | walk_at "w2"))
local macro_rules | `(tactic| walk_at "wgs") => `(tactic| repeat (first | walk_at "w1" | walk_at "w2"))
namespace Lw
open PySem PySem.Spec PyProof.Rows L2 Tm
def topS (i : Nat) : Stmt := PySem.Challenge.pw_hearkenway_k40_ways_of_anything.main.body.getD i (.Pass ⟨0, 0, 0, 0⟩)
abbrev s__law_e_blend : Stmt := topS 13
abbrev N__law_e_blend : List Str := ["cell", "place", "low", "high", "last"]
theorem sc__law_e_blend : FnScope ["cell", "place", "low", "high", "last"] ["cell", "place"] (defScope s__law_e_blend) := ⟨rfl, rfl, rfl, by decide +kernel, rfl, by decide +kernel, by decide +kernel⟩
/-- _law_e_blend: 0 cell, 1 place, 2 low, 3 high, 4 last -/
def M_law_e_blend : SF := (sSeq (sIf (eB (pBl (pBin bGe (pVar 0) (pBin bPow (pC (.int 10)) (pC (.int 18)))))) (sRet (eP (pVar 0))) sNil) (sSeq (sAsg 2 (eP (pBin bMod (pBin bAdd (pBin bAdd (pBin bMul (pBin bMod (pVar 0) (pC (.int 2147483549))) (pC (.int 33797))) (pBin bMul (pVar 1) (pC (.int 104729)))) (pC (.int 29))) (pC (.int 2147483497))))) (sSeq (sAsg 3 (eP (pBin bMod (pBin bAdd (pBin bAdd (pBin bAdd (pBin bMul (pVar 2) (pVar 2)) (pBin bMul (pC (.int 5077)) (pVar 2))) (pBin bMul (pVar 1) (pVar 1))) (pC (.int 2))) (pC (.int 2147483489))))) (sSeq (sAsg 4 (eP (pBin bMod (pBin bAdd (pBin bAdd (pBin bMul (pVar 3) (pVar 3)) (pBin bMul (pC (.int 911)) (pVar 1))) (pVar 2)) (pC (.int 2147483477))))) (sRet (eP (pBin bAdd (pBin bMul (pVar 3) (pC (.int 2147483477))) (pVar 4))))))))
abbrev s__law_e_draw : Stmt := topS 14
abbrev N__law_e_draw : List Str := ["tray", "many", "place", "cell", "drawn"]
theorem sc__law_e_draw : FnScope ["tray", "many", "place", "cell", "drawn"] ["tray", "many"] (defScope s__law_e_draw) := ⟨rfl, rfl, rfl, by decide +kernel, rfl, by decide +kernel, by decide +kernel⟩
/-- _law_e_draw: 0 tray, 1 many, 2 place, 3 cell, 4 drawn -/
def M_law_e_draw : SF := (sSeq (sIf (eB (pBl (pBin bLt (pBin tIxA (pVar 0) (pC (.int 2))) (pVar 1)))) (sSeq (sAsg 2 (eOwn 0 (eP (pC (.int 1))))) (sSeq (sAsg 3 (eP (pBin bAdd (pBin bMul (pC (.int 13)) (pVar 2)) (pC (.int 1))))) (sSeq (sIf (eB (pBl (pBin bLt (pVar 2) (pArg tLen (pCons (pBin tIxA (pVar 0) (pC (.int 0))) pNil))))) (sAsg 3 (eBin tIxA (eOwn 0 (eP (pC (.int 0)))) (eP (pVar 2)))) (sIf (eB (pBl (pBin bGt (pArg tLen (pCons (pBin tIxA (pVar 0) (pC (.int 0))) pNil)) (pC (.int 0))))) (sAsg 3 (eP (pBin bAdd (pBin bMod (pBin tIxA (pBin tIxA (pVar 0) (pC (.int 0))) (pBin bMod (pBin bMul (pVar 2) (pC (.int 5))) (pArg tLen (pCons (pBin tIxA (pVar 0) (pC (.int 0))) pNil)))) (pC (.int 888888883))) (pBin bMul (pVar 2) (pC (.int 5000000)))))) sNil)) (sSeq (sSto 0 (eP (pBin bAdd (pVar 2) (pC (.int 1)))) (eP (pC (.int 1)))) (sSto 0 (eCallR [none, none] .shared M_law_e_blend 5 (eCons (eP (pVar 3)) (eCons (eP (pVar 2)) eNil))) (eP (pC (.int 2)))))))) sNil) (sSeq (sAsg 4 (eP (pBin bMod (pBin tIxA (pVar 0) (pC (.int 2))) (pVar 1)))) (sSeq (sSto 0 (eP (pBin bDiv (pBin tIxA (pVar 0) (pC (.int 2))) (pVar 1))) (eP (pC (.int 2)))) (sRet (eFl (eP (pVar 4)))))))
abbrev s__law_e_ways : Stmt := topS 15
abbrev N__law_e_ways : List Str := ["tray", "n", "shape", "places", "place", "up", "at", "ahead"]
theorem sc__law_e_ways : FnScope ["tray", "n", "shape", "places", "place", "up", "at", "ahead"] ["tray"] (defScope s__law_e_ways) := ⟨rfl, rfl, rfl, by decide +kernel, rfl, by decide +kernel, by decide +kernel⟩
/-- _law_e_ways: 0 tray, 1 n, 2 shape, 3 places, 4 place, 5 up, 6 at, 7 ahead -/
def M_law_e_ways : SF := (sSeq (sAsg 1 (eBin bAdd (eP (pC (.int 1))) (eCallR [some 0, none] .imm M_law_e_draw 5 (eCons (eP (pVar 0)) (eCons (eP (pC (.int 8))) eNil))))) (sSeq (sAsg 2 (eCallR [some 0, none] .imm M_law_e_draw 5 (eCons (eP (pVar 0)) (eCons (eP (pC (.int 4))) eNil)))) (sSeq (sAsg 3 (eP (pArg mkLst pNil))) (sSeq (sFor (eArgs rng1 (eCons (eP (pVar 1)) eNil)) (gN 4) (sExpr (eMut 3 "list" lmInsert (eCons (eCallR [some 0, none] .imm M_law_e_draw 5 (eCons (eP (pVar 0)) (eCons (eP (pBin bAdd (pVar 4) (pC (.int 1)))) eNil))) (eCons (eP (pVar 4)) eNil))))) (sSeq (sAsg 5 (eLc (eArgs rng1 (eCons (eP (pVar 1)) eNil)) (gN 4) eYes (eP (pC .non)))) (sSeq (sFor (eArgs rng2 (eCons (eP (pC (.int 1))) (eCons (eP (pVar 1)) eNil))) (gN 6) (sSeq (sAsg 7 (eBin tIxA (eArg mkLst (eCons (eCallR [some 0, none] .imm M_law_e_draw 5 (eCons (eP (pVar 0)) (eCons (eP (pVar 6)) eNil))) (eCons (eP (pBin bSub (pVar 6) (pC (.int 1)))) (eCons (eP (pC (.int 0))) (eCons (eCallR [some 0, none] .imm M_law_e_draw 5 (eCons (eP (pVar 0)) (eCons (eP (pVar 6)) eNil))) eNil))))) (eP (pVar 2)))) (sSto 5 (eOwn 3 (eP (pVar 7))) (eOwn 3 (eP (pVar 6)))))) (sRet (eP (pArg tTupP (pCons (pVar 5) pNil))))))))))
abbrev s__law_e_ring : Stmt := topS 16
abbrev N__law_e_ring : List Str := ["up", "place", "found", "one"]
theorem sc__law_e_ring : FnScope ["up", "place", "found", "one"] ["up", "place"] (defScope s__law_e_ring) := ⟨rfl, rfl, rfl, by decide +kernel, rfl, by decide +kernel, by decide +kernel⟩
/-- _law_e_ring: 0 up, 1 place, 2 found, 3 one -/
def M_law_e_ring : SF := (sSeq (sAsg 2 (eP (pArg tList (pCons (pVar 0) pNil)))) (sSeq (sAsg 3 (eP (pVar 1))) (sSeq (sWhile (eB (pBl (pBin (bNot bIs) (pBin tIxA (pVar 2) (pVar 3)) (pC .non)))) (sAsg 3 (eOwn 2 (eP (pVar 3)))) 1000000) (sSeq (sSto 2 (eP (pVar 1)) (eP (pVar 3))) (sRet (eP (pArg tTuple (pCons (pVar 2) pNil))))))))
abbrev s__law_e_with_root : Stmt := topS 17
abbrev N__law_e_with_root : List Str := ["found", "place"]
theorem sc__law_e_with_root : FnScope ["found", "place"] ["found", "place"] (defScope s__law_e_with_root) := ⟨rfl, rfl, rfl, by decide +kernel, rfl, by decide +kernel, by decide +kernel⟩
/-- _law_e_with_root: 0 found, 1 place -/
def M_law_e_with_root : SF := (sRet (eBin catT (eBin catT (eSl (eP (pVar 0)) oN (oS (eP (pVar 1)))) (eP (pArg mkTup (pCons (pC .non) pNil)))) (eSl (eP (pVar 0)) (oS (eP (pBin bAdd (pVar 1) (pC (.int 1))))) oN)))
abbrev s__law_e_spoilt : Stmt := topS 18
abbrev N__law_e_spoilt : List Str := ["tray", "up", "n", "at", "far", "found", "bad", "others", "k"]
theorem sc__law_e_spoilt : FnScope ["tray", "up", "n", "at", "far", "found", "bad", "others", "k"] ["tray", "up"] (defScope s__law_e_spoilt) := ⟨rfl, rfl, rfl, by decide +kernel, rfl, by decide +kernel, by decide +kernel⟩
/-- _law_e_spoilt: 0 tray, 1 up, 2 n, 3 at, 4 far, 5 found, 6 bad, 7 others, 8 k -/
def M_law_e_spoilt : SF := (sSeq (sAsg 2 (eP (pArg tLen (pCons (pVar 1) pNil)))) (sSeq (sAsg 3 (eCallR [some 0, none] .imm M_law_e_draw 5 (eCons (eP (pVar 0)) (eCons (eP (pVar 2)) eNil)))) (sSeq (sAsg 4 (eCallR [some 0, none] .imm M_law_e_draw 5 (eCons (eP (pVar 0)) (eCons (eP (pBin bPow (pC (.int 10)) (pC (.int 20)))) eNil)))) (sSeq (sAsg 5 (eP (pArg mkLst pNil))) (sSeq (sFor (eItems (eP (pArg mkLst (pCons (pVar 3) (pCons (pUn uNeg (pC (.int 1))) (pCons (pVar 2) (pCons (pBin bAdd (pVar 2) (pVar 4)) (pCons (pBin bSub (pUn uNeg (pC (.int 1))) (pVar 4)) (pCons (pC (.bl true)) (pCons (pC (.str "0")) (pCons (pArg mkTup (pCons (pC (.int 0)) pNil)) pNil))))))))))) (gN 6) (sExpr (eMut 5 "list" lmAppend (eCons (eBin catT (eBin catT (eSl (eP (pVar 1)) oN (oS (eP (pVar 3)))) (eP (pArg mkTup (pCons (pVar 6) pNil)))) (eSl (eP (pVar 1)) (oS (eP (pBin bAdd (pVar 3) (pC (.int 1))))) oN)) eNil)))) (sSeq (sAsg 5 (eBin catL (eP (pVar 5)) (eArg mkLst (eCons (eP (pArg tList (pCons (pVar 1) pNil))) (eCons (eBin catT (eP (pVar 1)) (eP (pArg mkTup (pCons (pC .non) pNil)))) (eCons (eBin catT (eP (pArg mkTup (pCons (pC .non) pNil))) (eP (pVar 1))) (eCons (eCallR [none, none] .shared M_law_e_ring 4 (eCons (eP (pVar 1)) (eCons (eP (pVar 3)) eNil))) (eCons (eBin catT (eP (pVar 1)) (eP (pArg mkTup (pCons (pVar 2) pNil)))) eNil)))))))) (sSeq (sAsg 5 (eBin catL (eP (pVar 5)) (eArg mkLst (eCons (eBin catT (eP (pArg mkTup (pCons (pC .non) pNil))) (eBin mulT (eP (pArg mkTup (pCons (pC (.int 0)) pNil))) (eP (pC (.int 8))))) (eCons (eP (pC .non)) eNil))))) (sSeq (sAsg 7 (eLc (eArgs rng1 (eCons (eP (pVar 2)) eNil)) (gN 8) (eB (pBl (pBin (bNot bIs) (pBin tIxA (pVar 1) (pVar 8)) (pC .non)))) (eP (pVar 8)))) (sSeq (sIf (eB (pBl (pBin (bNot bEqA) (pVar 7) (pArg mkLst pNil)))) (sExpr (eMut 5 "list" lmAppend (eCons (eCallR [none, none] .shared M_law_e_with_root 2 (eCons (eP (pVar 1)) (eCons (eBin tIxA (eP (pVar 7)) (eCallR [some 0, none] .imm M_law_e_draw 5 (eCons (eP (pVar 0)) (eCons (eP (pArg tLen (pCons (pVar 7) pNil))) eNil)))) eNil))) eNil))) sNil) (sSeq (sIf (eB (pBl (pBin bGt (pArg tLen (pCons (pVar 7) pNil)) (pC (.int 1))))) (sExpr (eMut 5 "list" lmAppend (eCons (eCallR [none, none] .shared M_law_e_with_root 2 (eCons (eCallR [none, none] .shared M_law_e_ring 4 (eCons (eP (pVar 1)) (eCons (eBin tIxA (eP (pVar 7)) (eP (pC (.int 0)))) eNil))) (eCons (eBin tIxA (eP (pVar 7)) (eP (pC (.int 1)))) eNil))) eNil))) sNil) (sMove 5)))))))))))
abbrev s_way_up : Stmt := topS 9
abbrev N_way_up : List Str := ["up", "place", "found"]
theorem sc_way_up : FnScope ["up", "place", "found"] ["up", "place"] (defScope s_way_up) := ⟨rfl, rfl, rfl, by decide +kernel, rfl, by decide +kernel, by decide +kernel⟩
/-- way_up: 0 up, 1 place, 2 found -/
def Mway_up : SF := (sSeq (sAsg 2 (eP (pArg mkLst (pCons (pVar 1) pNil)))) (sSeq (sWhile (eB (pBl (pBin (bNot bIs) (pBin tIxA (pVar 0) (pBin tIxA (pVar 2) (pUn uNeg (pC (.int 1))))) (pC .non)))) (sSeq (sIf (eB (pBl (pBin bGt (pArg tLen (pCons (pVar 2) pNil)) (pArg tLen (pCons (pVar 0) pNil))))) (sRet (eP (pC .non))) sNil) (sExpr (eMut 2 "list" lmAppend (eCons (eBin tIxA (eP (pVar 0)) (eOwn 2 (eP (pUn uNeg (pC (.int 1)))))) eNil)))) 1000000) (sRet (eP (pVar 2)))))
abbrev s_is_count : Stmt := topS 8
abbrev N_is_count : List Str := ["thing"]
theorem sc_is_count : FnScope ["thing"] ["thing"] (defScope s_is_count) := ⟨rfl, rfl, rfl, by decide +kernel, rfl, by decide +kernel, by decide +kernel⟩
/-- is_count: 0 thing -/
def Mis_count : SF := (sRet (eP (pAndV (pArg tIsi (pCons (pVar 0) (pCons (pC (.ty "int")) pNil))) (pAndV (pNotV (pBl (pArg tIsi (pCons (pVar 0) (pCons (pC (.ty "bool")) pNil))))) (pBin bGe (pVar 0) (pC (.int 0)))))))
abbrev s_are_ways : Stmt := topS 10
abbrev N_are_ways : List Str := ["thing", "ahead", "place"]
theorem sc_are_ways : FnScope ["thing", "ahead", "place"] ["thing"] (defScope s_are_ways) := ⟨rfl, rfl, rfl, by decide +kernel, rfl, by decide +kernel, by decide +kernel⟩
/-- are_ways: 0 thing, 1 ahead, 2 place -/
def Mare_ways : SF := (sSeq (sIf (eB (pOrB (pNotB (pTru (pArg tIsi (pCons (pVar 0) (pCons (pC (.ty "tuple")) pNil))))) (pNotB (pBl (pChain bLe bLe (pC (.int 1)) (pArg tLen (pCons (pVar 0) pNil)) (pC (.int 8))))))) (sRet (eP (pC (.bl false)))) sNil) (sSeq (sIf (eNotB (eTru (eArg tAll (eCons (eLc (eItems (eP (pVar 0))) (gN 1) eYes (eOrV (eP (pBin bIs (pVar 1) (pC .non))) (eAndV (eCallR [none] .imm Mis_count 1 (eCons (eP (pVar 1)) eNil)) (eP (pBin bLt (pVar 1) (pArg tLen (pCons (pVar 0) pNil))))))) eNil)))) (sRet (eP (pC (.bl false)))) sNil) (sSeq (sIf (eBl (eBin (bNot bEqA) (eArg tLen (eCons (eLc (eItems (eP (pVar 0))) (gN 1) (eB (pBl (pBin bIs (pVar 1) (pC .non)))) (eP (pVar 1))) eNil)) (eP (pC (.int 1))))) (sRet (eP (pC (.bl false)))) sNil) (sRet (eArg tAll (eCons (eLc (eArgs rng1 (eCons (eP (pArg tLen (pCons (pVar 0) pNil))) eNil)) (gN 2) eYes (eBin (bNot bIs) (eCallR [none, none] .shared Mway_up 3 (eCons (eP (pVar 0)) (eCons (eP (pVar 2)) eNil))) (eP (pC .non)))) eNil))))))
abbrev s__law_e_good : Stmt := topS 19
abbrev N__law_e_good : List Str := ["thing", "ahead", "place", "one", "turn"]
theorem sc__law_e_good : FnScope ["thing", "ahead", "place", "one", "turn"] ["thing"] (defScope s__law_e_good) := ⟨rfl, rfl, rfl, by decide +kernel, rfl, by decide +kernel, by decide +kernel⟩
/-- _law_e_good: 0 thing, 1 ahead, 2 place, 3 one, 4 turn -/
def M_law_e_good : SF := (sSeq (sIf (eOrB (eB (pNotB (pTru (pArg tIsi (pCons (pVar 0) (pCons (pC (.ty "tuple")) pNil)))))) (eOrB (eB (pBl (pBin bGt (pArg tLen (pCons (pVar 0) pNil)) (pC (.int 8))))) (eBl (eBin (bNot bEqA) (eArg tLen (eCons (eLc (eItems (eP (pVar 0))) (gN 1) (eB (pBl (pBin bIs (pVar 1) (pC .non)))) (eP (pVar 1))) eNil)) (eP (pC (.int 1))))))) (sRet (eP (pC (.bl false)))) sNil) (sSeq (sFor (eItems (eP (pVar 0))) (gN 1) (sSeq (sIf (eB (pAndB (pBl (pBin (bNot bIs) (pVar 1) (pC .non))) (pOrB (pNotB (pTru (pArg tIsi (pCons (pVar 1) (pCons (pC (.ty "int")) pNil))))) (pTru (pArg tIsi (pCons (pVar 1) (pCons (pC (.ty "bool")) pNil))))))) (sRet (eP (pC (.bl false)))) sNil) (sIf (eB (pAndB (pBl (pBin (bNot bIs) (pVar 1) (pC .non))) (pNotB (pBl (pChain bLe bLt (pC (.int 0)) (pVar 1) (pArg tLen (pCons (pVar 0) pNil))))))) (sRet (eP (pC (.bl false)))) sNil))) (sSeq (sFor (eArgs rng1 (eCons (eP (pArg tLen (pCons (pVar 0) pNil))) eNil)) (gN 2) (sSeq (sAsg 3 (eP (pVar 2))) (sSeq (sFor (eArgs rng1 (eCons (eP (pArg tLen (pCons (pVar 0) pNil))) eNil)) (gN 4) (sIf (eB (pBl (pBin (bNot bIs) (pBin tIxA (pVar 0) (pVar 3)) (pC .non)))) (sAsg 3 (eBin tIxA (eP (pVar 0)) (eP (pVar 3)))) sNil)) (sIf (eB (pBl (pBin (bNot bIs) (pBin tIxA (pVar 0) (pVar 3)) (pC .non)))) (sRet (eP (pC (.bl false)))) sNil)))) (sRet (eP (pC (.bl true)))))))
abbrev s_Hearing_hearers : Stmt := inClass (topS 11) 9
abbrev N_Hearing_hearers : List Str := ["self", "place"]
theorem sc_Hearing_hearers : FnScope ["self", "place"] ["self"] (defScope s_Hearing_hearers) := ⟨rfl, rfl, rfl, by decide +kernel, rfl, by decide +kernel, by decide +kernel⟩
/-- Hearing_hearers: 0 self, 1 place -/
def MHearing_hearers : SF := (sRet (eArg tTuple (eCons (eLc (eArgs rng1 (eCons (eArg tLen (eCons (eFldE "Hearing" "up" (eP (pVar 0))) eNil)) eNil)) (gN 1) (eTru (eBin tIxA (eFldE "Hearing" "hears" (eP (pVar 0))) (eP (pVar 1)))) (eP (pVar 1))) eNil)))
abbrev s_Hearing___init__ : Stmt := inClass (topS 11) 0
abbrev N_Hearing___init__ : List Str := ["self", "up", "place"]
theorem sc_Hearing___init__ : FnScope ["self", "up", "place"] ["self", "up"] (defScope s_Hearing___init__) := ⟨rfl, rfl, rfl, by decide +kernel, rfl, by decide +kernel, by decide +kernel⟩
/-- Hearing___init__: 0 self, 1 up, 2 place -/
def MHearing___init__ : SF := (sSeq (sIf (eNotB (eTru (eCallR [none] .imm Mare_ways 3 (eCons (eP (pWk (pVar 1))) eNil)))) sOff sNil) (sSeq (sAttr 0 "Hearing" "up" (eP (pWk (pVar 1)))) (sSeq (sAttr 0 "Hearing" "root" (eTix (eP (pVar 1)) (eP (pC .non)))) (sSeq (sAttr 0 "Hearing" "hears" (eLc (eItems (eP (pWk (pVar 1)))) (gN 2) eYes (eP (pC (.bl false))))) (sSeq (sAttr 0 "Hearing" "counts" (eLc (eItems (eP (pWk (pVar 1)))) (gN 2) eYes (eP (pC (.int 0))))) (sSeq (sAttr 0 "Hearing" "served" (eLc (eItems (eP (pWk (pVar 1)))) (gN 2) eYes (eP (pC (.dct []))))) (sSeq (sAttr 0 "Hearing" "row_up" (eLc (eItems (eP (pWk (pVar 1)))) (gN 2) eYes (eP (pArg mkLst pNil)))) (sSeq (sAttr 0 "Hearing" "row_down" (eLc (eItems (eP (pWk (pVar 1)))) (gN 2) eYes (eP (pArg mkLst pNil)))) (sSeq (sAttr 0 "Hearing" "told" (eLc (eItems (eP (pWk (pVar 1)))) (gN 2) eYes (eP (pArg mkLst pNil)))) (sSeq (sAttr 0 "Hearing" "following" (eP (pC (.int 0)))) (sSeq (sAttr 0 "Hearing" "put_up" (eP (pC (.int 0)))) (sAttr 0 "Hearing" "put_down" (eP (pC (.int 0)))))))))))))))
abbrev s_law : Stmt := topS 20
abbrev N_law : List Str := ["script", "tray", "k", "up", "turn", "thing", "found"]
theorem sc_law : FnScope ["script", "tray", "k", "up", "turn", "thing", "found"] ["script"] (defScope s_law) := ⟨rfl, rfl, rfl, by decide +kernel, rfl, by decide +kernel, by decide +kernel⟩
/-- law: 0 script, 1 tray, 2 k, 3 up, 4 turn, 5 thing, 6 found -/
def Mlaw : SF := (sSeq (sAsg 1 (eP (pArg mkLst (pCons (pVar 0) (pCons (pC (.int 0)) (pCons (pC (.int 0)) pNil)))))) (sSeq (sFor (eArgs rng1 (eCons (eP (pC (.int 5))) eNil)) (gN 2) (sSeq (sIf (eB (pAndB (pBl (pBin bGt (pVar 2) (pC (.int 1)))) (pBl (pBin bGe (pBin tIxA (pVar 1) (pC (.int 1))) (pArg tLen (pCons (pVar 0) pNil)))))) sBrk sNil) (sSeq (sAsg 3 (eCallR [some 1] .shared M_law_e_ways 8 (eCons (eP (pVar 1)) eNil))) (sSeq (sFor (eArgs rng1 (eCons (eP (pC (.int 2))) eNil)) (gN 4) (sIf (eBl (eBin (bNot bIs) (eCallR [none] .imm Mare_ways 3 (eCons (eP (pWk (pVar 3))) eNil)) (eP (pC (.bl true))))) (sRet (eP (pC (.bl false)))) sNil)) (sSeq (sIf (eBl (eBin (bNot bEqA) (eMeth0 "Hearing" "hearers" .shared MHearing_hearers 2 (eMk "Hearing" MHearing___init__ 3 (eCons (eP (pVar 3)) eNil))) (eP (pArg mkTup pNil)))) (sRet (eP (pC (.bl false)))) sNil) (sFor (eItems (eCallR [some 1, none] .fr1 M_law_e_spoilt 9 (eCons (eP (pVar 1)) (eCons (eP (pWk (pVar 3))) eNil)))) (gN 5) (sSeq (sAsg 6 (eCallR [none] .imm Mare_ways 3 (eCons (eP (pVar 5)) eNil))) (sIf (eOrB (eB (pNotB (pTru (pArg tIsi (pCons (pVar 6) (pCons (pC (.ty "bool")) pNil)))))) (eBl (eBin (bNot bEqA) (eP (pVar 6)) (eCallR [none] .imm M_law_e_good 5 (eCons (eP (pVar 5)) eNil))))) (sRet (eP (pC (.bl false)))) sNil)))))))) (sSeq (sFor (eItems (eP (pArg mkLst (pCons (pArg mkTup pNil) (pCons (pArg mkLst pNil) (pCons (pC (.dct [])) (pCons (pC .non) (pCons (pC (.bl true)) (pCons (pC (.int 0)) (pCons (pC (.str "ways")) (pCons (pArg mkTup (pCons (pC (.int 0)) pNil)) (pCons (pArg mkTup (pCons (pC .non) (pCons (pC .non) pNil))) (pCons (pArg mkTup (pCons (pC (.int 1)) (pCons (pC (.int 0)) pNil))) (pCons (pArg mkTup (pCons (pArg mkTup (pCons (pC .non) pNil)) pNil)) (pCons (pArg mkTup (pCons (pC .non) (pCons (pC .non) (pCons (pC (.int 0)) pNil)))) pNil))))))))))))))) (gN 5) (sIf (eBl (eBin (bNot bIs) (eCallR [none] .imm Mare_ways 3 (eCons (eP (pVar 5)) eNil)) (eP (pC (.bl false))))) (sRet (eP (pC (.bl false)))) sNil)) (sRet (eAndV (eBin bIs (eCallR [none] .imm Mare_ways 3 (eCons (eP (pArg mkTup (pCons (pC .non) pNil))) eNil)) (eP (pC (.bl true)))) (eBin bIs (eCallR [none] .imm Mare_ways 3 (eCons (eP (pArg mkTup (pCons (pC (.int 1)) (pCons (pC (.int 2)) (pCons (pC (.int 3)) (pCons (pC (.int 4)) (pCons (pC (.int 5)) (pCons (pC (.int 6)) (pCons (pC (.int 7)) (pCons (pC .non) pNil)))))))))) eNil)) (eP (pC (.bl true)))))))))
theorem ok__law_e_blend {P : Program} {w : World} {K : PySem.W.Frag} {mg : Str → Option Value} {base : Heap} {cm : Cm} {f : Addr} {fd : FuncData} {k : Nat} (F : Fun K "_law_e_blend" "_law_e_blend" s__law_e_blend f fd) : FnOk P w K mg base CX0 (k + 1) f fd ["cell", "place"] (SpM K cm [.vw, .vw] 5 .shared M_law_e_blend) := by
  refine F.ok sc__law_e_blend (fun vs H Q E h => by obtain ⟨W, ts, _, hl, _⟩ := h; exact hl) (fun cdv A outer s H vs Q E hr h => ?_)
  have hu1 : (A.deeper (envOfC "_law_e_blend" (defScope s__law_e_blend) s.heap.objs.size f cdv)).units + 1 < cLine := by have := hr.un; omega
  have hu65 : (A.deeper (envOfC "_law_e_blend" (defScope s__law_e_blend) s.heap.objs.size f cdv)).units + 65 < cLine := by have := hr.un; omega
  refine ⟨tS K cm [.vw, .vw, .vw, .vw, .vw] [.vw, .vw, .vw, .vw, .vw] ⟨[], [], [.dead, .dead, .dead, .dead, .dead], .shared, []⟩ E M_law_e_blend, ?_, spM_run (N := ["cell", "place", "low", "high", "last"]) (pm := [.vw, .vw]) (J := ⟨[], [], [.dead, .dead, .dead, .dead, .dead], .shared, []⟩) rfl (by decide) rfl rfl (by decide +kernel) (by rfl) h⟩
  exact (ss_cons (mo1 := [.vw, .vw, .vw, .vw, .vw]) (s_if (mo' := [.vw, .vw, .vw, .vw, .vw]) (by rfl) (be_p (bp_cmp op_ge sc_ge (ep_var (i := 0) rfl (.inl rfl) (by decide)) (ep_op op_pow sc_pow ep_int ep_int) rfl)) (ss_one (s_ret (by rfl) (by rfl) (ee_p (ep_var (i := 0) rfl (.inl rfl) (by decide))))) ss_nil) (ss_cons (mo1 := [.vw, .vw, .vw, .vw, .vw]) (s_asgV (i := 2) sc__law_e_blend.nd rfl (.inl rfl) (by rfl) (by decide) (by decide) (by decide) (by rfl) (ee_p (ep_op op_mod sc_mod (ep_op op_add sc_add (ep_op op_add sc_add (ep_op op_mul sc_mul (ep_op op_mod sc_mod (ep_var (i := 0) rfl (.inl rfl) (by decide)) ep_int) ep_int) (ep_op op_mul sc_mul (ep_var (i := 1) rfl (.inl rfl) (by decide)) ep_int)) ep_int) ep_int))) (ss_cons (mo1 := [.vw, .vw, .vw, .vw, .vw]) (s_asgV (i := 3) sc__law_e_blend.nd rfl (.inl rfl) (by rfl) (by decide) (by decide) (by decide) (by rfl) (ee_p (ep_op op_mod sc_mod (ep_op op_add sc_add (ep_op op_add sc_add (ep_op op_add sc_add (ep_op op_mul sc_mul (ep_var (i := 2) rfl (.inl rfl) (by decide)) (ep_var (i := 2) rfl (.inl rfl) (by decide))) (ep_op op_mul sc_mul ep_int (ep_var (i := 2) rfl (.inl rfl) (by decide)))) (ep_op op_mul sc_mul (ep_var (i := 1) rfl (.inl rfl) (by decide)) (ep_var (i := 1) rfl (.inl rfl) (by decide)))) ep_int) ep_int))) (ss_cons (mo1 := [.vw, .vw, .vw, .vw, .vw]) (s_asgV (i := 4) sc__law_e_blend.nd rfl (.inl rfl) (by rfl) (by decide) (by decide) (by decide) (by rfl) (ee_p (ep_op op_mod sc_mod (ep_op op_add sc_add (ep_op op_add sc_add (ep_op op_mul sc_mul (ep_var (i := 3) rfl (.inl rfl) (by decide)) (ep_var (i := 3) rfl (.inl rfl) (by decide))) (ep_op op_mul sc_mul ep_int (ep_var (i := 1) rfl (.inl rfl) (by decide)))) (ep_var (i := 2) rfl (.inl rfl) (by decide))) ep_int))) (ss_one (s_ret (by rfl) (by rfl) (ee_p (ep_op op_add sc_add (ep_op op_mul sc_mul (ep_var (i := 3) rfl (.inl rfl) (by decide)) ep_int) (ep_var (i := 4) rfl (.inl rfl) (by decide))))))))))
theorem ok__law_e_draw {P : Program} {w : World} {K : PySem.W.Frag} {mg : Str → Option Value} {base : Heap} {cm : Cm} {f : Addr} {fd : FuncData} {k : Nat} (F : Fun K "_law_e_draw" "_law_e_draw" s__law_e_draw f fd) (c__law_e_blend : Def P w K mg base CX0 k "_law_e_blend" ["cell", "place"] (SpM K cm (pmR [none, none]) 5 .shared M_law_e_blend)) (z_len : mg "len" = none) : FnOk P w K mg base CX0 (k + 1) f fd ["tray", "many"] (SpM K cm [.o1, .vw] 5 .imm M_law_e_draw) := by
  refine F.ok sc__law_e_draw (fun vs H Q E h => by obtain ⟨W, ts, _, hl, _⟩ := h; exact hl) (fun cdv A outer s H vs Q E hr h => ?_)
  have hu1 : (A.deeper (envOfC "_law_e_draw" (defScope s__law_e_draw) s.heap.objs.size f cdv)).units + 1 < cLine := by have := hr.un; omega
  have hu65 : (A.deeper (envOfC "_law_e_draw" (defScope s__law_e_draw) s.heap.objs.size f cdv)).units + 65 < cLine := by have := hr.un; omega
  refine ⟨tS K cm [.o1, .vw, .vw, .vw, .vw] [.o1, .vw, .vw, .vw, .vw] ⟨[], [], [.o1, .dead, .dead, .dead, .dead], .imm, [0]⟩ E M_law_e_draw, ?_, spM_run (N := ["tray", "many", "place", "cell", "drawn"]) (pm := [.o1, .vw]) (J := ⟨[], [], [.o1, .dead, .dead, .dead, .dead], .imm, [0]⟩) rfl (by decide) rfl rfl (by decide +kernel) (by rfl) h⟩
  exact (ss_cons (mo1 := [.o1, .vw, .vw, .vw, .vw]) (s_if (mo' := [.o1, .vw, .vw, .vw, .vw]) (by rfl) (be_p (bp_cmp (op_ltA hu1) sc_lt (ep_ixA hu1 (ep_var (i := 0) rfl (.inl rfl) (by decide)) ep_int) (ep_var (i := 1) rfl (.inl rfl) (by decide)) rfl)) (ss_cons (mo1 := [.o1, .vw, .vw, .vw, .vw]) (s_asgV (i := 2) sc__law_e_draw.nd rfl (.inl rfl) (by rfl) (by decide) (by decide) (by decide) (by rfl) (ee_own (j := 0) hu1 rfl (.inl rfl) (by rfl) (ee_p ep_int))) (ss_cons (mo1 := [.o1, .vw, .vw, .vw, .vw]) (s_asgV (i := 3) sc__law_e_draw.nd rfl (.inl rfl) (by rfl) (by decide) (by decide) (by decide) (by rfl) (ee_p (ep_op op_add sc_add (ep_op op_mul sc_mul ep_int (ep_var (i := 2) rfl (.inl rfl) (by decide))) ep_int))) (ss_cons (mo1 := [.o1, .vw, .vw, .vw, .vw]) (s_if (mo' := [.o1, .vw, .vw, .vw, .vw]) (by rfl) (be_p (bp_cmp (op_ltA hu1) sc_lt (ep_var (i := 2) rfl (.inl rfl) (by decide)) (ep_callB cr_len rfl z_len PySem.boot_len (aq_cons (ep_ixA hu1 (ep_var (i := 0) rfl (.inl rfl) (by decide)) ep_int) aq_nil) (cb_sc sc_len)) rfl)) (ss_one (s_asgV (i := 3) sc__law_e_draw.nd rfl (.inl rfl) (by rfl) (by decide) (by decide) (by decide) (by rfl) (ee_ixA hu1 (by rfl) (ee_own (j := 0) hu1 rfl (.inl rfl) (by rfl) (ee_p ep_int)) (ee_p (ep_var (i := 2) rfl (.inl rfl) (by decide)))))) (ss_one (s_if (mo' := [.o1, .vw, .vw, .vw, .vw]) (by rfl) (be_p (bp_cmp op_gt sc_gt (ep_callB cr_len rfl z_len PySem.boot_len (aq_cons (ep_ixA hu1 (ep_var (i := 0) rfl (.inl rfl) (by decide)) ep_int) aq_nil) (cb_sc sc_len)) ep_int rfl)) (ss_one (s_asgV (i := 3) sc__law_e_draw.nd rfl (.inl rfl) (by rfl) (by decide) (by decide) (by decide) (by rfl) (ee_p (ep_op op_add sc_add (ep_op op_mod sc_mod (ep_ixA hu1 (ep_ixA hu1 (ep_var (i := 0) rfl (.inl rfl) (by decide)) ep_int) (ep_op op_mod sc_mod (ep_op op_mul sc_mul (ep_var (i := 2) rfl (.inl rfl) (by decide)) ep_int) (ep_callB cr_len rfl z_len PySem.boot_len (aq_cons (ep_ixA hu1 (ep_var (i := 0) rfl (.inl rfl) (by decide)) ep_int) aq_nil) (cb_sc sc_len)))) ep_int) (ep_op op_mul sc_mul (ep_var (i := 2) rfl (.inl rfl) (by decide)) ep_int))))) ss_nil))) (ss_cons (mo1 := [.o1, .vw, .vw, .vw, .vw]) (s_sto (j := 0) rfl (.inl rfl) (by rfl) (by rfl) (by rfl) hu1 (ee_p (ep_op op_add sc_add (ep_var (i := 2) rfl (.inl rfl) (by decide)) ep_int)) (ee_p ep_int)) (ss_one (s_sto (j := 0) rfl (.inl rfl) (by rfl) (by rfl) (by rfl) hu1 (ee_callD (rs := [none, none]) (n := 5) (m := M_law_e_blend) (kd := .shared) c__law_e_blend hr rfl pass0 (by decide) (by decide) (ar_val (by rfl) (ee_p (ep_var (i := 3) rfl (.inl rfl) (by decide))) (ar_val (by rfl) (ee_p (ep_var (i := 2) rfl (.inl rfl) (by decide))) ar_nil))) (ee_p ep_int))))))) ss_nil) (ss_cons (mo1 := [.o1, .vw, .vw, .vw, .vw]) (s_asgV (i := 4) sc__law_e_draw.nd rfl (.inl rfl) (by rfl) (by decide) (by decide) (by decide) (by rfl) (ee_p (ep_op op_mod sc_mod (ep_ixA hu1 (ep_var (i := 0) rfl (.inl rfl) (by decide)) ep_int) (ep_var (i := 1) rfl (.inl rfl) (by decide))))) (ss_cons (mo1 := [.o1, .vw, .vw, .vw, .vw]) (s_sto (j := 0) rfl (.inl rfl) (by rfl) (by rfl) (by rfl) hu1 (ee_p (ep_op op_fdivW sc_div (ep_ixA hu1 (ep_var (i := 0) rfl (.inl rfl) (by decide)) ep_int) (ep_var (i := 1) rfl (.inl rfl) (by decide)))) (ee_p ep_int)) (ss_one (s_ret (by rfl) (by rfl) (ee_fl (ee_p (ep_var (i := 4) rfl (.inl rfl) (by decide)))))))))
theorem ok__law_e_ways {P : Program} {w : World} {K : PySem.W.Frag} {mg : Str → Option Value} {base : Heap} {cm : Cm} {f : Addr} {fd : FuncData} {k : Nat} (F : Fun K "_law_e_ways" "_law_e_ways" s__law_e_ways f fd) (c__law_e_draw : Def P w K mg base CX0 k "_law_e_draw" ["tray", "many"] (SpM K cm (pmR [some 0, none]) 5 .imm M_law_e_draw)) (z_range : mg "range" = none) (z_tuple : mg "tuple" = none) : FnOk P w K mg base CX0 (k + 1) f fd ["tray"] (SpM K cm [.o1] 8 .shared M_law_e_ways) := by
  refine F.ok sc__law_e_ways (fun vs H Q E h => by obtain ⟨W, ts, _, hl, _⟩ := h; exact hl) (fun cdv A outer s H vs Q E hr h => ?_)
  have hu1 : (A.deeper (envOfC "_law_e_ways" (defScope s__law_e_ways) s.heap.objs.size f cdv)).units + 1 < cLine := by have := hr.un; omega
  have hu65 : (A.deeper (envOfC "_law_e_ways" (defScope s__law_e_ways) s.heap.objs.size f cdv)).units + 65 < cLine := by have := hr.un; omega
  refine ⟨tS K cm [.o1, .vw, .vw, .vw, .vw, .vw, .vw, .vw] [.o1, .vw, .vw, .vw, .vw, .vw, .vw, .vw] ⟨[], [], [.o1, .dead, .dead, .dead, .dead, .dead, .dead, .dead], .shared, [0]⟩ E M_law_e_ways, ?_, spM_run (N := ["tray", "n", "shape", "places", "place", "up", "at", "ahead"]) (pm := [.o1]) (J := ⟨[], [], [.o1, .dead, .dead, .dead, .dead, .dead, .dead, .dead], .shared, [0]⟩) rfl (by decide) rfl rfl (by decide +kernel) (by rfl) h⟩
  exact (ss_cons (mo1 := [.o1, .vw, .vw, .vw, .vw, .vw, .vw, .vw]) (s_asgV (i := 1) sc__law_e_ways.nd rfl (.inl rfl) (by rfl) (by decide) (by decide) (by decide) (by rfl) (ee_int op_add sc_add fl_add (ee_p ep_int) (ee_callD (rs := [some 0, none]) (n := 5) (m := M_law_e_draw) (kd := .imm) c__law_e_draw hr rfl pass0 (by decide) (by decide) (ar_ref (j := 0) rfl (.inl rfl) (by rfl) (ar_val (by rfl) (ee_p ep_int) ar_nil))))) (ss_cons (mo1 := [.o1, .vw, .vw, .vw, .vw, .vw, .vw, .vw]) (s_asgV (i := 2) sc__law_e_ways.nd rfl (.inl rfl) (by rfl) (by decide) (by decide) (by decide) (by rfl) (ee_callD (rs := [some 0, none]) (n := 5) (m := M_law_e_draw) (kd := .imm) c__law_e_draw hr rfl pass0 (by decide) (by decide) (ar_ref (j := 0) rfl (.inl rfl) (by rfl) (ar_val (by rfl) (ee_p ep_int) ar_nil)))) (ss_cons (mo1 := [.o1, .vw, .vw, .o1, .vw, .vw, .vw, .vw]) (s_asgO (i := 3) sc__law_e_ways.nd rfl (.inl rfl) (by decide) (by decide) (by decide) (by rfl) (ee_p (ep_lst (by rfl) aq_nil))) (ss_cons (mo1 := [.o1, .vw, .vw, .o1, .vw, .vw, .vw, .vw]) (s_for (mo1 := [.o1, .vw, .vw, .o1, .vw, .vw, .vw, .vw]) (by rfl) PassesOwn.never rfl (im_range1 rfl z_range (ak_cons (by rfl) (ee_p (ep_var (i := 1) rfl (.inl rfl) (by decide))) ak_nil)) (g_name (i := 4) sc__law_e_ways.nd rfl (.inl rfl) (by decide) (by decide) (by decide)) (ss_one (s_expr (by rfl) (ee_mut (j := 3) PySem.F.plainAttrs_list PySem.F.slot_list_insert PySem.F.type_list_insert mt_insert lm_insert rfl (.inl rfl) (by rfl) (by rfl) (ak_cons (by rfl) (ee_callD (rs := [some 0, none]) (n := 5) (m := M_law_e_draw) (kd := .imm) c__law_e_draw hr rfl pass0 (by decide) (by decide) (ar_ref (j := 0) rfl (.inl rfl) (by rfl) (ar_val (by rfl) (ee_p (ep_op op_add sc_add (ep_var (i := 4) rfl (.inl rfl) (by decide)) ep_int)) ar_nil))) (ak_cons (by rfl) (ee_p (ep_var (i := 4) rfl (.inl rfl) (by decide))) ak_nil)))))) (ss_cons (mo1 := [.o1, .vw, .vw, .o1, .dead, .o1, .vw, .vw]) (sm_pre (mo1 := [.o1, .vw, .vw, .o1, .dead, .vw, .vw, .vw]) (s_setLcO (i := 5) (own := [("place", 4)]) (mo1 := [.o1, .vw, .vw, .o1, .vw, .vw, .vw, .vw]) (fi := [0, 1, 2, 3, 5, 6, 7]) rfl sc__law_e_ways.nd rfl rfl (by decide) (by decide) (by decide) (by rfl) (by rfl) (by decide) (by decide) (by rfl) (im_range1 rfl z_range (ak_cons (by rfl) (ee_p (ep_var (i := 1) rfl (.inl rfl) (by decide))) ak_nil)) (blkOk_by (N := N__law_e_ways) (sc := defScope s__law_e_ways) (by decide +kernel)) (fun _ _ _ _ _ => (g_name (i := 4) sc__law_e_ways.nd rfl (.inl rfl) (by decide) (by decide) (by decide))) (fun _ _ _ _ _ => pts_yes) (fun _ _ _ _ _ => (ee_p ep_non)) (sw_true rfl rfl rfl (by decide +kernel))) (by rfl)) (ss_cons (mo1 := [.o1, .vw, .vw, .o1, .dead, .o1, .vw, .vw]) (s_for (mo1 := [.o1, .vw, .vw, .o1, .dead, .o1, .vw, .vw]) (by rfl) PassesOwn.never rfl (im_range2 rfl z_range (ak_cons (by rfl) (ee_p ep_int) (ak_cons (by rfl) (ee_p (ep_var (i := 1) rfl (.inl rfl) (by decide))) ak_nil))) (g_name (i := 6) sc__law_e_ways.nd rfl (.inl rfl) (by decide) (by decide) (by decide)) (ss_cons (mo1 := [.o1, .vw, .vw, .o1, .dead, .o1, .vw, .vw]) (s_asgV (i := 7) sc__law_e_ways.nd rfl (.inl rfl) (by rfl) (by decide) (by decide) (by decide) (by rfl) (ee_ixA hu1 (by rfl) (ee_lst (by rfl) (ak_cons (by rfl) (ee_callD (rs := [some 0, none]) (n := 5) (m := M_law_e_draw) (kd := .imm) c__law_e_draw hr rfl pass0 (by decide) (by decide) (ar_ref (j := 0) rfl (.inl rfl) (by rfl) (ar_val (by rfl) (ee_p (ep_var (i := 6) rfl (.inl rfl) (by decide))) ar_nil))) (ak_cons (by rfl) (ee_p (ep_op op_sub sc_sub (ep_var (i := 6) rfl (.inl rfl) (by decide)) ep_int)) (ak_cons (by rfl) (ee_p ep_int) (ak_cons (by rfl) (ee_callD (rs := [some 0, none]) (n := 5) (m := M_law_e_draw) (kd := .imm) c__law_e_draw hr rfl pass0 (by decide) (by decide) (ar_ref (j := 0) rfl (.inl rfl) (by rfl) (ar_val (by rfl) (ee_p (ep_var (i := 6) rfl (.inl rfl) (by decide))) ar_nil))) ak_nil))))) (ee_p (ep_var (i := 2) rfl (.inl rfl) (by decide))))) (ss_one (s_sto (j := 5) rfl (.inl rfl) (by rfl) (by rfl) (by rfl) hu1 (ee_own (j := 3) hu1 rfl (.inl rfl) (by rfl) (ee_p (ep_var (i := 7) rfl (.inl rfl) (by decide)))) (ee_own (j := 3) hu1 rfl (.inl rfl) (by rfl) (ee_p (ep_var (i := 6) rfl (.inl rfl) (by decide)))))))) (ss_one (sm_pre (mo1 := [.o1, .vw, .vw, .o1, .dead, .vw, .vw, .vw]) (s_ret (by rfl) (by rfl) (ee_p (ep_callT call_tuple_frz rfl z_tuple PyProof.Rows.boot_tuple (aq_cons (ep_var (i := 5) rfl (.inl rfl) (by decide)) aq_nil) (cb_sb sb_tupleF)))) (by rfl)))))))))
theorem ok__law_e_ring {P : Program} {w : World} {K : PySem.W.Frag} {mg : Str → Option Value} {base : Heap} {cm : Cm} {f : Addr} {fd : FuncData} {k : Nat} (F : Fun K "_law_e_ring" "_law_e_ring" s__law_e_ring f fd) (z_list : mg "list" = none) (z_tuple : mg "tuple" = none) : FnOk P w K mg base CX0 (k + 1) f fd ["up", "place"] (SpM K cm [.vw, .vw] 4 .shared M_law_e_ring) := by
  refine F.ok sc__law_e_ring (fun vs H Q E h => by obtain ⟨W, ts, _, hl, _⟩ := h; exact hl) (fun cdv A outer s H vs Q E hr h => ?_)
  have hu1 : (A.deeper (envOfC "_law_e_ring" (defScope s__law_e_ring) s.heap.objs.size f cdv)).units + 1 < cLine := by have := hr.un; omega
  have hu65 : (A.deeper (envOfC "_law_e_ring" (defScope s__law_e_ring) s.heap.objs.size f cdv)).units + 65 < cLine := by have := hr.un; omega
  refine ⟨tS K cm [.vw, .vw, .vw, .vw] [.vw, .vw, .vw, .vw] ⟨[], [], [.dead, .dead, .dead, .dead], .shared, []⟩ E M_law_e_ring, ?_, spM_run (N := ["up", "place", "found", "one"]) (pm := [.vw, .vw]) (J := ⟨[], [], [.dead, .dead, .dead, .dead], .shared, []⟩) rfl (by decide) rfl rfl (by decide +kernel) (by rfl) h⟩
  exact (ss_cons (mo1 := [.vw, .vw, .o1, .vw]) (s_asgO (i := 2) sc__law_e_ring.nd rfl (.inl rfl) (by decide) (by decide) (by decide) (by rfl) (ee_p (ep_callT (Tm.cr_list rfl) rfl z_list PyProof.Rows.boot_list (aq_cons (ep_var (i := 0) rfl (.inl rfl) (by decide)) aq_nil) (cb_nw (by rfl) nw_list)))) (ss_cons (mo1 := [.vw, .vw, .o1, .vw]) (s_asgV (i := 3) sc__law_e_ring.nd rfl (.inl rfl) (by rfl) (by decide) (by decide) (by decide) (by rfl) (ee_p (ep_var (i := 1) rfl (.inl rfl) (by decide)))) (ss_cons (mo1 := [.vw, .vw, .o1, .vw]) (s_while 1000000 (by rfl) PassesOwn.never (be_p (bp_cmp op_isNotA sc_isNot (ep_ixA hu1 (ep_var (i := 2) rfl (.inl rfl) (by decide)) (ep_var (i := 3) rfl (.inl rfl) (by decide))) ep_non rfl)) (ss_one (s_asgV (i := 3) sc__law_e_ring.nd rfl (.inl rfl) (by rfl) (by decide) (by decide) (by decide) (by rfl) (ee_own (j := 2) hu1 rfl (.inl rfl) (by rfl) (ee_p (ep_var (i := 3) rfl (.inl rfl) (by decide))))))) (ss_cons (mo1 := [.vw, .vw, .o1, .vw]) (s_sto (j := 2) rfl (.inl rfl) (by rfl) (by rfl) (by rfl) hu1 (ee_p (ep_var (i := 1) rfl (.inl rfl) (by decide))) (ee_p (ep_var (i := 3) rfl (.inl rfl) (by decide)))) (ss_one (sm_pre (mo1 := [.vw, .vw, .vw, .vw]) (s_ret (by rfl) (by rfl) (ee_p (ep_callT call_tuple_of rfl z_tuple PyProof.Rows.boot_tuple (aq_cons (ep_var (i := 2) rfl (.inl rfl) (by decide)) aq_nil) (cb_sb sb_tuple)))) (by rfl)))))))
theorem ok__law_e_with_root {P : Program} {w : World} {K : PySem.W.Frag} {mg : Str → Option Value} {base : Heap} {cm : Cm} {f : Addr} {fd : FuncData} {k : Nat} (F : Fun K "_law_e_with_root" "_law_e_with_root" s__law_e_with_root f fd) : FnOk P w K mg base CX0 (k + 1) f fd ["found", "place"] (SpM K cm [.vw, .vw] 2 .shared M_law_e_with_root) := by
  refine F.ok sc__law_e_with_root (fun vs H Q E h => by obtain ⟨W, ts, _, hl, _⟩ := h; exact hl) (fun cdv A outer s H vs Q E hr h => ?_)
  have hu1 : (A.deeper (envOfC "_law_e_with_root" (defScope s__law_e_with_root) s.heap.objs.size f cdv)).units + 1 < cLine := by have := hr.un; omega
  have hu65 : (A.deeper (envOfC "_law_e_with_root" (defScope s__law_e_with_root) s.heap.objs.size f cdv)).units + 65 < cLine := by have := hr.un; omega
  refine ⟨tS K cm [.vw, .vw] [.vw, .vw] ⟨[], [], [.dead, .dead], .shared, []⟩ E M_law_e_with_root, ?_, spM_run (N := ["found", "place"]) (pm := [.vw, .vw]) (J := ⟨[], [], [.dead, .dead], .shared, []⟩) rfl (by decide) rfl rfl (by decide +kernel) (by rfl) h⟩
  exact (ss_one (s_ret (by rfl) (by rfl) (ee_catT (by rfl) (by rfl) (ee_catT (by rfl) (by rfl) (ee_sl (by rfl) (ee_p (ep_var (i := 0) rfl (.inl rfl) (by decide))) p_none (p_some (ee_p (ep_var (i := 1) rfl (.inl rfl) (by decide))))) (ee_p (ep_tup (aq_cons ep_non aq_nil)))) (ee_sl (by rfl) (ee_p (ep_var (i := 0) rfl (.inl rfl) (by decide))) (p_some (ee_p (ep_op op_add sc_add (ep_var (i := 1) rfl (.inl rfl) (by decide)) ep_int))) p_none))))
theorem ok__law_e_spoilt {P : Program} {w : World} {K : PySem.W.Frag} {mg : Str → Option Value} {base : Heap} {cm : Cm} {f : Addr} {fd : FuncData} {k : Nat} (F : Fun K "_law_e_spoilt" "_law_e_spoilt" s__law_e_spoilt f fd) (c__law_e_draw : Def P w K mg base CX0 k "_law_e_draw" ["tray", "many"] (SpM K cm (pmR [some 0, none]) 5 .imm M_law_e_draw)) (c__law_e_ring : Def P w K mg base CX0 k "_law_e_ring" ["up", "place"] (SpM K cm (pmR [none, none]) 4 .shared M_law_e_ring)) (c__law_e_with_root : Def P w K mg base CX0 k "_law_e_with_root" ["found", "place"] (SpM K cm (pmR [none, none]) 2 .shared M_law_e_with_root)) (z_len : mg "len" = none) (z_list : mg "list" = none) (z_range : mg "range" = none) : FnOk P w K mg base CX0 (k + 1) f fd ["tray", "up"] (SpM K cm [.o1, .vw] 9 .fr1 M_law_e_spoilt) := by
  refine F.ok sc__law_e_spoilt (fun vs H Q E h => by obtain ⟨W, ts, _, hl, _⟩ := h; exact hl) (fun cdv A outer s H vs Q E hr h => ?_)
  have hu1 : (A.deeper (envOfC "_law_e_spoilt" (defScope s__law_e_spoilt) s.heap.objs.size f cdv)).units + 1 < cLine := by have := hr.un; omega
  have hu65 : (A.deeper (envOfC "_law_e_spoilt" (defScope s__law_e_spoilt) s.heap.objs.size f cdv)).units + 65 < cLine := by have := hr.un; omega
  refine ⟨tS K cm [.o1, .vw, .vw, .vw, .vw, .vw, .vw, .vw, .vw] [.o1, .vw, .vw, .vw, .vw, .vw, .vw, .vw, .vw] ⟨[], [], [.o1, .dead, .dead, .dead, .dead, .dead, .dead, .dead, .dead], .fr1, [0]⟩ E M_law_e_spoilt, ?_, spM_run (N := ["tray", "up", "n", "at", "far", "found", "bad", "others", "k"]) (pm := [.o1, .vw]) (J := ⟨[], [], [.o1, .dead, .dead, .dead, .dead, .dead, .dead, .dead, .dead], .fr1, [0]⟩) rfl (by decide) rfl rfl (by decide +kernel) (by rfl) h⟩
  exact (ss_cons (mo1 := [.o1, .vw, .vw, .vw, .vw, .vw, .vw, .vw, .vw]) (s_asgV (i := 2) sc__law_e_spoilt.nd rfl (.inl rfl) (by rfl) (by decide) (by decide) (by decide) (by rfl) (ee_p (ep_callB cr_len rfl z_len PySem.boot_len (aq_cons (ep_var (i := 1) rfl (.inr (.inl rfl)) (by decide)) aq_nil) (cb_sc sc_len)))) (ss_cons (mo1 := [.o1, .vw, .vw, .vw, .vw, .vw, .vw, .vw, .vw]) (s_asgV (i := 3) sc__law_e_spoilt.nd rfl (.inl rfl) (by rfl) (by decide) (by decide) (by decide) (by rfl) (ee_callD (rs := [some 0, none]) (n := 5) (m := M_law_e_draw) (kd := .imm) c__law_e_draw hr rfl pass0 (by decide) (by decide) (ar_ref (j := 0) rfl (.inl rfl) (by rfl) (ar_val (by rfl) (ee_p (ep_var (i := 2) rfl (.inl rfl) (by decide))) ar_nil)))) (ss_cons (mo1 := [.o1, .vw, .vw, .vw, .vw, .vw, .vw, .vw, .vw]) (s_asgV (i := 4) sc__law_e_spoilt.nd rfl (.inl rfl) (by rfl) (by decide) (by decide) (by decide) (by rfl) (ee_callD (rs := [some 0, none]) (n := 5) (m := M_law_e_draw) (kd := .imm) c__law_e_draw hr rfl pass0 (by decide) (by decide) (ar_ref (j := 0) rfl (.inl rfl) (by rfl) (ar_val (by rfl) (ee_p (ep_op op_pow sc_pow ep_int ep_int)) ar_nil)))) (ss_cons (mo1 := [.o1, .vw, .vw, .vw, .vw, .o1, .vw, .vw, .vw]) (s_asgO (i := 5) sc__law_e_spoilt.nd rfl (.inl rfl) (by decide) (by decide) (by decide) (by rfl) (ee_p (ep_lst (by rfl) aq_nil))) (ss_cons (mo1 := [.o1, .vw, .vw, .vw, .vw, .o1, .vw, .vw, .vw]) (s_for (mo1 := [.o1, .vw, .vw, .vw, .vw, .o1, .vw, .vw, .vw]) (by rfl) PassesOwn.never rfl (im_seq (by rfl) (ee_p (ep_lst (by rfl) (aq_cons (ep_var (i := 3) rfl (.inl rfl) (by decide)) (aq_cons (ep_un un_neg sc_neg ep_int) (aq_cons (ep_var (i := 2) rfl (.inl rfl) (by decide)) (aq_cons (ep_op op_add sc_add (ep_var (i := 2) rfl (.inl rfl) (by decide)) (ep_var (i := 4) rfl (.inl rfl) (by decide))) (aq_cons (ep_op op_sub sc_sub (ep_un un_neg sc_neg ep_int) (ep_var (i := 4) rfl (.inl rfl) (by decide))) (aq_cons ep_bl (aq_cons ep_str (aq_cons (ep_tup (aq_cons ep_int aq_nil)) aq_nil))))))))))) (g_name (i := 6) sc__law_e_spoilt.nd rfl (.inl rfl) (by decide) (by decide) (by decide)) (ss_one (s_expr (by rfl) (ee_mut (j := 5) PySem.F.plainAttrs_list PySem.F.slot_list_append PySem.F.type_list_append mt_append lm_append rfl (.inl rfl) (by rfl) (by rfl) (ak_cons (by rfl) (ee_catT (by rfl) (by rfl) (ee_catT (by rfl) (by rfl) (ee_sl (by rfl) (ee_p (ep_var (i := 1) rfl (.inr (.inl rfl)) (by decide))) p_none (p_some (ee_p (ep_var (i := 3) rfl (.inl rfl) (by decide))))) (ee_p (ep_tup (aq_cons (ep_var (i := 6) rfl (.inl rfl) (by decide)) aq_nil)))) (ee_sl (by rfl) (ee_p (ep_var (i := 1) rfl (.inr (.inl rfl)) (by decide))) (p_some (ee_p (ep_op op_add sc_add (ep_var (i := 3) rfl (.inl rfl) (by decide)) ep_int))) p_none)) ak_nil))))) (ss_cons (mo1 := [.o1, .vw, .vw, .vw, .vw, .o1, .vw, .vw, .vw]) (sm_pre (mo1 := [.o1, .vw, .vw, .vw, .vw, .vw, .vw, .vw, .vw]) (s_asgO (i := 5) sc__law_e_spoilt.nd rfl (.inl rfl) (by decide) (by decide) (by decide) (by rfl) (ee_catL (by rfl) (by rfl) (ee_p (ep_var (i := 5) rfl (.inl rfl) (by decide))) (ee_lst (by rfl) (ak_cons (by rfl) (ee_p (ep_callT (Tm.cr_list rfl) rfl z_list PyProof.Rows.boot_list (aq_cons (ep_var (i := 1) rfl (.inr (.inl rfl)) (by decide)) aq_nil) (cb_nw (by rfl) nw_list))) (ak_cons (by rfl) (ee_catT (by rfl) (by rfl) (ee_p (ep_var (i := 1) rfl (.inr (.inl rfl)) (by decide))) (ee_p (ep_tup (aq_cons ep_non aq_nil)))) (ak_cons (by rfl) (ee_catT (by rfl) (by rfl) (ee_p (ep_tup (aq_cons ep_non aq_nil))) (ee_p (ep_var (i := 1) rfl (.inr (.inl rfl)) (by decide)))) (ak_cons (by rfl) (ee_callD (rs := [none, none]) (n := 4) (m := M_law_e_ring) (kd := .shared) c__law_e_ring hr rfl pass0 (by decide) (by decide) (ar_val (by rfl) (ee_p (ep_var (i := 1) rfl (.inr (.inl rfl)) (by decide))) (ar_val (by rfl) (ee_p (ep_var (i := 3) rfl (.inl rfl) (by decide))) ar_nil))) (ak_cons (by rfl) (ee_catT (by rfl) (by rfl) (ee_p (ep_var (i := 1) rfl (.inr (.inl rfl)) (by decide))) (ee_p (ep_tup (aq_cons (ep_var (i := 2) rfl (.inl rfl) (by decide)) aq_nil)))) ak_nil)))))))) (by rfl)) (ss_cons (mo1 := [.o1, .vw, .vw, .vw, .vw, .o1, .vw, .vw, .vw]) (sm_pre (mo1 := [.o1, .vw, .vw, .vw, .vw, .vw, .vw, .vw, .vw]) (s_asgO (i := 5) sc__law_e_spoilt.nd rfl (.inl rfl) (by decide) (by decide) (by decide) (by rfl) (ee_catL (by rfl) (by rfl) (ee_p (ep_var (i := 5) rfl (.inl rfl) (by decide))) (ee_lst (by rfl) (ak_cons (by rfl) (ee_catT (by rfl) (by rfl) (ee_p (ep_tup (aq_cons ep_non aq_nil))) (ee_mulT (by rfl) (ee_p (ep_tup (aq_cons ep_int aq_nil))) (ee_p ep_int))) (ak_cons (by rfl) (ee_p ep_non) ak_nil))))) (by rfl)) (ss_cons (mo1 := [.o1, .vw, .vw, .vw, .vw, .o1, .vw, .vw, .dead]) (sm_pre (mo1 := [.o1, .vw, .vw, .vw, .vw, .o1, .vw, .vw, .dead]) (s_setLcV (i := 7) (own := [("k", 8)]) (mo1 := [.o1, .vw, .vw, .vw, .vw, .o1, .vw, .vw, .vw]) (fi := [0, 1, 2, 3, 4, 5, 6, 7]) rfl sc__law_e_spoilt.nd rfl rfl (by decide) (by decide) (by decide) (by rfl) (by rfl) (by decide) (by decide) (by rfl) (im_range1 rfl z_range (ak_cons (by rfl) (ee_p (ep_var (i := 2) rfl (.inl rfl) (by decide))) ak_nil)) (blkOk_by (N := N__law_e_spoilt) (sc := defScope s__law_e_spoilt) (by decide +kernel)) (fun _ _ _ _ _ => (g_name (i := 8) sc__law_e_spoilt.nd rfl (.inl rfl) (by decide) (by decide) (by decide))) (fun _ _ _ _ _ => (pts_one (be_p (bp_cmp op_isNotA sc_isNot (ep_ixA hu1 (ep_var (i := 1) rfl (.inr (.inl rfl)) (by decide)) (ep_var (i := 8) rfl (.inl rfl) (by decide))) ep_non rfl)))) (fun _ _ _ _ _ => (ee_p (ep_var (i := 8) rfl (.inl rfl) (by decide)))) (sw_true rfl rfl rfl (by decide +kernel))) (by rfl)) (ss_cons (mo1 := [.o1, .vw, .vw, .vw, .vw, .o1, .vw, .vw, .dead]) (s_if (mo' := [.o1, .vw, .vw, .vw, .vw, .o1, .vw, .vw, .dead]) (by rfl) (be_p (bp_cmp (op_neA hu65) sc_neA (ep_var (i := 7) rfl (.inl rfl) (by decide)) (ep_lst (by rfl) aq_nil) rfl)) (ss_one (s_expr (by rfl) (ee_mut (j := 5) PySem.F.plainAttrs_list PySem.F.slot_list_append PySem.F.type_list_append mt_append lm_append rfl (.inl rfl) (by rfl) (by rfl) (ak_cons (by rfl) (ee_callD (rs := [none, none]) (n := 2) (m := M_law_e_with_root) (kd := .shared) c__law_e_with_root hr rfl pass0 (by decide) (by decide) (ar_val (by rfl) (ee_p (ep_var (i := 1) rfl (.inr (.inl rfl)) (by decide))) (ar_val (by rfl) (ee_ixA hu1 (by rfl) (ee_p (ep_var (i := 7) rfl (.inl rfl) (by decide))) (ee_callD (rs := [some 0, none]) (n := 5) (m := M_law_e_draw) (kd := .imm) c__law_e_draw hr rfl pass0 (by decide) (by decide) (ar_ref (j := 0) rfl (.inl rfl) (by rfl) (ar_val (by rfl) (ee_p (ep_callB cr_len rfl z_len PySem.boot_len (aq_cons (ep_var (i := 7) rfl (.inl rfl) (by decide)) aq_nil) (cb_sc sc_len))) ar_nil)))) ar_nil))) ak_nil)))) ss_nil) (ss_cons (mo1 := [.o1, .vw, .vw, .vw, .vw, .o1, .vw, .vw, .dead]) (s_if (mo' := [.o1, .vw, .vw, .vw, .vw, .o1, .vw, .vw, .dead]) (by rfl) (be_p (bp_cmp op_gt sc_gt (ep_callB cr_len rfl z_len PySem.boot_len (aq_cons (ep_var (i := 7) rfl (.inl rfl) (by decide)) aq_nil) (cb_sc sc_len)) ep_int rfl)) (ss_one (s_expr (by rfl) (ee_mut (j := 5) PySem.F.plainAttrs_list PySem.F.slot_list_append PySem.F.type_list_append mt_append lm_append rfl (.inl rfl) (by rfl) (by rfl) (ak_cons (by rfl) (ee_callD (rs := [none, none]) (n := 2) (m := M_law_e_with_root) (kd := .shared) c__law_e_with_root hr rfl pass0 (by decide) (by decide) (ar_val (by rfl) (ee_callD (rs := [none, none]) (n := 4) (m := M_law_e_ring) (kd := .shared) c__law_e_ring hr rfl pass0 (by decide) (by decide) (ar_val (by rfl) (ee_p (ep_var (i := 1) rfl (.inr (.inl rfl)) (by decide))) (ar_val (by rfl) (ee_ixA hu1 (by rfl) (ee_p (ep_var (i := 7) rfl (.inl rfl) (by decide))) (ee_p ep_int)) ar_nil))) (ar_val (by rfl) (ee_ixA hu1 (by rfl) (ee_p (ep_var (i := 7) rfl (.inl rfl) (by decide))) (ee_p ep_int)) ar_nil))) ak_nil)))) ss_nil) (ss_one (s_move (i := 5) rfl (.inl rfl) (by rfl) (by rfl) (by rfl) (by rfl)))))))))))))
theorem ok_way_up {P : Program} {w : World} {K : PySem.W.Frag} {mg : Str → Option Value} {base : Heap} {cm : Cm} {f : Addr} {fd : FuncData} {k : Nat} (F : Fun K "way_up" "way_up" s_way_up f fd) (z_len : mg "len" = none) : FnOk P w K mg base CX0 (k + 1) f fd ["up", "place"] (SpM K cm [.vw, .vw] 3 .shared Mway_up) := by
  refine F.ok sc_way_up (fun vs H Q E h => by obtain ⟨W, ts, _, hl, _⟩ := h; exact hl) (fun cdv A outer s H vs Q E hr h => ?_)
  have hu1 : (A.deeper (envOfC "way_up" (defScope s_way_up) s.heap.objs.size f cdv)).units + 1 < cLine := by have := hr.un; omega
  have hu65 : (A.deeper (envOfC "way_up" (defScope s_way_up) s.heap.objs.size f cdv)).units + 65 < cLine := by have := hr.un; omega
  refine ⟨tS K cm [.vw, .vw, .vw] [.vw, .vw, .vw] ⟨[], [], [.dead, .dead, .dead], .shared, []⟩ E Mway_up, ?_, spM_run (N := ["up", "place", "found"]) (pm := [.vw, .vw]) (J := ⟨[], [], [.dead, .dead, .dead], .shared, []⟩) rfl (by decide) rfl rfl (by decide +kernel) (by rfl) h⟩
  exact (ss_cons (mo1 := [.vw, .vw, .o1]) (s_asgO (i := 2) sc_way_up.nd rfl (.inl rfl) (by decide) (by decide) (by decide) (by rfl) (ee_p (ep_lst (by rfl) (aq_cons (ep_var (i := 1) rfl (.inl rfl) (by decide)) aq_nil)))) (ss_cons (mo1 := [.vw, .vw, .o1]) (s_while 1000000 (by rfl) PassesOwn.never (be_p (bp_cmp op_isNotA sc_isNot (ep_ixA hu1 (ep_var (i := 0) rfl (.inl rfl) (by decide)) (ep_ixA hu1 (ep_var (i := 2) rfl (.inl rfl) (by decide)) (ep_un un_neg sc_neg ep_int))) ep_non rfl)) (ss_cons (mo1 := [.vw, .vw, .o1]) (s_if (mo' := [.vw, .vw, .o1]) (by rfl) (be_p (bp_cmp op_gt sc_gt (ep_callB cr_len rfl z_len PySem.boot_len (aq_cons (ep_var (i := 2) rfl (.inl rfl) (by decide)) aq_nil) (cb_sc sc_len)) (ep_callB cr_len rfl z_len PySem.boot_len (aq_cons (ep_var (i := 0) rfl (.inl rfl) (by decide)) aq_nil) (cb_sc sc_len)) rfl)) (ss_one (s_ret (by rfl) (by rfl) (ee_p ep_non))) ss_nil) (ss_one (s_expr (by rfl) (ee_mut (j := 2) PySem.F.plainAttrs_list PySem.F.slot_list_append PySem.F.type_list_append mt_append lm_append rfl (.inl rfl) (by rfl) (by rfl) (ak_cons (by rfl) (ee_ixA hu1 (by rfl) (ee_p (ep_var (i := 0) rfl (.inl rfl) (by decide))) (ee_own (j := 2) hu1 rfl (.inl rfl) (by rfl) (ee_p (ep_un un_neg sc_neg ep_int)))) ak_nil)))))) (ss_one (sm_pre (mo1 := [.vw, .vw, .vw]) (s_ret (by rfl) (by rfl) (ee_p (ep_var (i := 2) rfl (.inl rfl) (by decide)))) (by rfl)))))
theorem ok_is_count {P : Program} {w : World} {K : PySem.W.Frag} {mg : Str → Option Value} {base : Heap} {cm : Cm} {f : Addr} {fd : FuncData} {k : Nat} (F : Fun K "is_count" "is_count" s_is_count f fd) (z_int : mg "int" = none) (z_isinstance : mg "isinstance" = none) (z_bool : mg "bool" = none) : FnOk P w K mg base CX0 (k + 1) f fd ["thing"] (SpM K cm [.vw] 1 .imm Mis_count) := by
  refine F.ok sc_is_count (fun vs H Q E h => by obtain ⟨W, ts, _, hl, _⟩ := h; exact hl) (fun cdv A outer s H vs Q E hr h => ?_)
  have hu1 : (A.deeper (envOfC "is_count" (defScope s_is_count) s.heap.objs.size f cdv)).units + 1 < cLine := by have := hr.un; omega
  have hu65 : (A.deeper (envOfC "is_count" (defScope s_is_count) s.heap.objs.size f cdv)).units + 65 < cLine := by have := hr.un; omega
  refine ⟨tS K cm [.vw] [.vw] ⟨[], [], [.dead], .imm, []⟩ E Mis_count, ?_, spM_run (N := ["thing"]) (pm := [.vw]) (J := ⟨[], [], [.dead], .imm, []⟩) rfl (by decide) rfl rfl (by decide +kernel) (by rfl) h⟩
  exact (ss_one (s_ret (by rfl) (by rfl) (ee_p (ep_and (by rfl) (ep_callB call_isi rfl z_isinstance PyProof.Rows.boot_isinstance (aq_cons (ep_var (i := 0) rfl (.inl rfl) (by decide)) (aq_cons (ep_ty (T := "int") rfl z_int PyProof.Rows.boot_int) aq_nil)) (cb_sc sc_isi)) (ep_and (by rfl) (ep_not (ep_callB call_isi rfl z_isinstance PyProof.Rows.boot_isinstance (aq_cons (ep_var (i := 0) rfl (.inl rfl) (by decide)) (aq_cons (ep_ty (T := "bool") rfl z_bool PyProof.Rows.boot_bool) aq_nil)) (cb_sc sc_isi))) (ep_one (ep_cmp op_ge sc_ge (ep_var (i := 0) rfl (.inl rfl) (by decide)) ep_int rfl)))))))
theorem ok_are_ways {P : Program} {w : World} {K : PySem.W.Frag} {mg : Str → Option Value} {base : Heap} {cm : Cm} {f : Addr} {fd : FuncData} {k : Nat} (F : Fun K "are_ways" "are_ways" s_are_ways f fd) (c_is_count : Def P w K mg base CX0 k "is_count" ["thing"] (SpM K cm (pmR [none]) 1 .imm Mis_count)) (c_way_up : Def P w K mg base CX0 k "way_up" ["up", "place"] (SpM K cm (pmR [none, none]) 3 .shared Mway_up)) (z_tuple : mg "tuple" = none) (z_isinstance : mg "isinstance" = none) (z_len : mg "len" = none) (g_MOST_WAYS : ∃ t, mg "MOST_WAYS" = some (.int 8 t)) (z_all : mg "all" = none) (z_range : mg "range" = none) : FnOk P w K mg base CX0 (k + 1) f fd ["thing"] (SpM K cm [.vw] 3 .imm Mare_ways) := by
  refine F.ok sc_are_ways (fun vs H Q E h => by obtain ⟨W, ts, _, hl, _⟩ := h; exact hl) (fun cdv A outer s H vs Q E hr h => ?_)
  have hu1 : (A.deeper (envOfC "are_ways" (defScope s_are_ways) s.heap.objs.size f cdv)).units + 1 < cLine := by have := hr.un; omega
  have hu65 : (A.deeper (envOfC "are_ways" (defScope s_are_ways) s.heap.objs.size f cdv)).units + 65 < cLine := by have := hr.un; omega
  refine ⟨tS K cm [.vw, .vw, .vw] [.vw, .vw, .vw] ⟨[], [], [.dead, .dead, .dead], .imm, []⟩ E Mare_ways, ?_, spM_run (N := ["thing", "ahead", "place"]) (pm := [.vw]) (J := ⟨[], [], [.dead, .dead, .dead], .imm, []⟩) rfl (by decide) rfl rfl (by decide +kernel) (by rfl) h⟩
  exact (ss_cons (mo1 := [.vw, .vw, .vw]) (s_if (mo' := [.vw, .vw, .vw]) (by rfl) (be_p (bw_p (bp_or (bp_not (bp_tru (ep_callB call_isi rfl z_isinstance PyProof.Rows.boot_isinstance (aq_cons (ep_var (i := 0) rfl (.inr (.inl rfl)) (by decide)) (aq_cons (ep_ty (T := "tuple") rfl z_tuple PyProof.Rows.boot_tuple) aq_nil)) (cb_sc sc_isi)))) (bp_or1 (bp_not (bp_chain op_le op_le sc_le sc_le ep_int (ep_callB cr_len rfl z_len PySem.boot_len (aq_cons (ep_var (i := 0) rfl (.inr (.inl rfl)) (by decide)) aq_nil) (cb_sc sc_len)) (ep_gint rfl g_MOST_WAYS))))))) (ss_one (s_ret (by rfl) (by rfl) (ee_p ep_bl))) ss_nil) (ss_cons (mo1 := [.vw, .dead, .vw]) (sm_pre (mo1 := [.vw, .dead, .vw]) (s_if (mo' := [.vw, .dead, .vw]) (by rfl) (be_not (be_tru (ee_callB (cr_all rfl) rfl z_all PyProof.Rows.boot_all (ak_cons (by rfl) (ee_lc (own := [("ahead", 1)]) (mo1 := [.vw, .vw, .vw]) (fi := [0, 2]) rfl sc_are_ways.nd (by rfl) (by decide) (by decide) (by rfl) (im_seq (by rfl) (ee_p (ep_var (i := 0) rfl (.inr (.inl rfl)) (by decide)))) (blkOk_by (N := N_are_ways) (sc := defScope s_are_ways) (by decide +kernel)) (fun _ _ _ _ _ => (g_name (i := 1) sc_are_ways.nd rfl (.inl rfl) (by decide) (by decide) (by decide))) (fun _ _ _ _ _ => pts_yes) (fun _ _ _ _ _ => (ee_or (by rfl) (ee_p (ep_cmp op_isA sc_is (ep_var (i := 1) rfl (.inl rfl) (by decide)) ep_non rfl)) (ee_one (ee_and (by rfl) (ee_callD (rs := [none]) (n := 1) (m := Mis_count) (kd := .imm) c_is_count hr rfl pass0 (by decide) (by decide) (ar_val (by rfl) (ee_p (ep_var (i := 1) rfl (.inl rfl) (by decide))) ar_nil)) (ee_one (ee_p (ep_cmp (op_ltA hu1) sc_lt (ep_var (i := 1) rfl (.inl rfl) (by decide)) (ep_callB cr_len rfl z_len PySem.boot_len (aq_cons (ep_var (i := 0) rfl (.inr (.inl rfl)) (by decide)) aq_nil) (cb_sc sc_len)) rfl)))))))) ak_nil) (cbe_sc sc_all)))) (ss_one (s_ret (by rfl) (by rfl) (ee_p ep_bl))) ss_nil) (by rfl)) (ss_cons (mo1 := [.vw, .dead, .vw]) (s_if (mo' := [.vw, .dead, .vw]) (by rfl) (be_cmp (op_neA hu65) sc_neA (.inl (by rfl)) (ee_callB cr_len rfl z_len PySem.boot_len (ak_cons (by rfl) (ee_lc (own := [("ahead", 1)]) (mo1 := [.vw, .vw, .vw]) (fi := [0, 2]) rfl sc_are_ways.nd (by rfl) (by decide) (by decide) (by rfl) (im_seq (by rfl) (ee_p (ep_var (i := 0) rfl (.inr (.inl rfl)) (by decide)))) (blkOk_by (N := N_are_ways) (sc := defScope s_are_ways) (by decide +kernel)) (fun _ _ _ _ _ => (g_name (i := 1) sc_are_ways.nd rfl (.inl rfl) (by decide) (by decide) (by decide))) (fun _ _ _ _ _ => (pts_one (be_p (bp_cmp op_isA sc_is (ep_var (i := 1) rfl (.inl rfl) (by decide)) ep_non rfl)))) (fun _ _ _ _ _ => (ee_p (ep_var (i := 1) rfl (.inl rfl) (by decide))))) ak_nil) (cbe_sc sc_len)) (ee_p ep_int) rfl) (ss_one (s_ret (by rfl) (by rfl) (ee_p ep_bl))) ss_nil) (ss_one (sm_pre (mo1 := [.vw, .dead, .dead]) (s_ret (by rfl) (by rfl) (ee_callB (cr_all rfl) rfl z_all PyProof.Rows.boot_all (ak_cons (by rfl) (ee_lc (own := [("place", 2)]) (mo1 := [.vw, .dead, .vw]) (fi := [0, 1]) rfl sc_are_ways.nd (by rfl) (by decide) (by decide) (by rfl) (im_range1 rfl z_range (ak_cons (by rfl) (ee_p (ep_callB cr_len rfl z_len PySem.boot_len (aq_cons (ep_var (i := 0) rfl (.inr (.inl rfl)) (by decide)) aq_nil) (cb_sc sc_len))) ak_nil)) (blkOk_by (N := N_are_ways) (sc := defScope s_are_ways) (by decide +kernel)) (fun _ _ _ _ _ => (g_name (i := 2) sc_are_ways.nd rfl (.inl rfl) (by decide) (by decide) (by decide))) (fun _ _ _ _ _ => pts_yes) (fun _ _ _ _ _ => (ee_scmp op_isNotA sc_isNot fl_not (by rfl) (ee_callD (rs := [none, none]) (n := 3) (m := Mway_up) (kd := .shared) c_way_up hr rfl pass0 (by decide) (by decide) (ar_val (by rfl) (ee_p (ep_var (i := 0) rfl (.inr (.inl rfl)) (by decide))) (ar_val (by rfl) (ee_p (ep_var (i := 2) rfl (.inl rfl) (by decide))) ar_nil))) (ee_p ep_non) rfl))) ak_nil) (cbe_sc sc_all))) (by rfl))))))
theorem ok__law_e_good {P : Program} {w : World} {K : PySem.W.Frag} {mg : Str → Option Value} {base : Heap} {cm : Cm} {f : Addr} {fd : FuncData} {k : Nat} (F : Fun K "_law_e_good" "_law_e_good" s__law_e_good f fd) (z_tuple : mg "tuple" = none) (z_isinstance : mg "isinstance" = none) (z_len : mg "len" = none) (z_int : mg "int" = none) (z_bool : mg "bool" = none) (z_range : mg "range" = none) : FnOk P w K mg base CX0 (k + 1) f fd ["thing"] (SpM K cm [.vw] 5 .imm M_law_e_good) := by
  refine F.ok sc__law_e_good (fun vs H Q E h => by obtain ⟨W, ts, _, hl, _⟩ := h; exact hl) (fun cdv A outer s H vs Q E hr h => ?_)
  have hu1 : (A.deeper (envOfC "_law_e_good" (defScope s__law_e_good) s.heap.objs.size f cdv)).units + 1 < cLine := by have := hr.un; omega
  have hu65 : (A.deeper (envOfC "_law_e_good" (defScope s__law_e_good) s.heap.objs.size f cdv)).units + 65 < cLine := by have := hr.un; omega
  refine ⟨tS K cm [.vw, .vw, .vw, .vw, .vw] [.vw, .vw, .vw, .vw, .vw] ⟨[], [], [.dead, .dead, .dead, .dead, .dead], .imm, []⟩ E M_law_e_good, ?_, spM_run (N := ["thing", "ahead", "place", "one", "turn"]) (pm := [.vw]) (J := ⟨[], [], [.dead, .dead, .dead, .dead, .dead], .imm, []⟩) rfl (by decide) rfl rfl (by decide +kernel) (by rfl) h⟩
  exact (ss_cons (mo1 := [.vw, .dead, .vw, .vw, .vw]) (sm_pre (mo1 := [.vw, .dead, .vw, .vw, .vw]) (s_if (mo' := [.vw, .dead, .vw, .vw, .vw]) (by rfl) (bw_e (be_or (be_p (bp_not (bp_tru (ep_callB call_isi rfl z_isinstance PyProof.Rows.boot_isinstance (aq_cons (ep_var (i := 0) rfl (.inl rfl) (by decide)) (aq_cons (ep_ty (T := "tuple") rfl z_tuple PyProof.Rows.boot_tuple) aq_nil)) (cb_sc sc_isi))))) (be_or (be_p (bp_cmp op_gt sc_gt (ep_callB cr_len rfl z_len PySem.boot_len (aq_cons (ep_var (i := 0) rfl (.inl rfl) (by decide)) aq_nil) (cb_sc sc_len)) ep_int rfl)) (be_or1 (be_cmp (op_neA hu65) sc_neA (.inl (by rfl)) (ee_callB cr_len rfl z_len PySem.boot_len (ak_cons (by rfl) (ee_lc (own := [("ahead", 1)]) (mo1 := [.vw, .vw, .vw, .vw, .vw]) (fi := [0, 2, 3, 4]) rfl sc__law_e_good.nd (by rfl) (by decide) (by decide) (by rfl) (im_seq (by rfl) (ee_p (ep_var (i := 0) rfl (.inl rfl) (by decide)))) (blkOk_by (N := N__law_e_good) (sc := defScope s__law_e_good) (by decide +kernel)) (fun _ _ _ _ _ => (g_name (i := 1) sc__law_e_good.nd rfl (.inl rfl) (by decide) (by decide) (by decide))) (fun _ _ _ _ _ => (pts_one (be_p (bp_cmp op_isA sc_is (ep_var (i := 1) rfl (.inl rfl) (by decide)) ep_non rfl)))) (fun _ _ _ _ _ => (ee_p (ep_var (i := 1) rfl (.inl rfl) (by decide))))) ak_nil) (cbe_sc sc_len)) (ee_p ep_int) rfl))))) (ss_one (s_ret (by rfl) (by rfl) (ee_p ep_bl))) ss_nil) (by rfl)) (ss_cons (mo1 := [.vw, .dead, .vw, .vw, .vw]) (s_for (mo1 := [.vw, .vw, .vw, .vw, .vw]) (by rfl) PassesOwn.never rfl (im_seq (by rfl) (ee_p (ep_var (i := 0) rfl (.inl rfl) (by decide)))) (g_name (i := 1) sc__law_e_good.nd rfl (.inl rfl) (by decide) (by decide) (by decide)) (sb_wk (mo1 := [.vw, .vw, .vw, .vw, .vw]) (ss_cons (mo1 := [.vw, .vw, .vw, .vw, .vw]) (s_if (mo' := [.vw, .vw, .vw, .vw, .vw]) (by rfl) (be_p (bw_p (bp_and (bp_cmp op_isNotA sc_isNot (ep_var (i := 1) rfl (.inl rfl) (by decide)) ep_non rfl) (bp_and1 (bw_p (bp_or (bp_not (bp_tru (ep_callB call_isi rfl z_isinstance PyProof.Rows.boot_isinstance (aq_cons (ep_var (i := 1) rfl (.inl rfl) (by decide)) (aq_cons (ep_ty (T := "int") rfl z_int PyProof.Rows.boot_int) aq_nil)) (cb_sc sc_isi)))) (bp_or1 (bp_tru (ep_callB call_isi rfl z_isinstance PyProof.Rows.boot_isinstance (aq_cons (ep_var (i := 1) rfl (.inl rfl) (by decide)) (aq_cons (ep_ty (T := "bool") rfl z_bool PyProof.Rows.boot_bool) aq_nil)) (cb_sc sc_isi)))))))))) (ss_one (s_ret (by rfl) (by rfl) (ee_p ep_bl))) ss_nil) (ss_one (s_if (mo' := [.vw, .vw, .vw, .vw, .vw]) (by rfl) (be_p (bw_p (bp_and (bp_cmp op_isNotA sc_isNot (ep_var (i := 1) rfl (.inl rfl) (by decide)) ep_non rfl) (bp_and1 (bp_not (bp_chain op_le (op_ltA hu1) sc_le sc_lt ep_int (ep_var (i := 1) rfl (.inl rfl) (by decide)) (ep_callB cr_len rfl z_len PySem.boot_len (aq_cons (ep_var (i := 0) rfl (.inl rfl) (by decide)) aq_nil) (cb_sc sc_len)))))))) (ss_one (s_ret (by rfl) (by rfl) (ee_p ep_bl))) ss_nil))) (by rfl))) (ss_cons (mo1 := [.vw, .dead, .vw, .vw, .vw]) (s_for (mo1 := [.vw, .dead, .vw, .vw, .vw]) (by rfl) PassesOwn.never rfl (im_range1 rfl z_range (ak_cons (by rfl) (ee_p (ep_callB cr_len rfl z_len PySem.boot_len (aq_cons (ep_var (i := 0) rfl (.inl rfl) (by decide)) aq_nil) (cb_sc sc_len))) ak_nil)) (g_name (i := 2) sc__law_e_good.nd rfl (.inl rfl) (by decide) (by decide) (by decide)) (ss_cons (mo1 := [.vw, .dead, .vw, .vw, .vw]) (s_asgV (i := 3) sc__law_e_good.nd rfl (.inl rfl) (by rfl) (by decide) (by decide) (by decide) (by rfl) (ee_p (ep_var (i := 2) rfl (.inl rfl) (by decide)))) (ss_cons (mo1 := [.vw, .dead, .vw, .vw, .vw]) (s_for (mo1 := [.vw, .dead, .vw, .vw, .vw]) (by rfl) PassesOwn.never rfl (im_range1 rfl z_range (ak_cons (by rfl) (ee_p (ep_callB cr_len rfl z_len PySem.boot_len (aq_cons (ep_var (i := 0) rfl (.inl rfl) (by decide)) aq_nil) (cb_sc sc_len))) ak_nil)) (g_name (i := 4) sc__law_e_good.nd rfl (.inl rfl) (by decide) (by decide) (by decide)) (ss_one (s_if (mo' := [.vw, .dead, .vw, .vw, .vw]) (by rfl) (be_p (bp_cmp op_isNotA sc_isNot (ep_ixA hu1 (ep_var (i := 0) rfl (.inl rfl) (by decide)) (ep_var (i := 3) rfl (.inl rfl) (by decide))) ep_non rfl)) (ss_one (s_asgV (i := 3) sc__law_e_good.nd rfl (.inl rfl) (by rfl) (by decide) (by decide) (by decide) (by rfl) (ee_ixA hu1 (by rfl) (ee_p (ep_var (i := 0) rfl (.inl rfl) (by decide))) (ee_p (ep_var (i := 3) rfl (.inl rfl) (by decide)))))) ss_nil))) (ss_one (s_if (mo' := [.vw, .dead, .vw, .vw, .vw]) (by rfl) (be_p (bp_cmp op_isNotA sc_isNot (ep_ixA hu1 (ep_var (i := 0) rfl (.inl rfl) (by decide)) (ep_var (i := 3) rfl (.inl rfl) (by decide))) ep_non rfl)) (ss_one (s_ret (by rfl) (by rfl) (ee_p ep_bl))) ss_nil))))) (ss_one (s_ret (by rfl) (by rfl) (ee_p ep_bl))))))
theorem ok_Hearing_hearers {P : Program} {w : World} {K : PySem.W.Frag} {mg : Str → Option Value} {base : Heap} {cm : Cm} {f : Addr} {fd : FuncData} {k : Nat} (F : Fun K "hearers" "Hearing.hearers" s_Hearing_hearers f fd) (na_Hearing_up : ∀ Ca, cm "Hearing" = some Ca → Cls K Ca ∧ NoAttr K Ca "up") (z_len : mg "len" = none) (z_range : mg "range" = none) (na_Hearing_hears : ∀ Ca, cm "Hearing" = some Ca → Cls K Ca ∧ NoAttr K Ca "hears") (z_tuple : mg "tuple" = none) : FnOk P w K mg base CX0 (k + 1) f fd ["self"] (SpM K cm [.vw] 2 .shared MHearing_hearers) := by
  refine F.ok sc_Hearing_hearers (fun vs H Q E h => by obtain ⟨W, ts, _, hl, _⟩ := h; exact hl) (fun cdv A outer s H vs Q E hr h => ?_)
  have hu1 : (A.deeper (envOfC "Hearing.hearers" (defScope s_Hearing_hearers) s.heap.objs.size f cdv)).units + 1 < cLine := by have := hr.un; omega
  have hu65 : (A.deeper (envOfC "Hearing.hearers" (defScope s_Hearing_hearers) s.heap.objs.size f cdv)).units + 65 < cLine := by have := hr.un; omega
  refine ⟨tS K cm [.vw, .vw] [.vw, .vw] ⟨[], [], [.dead, .dead], .shared, []⟩ E MHearing_hearers, ?_, spM_run (N := ["self", "place"]) (pm := [.vw]) (J := ⟨[], [], [.dead, .dead], .shared, []⟩) rfl (by decide) rfl rfl (by decide +kernel) (by rfl) h⟩
  exact (ss_one (sm_pre (mo1 := [.vw, .dead]) (s_ret (by rfl) (by rfl) (ee_callT call_tuple_of rfl z_tuple PyProof.Rows.boot_tuple (ak_cons (by rfl) (ee_lc (own := [("place", 1)]) (mo1 := [.vw, .vw]) (fi := [0]) rfl sc_Hearing_hearers.nd (by rfl) (by decide) (by decide) (by rfl) (im_range1 rfl z_range (ak_cons (by rfl) (ee_callB cr_len rfl z_len PySem.boot_len (ak_cons (by rfl) (ee_fldE (C := "Hearing") na_Hearing_up (by rfl) (ee_p (ep_var (i := 0) rfl (.inr (.inl rfl)) (by decide)))) ak_nil) (cbe_sc sc_len)) ak_nil)) (blkOk_by (N := N_Hearing_hearers) (sc := defScope s_Hearing_hearers) (by decide +kernel)) (fun _ _ _ _ _ => (g_name (i := 1) sc_Hearing_hearers.nd rfl (.inl rfl) (by decide) (by decide) (by decide))) (fun _ _ _ _ _ => (pts_one (be_tru (ee_ixA hu1 (by rfl) (ee_fldE (C := "Hearing") na_Hearing_hears (by rfl) (ee_p (ep_var (i := 0) rfl (.inr (.inl rfl)) (by decide)))) (ee_p (ep_var (i := 1) rfl (.inl rfl) (by decide))))))) (fun _ _ _ _ _ => (ee_p (ep_var (i := 1) rfl (.inl rfl) (by decide))))) ak_nil) (cbe_sb sb_tuple))) (by rfl)))
theorem ok_Hearing___init__ {P : Program} {w : World} {K : PySem.W.Frag} {mg : Str → Option Value} {base : Heap} {cm : Cm} {f : Addr} {fd : FuncData} {k : Nat} (F : Fun K "__init__" "Hearing.__init__" s_Hearing___init__ f fd) (c_are_ways : Def P w K mg base CX0 k "are_ways" ["thing"] (SpM K cm (pmR [none]) 3 .imm Mare_ways)) (na_Hearing_up : ∀ Ca, cm "Hearing" = some Ca → Cls K Ca ∧ NoAttr K Ca "up") (na_Hearing_root : ∀ Ca, cm "Hearing" = some Ca → Cls K Ca ∧ NoAttr K Ca "root") (na_Hearing_hears : ∀ Ca, cm "Hearing" = some Ca → Cls K Ca ∧ NoAttr K Ca "hears") (na_Hearing_counts : ∀ Ca, cm "Hearing" = some Ca → Cls K Ca ∧ NoAttr K Ca "counts") (na_Hearing_served : ∀ Ca, cm "Hearing" = some Ca → Cls K Ca ∧ NoAttr K Ca "served") (na_Hearing_row_up : ∀ Ca, cm "Hearing" = some Ca → Cls K Ca ∧ NoAttr K Ca "row_up") (na_Hearing_row_down : ∀ Ca, cm "Hearing" = some Ca → Cls K Ca ∧ NoAttr K Ca "row_down") (na_Hearing_told : ∀ Ca, cm "Hearing" = some Ca → Cls K Ca ∧ NoAttr K Ca "told") (na_Hearing_following : ∀ Ca, cm "Hearing" = some Ca → Cls K Ca ∧ NoAttr K Ca "following") (na_Hearing_put_up : ∀ Ca, cm "Hearing" = some Ca → Cls K Ca ∧ NoAttr K Ca "put_up") (na_Hearing_put_down : ∀ Ca, cm "Hearing" = some Ca → Cls K Ca ∧ NoAttr K Ca "put_down") : FnOk P w K mg base CX0 (k + 1) f fd ["self", "up"] (SpM K cm [.o1, .vw] 3 .imm MHearing___init__) := by
  refine F.ok sc_Hearing___init__ (fun vs H Q E h => by obtain ⟨W, ts, _, hl, _⟩ := h; exact hl) (fun cdv A outer s H vs Q E hr h => ?_)
  have hu1 : (A.deeper (envOfC "Hearing.__init__" (defScope s_Hearing___init__) s.heap.objs.size f cdv)).units + 1 < cLine := by have := hr.un; omega
  have hu65 : (A.deeper (envOfC "Hearing.__init__" (defScope s_Hearing___init__) s.heap.objs.size f cdv)).units + 65 < cLine := by have := hr.un; omega
  refine ⟨tS K cm [.o1, .vw, .vw] [.o1, .vw, .dead] ⟨[], [], [.o1, .dead, .dead], .imm, [0]⟩ E MHearing___init__, ?_, spM_run (N := ["self", "up", "place"]) (pm := [.o1, .vw]) (J := ⟨[], [], [.o1, .dead, .dead], .imm, [0]⟩) rfl (by decide) rfl rfl (by decide +kernel) (by rfl) h⟩
  exact (ss_cons (mo1 := [.o1, .vw, .vw]) (s_if (mo' := [.o1, .vw, .vw]) (by rfl) (be_not (be_tru (ee_callD (rs := [none]) (n := 3) (m := Mare_ways) (kd := .imm) c_are_ways hr rfl pass0 (by decide) (by decide) (ar_val (by rfl) (ee_p (ep_wk (ep_var (i := 1) rfl (.inl rfl) (by decide)))) ar_nil)))) (ss_one s_off) ss_nil) (ss_cons (mo1 := [.o1, .vw, .vw]) (s_attr (C := "Hearing") (j := 0) na_Hearing_up rfl (.inl rfl) (by rfl) (by rfl) (by rfl) (ee_p (ep_wk (ep_var (i := 1) rfl (.inl rfl) (by decide))))) (ss_cons (mo1 := [.o1, .vw, .vw]) (s_attr (C := "Hearing") (j := 0) na_Hearing_root rfl (.inl rfl) (by rfl) (by rfl) (by rfl) (ee_tix hu65 (by rfl) (ee_p (ep_var (i := 1) rfl (.inl rfl) (by decide))) (ee_p ep_non))) (ss_cons (mo1 := [.o1, .vw, .dead]) (sm_pre (mo1 := [.o1, .vw, .dead]) (s_attr (C := "Hearing") (j := 0) na_Hearing_hears rfl (.inl rfl) (by rfl) (by rfl) (by rfl) (ee_lc (own := [("place", 2)]) (mo1 := [.o1, .vw, .vw]) (fi := [0, 1]) rfl sc_Hearing___init__.nd (by rfl) (by decide) (by decide) (by rfl) (im_seq (by rfl) (ee_p (ep_wk (ep_var (i := 1) rfl (.inl rfl) (by decide))))) (blkOk_by (N := N_Hearing___init__) (sc := defScope s_Hearing___init__) (by decide +kernel)) (fun _ _ _ _ _ => (g_name (i := 2) sc_Hearing___init__.nd rfl (.inl rfl) (by decide) (by decide) (by decide))) (fun _ _ _ _ _ => pts_yes) (fun _ _ _ _ _ => (ee_p ep_bl)))) (by rfl)) (ss_cons (mo1 := [.o1, .vw, .dead]) (s_attr (C := "Hearing") (j := 0) na_Hearing_counts rfl (.inl rfl) (by rfl) (by rfl) (by rfl) (ee_lc (own := [("place", 2)]) (mo1 := [.o1, .vw, .vw]) (fi := [0, 1]) rfl sc_Hearing___init__.nd (by rfl) (by decide) (by decide) (by rfl) (im_seq (by rfl) (ee_p (ep_wk (ep_var (i := 1) rfl (.inl rfl) (by decide))))) (blkOk_by (N := N_Hearing___init__) (sc := defScope s_Hearing___init__) (by decide +kernel)) (fun _ _ _ _ _ => (g_name (i := 2) sc_Hearing___init__.nd rfl (.inl rfl) (by decide) (by decide) (by decide))) (fun _ _ _ _ _ => pts_yes) (fun _ _ _ _ _ => (ee_p ep_int)))) (ss_cons (mo1 := [.o1, .vw, .dead]) (s_attr (C := "Hearing") (j := 0) na_Hearing_served rfl (.inl rfl) (by rfl) (by rfl) (by rfl) (ee_lc (own := [("place", 2)]) (mo1 := [.o1, .vw, .vw]) (fi := [0, 1]) rfl sc_Hearing___init__.nd (by rfl) (by decide) (by decide) (by rfl) (im_seq (by rfl) (ee_p (ep_wk (ep_var (i := 1) rfl (.inl rfl) (by decide))))) (blkOk_by (N := N_Hearing___init__) (sc := defScope s_Hearing___init__) (by decide +kernel)) (fun _ _ _ _ _ => (g_name (i := 2) sc_Hearing___init__.nd rfl (.inl rfl) (by decide) (by decide) (by decide))) (fun _ _ _ _ _ => pts_yes) (fun _ _ _ _ _ => (ee_p ep_dK)))) (ss_cons (mo1 := [.o1, .vw, .dead]) (s_attr (C := "Hearing") (j := 0) na_Hearing_row_up rfl (.inl rfl) (by rfl) (by rfl) (by rfl) (ee_lc (own := [("place", 2)]) (mo1 := [.o1, .vw, .vw]) (fi := [0, 1]) rfl sc_Hearing___init__.nd (by rfl) (by decide) (by decide) (by rfl) (im_seq (by rfl) (ee_p (ep_wk (ep_var (i := 1) rfl (.inl rfl) (by decide))))) (blkOk_by (N := N_Hearing___init__) (sc := defScope s_Hearing___init__) (by decide +kernel)) (fun _ _ _ _ _ => (g_name (i := 2) sc_Hearing___init__.nd rfl (.inl rfl) (by decide) (by decide) (by decide))) (fun _ _ _ _ _ => pts_yes) (fun _ _ _ _ _ => (ee_p (ep_lst (by rfl) aq_nil))))) (ss_cons (mo1 := [.o1, .vw, .dead]) (s_attr (C := "Hearing") (j := 0) na_Hearing_row_down rfl (.inl rfl) (by rfl) (by rfl) (by rfl) (ee_lc (own := [("place", 2)]) (mo1 := [.o1, .vw, .vw]) (fi := [0, 1]) rfl sc_Hearing___init__.nd (by rfl) (by decide) (by decide) (by rfl) (im_seq (by rfl) (ee_p (ep_wk (ep_var (i := 1) rfl (.inl rfl) (by decide))))) (blkOk_by (N := N_Hearing___init__) (sc := defScope s_Hearing___init__) (by decide +kernel)) (fun _ _ _ _ _ => (g_name (i := 2) sc_Hearing___init__.nd rfl (.inl rfl) (by decide) (by decide) (by decide))) (fun _ _ _ _ _ => pts_yes) (fun _ _ _ _ _ => (ee_p (ep_lst (by rfl) aq_nil))))) (ss_cons (mo1 := [.o1, .vw, .dead]) (s_attr (C := "Hearing") (j := 0) na_Hearing_told rfl (.inl rfl) (by rfl) (by rfl) (by rfl) (ee_lc (own := [("place", 2)]) (mo1 := [.o1, .vw, .vw]) (fi := [0, 1]) rfl sc_Hearing___init__.nd (by rfl) (by decide) (by decide) (by rfl) (im_seq (by rfl) (ee_p (ep_wk (ep_var (i := 1) rfl (.inl rfl) (by decide))))) (blkOk_by (N := N_Hearing___init__) (sc := defScope s_Hearing___init__) (by decide +kernel)) (fun _ _ _ _ _ => (g_name (i := 2) sc_Hearing___init__.nd rfl (.inl rfl) (by decide) (by decide) (by decide))) (fun _ _ _ _ _ => pts_yes) (fun _ _ _ _ _ => (ee_p (ep_lst (by rfl) aq_nil))))) (ss_cons (mo1 := [.o1, .vw, .dead]) (s_attr (C := "Hearing") (j := 0) na_Hearing_following rfl (.inl rfl) (by rfl) (by rfl) (by rfl) (ee_p ep_int)) (ss_cons (mo1 := [.o1, .vw, .dead]) (s_attr (C := "Hearing") (j := 0) na_Hearing_put_up rfl (.inl rfl) (by rfl) (by rfl) (by rfl) (ee_p ep_int)) (ss_one (s_attr (C := "Hearing") (j := 0) na_Hearing_put_down rfl (.inl rfl) (by rfl) (by rfl) (by rfl) (ee_p ep_int))))))))))))))
theorem ok_law {P : Program} {w : World} {K : PySem.W.Frag} {mg : Str → Option Value} {base : Heap} {cm : Cm} {f : Addr} {fd : FuncData} {k : Nat} {Ca_Hearing : Addr} {k_iHearing : Nat} (F : Fun K "law" "law" s_law f fd) (c__law_e_ways : Def P w K mg base CX0 k "_law_e_ways" ["tray"] (SpM K cm (pmR [some 0]) 8 .shared M_law_e_ways)) (c_are_ways : Def P w K mg base CX0 k "are_ways" ["thing"] (SpM K cm (pmR [none]) 3 .imm Mare_ways)) (c__law_e_spoilt : Def P w K mg base CX0 k "_law_e_spoilt" ["tray", "up"] (SpM K cm (pmR [some 0, none]) 9 .fr1 M_law_e_spoilt)) (c__law_e_good : Def P w K mg base CX0 k "_law_e_good" ["thing"] (SpM K cm (pmR [none]) 5 .imm M_law_e_good)) (k_Hearing : KDef P w K mg base CX0 k_iHearing "Hearing" Ca_Hearing ["self", "up"] (SpM K cm (pmR [some 0, none]) 3 .imm MHearing___init__)) (hk_Hearing : k_iHearing + 1 ≤ k) (m_Hearing_hearers : MDef P w K mg base CX0 k Ca_Hearing "hearers" ["self"] (SpM K cm (pmR [none]) 2 .shared MHearing_hearers)) (z_range : mg "range" = none) (z_len : mg "len" = none) (cm_Hearing : cm "Hearing" = some Ca_Hearing) (z_bool : mg "bool" = none) (z_isinstance : mg "isinstance" = none) : FnOk P w K mg base CX0 (k + 1) f fd ["script"] (SpM K cm [.vw] 7 .imm Mlaw) := by
  refine F.ok sc_law (fun vs H Q E h => by obtain ⟨W, ts, _, hl, _⟩ := h; exact hl) (fun cdv A outer s H vs Q E hr h => ?_)
  have hu1 : (A.deeper (envOfC "law" (defScope s_law) s.heap.objs.size f cdv)).units + 1 < cLine := by have := hr.un; omega
  have hu65 : (A.deeper (envOfC "law" (defScope s_law) s.heap.objs.size f cdv)).units + 65 < cLine := by have := hr.un; omega
  refine ⟨tS K cm [.vw, .vw, .vw, .vw, .vw, .vw, .vw] [.vw, .vw, .vw, .vw, .vw, .vw, .vw] ⟨[], [], [.dead, .dead, .dead, .dead, .dead, .dead, .dead], .imm, []⟩ E Mlaw, ?_, spM_run (N := ["script", "tray", "k", "up", "turn", "thing", "found"]) (pm := [.vw]) (J := ⟨[], [], [.dead, .dead, .dead, .dead, .dead, .dead, .dead], .imm, []⟩) rfl (by decide) rfl rfl (by decide +kernel) (by rfl) h⟩
  exact (ss_cons (mo1 := [.vw, .o1, .vw, .vw, .vw, .vw, .vw]) (s_asgO (i := 1) sc_law.nd rfl (.inl rfl) (by decide) (by decide) (by decide) (by rfl) (ee_p (ep_lst (by rfl) (aq_cons (ep_var (i := 0) rfl (.inl rfl) (by decide)) (aq_cons ep_int (aq_cons ep_int aq_nil)))))) (ss_cons (mo1 := [.vw, .o1, .vw, .vw, .vw, .vw, .vw]) (s_for (mo1 := [.vw, .o1, .vw, .vw, .vw, .vw, .vw]) (by rfl) PassesOwn.never rfl (im_range1 rfl z_range (ak_cons (by rfl) (ee_p ep_int) ak_nil)) (g_name (i := 2) sc_law.nd rfl (.inl rfl) (by decide) (by decide) (by decide)) (ss_cons (mo1 := [.vw, .o1, .vw, .vw, .vw, .vw, .vw]) (s_if (mo' := [.vw, .o1, .vw, .vw, .vw, .vw, .vw]) (by rfl) (be_p (bw_p (bp_and (bp_cmp op_gt sc_gt (ep_var (i := 2) rfl (.inl rfl) (by decide)) ep_int rfl) (bp_and1 (bp_cmp op_ge sc_ge (ep_ixA hu1 (ep_var (i := 1) rfl (.inl rfl) (by decide)) ep_int) (ep_callB cr_len rfl z_len PySem.boot_len (aq_cons (ep_var (i := 0) rfl (.inl rfl) (by decide)) aq_nil) (cb_sc sc_len)) rfl))))) (ss_one (s_brk (by rfl))) ss_nil) (ss_cons (mo1 := [.vw, .o1, .vw, .vw, .vw, .vw, .vw]) (s_asgV (i := 3) sc_law.nd rfl (.inl rfl) (by rfl) (by decide) (by decide) (by decide) (by rfl) (ee_callD (rs := [some 1]) (n := 8) (m := M_law_e_ways) (kd := .shared) c__law_e_ways hr rfl pass0 (by decide) (by decide) (ar_ref (j := 1) rfl (.inl rfl) (by rfl) ar_nil))) (ss_cons (mo1 := [.vw, .o1, .vw, .vw, .vw, .vw, .vw]) (s_for (mo1 := [.vw, .o1, .vw, .vw, .vw, .vw, .vw]) (by rfl) PassesOwn.never rfl (im_range1 rfl z_range (ak_cons (by rfl) (ee_p ep_int) ak_nil)) (g_name (i := 4) sc_law.nd rfl (.inl rfl) (by decide) (by decide) (by decide)) (ss_one (s_if (mo' := [.vw, .o1, .vw, .vw, .vw, .vw, .vw]) (by rfl) (be_cmp op_isNotA sc_isNot (.inl (by rfl)) (ee_callD (rs := [none]) (n := 3) (m := Mare_ways) (kd := .imm) c_are_ways hr rfl pass0 (by decide) (by decide) (ar_val (by rfl) (ee_p (ep_wk (ep_var (i := 3) rfl (.inl rfl) (by decide)))) ar_nil)) (ee_p ep_bl) rfl) (ss_one (s_ret (by rfl) (by rfl) (ee_p ep_bl))) ss_nil))) (ss_cons (mo1 := [.vw, .o1, .vw, .vw, .vw, .vw, .vw]) (s_if (mo' := [.vw, .o1, .vw, .vw, .vw, .vw, .vw]) (by rfl) (be_cmp (op_neA hu65) sc_neA (.inl (by rfl)) (ee_meth0 (C := "Hearing") (n := 2) (m := MHearing_hearers) (kd := .shared) cm_Hearing m_Hearing_hearers hr pass0 (by rfl) (ee_mk (C := "Hearing") (n := 3) (m := MHearing___init__) (rs := [none]) cm_Hearing (by decide) (by ((intro i j e; rcases i with _ | _ | _ | _ | _ | _ | i <;> simp at e))) k_Hearing (hr.mono hk_Hearing) rfl pass0 (ar_val (by rfl) (ee_p (ep_var (i := 3) rfl (.inl rfl) (by decide))) ar_nil))) (ee_p (ep_tup aq_nil)) rfl) (ss_one (s_ret (by rfl) (by rfl) (ee_p ep_bl))) ss_nil) (ss_one (s_for (mo1 := [.vw, .o1, .vw, .vw, .vw, .vw, .vw]) (by rfl) PassesOwn.never rfl (im_seq (by rfl) (ee_callD (rs := [some 1, none]) (n := 9) (m := M_law_e_spoilt) (kd := .fr1) c__law_e_spoilt hr rfl pass0 (by decide) (by decide) (ar_ref (j := 1) rfl (.inl rfl) (by rfl) (ar_val (by rfl) (ee_p (ep_wk (ep_var (i := 3) rfl (.inl rfl) (by decide)))) ar_nil)))) (g_name (i := 5) sc_law.nd rfl (.inl rfl) (by decide) (by decide) (by decide)) (ss_cons (mo1 := [.vw, .o1, .vw, .vw, .vw, .vw, .vw]) (s_asgV (i := 6) sc_law.nd rfl (.inl rfl) (by rfl) (by decide) (by decide) (by decide) (by rfl) (ee_callD (rs := [none]) (n := 3) (m := Mare_ways) (kd := .imm) c_are_ways hr rfl pass0 (by decide) (by decide) (ar_val (by rfl) (ee_p (ep_var (i := 5) rfl (.inl rfl) (by decide))) ar_nil))) (ss_one (s_if (mo' := [.vw, .o1, .vw, .vw, .vw, .vw, .vw]) (by rfl) (bw_e (be_or (be_p (bp_not (bp_tru (ep_callB call_isi rfl z_isinstance PyProof.Rows.boot_isinstance (aq_cons (ep_var (i := 6) rfl (.inl rfl) (by decide)) (aq_cons (ep_ty (T := "bool") rfl z_bool PyProof.Rows.boot_bool) aq_nil)) (cb_sc sc_isi))))) (be_or1 (be_cmp (op_neA hu65) sc_neA (.inl (by rfl)) (ee_p (ep_var (i := 6) rfl (.inl rfl) (by decide))) (ee_callD (rs := [none]) (n := 5) (m := M_law_e_good) (kd := .imm) c__law_e_good hr rfl pass0 (by decide) (by decide) (ar_val (by rfl) (ee_p (ep_var (i := 5) rfl (.inl rfl) (by decide))) ar_nil)) rfl)))) (ss_one (s_ret (by rfl) (by rfl) (ee_p ep_bl))) ss_nil)))))))))) (ss_cons (mo1 := [.vw, .o1, .vw, .vw, .vw, .vw, .vw]) (s_for (mo1 := [.vw, .o1, .vw, .vw, .vw, .vw, .vw]) (by rfl) PassesOwn.never rfl (im_seq (by rfl) (ee_p (ep_lst (by rfl) (aq_cons (ep_tup aq_nil) (aq_cons (ep_lst (by rfl) aq_nil) (aq_cons ep_dK (aq_cons ep_non (aq_cons ep_bl (aq_cons ep_int (aq_cons ep_str (aq_cons (ep_tup (aq_cons ep_int aq_nil)) (aq_cons (ep_tup (aq_cons ep_non (aq_cons ep_non aq_nil))) (aq_cons (ep_tup (aq_cons ep_int (aq_cons ep_int aq_nil))) (aq_cons (ep_tup (aq_cons (ep_tup (aq_cons ep_non aq_nil)) aq_nil)) (aq_cons (ep_tup (aq_cons ep_non (aq_cons ep_non (aq_cons ep_int aq_nil)))) aq_nil))))))))))))))) (g_name (i := 5) sc_law.nd rfl (.inl rfl) (by decide) (by decide) (by decide)) (ss_one (s_if (mo' := [.vw, .o1, .vw, .vw, .vw, .vw, .vw]) (by rfl) (be_cmp op_isNotA sc_isNot (.inl (by rfl)) (ee_callD (rs := [none]) (n := 3) (m := Mare_ways) (kd := .imm) c_are_ways hr rfl pass0 (by decide) (by decide) (ar_val (by rfl) (ee_p (ep_var (i := 5) rfl (.inl rfl) (by decide))) ar_nil)) (ee_p ep_bl) rfl) (ss_one (s_ret (by rfl) (by rfl) (ee_p ep_bl))) ss_nil))) (ss_one (s_ret (by rfl) (by rfl) (ee_and (by rfl) (ee_scmp op_isA sc_is fl_is (by rfl) (ee_callD (rs := [none]) (n := 3) (m := Mare_ways) (kd := .imm) c_are_ways hr rfl pass0 (by decide) (by decide) (ar_val (by rfl) (ee_p (ep_tup (aq_cons ep_non aq_nil))) ar_nil)) (ee_p ep_bl) rfl) (ee_one (ee_scmp op_isA sc_is fl_is (by rfl) (ee_callD (rs := [none]) (n := 3) (m := Mare_ways) (kd := .imm) c_are_ways hr rfl pass0 (by decide) (by decide) (ar_val (by rfl) (ee_p (ep_tup (aq_cons ep_int (aq_cons ep_int (aq_cons ep_int (aq_cons ep_int (aq_cons ep_int (aq_cons ep_int (aq_cons ep_int (aq_cons ep_non aq_nil)))))))))) ar_nil)) (ee_p ep_bl) rfl))))))))
end Lw
namespace Lw
open PySem hiding Env
open L2 Tm
/-! ### how the mirror runs -/
theorem r_bind {α β : Type} {Γ : Env} {a : α} {k : Env → α → Res β} : (Res.ok Γ a).bind k = k Γ a := rfl
theorem r_sB {α : Type} {Γ : Env} {a : α} {k : Env → α → Out} : (Res.ok Γ a).sB k = k Γ a := rfl
theorem r_of {α : Type} {Γ : Env} {a : α} : Res.of Γ (some a) = .ok Γ a := rfl
theorem eP_ok {f : PF} {Γ : Env} {t : T} (h : f Γ = some t) : eP f Γ = .ok Γ t := by unfold eP; rw [h]; rfl
theorem eB_ok {f : BF} {Γ : Env} {b : Bool} (h : f Γ = some b) : eB f Γ = .ok Γ b := by unfold eB; rw [h]; rfl
theorem sSeq_nx {a b : SF} {Γ Γ1 : Env} (h : a Γ = .nx Γ1) : sSeq a b Γ = b Γ1 := by unfold sSeq; rw [h]
theorem sSeq_rt {a b : SF} {Γ Γ1 : Env} {t : T} (h : a Γ = .rt t Γ1) : sSeq a b Γ = .rt t Γ1 := by unfold sSeq; rw [h]
theorem sIf_t {u : Env → Res Bool} {a b : SF} {Γ Γ1 : Env} (h : u Γ = .ok Γ1 true) : sIf u a b Γ = a Γ1 := by unfold sIf; rw [h]; rfl
theorem sIf_f {u : Env → Res Bool} {a b : SF} {Γ Γ1 : Env} (h : u Γ = .ok Γ1 false) : sIf u a b Γ = b Γ1 := by unfold sIf; rw [h]; rfl
theorem sSeq_as {a b c d : SF} {Γ Γ1 : Env} (h : sSeq a (sSeq b c) Γ = .nx Γ1) : sSeq a (sSeq b (sSeq c d)) Γ = d Γ1 := by
  unfold sSeq at h ⊢
  cases ea : a Γ with
  | nx Γ2 =>
    rw [ea] at h
    simp only at h ⊢
    cases eb : b Γ2 with
    | nx Γ3 => rw [eb] at h; simp only at h ⊢; rw [h]
    | _ => rw [eb] at h; cases h
  | _ => rw [ea] at h; cases h
theorem mul_ok {i j : Int} (h : (-(2 ^ 64) < i ∧ i < 2 ^ 64) ∨ (-(2 ^ 64) < j ∧ j < 2 ^ 64)) : bMul (.int i) (.int j) = some (.int (i * j)) := by unfold bMul; exact if_pos h
theorem mod_ok {i j : Int} (h : 0 < j) : bMod (.int i) (.int j) = some (.int (i % j)) := by unfold bMod; exact if_pos h
theorem div_ok {i j : Int} (h : 0 < j ∧ j < 1000000000000000000000000000000) : bDiv (.int i) (.int j) = some (.int (i / j)) := by unfold bDiv; exact if_pos h
theorem small_mod (i : Int) {m : Int} (h : 0 < m) (h2 : m < 2 ^ 64) : -(2 ^ 64) < i % m ∧ i % m < 2 ^ 64 := by
  have := Int.emod_nonneg i (Int.ne_of_gt h)
  have := Int.emod_lt_of_pos i h
  omega
theorem mul_modL {x m j : Int} (h : 0 < m) (h2 : m < 18446744073709551616) : bMul (.int (x % m)) (.int j) = some (.int (x % m * j)) := mul_ok (.inl (small_mod x h h2))
theorem ix0 {a b c : T} : tIxA (.lst [a, b, c]) (.int 0) = some a := rfl
theorem ix1 {a b c : T} : tIxA (.lst [a, b, c]) (.int 1) = some b := rfl
theorem ix2 {a b c : T} : tIxA (.lst [a, b, c]) (.int 2) = some c := rfl
theorem st0 {a b c d : T} : stoL (.lst [a, b, c]) (.int 0) d = some (.lst [d, b, c]) := rfl
theorem st1 {a b c d : T} : stoL (.lst [a, b, c]) (.int 1) d = some (.lst [a, d, c]) := rfl
theorem st2 {a b c d : T} : stoL (.lst [a, b, c]) (.int 2) d = some (.lst [a, b, d]) := rfl
theorem atI_in {α : Type} {xs : List α} {p : Int} (h0 : 0 ≤ p) (h1 : p < xs.length) : ∃ x, L2.atI xs p = some x ∧ xs[p.toNat]? = some x := by
  have hl : p.toNat < xs.length := by omega
  refine ⟨xs[p.toNat], ?_, List.getElem?_eq_getElem hl⟩
  unfold L2.atI ixN
  rw [if_pos h0, if_pos h1]
  exact List.getElem?_eq_getElem hl
theorem scr_ix {ns : List Int} {p : Int} (h0 : 0 ≤ p) (h1 : p < ns.length) : ∃ x, tIxA (.scr ns) (.int p) = some (.int x) := by
  obtain ⟨x, h, _⟩ := atI_in h0 h1
  refine ⟨x, ?_⟩
  show (L2.atI ns p).map T.int = _
  rw [h]; rfl
/-- a for loop that only goes on -/
theorem forL_ind {g : GF} {b : SF} {items : List T} {Γ : Env} (I : Nat → Env → Prop) (h0 : I 0 Γ) (step : ∀ (k : Nat) (t : T) (Γ : Env), items[k]? = some t → I k Γ → ∃ Γ1 Γ2, g t Γ = some Γ1 ∧ b Γ1 = .nx Γ2 ∧ I (k + 1) Γ2) : ∃ Γ', sForL g b items Γ = .nx Γ' ∧ I items.length Γ' := by
  have aux : ∀ (n k : Nat) (Γ : Env), n = items.length - k → k ≤ items.length → I k Γ → ∃ Γ', sForL g b (items.drop k) Γ = .nx Γ' ∧ I items.length Γ' := by
    intro n
    induction n with
    | zero =>
      intro k Γ hn hk hi
      have e : k = items.length := by omega
      subst e
      rw [List.drop_length]
      exact ⟨Γ, rfl, hi⟩
    | succ n ih =>
      intro k Γ hn hk hi
      have hlt : k < items.length := by omega
      obtain ⟨Γ1, Γ2, e1, e2, e3⟩ := step k items[k] Γ (List.getElem?_eq_getElem hlt) hi
      obtain ⟨Γ', e4, e5⟩ := ih (k + 1) Γ2 (by omega) (by omega) e3
      refine ⟨Γ', ?_, e5⟩
      rw [List.drop_eq_getElem_cons hlt]
      unfold sForL
      rw [e1]
      simp only
      rw [e2]
      exact e4
  have := aux items.length 0 Γ (by omega) (by omega) h0
  rwa [List.drop_zero] at this
theorem ix_ints {xs : List T} {d lo hi : Int} (h : ∀ t ∈ xs, ∃ v, t = .int v ∧ lo ≤ v ∧ v ≤ hi) (h0 : 0 ≤ d) (h1 : d < xs.length) : ∃ v, tIxA (.lst xs) (.int d) = some (.int v) ∧ lo ≤ v ∧ v ≤ hi := by
  obtain ⟨t, e1, e2⟩ := atI_in h0 h1
  obtain ⟨v, rfl, a, b⟩ := h t (List.mem_of_getElem? e2)
  exact ⟨v, e1, a, b⟩
/-! ### nets -/
structure Rd4 where
  i : Int
  j : Int
  pay : Int
  late : Int
def encR (r : Rd4) : T := .tup [.int r.i, .int r.j, .int r.pay, .int r.late]
def lexB (a b : Rd4) : Prop := a.i < b.i ∨ (a.i = b.i ∧ a.j < b.j)
def okRd (n : Int) (r : Rd4) : Prop := 0 ≤ r.i ∧ r.i < n ∧ 0 ≤ r.j ∧ r.j < n ∧ r.i ≠ r.j ∧ 0 ≤ r.pay ∧ r.pay ≤ 1000 ∧ 1 ≤ r.late ∧ r.late ≤ 1000
structure Net where
  n : Int
  rs : List Rd4
def encN (N : Net) : T := .tup [.int N.n, .tup (N.rs.map encR)]
structure NetOk (N : Net) : Prop where
  n1 : 1 ≤ N.n
  n2 : N.n ≤ 12
  rd : ∀ r ∈ N.rs, okRd N.n r
  so : N.rs.Pairwise lexB
/-- ahead of the pair (i, j) -/
structure RsOk (n i j : Int) (rs : List Rd4) : Prop where
  rd : ∀ r ∈ rs, okRd n r
  so : rs.Pairwise lexB
  lt : ∀ r ∈ rs, r.i < i ∨ (r.i = i ∧ r.j < j)
theorem nb_int {i j : Int} : bNot bEqA (.int i) (.int j) = some (.bl (!(i == j))) := by
  simp [bNot, bEqA, bEq, dtT, eqT]
theorem rangeT_ok {n : Int} (h0 : 0 ≤ n) (h1 : n ≤ 1000000) : rangeT 0 n = some ((List.range n.toNat).map fun k : Nat => T.int (k : Int)) := by
  unfold rangeT
  rw [if_pos ⟨by decide, by decide, by omega, h1⟩]
  simp
theorem range_get {n : Int} {k : Nat} {t : T} (h : ((List.range n.toNat).map fun k : Nat => T.int (k : Int))[k]? = some t) : k < n.toNat ∧ t = .int k := by
  rw [List.getElem?_map] at h
  obtain ⟨m, h1, rfl⟩ := Option.map_eq_some_iff.mp h
  obtain ⟨h2, h3⟩ := List.getElem?_eq_some_iff.mp h1
  rw [List.getElem_range] at h3
  rw [List.length_range] at h2
  exact ⟨h2, by rw [h3]⟩
end Lw
namespace Lw
open PySem hiding Env
open L2 Tm
/-! ### group e: the tray -/
def tp (ns : List Int) (p c : Int) : T := .lst [.scr ns, .int p, .int c]
theorem blend_ok (c p : Int) (h0 : 0 ≤ p) (h1 : p ≤ 1000000000) : ∃ v Γ, M_law_e_blend [some (.int c), some (.int p), none, none, none] = .rt (.int v) Γ := by
  have pp : bMul (.int p) (.int p) = some (.int (p * p)) := mul_ok (.inl ⟨by omega, by omega⟩)
  unfold M_law_e_blend
  by_cases h : (1000000000000000000 : Int) ≤ c
  · refine ⟨c, [some (.int c), some (.int p), none, none, none], ?_⟩
    simp [sSeq, sIf, sRet, sNil, Res.sB, Res.of, Res.bind, eB, eP, pBl, pBin, pVar, pC, sl, blT, bGe, bPow, h]
  · simp [sSeq, sIf, sRet, sNil, sAsg, Res.sB, Res.of, Res.bind, eB, eP, pBl, pBin, pVar, pC, sl, blT, bGe, bPow, h, bAdd, mod_ok, mul_ok, mul_modL, pp]
theorem draw_ok (ns : List Int) (p c m : Int) (hp : 0 ≤ p) (hp1 : p ≤ 1000000000) (hm : 0 < m) (hm2 : m < 1000000000000000000000000000000) :
    ∃ d p' c' Γ, M_law_e_draw [some (tp ns p c), some (.int m), none, none, none] = .rt (.int d) (some (tp ns p' c') :: Γ) ∧ 0 ≤ d ∧ d < m ∧ 0 ≤ p' ∧ p' ≤ p + 1 := by
  have fin : ∀ (p c : Int) (a b : Option T), ∃ Γ, (sSeq (sAsg 4 (eP (pBin bMod (pBin tIxA (pVar 0) (pC (.int 2))) (pVar 1)))) (sSeq (sSto 0 (eP (pBin bDiv (pBin tIxA (pVar 0) (pC (.int 2))) (pVar 1))) (eP (pC (.int 2)))) (sRet (eFl (eP (pVar 4)))))) [some (tp ns p c), some (.int m), a, b, none] = .rt (.int (c % m)) (some (tp ns p (c / m)) :: Γ) := by
    intro p c a b
    refine ⟨[some (.int m), a, b, some (.int (c % m))], ?_⟩
    simp [tp, sSeq, sAsg, sSto, sStoK, sRet, eFl, Res.sB, Res.of, Res.bind, eP, pBin, pVar, pC, sl, kT, ix2, st2, mod_ok, div_ok, hm, hm2, flatT]
  have b0 : ∀ x : Int, 0 ≤ x % m := fun x => Int.emod_nonneg x (Int.ne_of_gt hm)
  have b1 : ∀ x : Int, x % m < m := fun x => Int.emod_lt_of_pos x hm
  unfold M_law_e_draw
  by_cases h : c < m
  · have cell : ∃ q, (sSeq (sAsg 2 (eOwn 0 (eP (pC (.int 1))))) (sSeq (sAsg 3 (eP (pBin bAdd (pBin bMul (pC (.int 13)) (pVar 2)) (pC (.int 1))))) (sIf (eB (pBl (pBin bLt (pVar 2) (pArg tLen (pCons (pBin tIxA (pVar 0) (pC (.int 0))) pNil))))) (sAsg 3 (eBin tIxA (eOwn 0 (eP (pC (.int 0)))) (eP (pVar 2)))) (sIf (eB (pBl (pBin bGt (pArg tLen (pCons (pBin tIxA (pVar 0) (pC (.int 0))) pNil)) (pC (.int 0))))) (sAsg 3 (eP (pBin bAdd (pBin bMod (pBin tIxA (pBin tIxA (pVar 0) (pC (.int 0))) (pBin bMod (pBin bMul (pVar 2) (pC (.int 5))) (pArg tLen (pCons (pBin tIxA (pVar 0) (pC (.int 0))) pNil)))) (pC (.int 888888883))) (pBin bMul (pVar 2) (pC (.int 5000000)))))) sNil)))) [some (tp ns p c), some (.int m), none, none, none] = .nx [some (tp ns p c), some (.int m), some (.int p), some (.int q), none] := by
      by_cases hl : p < ns.length
      · obtain ⟨x, hx⟩ := scr_ix hp hl
        refine ⟨x, ?_⟩
        simp [tp, sSeq, sAsg, sIf, eOwn, eBin, Res.sB, Res.of, Res.bind, eP, eB, pBl, pBin, pArg, pCons, pNil, tLen, pVar, pC, sl, ix0, ix1, tIxO, rootT, bLt, blT, hl, hx, bAdd, mul_ok]
      · cases ns with
        | nil =>
          refine ⟨13 * p + 1, ?_⟩
          have hl' : ¬ p < 0 := by omega
          simp [tp, sSeq, sAsg, sIf, sNil, eOwn, eBin, Res.sB, Res.of, Res.bind, eP, eB, pBl, pBin, pArg, pCons, pNil, tLen, pVar, pC, sl, ix0, ix1, tIxO, rootT, bLt, bGt, blT, hl', bAdd, mul_ok]
        | cons n ns =>
          have hpos : (0 : Int) < ((n :: ns).length : Nat) := by simp only [List.length_cons]; omega
          have i0 := Int.emod_nonneg (p * 5) (Int.ne_of_gt hpos)
          have i1 := Int.emod_lt_of_pos (p * 5) hpos
          obtain ⟨x, hx⟩ := scr_ix i0 i1
          refine ⟨x % 888888883 + p * 5000000, ?_⟩
          have hl2 : ¬ p < (ns.length : Int) + 1 := by simpa using hl
          have hp2 : (0 : Int) < (ns.length : Int) + 1 := by omega
          simp only [List.length_cons, Int.natCast_add, Int.cast_ofNat_Int] at hx
          simp [tp, sSeq, sAsg, sIf, sNil, eOwn, eBin, Res.sB, Res.of, Res.bind, eP, eB, pBl, pBin, pArg, pCons, pNil, tLen, pVar, pC, sl, ix0, ix1, tIxO, rootT, bLt, bGt, blT, hl2, mul_ok, mod_ok, hp2, hx, bAdd]
    obtain ⟨q, cell⟩ := cell
    obtain ⟨v, Γs, hv⟩ := blend_ok q p hp hp1
    obtain ⟨Γ, e⟩ := fin (p + 1) v (some (.int p)) (some (.int q))
    refine ⟨v % m, p + 1, v / m, Γ, ?_, b0 v, b1 v, by omega, by omega⟩
    have hv' : M_law_e_blend (env0 5 [.int q, .int p]) = .rt (.int v) Γs := hv
    rw [sSeq_nx (Γ1 := [some (tp ns (p + 1) v), some (.int m), some (.int p), some (.int q), none])]
    · exact e
    · have t1 : eB (pBl (pBin bLt (pBin tIxA (pVar 0) (pC (.int 2))) (pVar 1))) [some (tp ns p c), some (.int m), none, none, none] = .ok [some (tp ns p c), some (.int m), none, none, none] true := by
        simp [tp, eB, pBl, pBin, pVar, pC, sl, ix2, bLt, blT, h, Res.of]
      rw [sIf_t t1, sSeq_as cell]
      simp [tp, sSeq, sSto, sStoK, Res.sB, Res.of, Res.bind, eP, pBin, pVar, pC, sl, kT, st1, st2, bAdd, eCallR, eCons, eNil, fillR, hv', okR, wbR]
  · obtain ⟨Γ, e⟩ := fin p c none none
    refine ⟨c % m, p, c / m, Γ, ?_, b0 c, b1 c, hp, by omega⟩
    rw [sSeq_nx (Γ1 := [some (tp ns p c), some (.int m), none, none, none])]
    · exact e
    · simp [tp, sIf, sNil, eB, pBl, pBin, pVar, pC, sl, ix2, bLt, blT, h, Res.sB, Res.of]
theorem call_draw {Γ : Env} {j : Nat} {ef : EF} {m p c : Int} {ns : List Int} (h : sl Γ j = some (tp ns p c)) (hm : ef Γ = .ok Γ (.int m)) (hp : 0 ≤ p) (hp1 : p ≤ 1000000000) (h0 : 0 < m) (h1 : m < 1000000000000000000000000000000) :
    ∃ d p' c', eCallR [some j, none] .imm M_law_e_draw 5 (eCons (eP (pVar j)) (eCons ef eNil)) Γ = .ok (Γ.set j (some (tp ns p' c'))) (.int d) ∧ 0 ≤ d ∧ d < m ∧ 0 ≤ p' ∧ p' ≤ p + 1 := by
  obtain ⟨d, p', c', G, e, a1, a2, a3, a4⟩ := draw_ok ns p c m hp hp1 h0 h1
  refine ⟨d, p', c', ?_, a1, a2, a3, a4⟩
  have e' : M_law_e_draw (env0 5 [tp ns p c, .int m]) = .rt (.int d) (some (tp ns p' c') :: G) := e
  have rt : rootT (tp ns p c) = true := rfl
  have rt' : rootT (tp ns p' c') = true := rfl
  simp [eCallR, eCons, eNil, eP, pVar, h, hm, Res.of, Res.bind, fillR, rt, e', okR, wbR, sl, rt']
end Lw
namespace Lw
open PySem hiding Env
open L2 Tm
/-! ### calls that change nothing -/
def Cv (m : SF) (n : Nat) (as : List T) (t : T) : Prop := ∃ Γ, m (env0 n as) = .rt t Γ
def Cn (m : SF) (n : Nat) (as : List T) : Prop := ∃ Γ, m (env0 n as) = .nx Γ
theorem fill_none : ∀ (as : List T) (Γ : Env), fillR (as.map fun _ => none) as Γ = some as
  | [], _ => rfl
  | a :: as, Γ => by
    show (fillR (as.map fun _ => none) as Γ).map (a :: ·) = _
    rw [fill_none as Γ]; rfl
theorem ok_none : ∀ (as : List T) (Γ : Env), okR (as.map fun _ => none) Γ = true
  | [], _ => rfl
  | a :: as, Γ => ok_none as Γ.tail
theorem wb_none : ∀ (as : List T) (G Γ : Env), wbR (as.map fun _ => none) G Γ = Γ
  | [], _, _ => rfl
  | a :: as, G, Γ => wb_none as G.tail Γ
theorem callv {m : SF} {n : Nat} {kd : Kd} {as : List T} {t : T} {xf : Env → Res (List T)} {Γ Γ1 : Env} {rs : List (Option Nat)} (h : Cv m n as t) (hr : rs = as.map fun _ => none) (hx : xf Γ = .ok Γ1 as) : eCallR rs kd m n xf Γ = .ok Γ1 t := by
  obtain ⟨G, e⟩ := h
  subst hr
  unfold eCallR
  rw [hx]
  simp only [Res.bind, fill_none, e, ok_none, wb_none, if_true]
theorem calln {m : SF} {n : Nat} {kd : Kd} {as : List T} {xf : Env → Res (List T)} {Γ Γ1 : Env} {rs : List (Option Nat)} (h : Cn m n as) (hk : kle .imm kd = true) (hr : rs = as.map fun _ => none) (hx : xf Γ = .ok Γ1 as) : eCallR rs kd m n xf Γ = .ok Γ1 .non := by
  obtain ⟨G, e⟩ := h
  subst hr
  unfold eCallR
  rw [hx]
  simp only [Res.bind, fill_none, e, ok_none, wb_none, hk, Bool.and_self, if_true]
theorem eCons_ok {f : EF} {g : Env → Res (List T)} {Γ Γ1 Γ2 : Env} {t : T} {ts : List T} (h : f Γ = .ok Γ1 t) (h2 : g Γ1 = .ok Γ2 ts) : eCons f g Γ = .ok Γ2 (t :: ts) := by
  unfold eCons; rw [h]; simp only [Res.bind]; rw [h2]
theorem eNil_ok {Γ : Env} : eNil Γ = .ok Γ [] := rfl
/-! ### comprehensions -/
theorem lcE_run {v : Nat} {Γ0 : Env} {u : Env → Res Bool} {f : EF} {P : T → Bool} {h : T → T} : ∀ {items : List T}, (∀ t ∈ items, u (Γ0.set v (some t)) = .ok (Γ0.set v (some t)) (P t) ∧ (P t = true → f (Γ0.set v (some t)) = .ok (Γ0.set v (some t)) (h t))) →
    ∀ (acc : List T) (x0 : Option T), acc.length + items.length ≤ 100000 → ∃ x1, lcE (gN v) u f items acc (Γ0.set v x0) = .ok (Γ0.set v x1) (acc ++ (items.filter P).map h)
  | [], _, acc, x0, _ => ⟨x0, by simp [lcE]⟩
  | t :: ts, H, acc, x0, hl => by
    obtain ⟨h1, h2⟩ := H t List.mem_cons_self
    have hts : ∀ t ∈ ts, u (Γ0.set v (some t)) = .ok (Γ0.set v (some t)) (P t) ∧ (P t = true → f (Γ0.set v (some t)) = .ok (Γ0.set v (some t)) (h t)) := fun t ht => H t (List.mem_cons_of_mem _ ht)
    rw [List.length_cons] at hl
    unfold lcE
    simp only [gN, List.set_set, h1]
    by_cases hp : P t = true
    · simp only [hp, if_true, h2 hp]
      rw [if_pos (by omega)]
      obtain ⟨x1, e⟩ := lcE_run hts (acc ++ [h t]) (some t) (by simp; omega)
      exact ⟨x1, by rw [e, List.filter_cons_of_pos hp, List.map_cons, List.append_assoc]; rfl⟩
    · rw [if_neg hp]
      obtain ⟨x1, e⟩ := lcE_run hts acc (some t) (by omega)
      exact ⟨x1, by rw [e, List.filter_cons_of_neg hp]⟩
theorem lc_run {v : Nat} {Γ0 Γ Γ1 : Env} {xf : Env → Res (List T)} {u : Env → Res Bool} {f : EF} (P : T → Bool) (h : T → T) {items : List T} {x0 : Option T} (hx : xf Γ = .ok Γ1 items) (h0 : Γ1 = Γ0.set v x0) (hl : items.length ≤ 100000)
    (H : ∀ t ∈ items, u (Γ0.set v (some t)) = .ok (Γ0.set v (some t)) (P t) ∧ (P t = true → f (Γ0.set v (some t)) = .ok (Γ0.set v (some t)) (h t))) : ∃ x1, eLc xf (gN v) u f Γ = .ok (Γ0.set v x1) (.lst ((items.filter P).map h)) := by
  obtain ⟨x1, e⟩ := lcE_run H [] x0 (by simpa using hl)
  refine ⟨x1, ?_⟩
  unfold eLc
  rw [hx]
  simp only [Res.bind]
  rw [h0, e]; rfl
theorem lcD_run {v i : Nat} {Γ0 Γ : Env} {u : Env → Res Bool} {f : EF} (P : T → Bool) (h : T → T) {t : T} {items : List T} {x0 : Option T} (ht : sl Γ i = some t) (hk : keysOf t = some items) (h0 : Γ = Γ0.set v x0) (hl : items.length ≤ 100000)
    (H : ∀ t ∈ items, u (Γ0.set v (some t)) = .ok (Γ0.set v (some t)) (P t) ∧ (P t = true → f (Γ0.set v (some t)) = .ok (Γ0.set v (some t)) (h t))) : ∃ x1, eLcD i (gN v) u f Γ = .ok (Γ0.set v x1) (.lst ((items.filter P).map h)) := by
  obtain ⟨x1, e⟩ := lcE_run H [] x0 (by simpa using hl)
  refine ⟨x1, ?_⟩
  unfold eLcD
  rw [ht]
  simp only [Option.bind_some, hk]
  rw [h0, e]; rfl
/-- all of them -/
theorem all_true {items : List T} {h : T → T} (H : ∀ t ∈ items, h t = .bl true) : tAll [.lst (items.map h)] = some (.bl true) := by
  have e : items.map h = (items.map fun _ => true).map T.bl := by
    rw [List.map_map]
    exact List.map_congr_left H
  rw [e]
  show (tbls _).map (fun bs => T.bl (bs.all id)) = _
  rw [tbls_map]
  simp
/-! ### the program's nets -/
theorem k_ii : kitB "int" "int" = some true := by decide +kernel
theorem k_ib : kitB "int" "bool" = some false := by decide +kernel
theorem k_tt : kitB "tuple" "tuple" = some true := by decide +kernel
theorem cut2 {a b c d : T} : cutL [a, b, c, d] none (some 2) = [a, b] := rfl
/-! ### roads -/
theorem forL_find {v : Nat} {Γ0 : Env} {b : SF} {P : T → Bool} : ∀ {items : List T}, (∀ t ∈ items, b (Γ0.set v (some t)) = if P t = true then .rt t (Γ0.set v (some t)) else .nx (Γ0.set v (some t))) → ∀ (x0 : Option T),
    ∃ x1, sForL (gN v) b items (Γ0.set v x0) = match items.find? P with | some t => .rt t (Γ0.set v x1) | none => .nx (Γ0.set v x1)
  | [], _, x0 => ⟨x0, rfl⟩
  | t :: ts, H, x0 => by
    have h1 := H t List.mem_cons_self
    unfold sForL
    simp only [gN, List.set_set, h1]
    by_cases hp : P t = true
    · refine ⟨some t, ?_⟩
      rw [List.find?_cons_of_pos hp, if_pos hp]
    · obtain ⟨x1, e⟩ := forL_find (items := ts) (fun t ht => H t (List.mem_cons_of_mem _ ht)) (some t)
      refine ⟨x1, ?_⟩
      rw [List.find?_cons_of_neg hp, if_neg hp]
      exact e
def look (rs : List Rd4) (i j : Int) : Option Rd4 := rs.find? fun r => r.i == i && r.j == j
def encO : Option Rd4 → T
  | some r => encR r | none => .non
theorem find_map (rs : List Rd4) (P : T → Bool) (i j : Int) (h : ∀ r, P (encR r) = (r.i == i && r.j == j)) : (rs.map encR).find? P = (look rs i j).map encR := by
  induction rs with
  | nil => rfl
  | cons r rs ih =>
    unfold look at ih ⊢
    rw [List.map_cons, List.find?_cons, List.find?_cons, h]
    cases e : (r.i == i && r.j == j) with
    | true => rfl
    | false => exact ih
theorem eq_int {i j : Int} : bEqA (.int i) (.int j) = some (.bl (i == j)) := by
  simp [bEqA, bEq, dtT, eqT]
theorem eq_pair {a b c d : Int} : bEqA (.tup [.int a, .int b]) (.tup [.int c, .int d]) = some (.bl (a == c && b == d)) := by
  simp [bEqA, bEq, dtT, eqT, eqTs]
/-! ### trees that grow -/
def encK (p : Int × Int) : Key × T := (.inl p.1, .int p.2)
def encD (d : List (Int × Int)) : T := .dct (d.map encK)
def keys (d : List (Int × Int)) : List Int := d.map (·.1)
theorem in_ints {i : Int} {xs : List Int} : bInA (.int i) (.lst (xs.map T.int)) = some (.bl (xs.any fun y => y == i)) := by
  have f : (xs.map T.int).all flatT = true := by rw [List.all_map]; exact List.all_eq_true.mpr fun _ _ => rfl
  rw [show bInA (.int i) (.lst (xs.map T.int)) = bIn (.int i) (.lst (xs.map T.int)) from rfl]
  unfold bIn
  simp only
  rw [if_pos ⟨rfl, f⟩, List.any_map]
  rfl
theorem notin_ints {i : Int} {xs : List Int} : bNot bInA (.int i) (.lst (xs.map T.int)) = some (.bl (!(xs.any fun y => y == i))) := by
  unfold bNot; rw [in_ints]
theorem any_eq {i : Int} {xs : List Int} : (xs.any fun y => y == i) = decide (i ∈ xs) := by
  induction xs with
  | nil => rfl
  | cons x xs ih =>
    rw [List.any_cons, ih]
    by_cases h : x = i
    · simp [h]
    · have h' : ¬ i = x := fun e => h e.symm
      simp [h, h']
theorem put_new {d : List (Int × Int)} {k p : Int} (h : k ∉ keys d) : putT (d.map encK) (.inl k) (.int p) = (d ++ [(k, p)]).map encK := by
  unfold putT
  have : ((d.map encK).any fun kv => decide (kv.1 = .inl k)) = false := by
    rw [List.any_eq_false]
    intro x hx
    obtain ⟨q, hq, rfl⟩ := List.mem_map.mp hx
    simp only [encK, decide_eq_true_eq]
    intro e
    have e : q.1 = k := by simpa using e
    exact h (List.mem_map.mpr ⟨q, hq, e⟩)
  rw [if_neg (by rw [this]; decide), List.map_append]
  rfl
theorem ne_roads {xs : List Rd4} : bNot bEqA (.lst (xs.map encR)) (.lst []) = some (.bl (!xs.isEmpty)) := by
  have d : dtT 30 (.lst (xs.map encR)) = true := by
    show (xs.map encR).all (dtT 29) = true
    rw [List.all_map]; exact List.all_eq_true.mpr fun _ _ => rfl
  have e : bEqA (.lst (xs.map encR)) (.lst []) = some (.bl xs.isEmpty) := by
    rw [show bEqA (.lst (xs.map encR)) (.lst []) = bEq (.lst (xs.map encR)) (.lst []) from rfl]
    unfold bEq
    rw [if_pos ⟨d, rfl⟩]
    cases xs <;> rfl
  unfold bNot; rw [e]
theorem rs_len {N : Net} (h : NetOk N) : N.rs.length ≤ 144 := by
  have aux : ∀ (rs : List Rd4) (n : Int), (∀ r ∈ rs, okRd n r) → rs.Pairwise lexB → n ≤ 12 → ∀ lo : Int, (∀ r ∈ rs, lo ≤ r.i * 12 + r.j) → (rs.length : Int) + lo ≤ 144 ∨ rs = [] := by
    intro rs
    induction rs with
    | nil => intro n _ _ _ lo _; exact .inr rfl
    | cons r rs ih =>
      intro n hr hs hn lo hlo
      left
      have ok := hr r List.mem_cons_self
      have l0 := hlo r List.mem_cons_self
      obtain ⟨hs1, hs2⟩ := List.pairwise_cons.mp hs
      have step := ih n (fun x hx => hr x (List.mem_cons_of_mem _ hx)) hs2 hn (r.i * 12 + r.j + 1) (fun x hx => by
        have okx := hr x (List.mem_cons_of_mem _ hx)
        unfold okRd at ok okx
        rcases hs1 x hx with q | q <;> omega)
      unfold okRd at ok
      rcases step with q | q
      · rw [List.length_cons]; push_cast; omega
      · subst q; simp only [List.length_cons, List.length_nil]; push_cast; omega
  rcases aux N.rs N.n h.rd h.so h.n2 0 (fun r hr => by have := h.rd r hr; unfold okRd at this; omega) with q | q
  · omega
  · rw [q]; decide
/-! ### going ahead -/
def lk : List (Int × Int) → Int → Option Int
  | [], _ => none
  | (k, p) :: r, x => if k = x then some p else lk r x
theorem lookT_enc : ∀ (d : List (Int × Int)) (x : Int), lookT (d.map encK) (.inl x) = (lk d x).map T.int
  | [], _ => rfl
  | (k, p) :: r, x => by
    rw [List.map_cons]
    unfold lookT lk encK
    by_cases h : k = x
    · rw [if_pos h, if_pos (by rw [h])]; rfl
    · rw [if_neg h, if_neg (by intro e; exact h (by simpa using e))]
      exact lookT_enc r x
theorem lk_cons {k p x : Int} {r : List (Int × Int)} : lk ((k, p) :: r) x = if k = x then some p else lk r x := rfl
theorem keys_cons {k p : Int} {r : List (Int × Int)} : keys ((k, p) :: r) = k :: keys r := rfl
theorem lk_none {d : List (Int × Int)} {x : Int} : lk d x = none ↔ x ∉ keys d := by
  induction d with
  | nil => simp [lk, keys]
  | cons q r ih =>
    obtain ⟨k, p⟩ := q
    rw [lk_cons, keys_cons, List.mem_cons]
    by_cases h : k = x
    · simp [h]
    · have h' : ¬ x = k := fun e => h e.symm
      simp [h, h', ih]
theorem lk_app {d e : List (Int × Int)} {x : Int} : lk (d ++ e) x = (lk d x).or (lk e x) := by
  induction d with
  | nil => simp [lk]
  | cons q r ih =>
    obtain ⟨k, p⟩ := q
    rw [List.cons_append, lk_cons, lk_cons]
    split
    · rfl
    · exact ih
def nx (d : List (Int × Int)) (x : Int) : Int := (lk d x).getD x
def iter {α : Type} (f : α → α) : Nat → α → α
  | 0, x => x
  | n + 1, x => iter f n (f x)
theorem nx_old {d : List (Int × Int)} {k p x : Int} (h : x ≠ k) : nx (d ++ [(k, p)]) x = nx d x := by
  unfold nx
  rw [lk_app]
  have : lk [(k, p)] x = none := by
    unfold lk
    rw [if_neg (fun e => h e.symm)]; rfl
  rw [this]
  cases lk d x <;> rfl
theorem nx_new {d : List (Int × Int)} {k p : Int} (h : k ∉ keys d) : nx (d ++ [(k, p)]) k = p := by
  unfold nx
  rw [lk_app, lk_none.mpr h]
  simp [lk]
theorem nx_root {d : List (Int × Int)} {x : Int} (h : x ∉ keys d) : nx d x = x := by unfold nx; rw [lk_none.mpr h]; rfl
theorem iter_fix {α : Type} {f : α → α} {x : α} (h : f x = x) : ∀ n, iter f n x = x
  | 0 => rfl
  | n + 1 => by unfold iter; rw [h]; exact iter_fix h n
theorem lk_mem {d : List (Int × Int)} {x : Int} (h : x ∈ keys d) : ∃ p, lk d x = some p ∧ (x, p) ∈ d := by
  induction d with
  | nil => cases h
  | cons q r ih =>
    obtain ⟨k, p⟩ := q
    unfold lk
    by_cases e : k = x
    · exact ⟨p, by rw [if_pos e], by rw [e]; exact List.mem_cons_self⟩
    · have : x ∈ keys r := by
        simp only [keys, List.map_cons, List.mem_cons] at h
        exact h.elim (fun q => absurd q.symm e) id
      obtain ⟨p', a, b⟩ := ih this
      exact ⟨p', by rw [if_neg e]; exact a, List.mem_cons_of_mem _ b⟩
theorem dix {d : List (Int × Int)} {x p : Int} (h : lk d x = some p) : tIxA (encD d) (.int x) = some (.int p) := by
  show (keyT (.int x)).bind (fun k => lookT (d.map encK) k) = _
  show lookT (d.map encK) (.inl x) = _
  rw [lookT_enc, h]; rfl
theorem din {d : List (Int × Int)} {x : Int} : bInA (.int x) (encD d) = some (.bl (lk d x).isSome) := by
  show (keyT (.int x)).map (fun k => T.bl (lookT (d.map encK) k).isSome) = _
  show some (T.bl (lookT (d.map encK) (.inl x)).isSome) = _
  rw [lookT_enc]
  cases lk d x <;> rfl
theorem keysOf_enc (d : List (Int × Int)) : keysOf (encD d) = some ((keys d).map T.int) := by
  show some ((d.map encK).map fun p => keyV p.1) = _
  rw [List.map_map, keys, List.map_map]; rfl
theorem look_some {N : Net} {q : Int × Int} (h : ∃ r ∈ N.rs, r.i = q.2 ∧ r.j = q.1) : ∃ r, look N.rs q.2 q.1 = some r := by
  obtain ⟨r, h1, h2, h3⟩ := h
  cases e : look N.rs q.2 q.1 with
  | some r => exact ⟨r, rfl⟩
  | none =>
    unfold look at e
    have := List.find?_eq_none.mp e r h1
    simp [h2, h3] at this
/-! ### dicts of numbers in general -/
theorem eCons_t {f : EF} {g : Env → Res (List T)} {Γ : Env} {t : T} {ts : List T} (h : f Γ = .ok Γ t) (h2 : g Γ = .ok Γ ts) : eCons f g Γ = .ok Γ (t :: ts) := eCons_ok h h2
theorem eBin_k {op : T → T → Option T} {f g : EF} {Γ Γ1 Γ2 : Env} {x y z : T} (h1 : f Γ = .ok Γ1 x) (h2 : g Γ1 = .ok Γ2 y) (h3 : op x y = some z) : eBin op f g Γ = .ok Γ2 z := by
  unfold eBin; rw [h1]; simp only [Res.bind]; rw [h2]; simp only [Res.bind]; rw [h3]; rfl
theorem keys_length (d : List (Int × Int)) : (keys d).length = d.length := by simp [keys]
theorem dict_len (d : List (Int × Int)) : tLen [encD d] = some (.int (d.length : Nat)) := by show some (T.int ((d.map encK).length : Nat)) = _; rw [List.length_map]
def putI (d : List (Int × Int)) (k v : Int) : List (Int × Int) := if (d.any fun q => decide (q.1 = k)) = true then d.map (fun q => if q.1 = k then (q.1, v) else q) else d ++ [(k, v)]
theorem put_enc {d : List (Int × Int)} {k v : Int} : putT (d.map encK) (.inl k) (.int v) = (putI d k v).map encK := by
  have e : ((d.map encK).any fun kv => decide (kv.1 = .inl k)) = d.any fun q => decide (q.1 = k) := by
    rw [List.any_map]
    congr 1
    funext q
    simp [encK]
  unfold putT putI
  rw [e]
  split
  · rw [List.map_map, List.map_map]
    apply List.map_congr_left
    intro q _
    by_cases h : q.1 = k
    · simp [encK, h]
    · simp [encK, h]
  · rw [List.map_append]; rfl
theorem any_key {d : List (Int × Int)} {k : Int} : (d.any fun q => decide (q.1 = k)) = decide (k ∈ keys d) := by
  induction d with
  | nil => rfl
  | cons q d ih =>
    obtain ⟨a, b⟩ := q
    rw [List.any_cons, ih, keys_cons]
    by_cases h : a = k
    · simp [h]
    · have h' : ¬ k = a := fun e => h e.symm
      simp [h, h']
theorem putI_keys {d : List (Int × Int)} {k v : Int} : keys (putI d k v) = if k ∈ keys d then keys d else keys d ++ [k] := by
  unfold putI
  rw [any_key]
  by_cases h : k ∈ keys d
  · rw [if_pos (by simpa using h), if_pos h]
    unfold keys
    rw [List.map_map]
    apply List.map_congr_left
    intro q _
    by_cases e : q.1 = k <;> simp [e]
  · rw [if_neg (by simpa using h), if_neg h]
    simp [keys]
theorem putI_nodup {d : List (Int × Int)} {k v : Int} (h : (keys d).Nodup) : (keys (putI d k v)).Nodup := by
  rw [putI_keys]
  split
  · exact h
  · rename_i n
    rw [List.nodup_append]
    exact ⟨h, by simp, fun a ha b hb e => n (by simp at hb; rw [← hb, ← e]; exact ha)⟩
theorem putI_len {d : List (Int × Int)} {k v : Int} : (putI d k v).length ≤ d.length + 1 := by
  unfold putI
  split
  · rw [List.length_map]; omega
  · simp
theorem sto_dict {d : List (Int × Int)} {k v : Int} (hl : d.length < 100000) : stoD (encD d) (.int k) (.int v) = some (encD (putI d k v)) := by
  unfold stoD encD
  simp only
  rw [if_pos (by rw [List.length_map]; exact hl)]
  show some (T.dct (putT (d.map encK) (.inl k) (.int v))) = _
  rw [put_enc]
/-- d.pop(k), the key there -/
theorem pop_dict {d : List (Int × Int)} {k : Int} (h : k ∈ keys d) : ∃ d' v, dmPop (encD d) [.int k] = some (encD d', .int v) ∧ (∀ x, x ∈ keys d' → x ∈ keys d) ∧ ((keys d).Nodup → (keys d').Nodup) ∧ d'.length ≤ d.length := by
  obtain ⟨v, e, _⟩ := lk_mem h
  refine ⟨d.filter fun q => decide (q.1 ≠ k), v, ?_, fun x hx => ?_, fun nd => ?_, List.length_filter_le _ _⟩
  · show (lookT (d.map encK) (.inl k)).map (fun t => (T.dct (dropT (d.map encK) (.inl k)), t)) = _
    rw [lookT_enc, e]
    show some (T.dct (dropT (d.map encK) (.inl k)), T.int v) = _
    have : dropT (d.map encK) (.inl k) = (d.filter fun q => decide (q.1 ≠ k)).map encK := by
      unfold dropT
      rw [List.filter_map]
      congr 1
      apply List.filter_congr
      intro q _
      simp [encK]
    rw [this]; rfl
  · obtain ⟨q, hq, rfl⟩ := List.mem_map.mp hx
    exact List.mem_map.mpr ⟨q, (List.mem_filter.mp hq).1, rfl⟩
  · exact List.Sublist.nodup (List.Sublist.map _ List.filter_sublist) nd
theorem sorted_dict {d : List (Int × Int)} (hl : d.length < 64) : tSortedA [encD d] = some (.lst ((sortI (keys d)).map T.int)) := by
  show (tints ((d.map encK).map fun p => keyV p.1)).bind (fun ks => if ks.length < 64 then some (T.lst ((sortI ks).map T.int)) else none) = _
  have : (d.map encK).map (fun p => keyV p.1) = (keys d).map T.int := by rw [List.map_map, keys, List.map_map]; rfl
  rw [this, tints_map]
  show (if (keys d).length < 64 then _ else _) = _
  rw [if_pos (by rw [keys_length]; exact hl)]
theorem eqD_self {L : List (Int × Int)} (h : (keys L).Nodup) : bEqA (encD L) (encD L) = some (.bl true) := by
  have d : datD (L.map encK) = true := by
    unfold datD
    rw [List.all_map]; exact List.all_eq_true.mpr fun _ _ => rfl
  have lm : ∀ {L : List (Int × Int)}, (keys L).Nodup → ∀ q ∈ L, lk L q.1 = some q.2 := by
    intro L
    induction L with
    | nil => intro _ q hq; cases hq
    | cons a L ih =>
      obtain ⟨k, p⟩ := a
      intro h q hq
      rw [keys_cons, List.nodup_cons] at h
      rw [lk_cons]
      rcases List.mem_cons.mp hq with rfl | hq
      · rw [if_pos rfl]
      · have : q.1 ∈ keys L := List.mem_map.mpr ⟨q, hq, rfl⟩
        rw [if_neg (fun e => h.1 (by rw [e]; exact this))]
        exact ih h.2 q hq
  have e : eqDD (L.map encK) (L.map encK) = true := by
    unfold eqDD
    rw [Bool.and_eq_true]
    refine ⟨by simp, ?_⟩
    rw [List.all_map]
    refine List.all_eq_true.mpr fun q hq => ?_
    show (match lookT (L.map encK) (.inl q.1) with | some u => eqT (.int q.2) u | none => false) = true
    rw [lookT_enc, lm h q hq]
    simp [eqT]
  show (if datD (L.map encK) = true ∧ datD (L.map encK) = true then some (T.bl (eqDD (L.map encK) (L.map encK))) else none) = _
  rw [if_pos ⟨d, d⟩, e]
theorem neD_self {L : List (Int × Int)} (h : (keys L).Nodup) : bNot bEqA (encD L) (encD L) = some (.bl false) := by unfold bNot; rw [eqD_self h]; rfl
/-- a for loop that goes on while a test holds of the items, else answers False -/
theorem forL_test {g : GF} {b : SF} {items : List T} (I : Env → Prop) (P : T → Bool) (step : ∀ t ∈ items, ∀ Γ, I Γ → ∃ Γ1, g t Γ = some Γ1 ∧ ((P t = true ∧ ∃ Γ2, b Γ1 = .nx Γ2 ∧ I Γ2) ∨ (P t = false ∧ ∃ Γ2, b Γ1 = .rt (.bl false) Γ2))) :
    ∀ Γ, I Γ → (items.all P = true ∧ ∃ Γ', sForL g b items Γ = .nx Γ' ∧ I Γ') ∨ (items.all P = false ∧ ∃ Γ', sForL g b items Γ = .rt (.bl false) Γ') := by
  induction items with
  | nil => intro Γ h; exact .inl ⟨rfl, Γ, rfl, h⟩
  | cons t ts ih =>
    intro Γ h
    obtain ⟨Γ1, e1, e2⟩ := step t List.mem_cons_self Γ h
    unfold sForL
    rw [e1, List.all_cons]
    simp only
    rcases e2 with ⟨hp, Γ2, e2, h2⟩ | ⟨hp, Γ2, e2⟩
    · rw [e2, hp, Bool.true_and]
      exact ih (fun t ht => step t (List.mem_cons_of_mem _ ht)) Γ2 h2
    · rw [e2, hp, Bool.false_and]
      exact .inr ⟨rfl, Γ2, rfl⟩
theorem all_bls {xs : List T} {p : T → Bool} : tAll [.lst (xs.map fun t => .bl (p t))] = some (.bl (xs.all p)) := by
  show (tbls _).map (fun bs => T.bl (bs.all id)) = _
  have : xs.map (fun t => T.bl (p t)) = (xs.map p).map T.bl := by rw [List.map_map]; rfl
  rw [this, tbls_map]
  simp [List.all_map]
theorem lk_put {d : List (Int × Int)} {k v x : Int} : lk (putI d k v) x = if x = k then some v else lk d x := by
  unfold putI
  rw [any_key]
  by_cases h : k ∈ keys d
  · rw [if_pos (by simpa using h)]
    induction d with
    | nil => cases h
    | cons q d ih =>
      obtain ⟨a, b⟩ := q
      rw [List.map_cons]
      by_cases e : a = k
      · subst e
        rw [if_pos rfl, lk_cons, lk_cons]
        by_cases e2 : x = a
        · subst e2; rw [if_pos rfl, if_pos rfl]
        · rw [if_neg (fun e => e2 e.symm), if_neg e2, if_neg (fun e => e2 e.symm)]
          by_cases h2 : a ∈ keys d
          · rw [ih h2, if_neg e2]
          · have : d.map (fun q => if q.1 = a then (q.1, v) else q) = d := by
              conv => rhs; rw [← List.map_id d]
              apply List.map_congr_left
              intro q hq
              rw [if_neg (fun e => h2 (by rw [← e]; exact List.mem_map.mpr ⟨q, hq, rfl⟩))]
              rfl
            rw [this]
      · rw [if_neg e, lk_cons, lk_cons]
        have h2 : k ∈ keys d := by
          rw [keys_cons] at h
          rcases List.mem_cons.mp h with h | h
          · exact absurd h.symm e
          · exact h
        by_cases e2 : a = x
        · subst e2
          rw [if_pos rfl, if_neg e, if_pos rfl]
        · rw [if_neg e2, if_neg e2, ih h2]
  · rw [if_neg (by simpa using h), lk_app]
    by_cases e : x = k
    · subst e
      rw [if_pos rfl, lk_none.mpr h, Option.none_or, lk_cons, if_pos rfl]
    · rw [if_neg e, lk_cons, if_neg (fun q => e q.symm)]
      show (lk d x).or none = _
      rw [Option.or_none]
end Lw
namespace Lw
open PySem hiding Env
open PyProof.Rows L2 Tm
/-! ### ways up -/
def encW : Option Nat → T
  | none => .non | some q => .int (q : Nat)
def encU (u : List (Option Nat)) : T := .tup (u.map encW)
def encP (xs : List Nat) : T := .lst (xs.map fun x => T.int (x : Nat))
structure Wu (u : List (Option Nat)) (r : Nat → Nat) (root : Nat) : Prop where
  l1 : 1 ≤ u.length
  l2 : u.length ≤ 8
  rt : root < u.length
  r0 : u[root]? = some none
  up : ∀ p, p < u.length → p ≠ root → ∃ q, u[p]? = some (some q) ∧ q < u.length ∧ r q < r p
  rb : ∀ p, p < u.length → r p < u.length
def pathN (u : List (Option Nat)) : Nat → Nat → List Nat
  | 0, p => [p]
  | f + 1, p => match u[p]? with
    | some (some q) => p :: pathN u f q
    | _ => [p]
def path (u : List (Option Nat)) (p : Nat) : List Nat := pathN u 8 p
section
variable {u : List (Option Nat)} {r : Nat → Nat} {root : Nat}
theorem Wu.cases (h : Wu u r root) {p : Nat} (hp : p < u.length) : u[p]? = some none ∨ ∃ q, u[p]? = some (some q) ∧ q < u.length ∧ r q < r p := by
  by_cases e : p = root
  · rw [e]; exact .inl h.r0
  · exact .inr (h.up p hp e)
theorem Wu.path_le (h : Wu u r root) : ∀ {f p : Nat}, p < u.length → ∀ x ∈ pathN u f p, x < u.length ∧ r x ≤ r p
  | 0, p, hp, x, hx => by rw [List.mem_singleton.mp hx]; exact ⟨hp, Nat.le_refl _⟩
  | f + 1, p, hp, x, hx => by
    unfold pathN at hx
    rcases h.cases hp with e | ⟨q, e, hq, hr⟩
    · rw [e] at hx
      rw [List.mem_singleton.mp hx]; exact ⟨hp, Nat.le_refl _⟩
    · rw [e] at hx
      rcases List.mem_cons.mp hx with rfl | hx
      · exact ⟨hp, Nat.le_refl _⟩
      · have := h.path_le hq x hx
        exact ⟨this.1, by omega⟩
theorem Wu.path_nodup (h : Wu u r root) : ∀ {f p : Nat}, p < u.length → (pathN u f p).Nodup
  | 0, p, hp => by simp [pathN]
  | f + 1, p, hp => by
    unfold pathN
    rcases h.cases hp with e | ⟨q, e, hq, hr⟩
    · rw [e]; simp
    · rw [e]
      refine List.nodup_cons.mpr ⟨fun hm => ?_, h.path_nodup hq⟩
      have := (h.path_le hq p hm).2
      omega
theorem Wu.path_len (h : Wu u r root) : ∀ {f p : Nat}, p < u.length → (pathN u f p).length ≤ r p + 1
  | 0, p, hp => by simp [pathN]
  | f + 1, p, hp => by
    unfold pathN
    rcases h.cases hp with e | ⟨q, e, hq, hr⟩
    · rw [e]; simp
    · rw [e]
      have := h.path_len (f := f) hq
      simp only [List.length_cons]; omega
theorem pathN_some {f p q : Nat} (e : u[p]? = some (some q)) : pathN u (f + 1) p = p :: pathN u f q := by
  show (match u[p]? with | some (some q) => p :: pathN u f q | _ => [p]) = _
  rw [e]
theorem path_ne (u : List (Option Nat)) (f p : Nat) : ∃ t, pathN u f p = p :: t := by
  cases f with
  | zero => exact ⟨[], rfl⟩
  | succ f =>
    unfold pathN
    split
    · exact ⟨_, rfl⟩
    · exact ⟨[], rfl⟩
end
theorem at_last {α : Type} (xs : List α) (x : α) : L2.atI (xs ++ [x]) (-1) = some x := by
  unfold L2.atI L2.ixN
  rw [if_neg (by omega), if_pos (by simp only [List.length_append, List.length_singleton]; omega)]
  have e : ((-1 : Int) + ((xs ++ [x]).length : Nat)).toNat = xs.length := by simp only [List.length_append, List.length_singleton]; omega
  simp only [Option.bind_some, e]
  simp
theorem at_nat {α : Type} (xs : List α) (k : Nat) : L2.atI xs (k : Int) = xs[k]? := by
  unfold L2.atI L2.ixN
  rw [if_pos (Int.natCast_nonneg _)]
  by_cases h : k < xs.length
  · rw [if_pos (by omega)]; rfl
  · rw [if_neg (by omega), List.getElem?_eq_none (by omega)]; rfl
theorem ixU {u : List (Option Nat)} {p : Nat} {w : Option Nat} (h : u[p]? = some w) : tIxA (encU u) (.int (p : Nat)) = some (encW w) := by
  show L2.atI (u.map encW) (p : Int) = _
  rw [at_nat, List.getElem?_map, h]; rfl
theorem ixP_last (xs : List Nat) (x : Nat) : tIxA (encP (xs ++ [x])) (.int (-1)) = some (.int (x : Nat)) := by
  show L2.atI ((xs ++ [x]).map fun x => T.int (x : Nat)) (-1) = _
  rw [List.map_append]
  exact at_last _ _
theorem ixP {xs : List Nat} {k x : Nat} (h : xs[k]? = some x) : tIxA (encP xs) (.int (k : Nat)) = some (.int (x : Nat)) := by
  show L2.atI (xs.map fun x => T.int (x : Nat)) (k : Int) = _
  rw [at_nat, List.getElem?_map, h]; rfl
theorem appP {xs : List Nat} {x : Nat} (h : xs.length < 100000) : lmAppend (encP xs) [.int (x : Nat)] = some (encP (xs ++ [x]), .non) := by
  show (if (xs.map _).length < 100000 then _ else _) = _
  rw [if_pos (by rw [List.length_map]; exact h)]
  show some (T.lst _, T.non) = some (T.lst _, T.non)
  rw [List.map_append]; rfl
theorem lenP (xs : List Nat) : tLen [encP xs] = some (.int (xs.length : Nat)) := by
  show some (T.int ((xs.map _).length : Nat)) = _
  rw [List.length_map]
theorem lenU (u : List (Option Nat)) : tLen [encU u] = some (.int (u.length : Nat)) := by
  show some (T.int ((u.map _).length : Nat)) = _
  rw [List.length_map]
theorem own_is {j : Nat} {eg : EF} {Γ Γ1 : Env} {t y z : T} (h0 : (sl Γ j).isSome = true) (h1 : eg Γ = .ok Γ1 y) (h2 : sl Γ1 j = some t) (h3 : tIxO t y = some z) : eOwn j eg Γ = .ok Γ1 z := by
  unfold eOwn
  rw [if_pos h0, h1]
  simp only [Res.bind, h2, Option.bind_some, h3, Res.of]
theorem mut_is {j : Nat} {n : String} {op : T → List T → Option (T × T)} {xf : Env → Res (List T)} {Γ Γ1 : Env} {t t' res : T} {args : List T} (h1 : (sl Γ j).bind kT = some n) (hx : xf Γ = .ok Γ1 args) (h2 : sl Γ1 j = some t) (e : op t args = some (t', res)) : eMut j n op xf Γ = .ok (Γ1.set j (some t')) res := by
  unfold eMut
  rw [if_pos h1, hx]
  simp only [Res.bind, h2, Option.bind_some, e]
theorem expr_is {ef : EF} {Γ Γ1 : Env} {t : T} (h : ef Γ = .ok Γ1 t) : sExpr ef Γ = .nx Γ1 := by unfold sExpr; rw [h]; rfl
theorem asg_is {j : Nat} {ef : EF} {Γ Γ1 : Env} {t : T} (h : ef Γ = .ok Γ1 t) : sAsg j ef Γ = .nx (Γ1.set j (some t)) := by unfold sAsg; rw [h]; rfl
def phC : Env → Res Bool := (eB (pBl (pBin (bNot bIs) (pBin tIxA (pVar 0) (pBin tIxA (pVar 2) (pUn uNeg (pC (.int 1))))) (pC .non))))
def phB : SF := (sExpr (eMut 2 "list" lmAppend (eCons (eBin tIxA (eP (pVar 0)) (eOwn 2 (eP (pUn uNeg (pC (.int 1)))))) eNil)))
def wyB : SF := (sSeq (sIf (eB (pBl (pBin bGt (pArg tLen (pCons (pVar 2) pNil)) (pArg tLen (pCons (pVar 0) pNil))))) (sRet (eP (pC .non))) sNil) phB)
section
variable {u : List (Option Nat)} {r : Nat → Nat} {root : Nat}
def eH (u : List (Option Nat)) (a : Nat) (xs : List Nat) : Env := [some (encU u), some (.int (a : Nat)), some (encP xs)]
theorem phC_is {a : Nat} {pre : List Nat} {p : Nat} {w : Option Nat} (hw : u[p]? = some w) : phC (eH u a (pre ++ [p])) = .ok (eH u a (pre ++ [p])) (w.isSome) := by
  have i1 := ixP_last pre p
  have i2 := ixU hw
  have i3 : bNot bIs (encW w) .non = some (.bl w.isSome) := by cases w <;> rfl
  simp only [phC, eB, pBl, pBin, pVar, pC, pUn, uNeg, eH, sl, List.getElem?_cons_zero, List.getElem?_cons_succ, Option.bind_some, i1, i2, i3, blT, Res.of, Option.getD_some, Option.join_some]
theorem phB_is {a : Nat} {pre : List Nat} {p q : Nat} (hw : u[p]? = some (some q)) (hl : pre.length < 1000) : phB (eH u a (pre ++ [p])) = .nx (eH u a (pre ++ [p] ++ [q])) := by
  have i1 := ixP_last pre p
  have i2 := ixU hw
  have e1 : eOwn 2 (eP (pUn uNeg (pC (.int 1)))) (eH u a (pre ++ [p])) = .ok (eH u a (pre ++ [p])) (.int (p : Nat)) := by
    exact own_is rfl rfl rfl i1
  have e2 : eBin tIxA (eP (pVar 0)) (eOwn 2 (eP (pUn uNeg (pC (.int 1))))) (eH u a (pre ++ [p])) = .ok (eH u a (pre ++ [p])) (.int (q : Nat)) := eBin_k rfl e1 i2
  have e3 : lmAppend (encP (pre ++ [p])) [.int (q : Nat)] = some (encP (pre ++ [p] ++ [q]), .non) := appP (by simp only [List.length_append, List.length_singleton]; omega)
  exact expr_is (mut_is rfl (eCons_ok e2 eNil_ok) rfl e3)
theorem wyB_is {a : Nat} {pre : List Nat} {p q : Nat} (hw : u[p]? = some (some q)) (hl : pre.length < u.length) (h8 : u.length ≤ 8) : wyB (eH u a (pre ++ [p])) = .nx (eH u a (pre ++ [p] ++ [q])) := by
  unfold wyB
  rw [sSeq_nx (Γ1 := eH u a (pre ++ [p]))]
  · exact phB_is hw (by omega)
  · refine (sIf_f (Γ1 := eH u a (pre ++ [p])) ?_).trans rfl
    have t1 := lenP (pre ++ [p])
    have t2 := lenU u
    have t3 : bGt (.int ((pre ++ [p]).length : Nat)) (.int (u.length : Nat)) = some (.bl false) := by
      show some (T.bl (decide _)) = _
      rw [decide_eq_false (by simp only [List.length_append, List.length_singleton]; omega)]
    show Res.of _ _ = _
    have : pBl (pBin bGt (pArg tLen (pCons (pVar 2) pNil)) (pArg tLen (pCons (pVar 0) pNil))) (eH u a (pre ++ [p])) = some false := by
      show ((tLen [encP (pre ++ [p])]).bind fun x => (tLen [encU u]).bind fun y => bGt x y).bind blT = _
      rw [t1, t2]
      show (bGt (.int ((pre ++ [p]).length : Nat)) (.int (u.length : Nat))).bind blT = _
      rw [t3]; rfl
    rw [this]; rfl
theorem ph_loop (h : Wu u r root) {B : SF} (hB : ∀ a pre p q, u[p]? = some (some q) → pre.length < u.length → B (eH u a (pre ++ [p])) = .nx (eH u a (pre ++ [p] ++ [q]))) {a : Nat} :
    ∀ (f K p : Nat) (pre : List Nat), p < u.length → r p ≤ f → f < K → pre.length + r p < u.length → sWhile phC B K (eH u a (pre ++ [p])) = .nx (eH u a (pre ++ pathN u f p))
  | f, 0, p, pre, hp, hr, hk, hl => by omega
  | f, K + 1, p, pre, hp, hr, hk, hl => by
    unfold sWhile
    rcases h.cases hp with e | ⟨q, e, hq, hrq⟩
    · rw [phC_is e]
      have : pathN u f p = [p] := by
        cases f with
        | zero => rfl
        | succ f => unfold pathN; rw [e]
      rw [this]; rfl
    · rw [phC_is e]
      show (match B (eH u a (pre ++ [p])) with | .nx Γ2 => sWhile phC B K Γ2 | .ct Γ2 => sWhile phC B K Γ2 | .bk Γ2 => .nx Γ2 | o => o) = _
      rw [hB a pre p q e (by omega)]
      cases f with
      | zero => omega
      | succ f =>
        have ih := ph_loop h hB (a := a) f K q (pre ++ [p]) hq (by omega) (by omega) (by simp only [List.length_append, List.length_singleton]; omega)
        show sWhile phC B K _ = _
        rw [ih, pathN_some e]
        simp
theorem way_run (h : Wu u r root) {p : Nat} (hp : p < u.length) : Cv Mway_up 3 [encU u, .int (p : Nat)] (encP (path u p)) := by
  have hb := h.rb p hp
  have l2 := h.l2
  refine ⟨eH u p (path u p), ?_⟩
  have e := ph_loop h (B := wyB) (fun a pre p q e hl => wyB_is e hl h.l2) (a := p) 8 1000000 p [] hp (by omega) (by omega) (by simpa using hb)
  show Mway_up [some (encU u), some (.int (p : Nat)), none] = _
  unfold Mway_up
  refine Eq.trans (sSeq_nx (Γ1 := eH u p [p]) ?_) ?_
  · rfl
  refine Eq.trans (sSeq_nx (Γ1 := eH u p (path u p)) ?_) ?_
  · exact e
  rfl
end
end Lw
namespace Lw
open PySem hiding Env
open PyProof.Rows L2 Tm
theorem sFor_run {xf : Env → Res (List T)} {g : GF} {b : SF} {Γ Γ1 : Env} {items : List T} (hx : xf Γ = .ok Γ1 items) : sFor xf g b Γ = sForL g b items Γ1 := by unfold sFor; rw [hx]; rfl
theorem rngI {f : EF} {Γ Γ1 : Env} {j : Int} (h : f Γ = .ok Γ1 (.int j)) (h0 : 0 ≤ j) (h1 : j ≤ 1000000) : eArgs rng1 (eCons f eNil) Γ = .ok Γ1 ((List.range j.toNat).map fun k : Nat => T.int (k : Int)) := by
  unfold eArgs
  rw [eCons_ok h eNil_ok]
  simp only [Res.bind]
  show Res.of Γ1 (rangeT 0 j) = _
  rw [rangeT_ok h0 h1]; rfl
theorem rng2I {f g : EF} {Γ Γ1 Γ2 : Env} {i j : Int} (h : f Γ = .ok Γ1 (.int i)) (h' : g Γ1 = .ok Γ2 (.int j)) (h0 : 0 ≤ i ∧ i ≤ 1000000) (h1 : 0 ≤ j ∧ j ≤ 1000000) : eArgs rng2 (eCons f (eCons g eNil)) Γ = .ok Γ2 ((List.range (j - i).toNat).map fun k : Nat => T.int (i + (k : Int))) := by
  unfold eArgs
  rw [eCons_ok h (eCons_ok h' eNil_ok)]
  simp only [Res.bind]
  show Res.of Γ2 (Tm.rangeT i j) = _
  unfold Tm.rangeT
  rw [if_pos (by omega)]; rfl
theorem arg_is {op : List T → Option T} {xf : Env → Res (List T)} {Γ Γ1 : Env} {ts : List T} {t : T} (hx : xf Γ = .ok Γ1 ts) (e : op ts = some t) : eArg op xf Γ = .ok Γ1 t := by
  unfold eArg
  rw [hx]
  simp only [Res.bind, e, Res.of]
theorem idx_le : ∀ {l : List Nat} {a q : Nat}, l[a]? = some q → l.idxOf q ≤ a
  | [], a, q, h => by simp at h
  | x :: l, 0, q, h => by
    have : x = q := by simpa using h
    subst this
    simp
  | x :: l, a + 1, q, h => by
    have h2 : l[a]? = some q := by simpa using h
    have := idx_le h2
    rw [List.idxOf_cons]
    cases (x == q) <;> simp only [cond_true, cond_false] <;> omega
/-- the places in drawn order -/
structure Pl (pl : List Nat) (k : Nat) : Prop where
  len : pl.length = k
  nd : pl.Nodup
  mem : ∀ x, x ∈ pl ↔ x < k
theorem Pl.ins {pl : List Nat} {k d : Nat} (h : Pl pl k) : Pl (pl.take d ++ [k] ++ pl.drop d) (k + 1) := by
  have pm : (pl.take d ++ [k] ++ pl.drop d).Perm (k :: pl) := by
    have h1 : (pl.take d ++ [k] ++ pl.drop d).Perm (([k] ++ pl.take d) ++ pl.drop d) := List.Perm.append_right _ List.perm_append_comm
    have h2 : ([k] ++ pl.take d) ++ pl.drop d = k :: pl := by rw [List.append_assoc, List.take_append_drop]; rfl
    rw [h2] at h1; exact h1
  refine ⟨by rw [pm.length_eq, List.length_cons, h.len], pm.nodup_iff.mpr (List.nodup_cons.mpr ⟨fun hm => ?_, h.nd⟩), fun x => ?_⟩
  · have := (h.mem k).mp hm; omega
  · rw [pm.mem_iff, List.mem_cons, h.mem x]; omega
def eV (ns : List Int) (p c : Int) (n sh : Nat) (pl : List Nat) (x4 x5 x6 x7 : Option T) : Env := [some (tp ns p c), some (.int (n : Nat)), some (.int (sh : Nat)), some (encP pl), x4, x5, x6, x7]
def insB : SF := (sExpr (eMut 3 "list" lmInsert (eCons (eCallR [some 0, none] .imm M_law_e_draw 5 (eCons (eP (pVar 0)) (eCons (eP (pBin bAdd (pVar 4) (pC (.int 1)))) eNil))) (eCons (eP (pVar 4)) eNil))))
theorem insB_is {ns : List Int} {p c : Int} {n sh k : Nat} {pl : List Nat} {x5 x6 x7 : Option T} (hp : 0 ≤ p) (hp1 : p ≤ 900000000) (h : Pl pl k) (hk : k < 100) :
    ∃ pl' p' c', insB (eV ns p c n sh pl (some (.int (k : Nat))) x5 x6 x7) = .nx (eV ns p' c' n sh pl' (some (.int (k : Nat))) x5 x6 x7) ∧ Pl pl' (k + 1) ∧ 0 ≤ p' ∧ p' ≤ p + 1 := by
  obtain ⟨d, p', c', e, d0, d1, q0, q1⟩ := call_draw (Γ := eV ns p c n sh pl (some (.int (k : Nat))) x5 x6 x7) (j := 0) (ef := eP (pBin bAdd (pVar 4) (pC (.int 1)))) (m := (k : Int) + 1) (p := p) (c := c) (ns := ns) rfl rfl hp (by omega) (by omega) (by omega)
  refine ⟨pl.take d.toNat ++ [k] ++ pl.drop d.toNat, p', c', ?_, h.ins, q0, q1⟩
  have ei : lmInsert (encP pl) [.int d, .int (k : Nat)] = some (encP (pl.take d.toNat ++ [k] ++ pl.drop d.toNat), .non) := by
    show (if _ then _ else _) = _
    rw [if_pos ⟨by rw [List.length_map, h.len]; omega, d0, by omega⟩]
    show some (T.lst _, T.non) = some (T.lst _, T.non)
    rw [List.map_append, List.map_append, List.map_take, List.map_drop]; rfl
  exact expr_is (mut_is (Γ1 := eV ns p' c' n sh pl (some (.int (k : Nat))) x5 x6 x7) (t := encP pl) rfl (eCons_ok e (eCons_ok rfl eNil_ok)) rfl ei)
def upB : SF := (sSeq (sAsg 7 (eBin tIxA (eArg mkLst (eCons (eCallR [some 0, none] .imm M_law_e_draw 5 (eCons (eP (pVar 0)) (eCons (eP (pVar 6)) eNil))) (eCons (eP (pBin bSub (pVar 6) (pC (.int 1)))) (eCons (eP (pC (.int 0))) (eCons (eCallR [some 0, none] .imm M_law_e_draw 5 (eCons (eP (pVar 0)) (eCons (eP (pVar 6)) eNil))) eNil))))) (eP (pVar 2)))) (sSto 5 (eOwn 3 (eP (pVar 7))) (eOwn 3 (eP (pVar 6)))))
def encL (u : List (Option Nat)) : T := .lst (u.map encW)
/-- done as far as k -/
structure Uk (pl : List Nat) (n k : Nat) (u : List (Option Nat)) : Prop where
  len : u.length = n
  old : ∀ i v, pl[i]? = some v → (i = 0 ∨ k < i) → u[v]? = some none
  new : ∀ i v, pl[i]? = some v → 0 < i → i ≤ k → ∃ a q, a < i ∧ pl[a]? = some q ∧ u[v]? = some (some q)
theorem nodup_ix {l : List Nat} (h : l.Nodup) {i j v : Nat} (h1 : l[i]? = some v) (h2 : l[j]? = some v) : i = j := by
  obtain ⟨hi, e1⟩ := List.getElem?_eq_some_iff.mp h1
  obtain ⟨hj, e2⟩ := List.getElem?_eq_some_iff.mp h2
  exact (List.getElem_inj h).mp (e1.trans e2.symm)
theorem upB_is {ns : List Int} {p c : Int} {n sh k : Nat} {pl : List Nat} {u : List (Option Nat)} {x4 x7 : Option T} (hp : 0 ≤ p) (hp1 : p ≤ 900000000) (h : Pl pl n) (hsh : sh < 4) (hU : Uk pl n k u) (hk : k + 1 < n) (hn : n ≤ 8) :
    ∃ u' p' c' x7', upB (eV ns p c n sh pl x4 (some (encL u)) (some (.int ((k + 1 : Nat) : Int))) x7) = .nx (eV ns p' c' n sh pl x4 (some (encL u')) (some (.int ((k + 1 : Nat) : Int))) x7') ∧ Uk pl n (k + 1) u' ∧ 0 ≤ p' ∧ p' ≤ p + 2 := by
  obtain ⟨d1, p1, c1, e1, a1, a2, q0, q1⟩ := call_draw (Γ := eV ns p c n sh pl x4 (some (encL u)) (some (.int ((k + 1 : Nat) : Int))) x7) (j := 0) (ef := eP (pVar 6)) (m := ((k + 1 : Nat) : Int)) (p := p) (c := c) (ns := ns) rfl rfl hp (by omega) (by omega) (by omega)
  obtain ⟨d2, p2, c2, e2, b1, b2, q2, q3⟩ := call_draw (Γ := eV ns p1 c1 n sh pl x4 (some (encL u)) (some (.int ((k + 1 : Nat) : Int))) x7) (j := 0) (ef := eP (pVar 6)) (m := ((k + 1 : Nat) : Int)) (p := p1) (c := c1) (ns := ns) rfl rfl q0 (by omega) (by omega) (by omega)
  have lst : eArg mkLst (eCons (eCallR [some 0, none] .imm M_law_e_draw 5 (eCons (eP (pVar 0)) (eCons (eP (pVar 6)) eNil))) (eCons (eP (pBin bSub (pVar 6) (pC (.int 1)))) (eCons (eP (pC (.int 0))) (eCons (eCallR [some 0, none] .imm M_law_e_draw 5 (eCons (eP (pVar 0)) (eCons (eP (pVar 6)) eNil))) eNil)))) (eV ns p c n sh pl x4 (some (encL u)) (some (.int ((k + 1 : Nat) : Int))) x7) = .ok (eV ns p2 c2 n sh pl x4 (some (encL u)) (some (.int ((k + 1 : Nat) : Int))) x7) (.lst [.int d1, .int (((k + 1 : Nat) : Int) - 1), .int 0, .int d2]) :=
    arg_is (eCons_ok e1 (eCons_ok rfl (eCons_ok rfl (eCons_ok e2 eNil_ok)))) rfl
  obtain ⟨a, ha, ia⟩ : ∃ a : Nat, a < k + 1 ∧ tIxA (.lst [.int d1, .int (((k + 1 : Nat) : Int) - 1), .int 0, .int d2]) (.int (sh : Nat)) = some (.int (a : Nat)) := by
    have i : ∀ x : T, ([T.int d1, .int (((k + 1 : Nat) : Int) - 1), .int 0, .int d2])[sh]? = some x → tIxA (.lst [.int d1, .int (((k + 1 : Nat) : Int) - 1), .int 0, .int d2]) (.int (sh : Nat)) = some x := fun x e => (at_nat _ _).trans e
    have : sh = 0 ∨ sh = 1 ∨ sh = 2 ∨ sh = 3 := by omega
    rcases this with rfl | rfl | rfl | rfl
    · exact ⟨d1.toNat, by omega, i _ (by rw [Int.toNat_of_nonneg a1]; rfl)⟩
    · exact ⟨k, by omega, i _ (by rw [show ((k + 1 : Nat) : Int) - 1 = (k : Nat) by omega]; rfl)⟩
    · exact ⟨0, by omega, i _ rfl⟩
    · exact ⟨d2.toNat, by omega, i _ (by rw [Int.toNat_of_nonneg b1]; rfl)⟩
  have hla : a < pl.length := by rw [h.len]; omega
  have hlk : k + 1 < pl.length := by rw [h.len]; omega
  have pa : pl[a]? = some pl[a] := List.getElem?_eq_getElem hla
  have pk : pl[k + 1]? = some pl[k + 1] := List.getElem?_eq_getElem hlk
  have vl : pl[k + 1] < n := (h.mem _).mp (List.getElem_mem hlk)
  have st : stoL (encL u) (.int (pl[k + 1] : Nat)) (.int (pl[a] : Nat)) = some (encL (u.set pl[k + 1] (some pl[a]))) := by
    show (L2.ixN (u.map encW).length (pl[k + 1] : Int)).map (fun k => T.lst ((u.map encW).set k (.int (pl[a] : Nat)))) = _
    unfold L2.ixN
    rw [if_pos (Int.natCast_nonneg _), if_pos (by rw [List.length_map, hU.len]; omega)]
    show some (T.lst ((u.map encW).set pl[k + 1] (encW (some pl[a])))) = _
    rw [← List.map_set]; rfl
  refine ⟨u.set pl[k + 1] (some pl[a]), p2, c2, some (.int (a : Nat)), ?_, ⟨by rw [List.length_set, hU.len], fun i v hv hi => ?_, fun i v hv h0 hi => ?_⟩, q2, by omega⟩
  · unfold upB
    refine Eq.trans (sSeq_nx (asg_is (eBin_k lst rfl ia))) ?_
    show sSto 5 (eOwn 3 (eP (pVar 7))) (eOwn 3 (eP (pVar 6))) (eV ns p2 c2 n sh pl x4 (some (encL u)) (some (.int ((k + 1 : Nat) : Int))) (some (.int (a : Nat)))) = _
    have o1 : eOwn 3 (eP (pVar 7)) (eV ns p2 c2 n sh pl x4 (some (encL u)) (some (.int ((k + 1 : Nat) : Int))) (some (.int (a : Nat)))) = .ok _ (.int (pl[a] : Nat)) := own_is (t := encP pl) rfl rfl rfl (ixP pa)
    have o2 : eOwn 3 (eP (pVar 6)) (eV ns p2 c2 n sh pl x4 (some (encL u)) (some (.int ((k + 1 : Nat) : Int))) (some (.int (a : Nat)))) = .ok _ (.int (pl[k + 1] : Nat)) := own_is (t := encP pl) rfl rfl rfl (ixP pk)
    show sStoK stoL 5 (eOwn 3 (eP (pVar 7))) (eOwn 3 (eP (pVar 6))) _ = _
    unfold sStoK
    rw [o1]
    simp only [Res.sB]
    rw [o2]
    simp only
    show (match stoL (encL u) (.int (pl[k + 1] : Nat)) (.int (pl[a] : Nat)) with | some t' => Out.nx _ | none => .stuck) = _
    rw [st]; rfl
  · have ne : pl[k + 1] ≠ v := fun q => by
      have := nodup_ix h.nd (pk.trans (by rw [q])) hv
      omega
    rw [List.getElem?_set_ne ne]
    exact hU.old i v hv (by omega)
  · by_cases q : i = k + 1
    · subst q
      rw [pk] at hv
      cases hv
      exact ⟨a, pl[a], ha, pa, by rw [List.getElem?_set_self (by rw [hU.len]; exact vl)]⟩
    · have ne : pl[k + 1] ≠ v := fun q' => by
        have := nodup_ix h.nd (pk.trans (by rw [q'])) hv
        omega
      rw [List.getElem?_set_ne ne]
      exact hU.new i v hv h0 (by omega)
theorem Uk.wu {pl : List Nat} {n : Nat} {u : List (Option Nat)} (h : Pl pl n) (hU : Uk pl n (n - 1) u) (h1 : 1 ≤ n) (h8 : n ≤ 8) : ∃ r root, Wu u r root := by
  have l0 : 0 < pl.length := by rw [h.len]; omega
  refine ⟨fun p => pl.idxOf p, pl[0], ⟨by rw [hU.len]; exact h1, by rw [hU.len]; exact h8, ?_, hU.old 0 _ (List.getElem?_eq_getElem l0) (.inl rfl), fun p hp ne => ?_, fun p hp => ?_⟩⟩
  · rw [hU.len]; exact (h.mem _).mp (List.getElem_mem l0)
  · rw [hU.len] at hp
    have hm := (h.mem p).mpr hp
    have hi := List.idxOf_lt_length_iff.mpr hm
    have e : pl[pl.idxOf p]? = some p := by rw [List.getElem?_eq_getElem hi, List.getElem_idxOf hi]
    have n0 : pl.idxOf p ≠ 0 := fun q => by
      rw [q, List.getElem?_eq_getElem l0] at e
      exact ne (Option.some.inj e).symm
    obtain ⟨a, q, ha, hq, hu⟩ := hU.new _ p e (by omega) (by have := h.len; omega)
    refine ⟨q, hu, by rw [hU.len]; exact (h.mem q).mp (List.mem_of_getElem? hq), ?_⟩
    have := idx_le hq
    show pl.idxOf q < pl.idxOf p
    omega
  · rw [hU.len] at hp ⊢
    rw [← h.len]
    exact List.idxOf_lt_length_iff.mpr ((h.mem p).mpr hp)
theorem noK {u : List (Option Nat)} {root : Nat} (h : u[root]? = some none) : (u.map encW).all isK = false := by
  cases q : (u.map encW).all isK with
  | false => rfl
  | true =>
    have := List.all_eq_true.mp q .non (List.mem_map.mpr ⟨none, List.mem_of_getElem? h, rfl⟩)
    cases this
def encF (u : List (Option Nat)) : T := .ins "" (mkFs (u.map encW))
theorem ways_ok {ns : List Int} {p c : Int} (hp : 0 ≤ p) (hp1 : p ≤ 800000000) : ∃ u r root p' c' G, M_law_e_ways (env0 8 [tp ns p c]) = .rt (encF u) (some (tp ns p' c') :: G) ∧ Wu u r root ∧ 0 ≤ p' ∧ p' ≤ p + 40 := by
  obtain ⟨d, p1, c1, e1, a1, a2, q0, q1⟩ := call_draw (Γ := [some (tp ns p c), none, none, none, none, none, none, none]) (j := 0) (ef := eP (pC (.int 8))) (m := 8) (p := p) (c := c) (ns := ns) rfl rfl hp (by omega) (by omega) (by omega)
  obtain ⟨n, hn⟩ : ∃ n : Nat, (1 : Int) + d = (n : Nat) := ⟨(1 + d).toNat, by omega⟩
  obtain ⟨d2, p2, c2, e2, b1, b2, q2, q3⟩ := call_draw (Γ := [some (tp ns p1 c1), some (.int (n : Nat)), none, none, none, none, none, none]) (j := 0) (ef := eP (pC (.int 4))) (m := 4) (p := p1) (c := c1) (ns := ns) rfl rfl q0 (by omega) (by omega) (by omega)
  obtain ⟨sh, hsh⟩ : ∃ sh : Nat, d2 = (sh : Nat) := ⟨d2.toNat, by omega⟩
  subst hsh
  have n1 : 1 ≤ n := by omega
  have n8 : n ≤ 8 := by omega
  obtain ⟨Γ3, l3, pl, p3, c3, x4, rfl, hpl, q4, q5⟩ := forL_ind (g := gN 4) (b := insB) (items := (List.range (n : Int).toNat).map fun k : Nat => T.int (k : Int)) (Γ := eV ns p2 c2 n sh [] none none none none)
    (I := fun k Γ => ∃ pl p' c' x4, Γ = eV ns p' c' n sh pl x4 none none none ∧ Pl pl k ∧ 0 ≤ p' ∧ p' ≤ p2 + k) ⟨[], p2, c2, none, rfl, ⟨rfl, List.nodup_nil, fun x => by simp⟩, q2, by omega⟩
    (fun k t Γ ht ⟨pl, p', c', x4, e, hpl, h0, h1⟩ => by
      obtain ⟨hk, rfl⟩ := range_get ht
      subst e
      obtain ⟨pl', p4, c4, e4, hpl', g0, g1⟩ := insB_is (ns := ns) (p := p') (c := c') (n := n) (sh := sh) (k := k) (pl := pl) (x5 := none) (x6 := none) (x7 := none) h0 (by omega) hpl (by omega)
      exact ⟨_, _, rfl, e4, pl', p4, c4, _, rfl, hpl', g0, by omega⟩)
  rw [List.length_map, List.length_range, Int.toNat_natCast] at hpl q5
  obtain ⟨x1, e5⟩ := lc_run (v := 4) (Γ0 := eV ns p3 c3 n sh pl x4 none none none) (Γ := eV ns p3 c3 n sh pl x4 none none none) (u := eYes) (f := eP (pC .non)) (fun _ => true) (fun _ => .non) (items := (List.range (n : Int).toNat).map fun k : Nat => T.int (k : Int)) (x0 := x4)
    (rngI (f := eP (pVar 1)) rfl (by omega) (by omega)) rfl (by rw [List.length_map, List.length_range]; omega) (fun t _ => ⟨rfl, fun _ => rfl⟩)
  have u0 : (.lst (((((List.range (n : Int).toNat).map fun k : Nat => T.int (k : Int)).filter fun _ => true).map fun _ => T.non)) : T) = encL (List.replicate n none) := by
    rw [List.filter_eq_self.mpr fun _ _ => rfl, List.map_map, Int.toNat_natCast]
    show T.lst _ = T.lst _
    rw [List.map_replicate]
    congr 1
    refine List.ext_getElem (by simp) fun i h1 h2 => ?_
    simp [encW]
  rw [u0] at e5
  obtain ⟨Γ6, l6, u, p6, c6, x6, x7, rfl, hU, g0, g1⟩ := forL_ind (g := gN 6) (b := upB) (items := (List.range ((n : Int) - 1).toNat).map fun k : Nat => T.int (1 + (k : Int))) (Γ := eV ns p3 c3 n sh pl x1 (some (encL (List.replicate n none))) none none)
    (I := fun k Γ => ∃ u p' c' x6 x7, Γ = eV ns p' c' n sh pl x1 (some (encL u)) x6 x7 ∧ Uk pl n k u ∧ 0 ≤ p' ∧ p' ≤ p3 + 2 * k) ⟨_, p3, c3, none, none, rfl, ⟨by simp, fun i v hv _ => by
      have := (hpl.mem v).mp (List.mem_of_getElem? hv)
      rw [List.getElem?_replicate, if_pos this], fun i v _ h0 h1 => by omega⟩, q4, by omega⟩
    (fun k t Γ ht ⟨u, p', c', x6, x7, e, hU, h0, h1⟩ => by
      rw [List.getElem?_map] at ht
      obtain ⟨k', hk', rfl⟩ := Option.map_eq_some_iff.mp ht
      obtain ⟨hlt, hkk⟩ := List.getElem?_eq_some_iff.mp hk'
      rw [List.getElem_range] at hkk
      subst hkk
      rw [List.length_range] at hlt
      subst e
      obtain ⟨u', p7, c7, x7', e7, hU', m0, m1⟩ := upB_is (ns := ns) (p := p') (c := c') (n := n) (sh := sh) (k := k) (pl := pl) (u := u) (x4 := x1) (x7 := x7) h0 (by omega) hpl (by omega) hU (by omega) n8
      have ek : (1 : Int) + (k : Nat) = ((k + 1 : Nat) : Int) := by omega
      refine ⟨eV ns p' c' n sh pl x1 (some (encL u)) (some (.int ((k + 1 : Nat) : Int))) x7, _, ?_, e7, u', p7, c7, _, x7', rfl, hU', m0, by omega⟩
      rw [ek]; rfl)
  rw [List.length_map, List.length_range] at hU g1
  have hn1 : ((n : Int) - 1).toNat = n - 1 := by omega
  rw [hn1] at hU g1
  obtain ⟨r, root, hW⟩ := hU.wu hpl n1 n8
  refine ⟨u, r, root, p6, c6, [some (.int (n : Nat)), some (.int (sh : Nat)), some (encP pl), x1, some (encL u), x6, x7], ?_, hW, g0, by omega⟩
  show M_law_e_ways [some (tp ns p c), none, none, none, none, none, none, none] = _
  unfold M_law_e_ways
  have f1 : eBin bAdd (eP (pC (.int 1))) (eCallR [some 0, none] .imm M_law_e_draw 5 (eCons (eP (pVar 0)) (eCons (eP (pC (.int 8))) eNil))) [some (tp ns p c), none, none, none, none, none, none, none] = .ok [some (tp ns p1 c1), none, none, none, none, none, none, none] (.int (n : Nat)) :=
    eBin_k rfl e1 (by show some (T.int (1 + d)) = _; rw [hn])
  refine Eq.trans (sSeq_nx (asg_is f1)) ?_
  refine Eq.trans (sSeq_nx (asg_is e2)) ?_
  refine Eq.trans (sSeq_nx (Γ1 := eV ns p2 c2 n sh [] none none none none) rfl) ?_
  refine Eq.trans (sSeq_nx ((sFor_run (rngI (f := eP (pVar 1)) rfl (by omega) (by omega))).trans l3)) ?_
  refine Eq.trans (sSeq_nx (asg_is e5)) ?_
  refine Eq.trans (sSeq_nx ((sFor_run (rng2I (f := eP (pC (.int 1))) (g := eP (pVar 1)) rfl rfl (by omega) (by omega))).trans l6)) ?_
  have tt : tTupP [encL u] = some (encF u) := by
    show some (if (u.map encW).all isK = true then _ else _) = _
    rw [noK hW.r0]; rfl
  have : eP (pArg tTupP (pCons (pVar 5) pNil)) (eV ns p6 c6 n sh pl x1 (some (encL u)) x6 x7) = .ok (eV ns p6 c6 n sh pl x1 (some (encL u)) x6 x7) (encF u) := eP_ok tt
  unfold sRet
  rw [this]; rfl
end Lw
namespace Lw
open PySem hiding Env
open PyProof.Rows L2 Tm
/-! ### latenesses -/
def encT (xs : List Int) : T := .tup (xs.map T.int)
def lt (late : List Int) (x : Nat) : Int := (late[x]?).getD 0
structure Lt (u : List (Option Nat)) (root : Nat) (late : List Int) : Prop where
  len : late.length = u.length
  rt : late[root]? = some 0
  ot : ∀ p v, late[p]? = some v → p ≠ root → 1 ≤ v ∧ v ≤ 100
theorem fs_snd (xs : List T) : (mkFs xs).map Prod.snd = xs := by
  unfold mkFs
  rw [List.map_map]
  exact (List.map_congr_left fun _ _ => rfl).trans (List.map_id _)
theorem wk_F {u : List (Option Nat)} {root : Nat} (h : u[root]? = some none) : wk1 (encF u) = encU u := wk1_plain (noK h)
theorem dt_W (n : Nat) (w : Option Nat) : dtT n (encW w) = true := by cases w <;> (cases n <;> rfl)
theorem dt_U (n : Nat) (u : List (Option Nat)) : dtT (n + 1) (.tup (u.map encW)) = true := by
  show (u.map encW).all (dtT n) = true
  rw [List.all_map]
  exact List.all_eq_true.mpr fun w _ => dt_W n w
theorem ix_root {u : List (Option Nat)} {r : Nat → Nat} {root : Nat} (h : Wu u r root) : ixOf (u.map encW) .non = some root := by
  unfold ixOf
  refine List.findIdx?_eq_some_iff_getElem.mpr ⟨by rw [List.length_map]; exact h.rt, ?_, fun j hj => ?_⟩
  · have e := h.r0
    rw [List.getElem?_eq_getElem h.rt] at e
    rw [List.getElem_map, Option.some.inj e]; rfl
  · have hl : j < u.length := Nat.lt_trans hj h.rt
    obtain ⟨q, e, _⟩ := h.up j hl (by omega)
    rw [List.getElem?_eq_getElem hl] at e
    rw [List.getElem_map, Option.some.inj e]
    exact Bool.false_ne_true
end Lw
namespace Lw
open PySem hiding Env
open PyProof.Rows L2 Tm
/-! ### what kind a thing is of -/
def kno (t : T) : Bool := (tyN t).isSome
def isIB : T → Bool
  | .int _ => true | .bl _ => true | _ => false
def isBl : T → Bool
  | .bl _ => true | _ => false
def isTu : T → Bool
  | .tup _ => true | _ => false
def isLs : T → Bool
  | .lst _ => true | .scr _ => true | _ => false
def isDc : T → Bool
  | .dct _ => true | _ => false
def isSt : T → Bool
  | .str _ => true | _ => false
theorem kitAll : (["NoneType", "bool", "int", "str", "list", "tuple", "dict"].all fun m => (kitB m "int" == some (m == "int" || m == "bool")) && (kitB m "bool" == some (m == "bool")) && (kitB m "tuple" == some (m == "tuple")) && (kitB m "list" == some (m == "list")) && (kitB m "dict" == some (m == "dict")) && (kitB m "str" == some (m == "str"))) = true := by decide +kernel
theorem kitOf {m : String} (h : m ∈ ["NoneType", "bool", "int", "str", "list", "tuple", "dict"]) : kitB m "int" = some (m == "int" || m == "bool") ∧ kitB m "bool" = some (m == "bool") ∧ kitB m "tuple" = some (m == "tuple") ∧ kitB m "list" = some (m == "list") ∧ kitB m "dict" = some (m == "dict") ∧ kitB m "str" = some (m == "str") := by
  have := List.all_eq_true.mp kitAll m h
  simp only [Bool.and_eq_true, beq_iff_eq] at this
  exact ⟨this.1.1.1.1.1, this.1.1.1.1.2, this.1.1.1.2, this.1.1.2, this.1.2, this.2⟩
theorem tyIn {t : T} {m : String} (h : tyN t = some m) : m ∈ ["NoneType", "bool", "int", "str", "list", "tuple", "dict"] := by
  cases t <;> simp [tyN] at h <;> subst h <;> decide
theorem isiEq {t : T} {m n : String} {b : Bool} (h : tyN t = some m) (k : kitB m n = some b) : tIsi [t, .ty n] = some (.bl b) := by
  show (tyN t).bind (fun m => (kitB m n).map T.bl) = _
  rw [h]
  show (kitB m n).map T.bl = _
  rw [k]; rfl
section
variable {t : T} {P : T → Prop}
theorem wi_int (k : kno t = true) (h : P (.bl (isIB t))) : WP (tIsi [t, .ty "int"]) P := by
  obtain ⟨m, hm⟩ := Option.isSome_iff_exists.mp k
  refine .of (isiEq hm (kitOf (tyIn hm)).1) ?_
  have e : (m == "int" || m == "bool") = isIB t := by cases t <;> simp [tyN] at hm <;> subst hm <;> rfl
  rw [e]; exact h
theorem wi_bool (k : kno t = true) (h : P (.bl (isBl t))) : WP (tIsi [t, .ty "bool"]) P := by
  obtain ⟨m, hm⟩ := Option.isSome_iff_exists.mp k
  refine .of (isiEq hm (kitOf (tyIn hm)).2.1) ?_
  have e : (m == "bool") = isBl t := by cases t <;> simp [tyN] at hm <;> subst hm <;> rfl
  rw [e]; exact h
theorem wi_tup (k : kno t = true) (h : P (.bl (isTu t))) : WP (tIsi [t, .ty "tuple"]) P := by
  obtain ⟨m, hm⟩ := Option.isSome_iff_exists.mp k
  refine .of (isiEq hm (kitOf (tyIn hm)).2.2.1) ?_
  have e : (m == "tuple") = isTu t := by cases t <;> simp [tyN] at hm <;> subst hm <;> rfl
  rw [e]; exact h
theorem wi_list (k : kno t = true) (h : P (.bl (isLs t))) : WP (tIsi [t, .ty "list"]) P := by
  obtain ⟨m, hm⟩ := Option.isSome_iff_exists.mp k
  refine .of (isiEq hm (kitOf (tyIn hm)).2.2.2.1) ?_
  have e : (m == "list") = isLs t := by cases t <;> simp [tyN] at hm <;> subst hm <;> rfl
  rw [e]; exact h
theorem wi_dict (k : kno t = true) (h : P (.bl (isDc t))) : WP (tIsi [t, .ty "dict"]) P := by
  obtain ⟨m, hm⟩ := Option.isSome_iff_exists.mp k
  refine .of (isiEq hm (kitOf (tyIn hm)).2.2.2.2.1) ?_
  have e : (m == "dict") = isDc t := by cases t <;> simp [tyN] at hm <;> subst hm <;> rfl
  rw [e]; exact h
theorem wi_str (k : kno t = true) (h : P (.bl (isSt t))) : WP (tIsi [t, .ty "str"]) P := by
  obtain ⟨m, hm⟩ := Option.isSome_iff_exists.mp k
  refine .of (isiEq hm (kitOf (tyIn hm)).2.2.2.2.2) ?_
  have e : (m == "str") = isSt t := by cases t <;> simp [tyN] at hm <;> subst hm <;> rfl
  rw [e]; exact h
end
section
variable {α : Type} {Γ : Env} {P : T → Prop} {X : Str → Env → Prop}
theorem atN (xs : List α) (k : Nat) : L2.atI xs (k : Int) = xs[k]? := by
  unfold L2.atI L2.ixN
  rw [if_pos (Int.natCast_nonneg _)]
  by_cases h : k < xs.length
  · rw [if_pos (by omega)]; rfl
  · rw [if_neg (by omega), List.getElem?_eq_none (by omega)]; rfl
theorem atL (xs : List α) (x : α) : L2.atI (xs ++ [x]) (-1) = some x := by
  unfold L2.atI L2.ixN
  rw [if_neg (by omega), if_pos (by simp only [List.length_append, List.length_singleton]; omega)]
  have e : ((-1 : Int) + ((xs ++ [x]).length : Nat)).toNat = xs.length := by simp only [List.length_append, List.length_singleton]; omega
  simp only [Option.bind_some, e]
  simp
theorem wo_ixT {ts : List T} {k : Nat} {t : T} (e : ts[k]? = some t) (h : P t) : WP (tIxA (.tup ts) (.int (k : Nat))) P := .of ((atN ts k).trans e) h
theorem wo_ixL {ts : List T} {k : Nat} {t : T} (e : ts[k]? = some t) (h : P t) : WP (tIxA (.lst ts) (.int (k : Nat))) P := .of ((atN ts k).trans e) h
theorem wo_lastL {ts : List T} {t : T} (h : P t) : WP (tIxA (.lst (ts ++ [t])) (.int (-1))) P := .of (atL ts t) h
theorem tbls_m (xs : List α) (f : α → Bool) : tbls (xs.map fun x => T.bl (f x)) = some (xs.map f) := by
  induction xs with
  | nil => rfl
  | cons x xs ih =>
    show (tbls (xs.map fun x => T.bl (f x))).map (f x :: ·) = _
    rw [ih]; rfl
theorem wo_all {xs : List α} {f : α → Bool} (h : P (.bl (xs.all f))) : WP (tAll [.lst (xs.map fun x => T.bl (f x))]) P := .of (by
  show (tbls _).map (fun bs => T.bl (bs.all id)) = _
  rw [tbls_m]
  show some (T.bl ((xs.map f).all id)) = _
  rw [List.all_map]; rfl) h
theorem wo_any {xs : List α} {f : α → Bool} (h : P (.bl (xs.any f))) : WP (tAny [.lst (xs.map fun x => T.bl (f x))]) P := .of (by
  show (tbls _).map (fun bs => T.bl (bs.any id)) = _
  rw [tbls_m]
  show some (T.bl ((xs.map f).any id)) = _
  rw [List.any_map]; rfl) h
/-- a comprehension without a test -/
theorem we_lcA {f : EF} (hf : T → T) {items : List T} {v0 : Nat} {QL : Env → List T → Prop} (hl : items.length ≤ 100000)
    (hv : ∀ t ∈ items, WE (f (Γ.set v0 (some t))) (fun Γ1 y => Γ1 = Γ.set v0 (some t) ∧ y = hf t) noX)
    (h : ∀ x, QL (Γ.set v0 x) (items.map hf)) : WE (lcE (gN v0) eYes f items [] Γ) QL X := by
  refine we_lc (fun _ => true) hf hl (fun t ht => we_eYes ⟨rfl, rfl⟩) (fun t ht _ => hv t ht) fun x => ?_
  rw [List.filter_eq_self.mpr fun _ _ => rfl]; exact h x
theorem rng_mem {n : Nat} {t : T} (h : t ∈ (List.range n).map fun k : Nat => T.int (k : Int)) : ∃ k : Nat, k < n ∧ t = .int (k : Nat) := by
  obtain ⟨k, hk, rfl⟩ := List.mem_map.mp h
  exact ⟨k, List.mem_range.mp hk, rfl⟩
theorem rng_get {n k : Nat} {t : T} (h : ((List.range n).map fun k : Nat => T.int (k : Int))[k]? = some t) : k < n ∧ t = .int (k : Nat) := by
  rw [List.getElem?_map] at h
  obtain ⟨m, h1, rfl⟩ := Option.map_eq_some_iff.mp h
  obtain ⟨h2, h3⟩ := List.getElem?_eq_some_iff.mp h1
  rw [List.getElem_range] at h3
  rw [List.length_range] at h2
  exact ⟨h2, by rw [h3]⟩
end
end Lw
namespace Lw
open PySem hiding Env
open PyProof.Rows L2 Tm
/-! ### ways up of anything -/
def isC : T → Bool
  | .int i => decide (0 ≤ i) | _ => false
theorem count_any {t : T} (h : kno t = true) : Cv Mis_count 1 [t] (.bl (isC t)) := by
  suffices w : WS (Mis_count [some t]) (rtW fun u _ => u = .bl (isC t)) by
    obtain ⟨u, G, e, rfl⟩ := w.rt
    exact ⟨G, e⟩
  unfold Mis_count
  walk_at "wgo"
  refine wp_pAndV' ?_
  walk_at "wgo"
  refine wi_int h ?_
  walk_at "wgo"
  refine ⟨fun h1 => ?_, fun h1 => ?_⟩
  · refine wp_pAndV' ?_
    walk_at "wgo"
    refine wi_bool h ?_
    walk_at "wgo"
    refine ⟨fun h2 => ?_, fun h2 => ?_⟩
    · walk_at "wgo"
      cases t with
      | int i => walk_at "wgo"; rfl
      | bl b => cases h2
      | _ => cases h1
    · cases t with
      | bl b => rfl
      | int i => cases h2
      | _ => cases h1
  · cases t with
    | bl b => cases h1
    | int i => cases h1
    | _ => rfl
def okE (n : Nat) : T → Bool
  | .non => true | .int i => decide (0 ≤ i) && decide (i < (n : Nat)) | _ => false
def stp (ts : List T) (p : Nat) : Nat := match ts[p]? with
  | some (.int i) => i.toNat | _ => p
def itr (ts : List T) : Nat → Nat → Nat
  | 0, p => p | k + 1, p => stp ts (itr ts k p)
def rtA (ts : List T) (p : Nat) : Bool := match ts[p]? with
  | some t => Tm.isNon t | none => false
def gdL (ts : List T) : Bool := decide (ts.length ≤ 8) && (ts.all (okE ts.length) && (decide ((ts.filter Tm.isNon).length = 1) && (List.range ts.length).all fun p => rtA ts (itr ts ts.length p)))
def gd : T → Bool
  | .tup ts => gdL ts | _ => false
/-- things whose kind is known, their parts too -/
def KT (t : T) : Prop := kno t = true ∧ ∀ ts, t = .tup ts → ts.length ≤ 1000 ∧ ∀ x ∈ ts, kno x = true
section
variable {ts : List T}
theorem ok_cases (h : ts.all (okE ts.length) = true) {p : Nat} (hp : p < ts.length) : (ts[p]? = some .non ∧ rtA ts p = true ∧ stp ts p = p) ∨ ∃ q : Nat, ts[p]? = some (.int (q : Nat)) ∧ q < ts.length ∧ rtA ts p = false ∧ stp ts p = q := by
  have e := List.getElem?_eq_getElem hp
  have k := List.all_eq_true.mp h _ (List.getElem_mem hp)
  unfold rtA stp
  rw [e]
  revert k
  cases ts[p] with
  | non => exact fun _ => .inl ⟨rfl, rfl, rfl⟩
  | int i =>
    intro k
    have k : (decide (0 ≤ i) && decide (i < (ts.length : Nat))) = true := k
    rw [Bool.and_eq_true, decide_eq_true_eq, decide_eq_true_eq] at k
    exact .inr ⟨i.toNat, by rw [Int.toNat_of_nonneg k.1], by omega, rfl, rfl⟩
  | _ => intro k; cases k
theorem itr_lt (h : ts.all (okE ts.length) = true) {p : Nat} (hp : p < ts.length) : ∀ k, itr ts k p < ts.length
  | 0 => hp
  | k + 1 => by
    show stp ts (itr ts k p) < _
    rcases ok_cases h (itr_lt h hp k) with ⟨_, _, e⟩ | ⟨q, _, hq, _, e⟩
    · rw [e]; exact itr_lt h hp k
    · rw [e]; exact hq
theorem itr_stay (h : ts.all (okE ts.length) = true) {p k : Nat} (hp : p < ts.length) (hr : rtA ts (itr ts k p) = true) : ∀ j, itr ts (k + j) p = itr ts k p
  | 0 => rfl
  | j + 1 => by
    show stp ts (itr ts (k + j) p) = _
    rw [itr_stay h hp hr j]
    rcases ok_cases h (itr_lt h hp k) with ⟨_, _, e⟩ | ⟨q, _, _, e, _⟩
    · exact e
    · rw [hr] at e; cases e
theorem way_any (h : ts.all (okE ts.length) = true) (h8 : ts.length ≤ 8) {p : Nat} (hp : p < ts.length) : WS (Mway_up (env0 3 [.tup ts, .int (p : Nat)])) (rtW fun t _ => Tm.isNon t = !(rtA ts (itr ts ts.length p))) := by
  show WS (Mway_up [some (.tup ts), some (.int (p : Nat)), none]) _
  unfold Mway_up
  walk_at "wgo"
  refine ws_while (m := ts.length) (fun m Γ => ∃ k xs, k + m = ts.length ∧ xs.length = k ∧ Γ = [some (.tup ts), some (.int (p : Nat)), some (.lst (xs ++ [.int (itr ts k p : Nat)]))])
    (fun Γ => rtA ts (itr ts ts.length p) = true ∧ ∃ xs, Γ = [some (.tup ts), some (.int (p : Nat)), some (.lst xs)]) ⟨0, [], by omega, rfl, rfl⟩ (by omega) ?_ ?_
  · rintro m Γ ⟨k, xs, hk, hx, rfl⟩
    have hl := itr_lt h hp k
    walk_at "wgo"
    refine wo_lastL ?_
    have hst := itr_stay h hp (k := k)
    rcases ok_cases h hl with ⟨e, er, _⟩ | ⟨q, e, hq, er, es⟩
    · refine wo_ixT e ?_
      walk_at "wgo"
      refine ⟨fun z => (by cases z), fun _ => ⟨?_, _, rfl⟩⟩
      have := hst er (ts.length - k)
      rw [show k + (ts.length - k) = ts.length by omega] at this
      rw [this]; exact er
    · refine wo_ixT e ?_
      walk_at "wgo"
      refine ⟨fun _ => ?_, fun z => (by cases z)⟩
      walk_at "wgo"
      refine ⟨fun z => ?_, fun z => ?_⟩
      · walk_at "wgo"
        have : k = ts.length := by
          have := of_decide_eq_true z
          simp only [List.length_append, List.length_singleton] at this
          omega
        subst this
        rw [er]; rfl
      · walk_at "wgo"
        refine wo_lastL ?_
        refine wo_ixT e ?_
        walk_at "wgo"
        have hm : 0 < m := by
          have := of_decide_eq_false z
          simp only [List.length_append, List.length_singleton] at this
          omega
        refine ⟨_, _, _, rfl, if_pos (by simp only [List.length_append, List.length_singleton]; omega), ?_⟩
        refine ⟨m - 1, by omega, k + 1, xs ++ [.int (itr ts k p : Nat)], by omega, by simp [hx], ?_⟩
        show _ = [_, _, some (T.lst (xs ++ [.int (itr ts k p : Nat)] ++ [.int (stp ts (itr ts k p) : Nat)]))]
        rw [es]; rfl
  · rintro Γ ⟨hr, xs, rfl⟩
    walk_at "wgo"
    rw [hr]; rfl
end
end Lw
namespace Lw
open PySem hiding Env
open PyProof.Rows L2 Tm
theorem cv_of {m : SF} {n : Nat} {as : List T} {t : T} (w : WS (m (env0 n as)) (rtW fun u _ => u = t)) : Cv m n as t := by
  obtain ⟨u, G, e, rfl⟩ := w.rt
  exact ⟨G, e⟩
theorem okE_of {n : Nat} {t : T} (h : kno t = true) : (Tm.isNon t || (isC t && match t with | .int i => decide (i < (n : Nat)) | _ => false)) = okE n t := by
  cases t with
  | int i => rfl
  | non => rfl
  | bl b => rfl
  | str x => rfl
  | _ => first | rfl | cases h
theorem ways_any {t : T} (h : KT t) : Cv Mare_ways 3 [t] (.bl (gd t)) := by
  refine cv_of ?_
  show WS (Mare_ways [some t, none, none]) _
  unfold Mare_ways
  walk_at "wgo"
  refine wp_pOrB' ?_
  walk_at "wgo"
  refine wi_tup h.1 ?_
  walk_at "wgo"
  cases t with
  | tup ts =>
    obtain ⟨hl, hk⟩ := h.2 ts rfl
    refine ⟨fun _ => ?_, fun z => (by cases z)⟩
    walk_at "wgo"
    refine ⟨fun z => ?_, fun z => ?_⟩
    · walk_at "wgo"
      refine congrArg T.bl (Eq.symm ?_)
      show gdL ts = false
      rw [Bool.not_eq_true', Bool.and_eq_false_iff, decide_eq_false_iff_not, decide_eq_false_iff_not] at z
      unfold gdL
      rcases z with z | z
      · have : ts = [] := List.eq_nil_of_length_eq_zero (by omega)
        subst this; rfl
      · rw [decide_eq_false (by omega)]; rfl
    · rw [Bool.not_eq_false', Bool.and_eq_true, decide_eq_true_eq, decide_eq_true_eq] at z
      have h8 : ts.length ≤ 8 := by omega
      walk_at "wgo"
      refine we_lcA (fun t => .bl (okE ts.length t)) (by omega) (fun t ht => ?_) fun x => ?_
      · have hkt := hk t ht
        walk_at "wgo"
        refine ⟨fun z1 => ?_, fun z1 => ⟨rfl, ?_⟩⟩
        · walk_at "wgo"
          refine ck_v (count_any hkt) ?_
          walk_at "wgo"
          refine ⟨fun z2 => ?_, fun z2 => ⟨rfl, ?_⟩⟩
          · walk_at "wgo"
            cases t with
            | int i =>
              walk_at "wgo"
              refine ⟨rfl, ?_⟩
              show T.bl _ = .bl (decide (0 ≤ i) && _)
              rw [show decide (0 ≤ i) = true from z2]; rfl
            | _ => cases z2
          · refine congrArg T.bl ?_
            rw [← okE_of hkt, z1, z2]; rfl
        · refine congrArg T.bl ?_
          rw [← okE_of hkt, z1]; rfl
      · walk_at "wgo"
        refine wo_all ?_
        walk_at "wgo"
        refine ⟨fun z1 => ?_, fun z1 => ?_⟩
        · walk_at "wgo"
          refine congrArg T.bl (Eq.symm ?_)
          show gdL ts = false
          unfold gdL
          rw [show ts.all (okE ts.length) = false by simpa using z1]
          simp
        · have hok : ts.all (okE ts.length) = true := by simpa using z1
          walk_at "wgo"
          refine we_lc Tm.isNon id (by omega) (fun t ht => ?_) (fun t ht _ => ?_) fun x => ?_
          · walk_at "wgo"
            exact ⟨rfl, rfl⟩
          · walk_at "wgo"
            exact ⟨rfl, rfl⟩
          · walk_at "wgo"
            rw [List.map_id]
            refine ⟨fun z2 => ?_, fun z2 => ?_⟩
            · walk_at "wgo"
              refine congrArg T.bl (Eq.symm ?_)
              show gdL ts = false
              unfold gdL
              rw [decide_eq_false (p := (ts.filter Tm.isNon).length = 1) (by
                rw [Bool.not_eq_true', decide_eq_false_iff_not] at z2
                omega)]
              simp
            · walk_at "wgo"
              refine wo_rg1 (by omega) ?_
              rw [Int.toNat_natCast]
              refine we_lcA (fun t => match t with | .int i => .bl (rtA ts (itr ts ts.length i.toNat)) | _ => .non) (by simp; omega) (fun t ht => ?_) fun x => ?_
              · obtain ⟨p, hp, rfl⟩ := rng_mem ht
                walk_at "wgo"
                refine ck_w (way_any hok h8 hp) fun t G ht => ?_
                walk_at "wgo"
                refine ⟨rfl, ?_⟩
                rw [ht]
                show T.bl _ = T.bl (rtA ts (itr ts ts.length (Int.toNat (p : Nat))))
                rw [Bool.not_not, Int.toNat_natCast]
              · walk_at "wgo"
                rw [List.map_map]
                refine wo_all (xs := List.range ts.length) (f := fun p => rtA ts (itr ts ts.length p)) ?_
                refine congrArg T.bl (Eq.symm ?_)
                show gdL ts = _
                unfold gdL
                rw [hok, decide_eq_true h8, decide_eq_true (p := (ts.filter Tm.isNon).length = 1) (by
                  rw [Bool.not_eq_false', decide_eq_true_eq] at z2
                  omega)]
                simp
  | _ =>
    refine ⟨fun z => (by cases z), fun _ => ?_⟩
    walk_at "wgo"
    refine ⟨fun _ => ?_, fun z => (by cases z)⟩
    walk_at "wgo"
    rfl
end Lw
namespace Lw
open PySem hiding Env
open PyProof.Rows L2 Tm
theorem all_get {α : Type} {xs : List α} {f : α → Bool} : xs.all f = true ↔ ∀ (k : Nat) (x : α), xs[k]? = some x → f x = true := by
  rw [List.all_eq_true]
  constructor
  · exact fun h k x e => h x (List.mem_of_getElem? e)
  · intro h x hx
    obtain ⟨k, e⟩ := List.mem_iff_getElem?.mp hx
    exact h k x e
theorem all_of {α : Type} {xs : List α} {f : α → Bool} (h : ∀ (k : Nat) (x : α), xs[k]? = some x → f x = true) : xs.all f = true := all_get.mpr h
theorem gdL_no {ts : List T} (h : ts.all (okE ts.length) = false) : gdL ts = false := by unfold gdL; rw [h]; simp
theorem good_any {t : T} (h : KT t) : Cv M_law_e_good 5 [t] (.bl (gd t)) := by
  refine cv_of ?_
  show WS (M_law_e_good [some t, none, none, none, none]) _
  unfold M_law_e_good
  walk_at "wgo"
  refine wi_tup h.1 ?_
  walk_at "wgo"
  cases t with
  | tup ts =>
    obtain ⟨hl, hk⟩ := h.2 ts rfl
    refine ⟨fun _ => ?_, fun z => (by cases z)⟩
    walk_at "wgo"
    refine ⟨fun z8 => ?_, fun z8 => ⟨fun _ => ?_, fun z => (by cases z)⟩⟩
    rotate_left
    · walk_at "wgo"
      refine congrArg T.bl (Eq.symm ?_)
      show gdL ts = false
      unfold gdL
      rw [decide_eq_false (by have := of_decide_eq_true z8; omega)]; rfl
    have h8 : ts.length ≤ 8 := by have := of_decide_eq_false z8; omega
    walk_at "wgo"
    refine we_lc Tm.isNon id (by omega) (fun t ht => ?_) (fun t ht _ => ?_) fun x => ?_
    · walk_at "wgo"
      exact ⟨rfl, rfl⟩
    · walk_at "wgo"
      exact ⟨rfl, rfl⟩
    walk_at "wgo"
    rw [List.map_id]
    refine ⟨fun z2 => ?_, fun z2 => ?_⟩
    · walk_at "wgo"
      refine congrArg T.bl (Eq.symm ?_)
      show gdL ts = false
      unfold gdL
      rw [decide_eq_false (p := (ts.filter Tm.isNon).length = 1) (by
        rw [Bool.not_eq_true', decide_eq_false_iff_not] at z2
        omega)]
      simp
    have hc : (ts.filter Tm.isNon).length = 1 := by
      rw [Bool.not_eq_false', decide_eq_true_eq] at z2
      omega
    walk_at "wgo"
    refine ws_forL (I := fun k Γ => ∃ x, Γ = [some (.tup ts), x, none, none, none] ∧ ∀ j t, j < k → ts[j]? = some t → okE ts.length t = true) (Dn := fun _ => False) ⟨x, rfl, fun j t hj => by omega⟩ ?_ ?_ (fun _ h => h.elim)
    · rintro k t Γ ht ⟨x, rfl, hi⟩
      have hkt := hk t (List.mem_of_getElem? ht)
      refine ⟨_, rfl, ?_⟩
      have no : okE ts.length t = false → gdL ts = false := fun e => gdL_no (by
        cases q : ts.all (okE ts.length) with
        | false => rfl
        | true => rw [all_get.mp q k t ht] at e; cases e)
      have next : okE ts.length t = true → ∀ j u, j < k + 1 → ts[j]? = some u → okE ts.length u = true := fun e j u hj hu => by
        by_cases q : j = k
        · subst q; rw [ht] at hu; cases hu; exact e
        · exact hi j u (by omega) hu
      walk_at "wgt"
      refine wi_int hkt ?_
      walk_at "wgt"
      refine wi_bool hkt ?_
      walk_at "wgt"
      refine ⟨fun z => ?_, fun z => ?_⟩
      · walk_at "wgt"
        refine congrArg T.bl (Eq.symm (no ?_))
        revert z
        cases t <;> intro z <;> first | rfl | cases z
      · walk_at "wgo"
        refine wp_pAndB' ?_
        walk_at "wgo"
        refine ⟨fun z1 => ?_, fun z1 => ?_⟩
        · cases t with
          | int i =>
            walk_at "wgo"
            refine ⟨fun z2 => ?_, fun z2 => ?_⟩
            · walk_at "wgo"
              refine congrArg T.bl (Eq.symm (no ?_))
              rw [Bool.not_eq_true'] at z2
              exact z2
            · walk_at "wgo"
              rw [Bool.not_eq_false'] at z2
              exact ⟨_, rfl, next z2⟩
          | non => cases z1
          | bl b => cases z
          | _ => cases z
        · refine ⟨fun z => (by cases z), fun _ => ?_⟩
          walk_at "wgo"
          cases t with
          | non => exact ⟨_, rfl, next rfl⟩
          | _ => cases z1
    · rintro Γ ⟨x, rfl, hi⟩
      have hok : ts.all (okE ts.length) = true := all_of fun k t e => hi k t (List.getElem?_eq_some_iff.mp e).1 e
      walk_at "wgo"
      refine wo_rg1 (by omega) ?_
      rw [Int.toNat_natCast]
      refine ws_forL (I := fun k Γ => ∃ x2 x3 x4, Γ = [some (.tup ts), x, x2, x3, x4] ∧ ∀ j, j < k → rtA ts (itr ts ts.length j) = true) (Dn := fun _ => False) ⟨none, none, none, rfl, fun j hj => by omega⟩ ?_ ?_ (fun _ h => h.elim)
      · rintro k t Γ ht ⟨x2, x3, x4, rfl, hi⟩
        obtain ⟨hkl, rfl⟩ := rng_get ht
        refine ⟨_, rfl, ?_⟩
        walk_at "wgo"
        refine wo_rg1 (by omega) ?_
        rw [Int.toNat_natCast]
        refine ws_forL (I := fun j Γ => ∃ x4, Γ = [some (.tup ts), x, some (.int (k : Nat)), some (.int (itr ts j k : Nat)), x4]) (Dn := fun _ => False) ⟨x4, rfl⟩ ?_ ?_ (fun _ h => h.elim)
        · rintro j t Γ ht ⟨x4, rfl⟩
          obtain ⟨hjl, rfl⟩ := rng_get ht
          refine ⟨_, rfl, ?_⟩
          walk_at "wgo"
          rcases ok_cases hok (itr_lt hok hkl j) with ⟨e, er, es⟩ | ⟨q, e, hq, er, es⟩
          · refine wo_ixT e ?_
            walk_at "wgo"
            refine ⟨fun z => (by cases z), fun _ => ?_⟩
            walk_at "wgo"
            exact ⟨_, by show _ = [_, _, _, some (T.int (stp ts (itr ts j k) : Nat)), _]; rw [es]; rfl⟩
          · refine wo_ixT e ?_
            walk_at "wgo"
            refine ⟨fun _ => ?_, fun z => (by cases z)⟩
            walk_at "wgo"
            refine wo_ixT e ?_
            exact ⟨_, by show _ = [_, _, _, some (T.int (stp ts (itr ts j k) : Nat)), _]; rw [es]; rfl⟩
        · rintro Γ ⟨x4, rfl⟩
          rw [List.length_map, List.length_range]
          walk_at "wgo"
          rcases ok_cases hok (itr_lt hok hkl ts.length) with ⟨e, er, es⟩ | ⟨q, e, hq, er, es⟩
          · refine wo_ixT e ?_
            walk_at "wgo"
            refine ⟨fun z => (by cases z), fun _ => ?_⟩
            walk_at "wgo"
            refine ⟨_, _, _, rfl, fun j hj => ?_⟩
            by_cases q : j = k
            · subst q; exact er
            · exact hi j (by omega)
          · refine wo_ixT e ?_
            walk_at "wgo"
            refine ⟨fun _ => ?_, fun z => (by cases z)⟩
            walk_at "wgo"
            refine congrArg T.bl (Eq.symm ?_)
            show gdL ts = false
            unfold gdL
            have : ((List.range ts.length).all fun p => rtA ts (itr ts ts.length p)) = false := by
              cases q : (List.range ts.length).all fun p => rtA ts (itr ts ts.length p) with
              | false => rfl
              | true =>
                rw [List.all_eq_true.mp q k (List.mem_range.mpr hkl)] at er
                cases er
            rw [this]; simp
      · rintro Γ ⟨x2, x3, x4, rfl, hi⟩
        rw [List.length_map, List.length_range] at hi
        walk_at "wgo"
        refine congrArg T.bl (Eq.symm ?_)
        show gdL ts = true
        unfold gdL
        rw [hok, decide_eq_true h8, decide_eq_true hc]
        simp only [Bool.true_and]
        exact List.all_eq_true.mpr fun p hp => hi p (List.mem_range.mp hp)
  | _ =>
    refine ⟨fun z => (by cases z), fun _ => ⟨fun _ => ?_, fun z => (by cases z)⟩⟩
    walk_at "wgo"
    rfl
end Lw
namespace Lw
open PySem hiding Env
open L2 Tm
/-! ### group e: draws, as wishes -/
/-- a tray of which at most b cells were looked at -/
def Ty (b : Nat) (t : T) : Prop := ∃ ns p c, t = tp ns p c ∧ 0 ≤ p ∧ p ≤ (b : Nat)
theorem Ty.mono {b b' : Nat} {t : T} (h : Ty b t) (l : b ≤ b') : Ty b' t := let ⟨ns, p, c, e, h0, h1⟩ := h; ⟨ns, p, c, e, h0, by omega⟩
theorem Ty.rt {b : Nat} {t : T} (h : Ty b t) : rootT t = true := by obtain ⟨ns, p, c, rfl, _⟩ := h; rfl
theorem ck_draw {Γ : Env} {j b : Nat} {m : Int} {t0 x : T} {Q : Env → T → Prop} {X : Str → Env → Prop} (e : sl Γ j = some x) (ht : Ty b x) (hb : b ≤ 900000000) (hm : 0 < m ∧ m < 1000000000000000000000000000000)
    (h : ∀ (d : Int) (y : T), 0 ≤ d → d < m → Ty (b + 1) y → Q (Γ.set j (some y)) (.int d)) : CK [some j, none] .imm M_law_e_draw 5 Γ [t0, .int m] Q X := by
  obtain ⟨ns, p, c, rfl, h0, h1⟩ := ht
  obtain ⟨d, p', c', G, e1, a1, a2, a3, a4⟩ := draw_ok ns p c m h0 (by omega) hm.1 hm.2
  exact ck_r e rfl (.rtI e1 ⟨_, G, rfl, rfl, h d _ a1 a2 ⟨ns, p', c', rfl, a3, by omega⟩⟩)
/-- .. a number from 0 on -/
theorem ck_drawN {Γ : Env} {j b : Nat} {m : Int} {t0 x : T} {Q : Env → T → Prop} {X : Str → Env → Prop} (e : sl Γ j = some x) (ht : Ty b x) (hb : b ≤ 900000000) (hm : 0 < m ∧ m < 1000000000000000000000000000000)
    (h : ∀ (d : Nat) (y : T), (d : Int) < m → Ty (b + 1) y → Q (Γ.set j (some y)) (.int (d : Nat))) : CK [some j, none] .imm M_law_e_draw 5 Γ [t0, .int m] Q X :=
  ck_draw e ht hb hm fun d y h0 h1 hy => by
    have := h d.toNat y (by omega) hy
    rwa [Int.toNat_of_nonneg h0] at this
end Lw
namespace Lw
open PySem hiding Env
open PyProof.Rows L2 Tm
/-! ### ways spoilt -/
theorem ck_ways {Γ : Env} {j b : Nat} {t0 x : T} {Q : Env → T → Prop} {X : Str → Env → Prop} (e : sl Γ j = some x) (ht : Ty b x) (hb : b ≤ 800000000)
    (h : ∀ (u : List (Option Nat)) (r : Nat → Nat) (root : Nat) (y : T), Wu u r root → Ty (b + 40) y → Q (Γ.set j (some y)) (encF u)) : CK [some j] .shared M_law_e_ways 8 Γ [t0] Q X := by
  obtain ⟨ns, p, c, rfl, h0, h1⟩ := ht
  obtain ⟨u, r, root, p', c', G, e1, hw, a3, a4⟩ := ways_ok (ns := ns) (c := c) h0 (by omega)
  exact ck_r e rfl (.rtI e1 ⟨_, G, rfl, rfl, h u r root _ hw ⟨ns, p', c', rfl, a3, by omega⟩⟩)
/-- at most n known things -/
def Kb (n : Nat) (ts : List T) : Prop := ts.length ≤ n ∧ ∀ x ∈ ts, kno x = true
theorem Kb.mono {n m : Nat} {ts : List T} (h : Kb n ts) (l : n ≤ m) : Kb m ts := ⟨Nat.le_trans h.1 l, h.2⟩
theorem Kb.kt {n : Nat} {ts : List T} (h : Kb n ts) (l : n ≤ 1000) : KT (.tup ts) := ⟨rfl, fun us e => by cases e; exact ⟨Nat.le_trans h.1 l, h.2⟩⟩
theorem Kb.cut {n : Nat} {ts : List T} (h : Kb n ts) (a b : Option Int) : Kb n (cutL ts a b) := by
  unfold cutL
  refine ⟨?_, fun x hx => h.2 x (List.mem_of_mem_drop (List.mem_of_mem_take hx))⟩
  rw [List.length_take, List.length_drop]
  have := h.1
  omega
theorem Kb.cat {n m : Nat} {ts us : List T} (h : Kb n ts) (g : Kb m us) : Kb (n + m) (ts ++ us) := ⟨by rw [List.length_append]; have := h.1; have := g.1; omega, fun x hx => (List.mem_append.mp hx).elim (h.2 x) (g.2 x)⟩
theorem Kb.one {t : T} (h : kno t = true) : Kb 1 [t] := ⟨by simp, fun x hx => by rw [List.mem_singleton.mp hx]; exact h⟩
theorem wo_cut {ts : List T} {a b : Option Int} {P : T → Prop} (h : P (.tup (cutL ts a b))) : WP (slT (.tup ts) a b) P := .of rfl h
theorem wo_cat {n m : Nat} {ts us : List T} {P : T → Prop} (h1 : Kb n ts) (h2 : Kb m us) (l : n + m ≤ 100000) (h : P (.tup (ts ++ us))) : WP (catT (.tup ts) (.tup us)) P := .of (if_pos (by have := h1.1; have := h2.1; omega)) h
theorem kno_W (w : Option Nat) : kno (encW w) = true := by cases w <;> rfl
section
variable {u : List (Option Nat)} {r : Nat → Nat} {root : Nat}
theorem Wu.kb (h : Wu u r root) : Kb 8 (u.map encW) := ⟨by rw [List.length_map]; exact h.l2, fun x hx => by obtain ⟨w, _, rfl⟩ := List.mem_map.mp hx; exact kno_W w⟩
theorem ix_U {p : Nat} {w : Option Nat} (e : u[p]? = some w) : (u.map encW)[p]? = some (encW w) := by rw [List.getElem?_map, e]; rfl
theorem ring_any (h : Wu u r root) {p : Nat} (hp : p < u.length) : WS (M_law_e_ring (env0 4 [encU u, .int (p : Nat)])) (rtW fun t _ => ∃ ts, t = .tup ts ∧ Kb 8 ts) := by
  show WS (M_law_e_ring [some (.tup (u.map encW)), some (.int (p : Nat)), none, none]) _
  unfold M_law_e_ring
  walk_at "wgo"
  refine wo_rfl (t := .lst (u.map encW)) rfl ?_
  walk_at "wgo"
  refine ws_while (m := r p) (fun m Γ => ∃ q, q < u.length ∧ r q = m ∧ Γ = [some (.tup (u.map encW)), some (.int (p : Nat)), some (.lst (u.map encW)), some (.int (q : Nat))])
    (fun Γ => ∃ q, q < u.length ∧ Γ = [some (.tup (u.map encW)), some (.int (p : Nat)), some (.lst (u.map encW)), some (.int (q : Nat))]) ⟨p, hp, rfl, rfl⟩ (by have := h.rb p hp; have := h.l2; omega) ?_ ?_
  · rintro m Γ ⟨q, hq, rfl, rfl⟩
    walk_at "wgo"
    rcases h.cases hq with e | ⟨s, e, hs, hr⟩
    · refine wo_ixL (ix_U e) ?_
      walk_at "wgo"
      exact ⟨fun z => (by cases z), fun _ => ⟨q, hq, rfl⟩⟩
    · refine wo_ixL (ix_U e) ?_
      walk_at "wgo"
      refine ⟨fun _ => ?_, fun z => (by cases z)⟩
      walk_at "wgo"
      refine wo_ixL (ix_U e) ?_
      exact ⟨r s, hr, s, hs, rfl, rfl⟩
  · rintro Γ ⟨q, hq, rfl⟩
    walk_at "wgo"
    refine ⟨_, .lst ((u.map encW).set q (.int (p : Nat))), rfl, ?_, ?_⟩
    · show (L2.ixN (u.map encW).length (q : Int)).map _ = _
      unfold L2.ixN
      rw [if_pos (Int.natCast_nonneg _), if_pos (by rw [List.length_map]; omega)]
      rfl
    · walk_at "wgo"
      refine wo_rfl (t := .tup ((u.map encW).set q (.int (p : Nat)))) rfl ?_
      refine ⟨_, rfl, by rw [List.length_set]; exact h.kb.1, fun x hx => ?_⟩
      rcases List.mem_or_eq_of_mem_set hx with hx | rfl
      · exact h.kb.2 x hx
      · rfl
end
theorem root_any {n : Nat} {ts : List T} (h : Kb n ts) (l : n ≤ 100) (k : T) (p : Nat) (hk : k = .int (p : Nat)) : WS (M_law_e_with_root (env0 2 [.tup ts, k])) (rtW fun t _ => ∃ ts, t = .tup ts ∧ Kb (2 * n + 1) ts) := by
  subst hk
  show WS (M_law_e_with_root [some (.tup ts), some (.int (p : Nat))]) _
  unfold M_law_e_with_root
  walk_at "wgo"
  refine ⟨_, rfl, ?_⟩
  walk_at "wgo"
  refine wo_cat (h.cut _ _) (Kb.one rfl) (by omega) ?_
  walk_at "wgo"
  refine ⟨_, rfl, ?_⟩
  walk_at "wgo"
  refine wo_cat ((h.cut _ _).cat (Kb.one rfl)) (h.cut _ _) (by omega) ?_
  exact ⟨_, rfl, (((h.cut _ _).cat (Kb.one rfl)).cat (h.cut _ _)).mono (by omega)⟩
end Lw
namespace Lw
open PySem hiding Env
open PyProof.Rows L2 Tm
def AllK (n : Nat) (xs : List T) : Prop := xs.length ≤ n ∧ ∀ x ∈ xs, KT x
theorem KT.flat {t : T} (h : kno t = true) (h2 : ∀ ts, t ≠ .tup ts) : KT t := ⟨h, fun ts e => absurd e (h2 ts)⟩
theorem KT.lst {xs : List T} : KT (.lst xs) := .flat rfl fun _ e => by cases e
theorem KT.int {i : Int} : KT (.int i) := .flat rfl fun _ e => by cases e
theorem KT.non : KT .non := .flat rfl fun _ e => by cases e
theorem AllK.app {n : Nat} {xs : List T} {t : T} (h : AllK n xs) (k : KT t) : AllK (n + 1) (xs ++ [t]) := ⟨by rw [List.length_append]; exact Nat.succ_le_succ h.1, fun x hx => (List.mem_append.mp hx).elim (h.2 x) fun q => by rw [List.mem_singleton.mp q]; exact k⟩
theorem AllK.cat {n m : Nat} {xs ys : List T} (h : AllK n xs) (g : AllK m ys) : AllK (n + m) (xs ++ ys) := ⟨by rw [List.length_append]; have := h.1; have := g.1; omega, fun x hx => (List.mem_append.mp hx).elim (h.2 x) (g.2 x)⟩
theorem eq_nil' {ns : List Nat} {P : T → Prop} (h : P (.bl ns.isEmpty)) : WP (bEqA (.lst (ns.map fun k => T.int (k : Nat))) (.lst [])) P := .of (by
  have dt : dtT 30 (.lst (ns.map fun k => T.int (k : Nat))) = true := by
    show (ns.map fun k => T.int (k : Nat)).all (dtT 29) = true
    rw [List.all_map]; exact List.all_eq_true.mpr fun _ _ => rfl
  show bEq _ _ = _
  unfold bEq
  rw [if_pos ⟨dt, rfl⟩]
  cases ns <;> rfl) h
theorem wo_catL {n m : Nat} {ts us : List T} {P : T → Prop} (h1 : AllK n ts) (h2 : AllK m us) (l : n + m ≤ 100000) (h : P (.lst (ts ++ us))) : WP (catL (.lst ts) (.lst us)) P := .of (if_pos (by have := h1.1; have := h2.1; omega)) h
theorem mul8 : mulT (.tup [.int 0]) (.int 8) = some (.tup (List.replicate 8 (T.int 0))) := by
  have h : ([T.int 0] : List T) ≠ [] ∧ [T.int 0].length ≤ 1000 ∧ (2 : Int) ≤ 8 ∧ (8 : Int) ≤ 50 ∧ [T.int 0].all flatT = true := ⟨by simp, by simp, by decide, by decide, rfl⟩
  exact if_pos (e := none) h
section
variable {u : List (Option Nat)} {r : Nat → Nat} {root : Nat}
theorem spoilt_ok (h : Wu u r root) {y : T} {b : Nat} (hy : Ty b y) (hb : b ≤ 800000000) : WS (M_law_e_spoilt (env0 9 [y, encU u])) (rtW fun t Γ => ∃ z G xs, Γ = some z :: G ∧ Ty (b + 3) z ∧ t = .lst xs ∧ AllK 1000 xs) := by
  have kb := h.kb
  have hl : (u.map encW).length = u.length := List.length_map _
  have l1 := h.l1
  have l2 := h.l2
  show WS (M_law_e_spoilt [some y, some (.tup (u.map encW)), none, none, none, none, none, none, none]) _
  unfold M_law_e_spoilt
  walk_at "wgo"
  refine ck_drawN rfl hy (by omega) (by omega) fun at_ y1 hat hy1 => ?_
  walk_at "wgo"
  refine wo_rfl (t := .int (100000000000000000000 : Int)) rfl ?_
  walk_at "wgo"
  refine ck_drawN rfl hy1 (by omega) (by decide) fun far y2 hfar hy2 => ?_
  walk_at "wgo"
  rw [hl]
  refine ws_forL (I := fun k Γ => ∃ xs x6, Γ = [some y2, some (.tup (u.map encW)), some (.int (u.length : Nat)), some (.int (at_ : Nat)), some (.int (far : Nat)), some (.lst xs), x6, none, none] ∧ AllK k xs) (Dn := fun _ => False) ⟨[], none, rfl, by simp [AllK]⟩ ?_ ?_ (fun _ h => h.elim)
  · rintro k t Γ ht ⟨xs, x6, rfl, hxs⟩
    have hk : k < 8 := (List.getElem?_eq_some_iff.mp ht).1
    have kt : kno t = true := by
      have hm := List.mem_of_getElem? ht
      simp only [List.mem_cons, List.not_mem_nil, or_false] at hm
      rcases hm with rfl | rfl | rfl | rfl | rfl | rfl | rfl | rfl <;> rfl
    refine ⟨_, rfl, ?_⟩
    walk_at "wgo"
    refine ⟨_, rfl, ?_⟩
    walk_at "wgo"
    refine wo_cat (kb.cut _ _) (Kb.one kt) (by omega) ?_
    walk_at "wgo"
    refine ⟨_, rfl, ?_⟩
    walk_at "wgo"
    refine wo_cat ((kb.cut _ _).cat (Kb.one kt)) (kb.cut _ _) (by omega) ?_
    walk_at "wgo"
    refine ⟨_, _, _, rfl, if_pos (by have := hxs.1; omega), ?_⟩
    exact ⟨_, some t, rfl, hxs.app ((((kb.cut _ _).cat (Kb.one kt)).cat (kb.cut _ _)).kt (by omega))⟩
  · rintro Γ ⟨xs, x6, rfl, hxs⟩
    have hxs : AllK 8 xs := hxs
    walk_at "wgo"
    refine wo_rfl (t := .lst (u.map encW)) rfl ?_
    walk_at "wgo"
    refine wo_cat kb (Kb.one rfl) (by omega) ?_
    walk_at "wgo"
    refine wo_cat (Kb.one rfl) kb (by omega) ?_
    walk_at "wgo"
    refine ck_w (ring_any h (p := at_) (by omega)) ?_
    rintro t G ⟨rs, rfl, hrs⟩
    walk_at "wgo"
    refine wo_cat kb (Kb.one rfl) (by omega) ?_
    walk_at "wgo"
    refine wo_catL (m := 5) hxs ⟨by simp, fun x hx => ?_⟩ (by omega) ?_
    · simp only [List.mem_cons, List.not_mem_nil, or_false] at hx
      rcases hx with rfl | rfl | rfl | rfl | rfl
      · exact .lst
      · exact (kb.cat (Kb.one rfl)).kt (by omega)
      · exact ((Kb.one rfl).cat kb).kt (by omega)
      · exact hrs.kt (by omega)
      · exact (kb.cat (Kb.one rfl)).kt (by omega)
    have hx1 := hxs.cat (m := 5) (ys := [T.lst (u.map encW), .tup (u.map encW ++ [T.non]), .tup ([T.non] ++ u.map encW), .tup rs, .tup (u.map encW ++ [T.int (u.length : Nat)])]) ⟨by simp, fun x hx => by
      simp only [List.mem_cons, List.not_mem_nil, or_false] at hx
      rcases hx with rfl | rfl | rfl | rfl | rfl
      · exact .lst
      · exact (kb.cat (Kb.one rfl)).kt (by omega)
      · exact ((Kb.one rfl).cat kb).kt (by omega)
      · exact hrs.kt (by omega)
      · exact (kb.cat (Kb.one rfl)).kt (by omega)⟩
    generalize xs ++ [T.lst (u.map encW), .tup (u.map encW ++ [T.non]), .tup ([T.non] ++ u.map encW), .tup rs, .tup (u.map encW ++ [T.int (u.length : Nat)])] = xs1 at hx1 ⊢
    walk_at "wgo"
    refine wo_rfl (t := .tup (List.replicate 8 (T.int 0))) mul8 ?_
    refine wo_cat (n := 1) (m := 8) (Kb.one rfl) ⟨by simp, fun x hx => by rw [(List.mem_replicate.mp hx).2]; rfl⟩ (by omega) ?_
    walk_at "wgo"
    refine wo_catL (m := 2) hx1 ⟨by simp, fun x hx => ?_⟩ (by omega) ?_
    · simp only [List.mem_cons, List.not_mem_nil, or_false] at hx
      rcases hx with rfl | rfl
      · exact Kb.kt (n := 9) ⟨by simp, fun x hx => by
          rcases List.mem_append.mp hx with q | q
          · rw [List.mem_singleton.mp q]; rfl
          · rw [(List.mem_replicate.mp q).2]; rfl⟩ (by omega)
      · exact .non
    have hx2 := hx1.cat (m := 2) (ys := [T.tup ([T.non] ++ List.replicate 8 (T.int 0)), T.non]) ⟨by simp, fun x hx => by
      simp only [List.mem_cons, List.not_mem_nil, or_false] at hx
      rcases hx with rfl | rfl
      · exact Kb.kt (n := 9) ⟨by simp, fun x hx => by
          rcases List.mem_append.mp hx with q | q
          · rw [List.mem_singleton.mp q]; rfl
          · rw [(List.mem_replicate.mp q).2]; rfl⟩ (by omega)
      · exact .non⟩
    generalize xs1 ++ [T.tup ([T.non] ++ List.replicate 8 (T.int 0)), T.non] = xs2 at hx2 ⊢
    walk_at "wgo"
    refine wo_rg1 (by omega) ?_
    rw [Int.toNat_natCast]
    refine we_lc (fun t => match t with | .int i => (match u[i.toNat]? with | some (some _) => true | _ => false) | _ => false) id (by simp; omega) (fun t ht => ?_) (fun t ht _ => ?_) fun x8 => ?_
    · obtain ⟨k, hk, rfl⟩ := rng_mem ht
      walk_at "wgo"
      have e := List.getElem?_eq_getElem hk
      refine wo_ixT (ix_U e) ?_
      walk_at "wgo"
      refine ⟨rfl, ?_⟩
      show (!Tm.isNon (encW u[k])) = (match u[Int.toNat (k : Nat)]? with | some (some _) => true | _ => false)
      rw [Int.toNat_natCast, e]
      cases u[k] <;> rfl
    · walk_at "wgo"
      exact ⟨rfl, rfl⟩
    rw [List.map_id, List.filter_map]
    obtain ⟨os, hos⟩ : ∃ os : List Nat, os = (List.range u.length).filter ((fun t => match t with | .int i => (match u[i.toNat]? with | some (some _) => true | _ => false) | _ => false) ∘ fun k : Nat => T.int (k : Int)) := ⟨_, rfl⟩
    rw [← hos]
    have om : ∀ k ∈ os, k < u.length := fun k hk => by
      rw [hos] at hk
      exact List.mem_range.mp (List.mem_filter.mp hk).1
    have ol : os.length ≤ 8 := by
      rw [hos]
      have := List.length_filter_le ((fun t => match t with | .int i => (match u[i.toNat]? with | some (some _) => true | _ => false) | _ => false) ∘ fun k : Nat => T.int (k : Int)) (List.range u.length)
      rw [List.length_range] at this
      omega
    have oi : ∀ {k : Nat}, k < os.length → ∃ q, (os.map fun k : Nat => T.int (k : Int))[k]? = some (.int (q : Nat)) ∧ q < u.length := fun {k} hk => by
      have e := List.getElem?_eq_getElem hk
      exact ⟨os[k], by rw [List.getElem?_map, e]; rfl, om _ (List.getElem_mem hk)⟩
    walk_at "wgs"
    refine ws_cut (fun Γ => ∃ z xs, Γ = [some z, some (.tup (u.map encW)), some (.int (u.length : Nat)), some (.int (at_ : Nat)), some (.int (far : Nat)), some (.lst xs), x6, some (.lst (os.map fun k : Nat => T.int (k : Int))), x8] ∧ Ty (b + 3) z ∧ AllK 16 xs) ?_ ?_
    · walk_at "wgo"
      refine eq_nil' ?_
      walk_at "wgo"
      refine ⟨fun z => ?_, fun z => ?_⟩
      · have on : 0 < os.length := by
          cases os with
          | nil => cases z
          | cons _ _ => simp
        walk_at "wgo"
        refine ck_drawN rfl hy2 (by omega) (by rw [List.length_map]; omega) fun d y3 hd hy3 => ?_
        rw [List.length_map] at hd
        obtain ⟨q, eq, hq⟩ := oi (k := d) (by omega)
        refine wo_ixL eq ?_
        walk_at "wgo"
        refine ck_w (root_any kb (by omega) _ q rfl) ?_
        rintro t G ⟨ts, rfl, hts⟩
        walk_at "wgo"
        refine ⟨_, _, _, rfl, if_pos (by have := hx2.1; omega), ?_⟩
        exact ⟨y3, _, rfl, hy3, Nat.le_trans (hx2.app (hts.kt (by omega))).1 (by omega), (hx2.app (hts.kt (by omega))).2⟩
      · walk_at "wgo"
        exact ⟨y2, _, rfl, hy2.mono (by omega), Nat.le_trans hx2.1 (by omega), hx2.2⟩
    · rintro Γ ⟨z, xs3, rfl, hz, hx3⟩
      walk_at "wgs"
      refine ws_cut (fun Γ => ∃ xs, Γ = [some z, some (.tup (u.map encW)), some (.int (u.length : Nat)), some (.int (at_ : Nat)), some (.int (far : Nat)), some (.lst xs), x6, some (.lst (os.map fun k : Nat => T.int (k : Int))), x8] ∧ AllK 17 xs) ?_ ?_
      · walk_at "wgo"
        refine ⟨fun w => ?_, fun w => ?_⟩
        · have o2 : 1 < os.length := by
            have := of_decide_eq_true w
            rw [List.length_map] at this
            omega
          obtain ⟨q0, e0, h0⟩ := oi (k := 0) (by omega)
          obtain ⟨q1, e1, h1⟩ := oi (k := 1) (by omega)
          walk_at "wgo"
          refine wo_ixL (k := 0) e0 ?_
          walk_at "wgo"
          refine ck_w (ring_any h h0) ?_
          rintro t G ⟨rs, rfl, hrs⟩
          walk_at "wgo"
          refine wo_ixL (k := 1) e1 ?_
          walk_at "wgo"
          refine ck_w (root_any hrs (by omega) _ q1 rfl) ?_
          rintro t G ⟨ts, rfl, hts⟩
          walk_at "wgo"
          refine ⟨_, _, _, rfl, if_pos (by have := hx3.1; omega), ?_⟩
          exact ⟨_, rfl, hx3.app (hts.kt (by omega))⟩
        · walk_at "wgo"
          exact ⟨_, rfl, Nat.le_trans hx3.1 (by omega), hx3.2⟩
      · rintro Γ ⟨xs4, rfl, hx4⟩
        walk_at "wgo"
        exact ⟨z, _, xs4, rfl, hz, rfl, Nat.le_trans hx4.1 (by omega), hx4.2⟩
end
end Lw
namespace Lw
open PySem hiding Env
open PyProof.Rows L2 Tm
section
variable {u : List (Option Nat)} {r : Nat → Nat} {root : Nat}
theorem okE_W (h : Wu u r root) : (u.map encW).all (okE (u.map encW).length) = true := by
  rw [List.length_map, List.all_map]
  refine List.all_eq_true.mpr fun w hw => ?_
  obtain ⟨p, e⟩ := List.mem_iff_getElem?.mp hw
  have hp := (List.getElem?_eq_some_iff.mp e).1
  rcases h.cases hp with e1 | ⟨q, e1, hq, _⟩
  · rw [e1] at e; cases e; rfl
  · rw [e1] at e; cases e
    show (decide ((0 : Int) ≤ (q : Nat)) && decide ((q : Int) < (u.length : Nat))) = true
    simp; omega
theorem stp_W {p q : Nat} (e : u[p]? = some (some q)) : stp (u.map encW) p = q := by
  unfold stp; rw [ix_U e]; rfl
theorem rtA_W {p : Nat} (e : u[p]? = some none) : rtA (u.map encW) p = true := by unfold rtA; rw [ix_U e]; rfl
theorem itr_front (ts : List T) (p : Nat) : ∀ k, itr ts (k + 1) p = itr ts k (stp ts p)
  | 0 => rfl
  | k + 1 => by
    show stp ts (itr ts (k + 1) p) = stp ts (itr ts k (stp ts p))
    rw [itr_front ts p k]
theorem reach_W (h : Wu u r root) : ∀ (k p : Nat), p < u.length → r p ≤ k → rtA (u.map encW) (itr (u.map encW) k p) = true
  | 0, p, hp, hk => by
    rcases h.cases hp with e | ⟨q, e, hq, hr⟩
    · exact rtA_W e
    · omega
  | k + 1, p, hp, hk => by
    rw [itr_front]
    rcases h.cases hp with e | ⟨q, e, hq, hr⟩
    · have : stp (u.map encW) p = p := by unfold stp; rw [ix_U e]; rfl
      rw [this]
      have hs := itr_stay (okE_W h) (p := p) (k := 0) (by rw [List.length_map]; exact hp) (rtA_W e) k
      rw [Nat.zero_add] at hs
      rw [hs]; exact rtA_W e
    · rw [stp_W e]
      exact reach_W h k q hq (by omega)
theorem one_root (h : Wu u r root) : ((u.map encW).filter Tm.isNon).length = 1 := by
  have e : (u.map encW).filter Tm.isNon = (u.filter (·.isNone)).map encW := by
    rw [List.filter_map]
    congr 1
    refine List.filter_congr fun w _ => ?_
    cases w <;> rfl
  rw [e, List.length_map]
  have hs : u = u.take root ++ none :: u.drop (root + 1) := by
    have e := h.r0
    rw [List.getElem?_eq_getElem h.rt] at e
    rw [← Option.some.inj e, ← List.drop_eq_getElem_cons h.rt, List.take_append_drop]
  have no : ∀ l : List (Option Nat), (∀ w ∈ l, w ≠ none) → l.filter (·.isNone) = [] := fun l hl => List.filter_eq_nil_iff.mpr fun w hw => by
    have := hl w hw
    cases w with
    | none => exact absurd rfl this
    | some q => simp
  have sub : ∀ p, p < u.length → p ≠ root → u[p]? ≠ some none := fun p hp ne e => by
    obtain ⟨q, e1, _⟩ := h.up p hp ne
    rw [e1] at e; cases e
  rw [hs, List.filter_append, List.filter_cons_of_pos (by rfl), no _ (fun w hw => ?_), no _ (fun w hw => ?_)]
  · rfl
  · obtain ⟨k, e⟩ := List.mem_iff_getElem?.mp hw
    rw [List.getElem?_drop] at e
    have hk := (List.getElem?_eq_some_iff.mp e).1
    intro q
    rw [q] at e
    exact sub _ hk (by omega) e
  · obtain ⟨k, e⟩ := List.mem_iff_getElem?.mp hw
    have hk := (List.getElem?_eq_some_iff.mp e).1
    rw [List.length_take] at hk
    rw [List.getElem?_take_of_lt (by omega)] at e
    intro q
    rw [q] at e
    exact sub k (by omega) (by omega) e
theorem gd_W (h : Wu u r root) : gd (encU u) = true := by
  show gdL (u.map encW) = true
  unfold gdL
  rw [okE_W h, decide_eq_true (one_root h), decide_eq_true (by rw [List.length_map]; exact h.l2)]
  simp only [Bool.true_and]
  refine List.all_eq_true.mpr fun p hp => ?_
  rw [List.length_map] at hp ⊢
  have hp := List.mem_range.mp hp
  exact reach_W h u.length p hp (Nat.le_of_lt (h.rb p hp))
theorem wu_ways (h : Wu u r root) : Cv Mare_ways 3 [encU u] (.bl true) := by
  rw [← gd_W h]
  exact ways_any (h.kb.kt (by omega))
theorem mkFs_len (xs : List T) : (mkFs xs).length = xs.length := List.length_map _
/-- what a Hearing has at first -/
def hear0 (u : List (Option Nat)) (root : Nat) : List (Str × T) :=
  [("up", encU u), ("root", .int (root : Nat)), ("hears", .lst ((u.map encW).map fun _ => .bl false)), ("counts", .lst ((u.map encW).map fun _ => .int 0)), ("served", .lst ((u.map encW).map fun _ => .dct [])),
    ("row_up", .lst ((u.map encW).map fun _ => .lst [])), ("row_down", .lst ((u.map encW).map fun _ => .lst [])), ("told", .lst ((u.map encW).map fun _ => .lst [])), ("following", .int 0), ("put_up", .int 0), ("put_down", .int 0)]
theorem init_ok (h : Wu u r root) : WS (MHearing___init__ (env0 3 [.ins "Hearing" [], encF u])) (nxW fun Γ => sl Γ 0 = some (.ins "Hearing" (hear0 u root))) := by
  have hl : (u.map encW).length ≤ 100000 := by rw [List.length_map]; have := h.l2; omega
  have lc : ∀ (t : T) (Γ : Env) (f : EF) (Q : Env → List T → Prop), (∀ Γ, f Γ = .ok Γ t) → (∀ x, Q (Γ.set 2 x) ((u.map encW).map fun _ => t)) → WE (lcE (gN 2) eYes f (u.map encW) [] Γ) Q noX := fun t Γ f Q hf hq =>
    we_lcA (fun _ => t) hl (fun y _ => .ok (hf _) ⟨rfl, rfl⟩) hq
  show WS (MHearing___init__ [some (.ins "Hearing" []), some (encF u), none]) _
  unfold MHearing___init__
  walk_at "wgo"
  rw [wk_F h.r0]
  refine ck_v (wu_ways h) ?_
  walk_at "wgo"
  refine ⟨fun z => (by cases z), fun _ => ?_⟩
  walk_at "wgo"
  rw [wk_F h.r0]
  refine ⟨_, rfl, ⟨by decide, of_decide_eq_true rfl⟩, ?_⟩
  walk_at "wgo"
  refine we_eTix ?_
  walk_at "wgo"
  refine ⟨_, rfl, ?_⟩
  walk_at "wgo"
  refine ⟨?_, rfl, root, ?_, ?_⟩
  · rw [fs_snd]; exact dt_U 59 u
  · rw [fs_snd]; exact ix_root h
  refine ⟨_, rfl, ⟨by decide, of_decide_eq_true rfl⟩, ?_⟩
  walk_at "wgo"
  rw [wk_F h.r0]
  walk_at "wgo"
  refine wo_rfl (t := u.map encW) rfl ?_
  refine lc (.bl false) _ _ _ (fun _ => rfl) fun x => ?_
  refine ⟨_, rfl, ⟨by decide, of_decide_eq_true rfl⟩, ?_⟩
  walk_at "wgo"
  rw [wk_F h.r0]
  walk_at "wgo"
  refine wo_rfl (t := u.map encW) rfl ?_
  refine lc (.int 0) _ _ _ (fun _ => rfl) fun x => ?_
  refine ⟨_, rfl, ⟨by decide, of_decide_eq_true rfl⟩, ?_⟩
  walk_at "wgo"
  rw [wk_F h.r0]
  walk_at "wgo"
  refine wo_rfl (t := u.map encW) rfl ?_
  refine lc (.dct []) _ _ _ (fun _ => rfl) fun x => ?_
  refine ⟨_, rfl, ⟨by decide, of_decide_eq_true rfl⟩, ?_⟩
  walk_at "wgo"
  rw [wk_F h.r0]
  walk_at "wgo"
  refine wo_rfl (t := u.map encW) rfl ?_
  refine lc (.lst []) _ _ _ (fun _ => rfl) fun x => ?_
  refine ⟨_, rfl, ⟨by decide, of_decide_eq_true rfl⟩, ?_⟩
  walk_at "wgo"
  rw [wk_F h.r0]
  walk_at "wgo"
  refine wo_rfl (t := u.map encW) rfl ?_
  refine lc (.lst []) _ _ _ (fun _ => rfl) fun x => ?_
  refine ⟨_, rfl, ⟨by decide, of_decide_eq_true rfl⟩, ?_⟩
  walk_at "wgo"
  rw [wk_F h.r0]
  walk_at "wgo"
  refine wo_rfl (t := u.map encW) rfl ?_
  refine lc (.lst []) _ _ _ (fun _ => rfl) fun x => ?_
  refine ⟨_, rfl, ⟨by decide, of_decide_eq_true rfl⟩, ?_⟩
  walk_at "wgo"
  refine ⟨_, rfl, ⟨by decide, of_decide_eq_true rfl⟩, ?_⟩
  walk_at "wgo"
  refine ⟨_, rfl, ⟨by decide, of_decide_eq_true rfl⟩, ?_⟩
  walk_at "wgo"
  refine ⟨_, rfl, ⟨by decide, of_decide_eq_true rfl⟩, ?_⟩
  rfl
theorem hearers_ok (h : Wu u r root) : Cv MHearing_hearers 2 [.ins "Hearing" (hear0 u root)] (.tup []) := by
  have l2 := h.l2
  refine cv_of ?_
  show WS (MHearing_hearers [some (.ins "Hearing" (hear0 u root)), none]) _
  unfold MHearing_hearers
  walk_at "wgo"
  refine wo_rfl (t := encU u) rfl ?_
  walk_at "wgo"
  refine wo_rfl (t := .int ((u.map encW).length : Nat)) rfl ?_
  walk_at "wgo"
  refine wo_rg1 (by rw [List.length_map]; omega) ?_
  rw [Int.toNat_natCast, List.length_map]
  refine we_lc (fun _ => false) id (by simp; omega) (fun t ht => ?_) (fun t ht z => (by cases z)) fun x => ?_
  · obtain ⟨k, hk, rfl⟩ := rng_mem ht
    walk_at "wgo"
    refine wo_rfl (t := .lst ((u.map encW).map fun _ => .bl false)) rfl ?_
    walk_at "wgo"
    refine wo_ixL (k := k) (t := .bl false) (by rw [List.getElem?_map, List.getElem?_map, List.getElem?_eq_getElem hk]; rfl) ?_
    walk_at "wgo"
    exact ⟨rfl, rfl⟩
  · rw [List.filter_eq_nil_iff.mpr fun _ _ => by simp]
    walk_at "wgo"
    exact wo_rfl (t := .tup []) rfl rfl
end
abbrev eG (ns : List Int) (y : T) (a b c d e : Option T) : Env := [some (.scr ns), some y, a, b, c, d, e]
theorem gd_nots : ([.tup [], .lst [], .dct [], .non, .bl true, .int 0, .str "ways", .tup [.int 0], .tup [.non, .non], .tup [.int 1, .int 0], .tup [.tup [.non]], .tup [.non, .non, .int 0]] : List T).all (fun t => !gd t) = true := by decide +kernel
theorem kt_nots : ∀ t ∈ ([.tup [], .lst [], .dct [], .non, .bl true, .int 0, .str "ways", .tup [.int 0], .tup [.non, .non], .tup [.int 1, .int 0], .tup [.tup [.non]], .tup [.non, .non, .int 0]] : List T), KT t := fun t ht => by
  simp only [List.mem_cons, List.not_mem_nil, or_false] at ht
  rcases ht with rfl | rfl | rfl | rfl | rfl | rfl | rfl | rfl | rfl | rfl | rfl | rfl
  all_goals first
    | exact Kb.kt (n := 3) ⟨by simp, fun x hx => by
        simp only [List.mem_cons, List.not_mem_nil, or_false] at hx
        rcases hx with rfl | rfl | rfl <;> rfl⟩ (by omega)
    | exact Kb.kt (n := 3) ⟨by simp, fun x hx => by
        simp only [List.mem_cons, List.not_mem_nil, or_false] at hx
        rcases hx with rfl | rfl <;> rfl⟩ (by omega)
    | exact Kb.kt (n := 3) ⟨by simp, fun x hx => by
        simp only [List.mem_cons, List.not_mem_nil, or_false] at hx
        subst hx; rfl⟩ (by omega)
    | exact Kb.kt (n := 3) ⟨by simp, fun x hx => by cases hx⟩ (by omega)
    | exact .lst
    | exact .flat rfl fun _ e => by cases e
theorem law_true (ns : List Int) : Cv Mlaw 7 [.scr ns] (.bl true) := by
  refine cv_of ?_
  show WS (Mlaw [some (.scr ns), none, none, none, none, none, none]) _
  unfold Mlaw
  walk_at "wgo"
  refine wo_rg1 (by decide) ?_
  have y0 : Ty 0 (.lst [.scr ns, .int 0, .int 0]) := ⟨ns, 0, 0, rfl, by omega, by omega⟩
  refine ws_forL (I := fun k Γ => ∃ y a b c d e, Γ = eG ns y a b c d e ∧ Ty (100 * k) y) (Dn := fun Γ => ∃ y a b c d e, Γ = eG ns y a b c d e) ⟨_, none, none, none, none, none, rfl, y0⟩ ?_ ?_ ?_
  · rintro k t Γ ht ⟨y, a, b, c, d, e, rfl, hy⟩
    obtain ⟨hk, rfl⟩ := rng_get ht
    have hk : k < 5 := hk
    refine ⟨_, rfl, ?_⟩
    walk_at "wgs"
    refine ws_cut (fun Γ => Γ = eG ns y (some (.int (k : Nat))) b c d e) ?_ ?_
    · have hy' := hy
      obtain ⟨ns', p, cc, rfl, _, _⟩ := hy'
      walk_at "wgt"
      refine wo_rfl (t := .int p) rfl ?_
      walk_at "wgt"
      refine wo_rfl (t := .int (ns.length : Nat)) rfl ?_
      walk_at "wgt"
      exact ⟨fun _ => ws_brk ⟨_, _, _, _, _, _, rfl⟩, fun _ => ws_nil rfl⟩
    · rintro Γ rfl
      walk_at "wgo"
      refine ck_ways rfl hy (by omega) fun u r root y1 hu hy1 => ?_
      walk_at "wgo"
      refine wo_rg1 (by decide) ?_
      refine ws_forL (I := fun _ Γ => ∃ c, Γ = eG ns y1 (some (.int (k : Nat))) (some (encF u)) c d e) (Dn := fun _ => False) ⟨c, rfl⟩ ?_ ?_ (fun _ h => h.elim)
      · rintro j t Γ ht ⟨c, rfl⟩
        refine ⟨_, rfl, ?_⟩
        walk_at "wgo"
        rw [wk_F hu.r0]
        refine ck_v (wu_ways hu) ?_
        walk_at "wgo"
        exact ⟨fun z => (by cases z), fun _ => ws_nil ⟨_, rfl⟩⟩
      · rintro Γ ⟨c, rfl⟩
        walk_at "wgo"
        refine (init_ok hu).imp (fun Γ' hΓ => ?_) (fun _ _ x => x) (fun _ x => x) (fun _ x => x) fun _ _ x => x
        refine ⟨_, hΓ, rfl, rfl, ?_⟩
        walk_at "wgo"
        refine ck_v (hearers_ok hu) ?_
        walk_at "wgo"
        refine wo_rfl (t := .bl true) rfl ?_
        walk_at "wgo"
        refine ⟨fun z => (by cases z), fun _ => ?_⟩
        walk_at "wgo"
        rw [wk_F hu.r0]
        refine ck_r rfl hy1.rt ((spoilt_ok hu hy1 (by omega)).imp (fun _ x => x) ?_ (fun _ x => x) (fun _ x => x) fun _ _ x => x)
        rintro t Γ' ⟨z, G, xs, rfl, hz, rfl, hxs⟩
        refine ⟨z, G, rfl, hz.rt, ?_⟩
        walk_at "wgo"
        refine ws_forL (I := fun _ Γ => ∃ d e, Γ = eG ns z (some (.int (k : Nat))) (some (encF u)) c d e) (Dn := fun _ => False) ⟨d, e, rfl⟩ ?_ ?_ (fun _ h => h.elim)
        · rintro j t Γ ht ⟨d, e, rfl⟩
          have kt := hxs.2 t (List.mem_of_getElem? ht)
          refine ⟨_, rfl, ?_⟩
          walk_at "wgo"
          refine ck_v (ways_any kt) ?_
          walk_at "wgo"
          refine wi_bool rfl ?_
          walk_at "wgo"
          refine ⟨fun _ => ?_, fun z => (by cases z)⟩
          walk_at "wgo"
          refine ck_v (good_any kt) ?_
          walk_at "wgo"
          refine wo_rfl (t := .bl true) (by cases gd t <;> rfl) ?_
          walk_at "wgo"
          exact ⟨fun z => (by cases z), fun _ => ws_nil ⟨_, _, rfl⟩⟩
        · rintro Γ ⟨d, e, rfl⟩
          exact ⟨z, _, _, _, _, _, rfl, hz.mono (by omega)⟩
  all_goals
    intro Γ hΓ
    obtain ⟨y, a, b, c, d, e, rfl⟩ : ∃ y a b c d e, Γ = eG ns y a b c d e := by
      first
        | exact hΓ
        | (obtain ⟨y, a, b, c, d, e, q, _⟩ := hΓ; exact ⟨y, a, b, c, d, e, q⟩)
    walk_at "wgo"
    refine ws_forL (I := fun _ Γ => ∃ d, Γ = eG ns y a b c d e) (Dn := fun _ => False) ⟨d, rfl⟩ ?_ ?_ (fun _ h => h.elim)
    · rintro j t Γ ht ⟨d, rfl⟩
      have hm := List.mem_of_getElem? ht
      have kt := kt_nots t hm
      have ng := List.all_eq_true.mp gd_nots t hm
      rw [Bool.not_eq_true'] at ng
      refine ⟨_, rfl, ?_⟩
      walk_at "wgo"
      refine ck_v (ways_any kt) ?_
      rw [ng]
      walk_at "wgo"
      exact ⟨fun z => (by cases z), fun _ => ws_nil ⟨_, rfl⟩⟩
    · rintro Γ ⟨d, rfl⟩
      walk_at "wgo"
      have k1 := ways_any (t := .tup [.non]) (Kb.kt (n := 3) (Kb.mono (Kb.one rfl) (by omega)) (by omega))
      have k2 := ways_any (t := .tup [.int 1, .int 2, .int 3, .int 4, .int 5, .int 6, .int 7, .non]) (Kb.kt (n := 8) ⟨by simp, fun x hx => by
        simp only [List.mem_cons, List.not_mem_nil, or_false] at hx
        rcases hx with rfl | rfl | rfl | rfl | rfl | rfl | rfl | rfl <;> rfl⟩ (by omega))
      rw [show gd (.tup [.non]) = true by decide +kernel] at k1
      rw [show gd (.tup [.int 1, .int 2, .int 3, .int 4, .int 5, .int 6, .int 7, .non]) = true by decide +kernel] at k2
      refine ck_v k1 ?_
      walk_at "wgo"
      refine ⟨fun _ => ?_, fun z => (by cases z)⟩
      walk_at "wgo"
      refine ck_v k2 ?_
      walk_at "wgo"
      rfl
end Lw
namespace Lw
open PySem PySem.Spec PyProof.Rows L2 Tm
theorem all_mk {l : PySem.W.OpenLaw} {w : World} {K : PySem.W.Frag} {h : Heap} {mg : Str → Option Value} {fa f__law_e_blend f__law_e_draw f__law_e_ways f__law_e_ring f__law_e_with_root f__law_e_spoilt f_way_up f_is_count f_are_ways f__law_e_good f_Hearing_hearers f_Hearing___init__ f_law : Addr} (X : K.In h) (G : h.Ns mainGlobals mg) (hfa : mg "law" = some (.ref fa))
    {od__law_e_blend an__law_e_blend : Option Addr} {sl__law_e_blend : Array (Option Value)} {oc__law_e_blend kV__law_e_blend dc__law_e_blend pm__law_e_blend cd__law_e_blend ct__law_e_blend : Value}
    {od__law_e_draw an__law_e_draw : Option Addr} {sl__law_e_draw : Array (Option Value)} {oc__law_e_draw kV__law_e_draw dc__law_e_draw pm__law_e_draw cd__law_e_draw ct__law_e_draw : Value}
    {od__law_e_ways an__law_e_ways : Option Addr} {sl__law_e_ways : Array (Option Value)} {oc__law_e_ways kV__law_e_ways dc__law_e_ways pm__law_e_ways cd__law_e_ways ct__law_e_ways : Value}
    {od__law_e_ring an__law_e_ring : Option Addr} {sl__law_e_ring : Array (Option Value)} {oc__law_e_ring kV__law_e_ring dc__law_e_ring pm__law_e_ring cd__law_e_ring ct__law_e_ring : Value}
    {od__law_e_with_root an__law_e_with_root : Option Addr} {sl__law_e_with_root : Array (Option Value)} {oc__law_e_with_root kV__law_e_with_root dc__law_e_with_root pm__law_e_with_root cd__law_e_with_root ct__law_e_with_root : Value}
    {od__law_e_spoilt an__law_e_spoilt : Option Addr} {sl__law_e_spoilt : Array (Option Value)} {oc__law_e_spoilt kV__law_e_spoilt dc__law_e_spoilt pm__law_e_spoilt cd__law_e_spoilt ct__law_e_spoilt : Value}
    {od_way_up an_way_up : Option Addr} {sl_way_up : Array (Option Value)} {oc_way_up kV_way_up dc_way_up pm_way_up cd_way_up ct_way_up : Value}
    {od_is_count an_is_count : Option Addr} {sl_is_count : Array (Option Value)} {oc_is_count kV_is_count dc_is_count pm_is_count cd_is_count ct_is_count : Value}
    {od_are_ways an_are_ways : Option Addr} {sl_are_ways : Array (Option Value)} {oc_are_ways kV_are_ways dc_are_ways pm_are_ways cd_are_ways ct_are_ways : Value}
    {od__law_e_good an__law_e_good : Option Addr} {sl__law_e_good : Array (Option Value)} {oc__law_e_good kV__law_e_good dc__law_e_good pm__law_e_good cd__law_e_good ct__law_e_good : Value}
    {od_Hearing_hearers an_Hearing_hearers : Option Addr} {sl_Hearing_hearers : Array (Option Value)} {oc_Hearing_hearers kV_Hearing_hearers dc_Hearing_hearers pm_Hearing_hearers cd_Hearing_hearers ct_Hearing_hearers : Value}
    {od_Hearing___init__ an_Hearing___init__ : Option Addr} {sl_Hearing___init__ : Array (Option Value)} {oc_Hearing___init__ kV_Hearing___init__ dc_Hearing___init__ pm_Hearing___init__ cd_Hearing___init__ ct_Hearing___init__ : Value}
    {od_law an_law : Option Addr} {sl_law : Array (Option Value)} {oc_law kV_law dc_law pm_law cd_law ct_law : Value}
    {t_MOST_WAYS : Tok}
    (aC_Hearing : PySem.W.nsIn K mainGlobals "Hearing" = some (some (.ref Ca_Hearing))) (pg_Hearing : PySem.W.plainGet K Ca_Hearing Str.empty = true) (hd_Hearing : PySem.W.hasDictIn K Ca_Hearing = true) (po_Hearing : PySem.W.plainOver K Ca_Hearing = true) (sa_Hearing : PySem.W.findIn K (.ref Ca_Hearing) "__setattr__" = some (some (.builtin "object.__setattr__"))) (mk_Hearing : PySem.W.makesIn K Ca_Hearing = true) (kc_Hearing : PySem.W.keepIn K (.ref Ca_Hearing) = true)
    (na_Hearing_up : PySem.W.findIn K (.ref Ca_Hearing) "up" = some none)
    (na_Hearing_hears : PySem.W.findIn K (.ref Ca_Hearing) "hears" = some none)
    (na_Hearing_root : PySem.W.findIn K (.ref Ca_Hearing) "root" = some none)
    (na_Hearing_counts : PySem.W.findIn K (.ref Ca_Hearing) "counts" = some none)
    (na_Hearing_served : PySem.W.findIn K (.ref Ca_Hearing) "served" = some none)
    (na_Hearing_row_up : PySem.W.findIn K (.ref Ca_Hearing) "row_up" = some none)
    (na_Hearing_row_down : PySem.W.findIn K (.ref Ca_Hearing) "row_down" = some none)
    (na_Hearing_told : PySem.W.findIn K (.ref Ca_Hearing) "told" = some none)
    (na_Hearing_following : PySem.W.findIn K (.ref Ca_Hearing) "following" = some none)
    (na_Hearing_put_up : PySem.W.findIn K (.ref Ca_Hearing) "put_up" = some none)
    (na_Hearing_put_down : PySem.W.findIn K (.ref Ca_Hearing) "put_down" = some none)
    (a__law_e_blend : PySem.W.nsIn K mainGlobals "_law_e_blend" = some (some (.ref f__law_e_blend))) (l__law_e_blend : K.lookup f__law_e_blend = some ⟨oc__law_e_blend, od__law_e_blend, .func (PySem.W.fnOf "_law_e_blend" "_law_e_blend" (defArgs s__law_e_blend) (defBody s__law_e_blend) (defScope s__law_e_blend) .none kV__law_e_blend dc__law_e_blend pm__law_e_blend an__law_e_blend cd__law_e_blend ct__law_e_blend), sl__law_e_blend⟩) (c__law_e_blend : PySem.W.codeIn K cd__law_e_blend "_law_e_blend" = true) (k__law_e_blend : PySem.W.keepIn K (.ref f__law_e_blend) = true)
    (a__law_e_draw : PySem.W.nsIn K mainGlobals "_law_e_draw" = some (some (.ref f__law_e_draw))) (l__law_e_draw : K.lookup f__law_e_draw = some ⟨oc__law_e_draw, od__law_e_draw, .func (PySem.W.fnOf "_law_e_draw" "_law_e_draw" (defArgs s__law_e_draw) (defBody s__law_e_draw) (defScope s__law_e_draw) .none kV__law_e_draw dc__law_e_draw pm__law_e_draw an__law_e_draw cd__law_e_draw ct__law_e_draw), sl__law_e_draw⟩) (c__law_e_draw : PySem.W.codeIn K cd__law_e_draw "_law_e_draw" = true) (k__law_e_draw : PySem.W.keepIn K (.ref f__law_e_draw) = true)
    (a__law_e_ways : PySem.W.nsIn K mainGlobals "_law_e_ways" = some (some (.ref f__law_e_ways))) (l__law_e_ways : K.lookup f__law_e_ways = some ⟨oc__law_e_ways, od__law_e_ways, .func (PySem.W.fnOf "_law_e_ways" "_law_e_ways" (defArgs s__law_e_ways) (defBody s__law_e_ways) (defScope s__law_e_ways) .none kV__law_e_ways dc__law_e_ways pm__law_e_ways an__law_e_ways cd__law_e_ways ct__law_e_ways), sl__law_e_ways⟩) (c__law_e_ways : PySem.W.codeIn K cd__law_e_ways "_law_e_ways" = true) (k__law_e_ways : PySem.W.keepIn K (.ref f__law_e_ways) = true)
    (a__law_e_ring : PySem.W.nsIn K mainGlobals "_law_e_ring" = some (some (.ref f__law_e_ring))) (l__law_e_ring : K.lookup f__law_e_ring = some ⟨oc__law_e_ring, od__law_e_ring, .func (PySem.W.fnOf "_law_e_ring" "_law_e_ring" (defArgs s__law_e_ring) (defBody s__law_e_ring) (defScope s__law_e_ring) .none kV__law_e_ring dc__law_e_ring pm__law_e_ring an__law_e_ring cd__law_e_ring ct__law_e_ring), sl__law_e_ring⟩) (c__law_e_ring : PySem.W.codeIn K cd__law_e_ring "_law_e_ring" = true) (k__law_e_ring : PySem.W.keepIn K (.ref f__law_e_ring) = true)
    (a__law_e_with_root : PySem.W.nsIn K mainGlobals "_law_e_with_root" = some (some (.ref f__law_e_with_root))) (l__law_e_with_root : K.lookup f__law_e_with_root = some ⟨oc__law_e_with_root, od__law_e_with_root, .func (PySem.W.fnOf "_law_e_with_root" "_law_e_with_root" (defArgs s__law_e_with_root) (defBody s__law_e_with_root) (defScope s__law_e_with_root) .none kV__law_e_with_root dc__law_e_with_root pm__law_e_with_root an__law_e_with_root cd__law_e_with_root ct__law_e_with_root), sl__law_e_with_root⟩) (c__law_e_with_root : PySem.W.codeIn K cd__law_e_with_root "_law_e_with_root" = true) (k__law_e_with_root : PySem.W.keepIn K (.ref f__law_e_with_root) = true)
    (a__law_e_spoilt : PySem.W.nsIn K mainGlobals "_law_e_spoilt" = some (some (.ref f__law_e_spoilt))) (l__law_e_spoilt : K.lookup f__law_e_spoilt = some ⟨oc__law_e_spoilt, od__law_e_spoilt, .func (PySem.W.fnOf "_law_e_spoilt" "_law_e_spoilt" (defArgs s__law_e_spoilt) (defBody s__law_e_spoilt) (defScope s__law_e_spoilt) .none kV__law_e_spoilt dc__law_e_spoilt pm__law_e_spoilt an__law_e_spoilt cd__law_e_spoilt ct__law_e_spoilt), sl__law_e_spoilt⟩) (c__law_e_spoilt : PySem.W.codeIn K cd__law_e_spoilt "_law_e_spoilt" = true) (k__law_e_spoilt : PySem.W.keepIn K (.ref f__law_e_spoilt) = true)
    (a_way_up : PySem.W.nsIn K mainGlobals "way_up" = some (some (.ref f_way_up))) (l_way_up : K.lookup f_way_up = some ⟨oc_way_up, od_way_up, .func (PySem.W.fnOf "way_up" "way_up" (defArgs s_way_up) (defBody s_way_up) (defScope s_way_up) .none kV_way_up dc_way_up pm_way_up an_way_up cd_way_up ct_way_up), sl_way_up⟩) (c_way_up : PySem.W.codeIn K cd_way_up "way_up" = true) (k_way_up : PySem.W.keepIn K (.ref f_way_up) = true)
    (a_is_count : PySem.W.nsIn K mainGlobals "is_count" = some (some (.ref f_is_count))) (l_is_count : K.lookup f_is_count = some ⟨oc_is_count, od_is_count, .func (PySem.W.fnOf "is_count" "is_count" (defArgs s_is_count) (defBody s_is_count) (defScope s_is_count) .none kV_is_count dc_is_count pm_is_count an_is_count cd_is_count ct_is_count), sl_is_count⟩) (c_is_count : PySem.W.codeIn K cd_is_count "is_count" = true) (k_is_count : PySem.W.keepIn K (.ref f_is_count) = true)
    (a_are_ways : PySem.W.nsIn K mainGlobals "are_ways" = some (some (.ref f_are_ways))) (l_are_ways : K.lookup f_are_ways = some ⟨oc_are_ways, od_are_ways, .func (PySem.W.fnOf "are_ways" "are_ways" (defArgs s_are_ways) (defBody s_are_ways) (defScope s_are_ways) .none kV_are_ways dc_are_ways pm_are_ways an_are_ways cd_are_ways ct_are_ways), sl_are_ways⟩) (c_are_ways : PySem.W.codeIn K cd_are_ways "are_ways" = true) (k_are_ways : PySem.W.keepIn K (.ref f_are_ways) = true)
    (a__law_e_good : PySem.W.nsIn K mainGlobals "_law_e_good" = some (some (.ref f__law_e_good))) (l__law_e_good : K.lookup f__law_e_good = some ⟨oc__law_e_good, od__law_e_good, .func (PySem.W.fnOf "_law_e_good" "_law_e_good" (defArgs s__law_e_good) (defBody s__law_e_good) (defScope s__law_e_good) .none kV__law_e_good dc__law_e_good pm__law_e_good an__law_e_good cd__law_e_good ct__law_e_good), sl__law_e_good⟩) (c__law_e_good : PySem.W.codeIn K cd__law_e_good "_law_e_good" = true) (k__law_e_good : PySem.W.keepIn K (.ref f__law_e_good) = true)
    (a_Hearing_hearers : PySem.W.findIn K (.ref Ca_Hearing) "hearers" = some (some (.ref f_Hearing_hearers))) (i_Hearing_hearers : PySem.W.isFn K (.ref f_Hearing_hearers) = true) (l_Hearing_hearers : K.lookup f_Hearing_hearers = some ⟨oc_Hearing_hearers, od_Hearing_hearers, .func (PySem.W.fnOf "hearers" "Hearing.hearers" (defArgs s_Hearing_hearers) (defBody s_Hearing_hearers) (defScope s_Hearing_hearers) .none kV_Hearing_hearers dc_Hearing_hearers pm_Hearing_hearers an_Hearing_hearers cd_Hearing_hearers ct_Hearing_hearers), sl_Hearing_hearers⟩) (c_Hearing_hearers : PySem.W.codeIn K cd_Hearing_hearers "Hearing.hearers" = true) (k_Hearing_hearers : PySem.W.keepIn K (.ref f_Hearing_hearers) = true)
    (a_Hearing___init__ : PySem.W.findIn K (.ref Ca_Hearing) "__init__" = some (some (.ref f_Hearing___init__))) (i_Hearing___init__ : PySem.W.isFn K (.ref f_Hearing___init__) = true) (l_Hearing___init__ : K.lookup f_Hearing___init__ = some ⟨oc_Hearing___init__, od_Hearing___init__, .func (PySem.W.fnOf "__init__" "Hearing.__init__" (defArgs s_Hearing___init__) (defBody s_Hearing___init__) (defScope s_Hearing___init__) .none kV_Hearing___init__ dc_Hearing___init__ pm_Hearing___init__ an_Hearing___init__ cd_Hearing___init__ ct_Hearing___init__), sl_Hearing___init__⟩) (c_Hearing___init__ : PySem.W.codeIn K cd_Hearing___init__ "Hearing.__init__" = true) (k_Hearing___init__ : PySem.W.keepIn K (.ref f_Hearing___init__) = true)
    (a_law : PySem.W.nsIn K mainGlobals "law" = some (some (.ref f_law))) (l_law : K.lookup f_law = some ⟨oc_law, od_law, .func (PySem.W.fnOf "law" "law" (defArgs s_law) (defBody s_law) (defScope s_law) .none kV_law dc_law pm_law an_law cd_law ct_law), sl_law⟩) (c_law : PySem.W.codeIn K cd_law "law" = true) (k_law : PySem.W.keepIn K (.ref f_law) = true)
    (g_MOST_WAYS : PySem.W.nsIn K mainGlobals "MOST_WAYS" = some (some (.int 8 t_MOST_WAYS)))
    (z_len : PySem.W.nsIn K mainGlobals "len" = some none)
    (z_range : PySem.W.nsIn K mainGlobals "range" = some none)
    (z_tuple : PySem.W.nsIn K mainGlobals "tuple" = some none)
    (z_list : PySem.W.nsIn K mainGlobals "list" = some none)
    (z_int : PySem.W.nsIn K mainGlobals "int" = some none)
    (z_isinstance : PySem.W.nsIn K mainGlobals "isinstance" = some none)
    (z_bool : PySem.W.nsIn K mainGlobals "bool" = some none)
    (z_all : PySem.W.nsIn K mainGlobals "all" = some none)
    : ∃ fd : FuncData, (∀ (s : Shared) (v : Value), BindsTo s fd ⟨[v], []⟩ [("script", v)]) ∧ ∀ base : Heap, K.In base → base.Ns mainGlobals mg → FnOk l.prog w K mg base CX0 5 fa fd ["script"] (SpM K (cmK K) (pmR [none]) 7 .imm Mlaw) := by
  have e := hfa.symm.trans (PySem.W.mg_of X G a_law)
  cases e
  have F__law_e_blend := fun_mk (st := s__law_e_blend) l__law_e_blend c__law_e_blend k__law_e_blend
  have F__law_e_draw := fun_mk (st := s__law_e_draw) l__law_e_draw c__law_e_draw k__law_e_draw
  have F__law_e_ways := fun_mk (st := s__law_e_ways) l__law_e_ways c__law_e_ways k__law_e_ways
  have F__law_e_ring := fun_mk (st := s__law_e_ring) l__law_e_ring c__law_e_ring k__law_e_ring
  have F__law_e_with_root := fun_mk (st := s__law_e_with_root) l__law_e_with_root c__law_e_with_root k__law_e_with_root
  have F__law_e_spoilt := fun_mk (st := s__law_e_spoilt) l__law_e_spoilt c__law_e_spoilt k__law_e_spoilt
  have F_way_up := fun_mk (st := s_way_up) l_way_up c_way_up k_way_up
  have F_is_count := fun_mk (st := s_is_count) l_is_count c_is_count k_is_count
  have F_are_ways := fun_mk (st := s_are_ways) l_are_ways c_are_ways k_are_ways
  have F__law_e_good := fun_mk (st := s__law_e_good) l__law_e_good c__law_e_good k__law_e_good
  have F_Hearing_hearers := fun_mk (st := s_Hearing_hearers) l_Hearing_hearers c_Hearing_hearers k_Hearing_hearers
  have F_Hearing___init__ := fun_mk (st := s_Hearing___init__) l_Hearing___init__ c_Hearing___init__ k_Hearing___init__
  have F_law := fun_mk (st := s_law) l_law c_law k_law
  refine ⟨PySem.W.fnOf "law" "law" (defArgs s_law) (defBody s_law) (defScope s_law) .none kV_law dc_law pm_law an_law cd_law ct_law, fun s v => .of_eq rfl, fun base _ _ => ?_⟩
  have cmHearing : cmK K "Hearing" = some Ca_Hearing := by unfold cmK; rw [aC_Hearing]
  have D__law_e_blend : Def l.prog w K mg base CX0 1 "_law_e_blend" ["cell", "place"] (SpM K (cmK K) (pmR [none, none]) 5 .shared M_law_e_blend) := ⟨_, _, ok__law_e_blend (cm := cmK K) (k := 0) F__law_e_blend, PySem.W.mg_of X G a__law_e_blend, k__law_e_blend, F__law_e_blend.binds (ps := ["cell", "place"]) (fun _ _ _ _ _ _ us hl => match us, hl with | [_, _], _ => rfl)⟩
  have D__law_e_draw : Def l.prog w K mg base CX0 2 "_law_e_draw" ["tray", "many"] (SpM K (cmK K) (pmR [some 0, none]) 5 .imm M_law_e_draw) := ⟨_, _, ok__law_e_draw (cm := cmK K) (k := 1) F__law_e_draw (D__law_e_blend.mono (by decide)) (PySem.W.mg_none_of X G z_len), PySem.W.mg_of X G a__law_e_draw, k__law_e_draw, F__law_e_draw.binds (ps := ["tray", "many"]) (fun _ _ _ _ _ _ us hl => match us, hl with | [_, _], _ => rfl)⟩
  have D__law_e_ways : Def l.prog w K mg base CX0 3 "_law_e_ways" ["tray"] (SpM K (cmK K) (pmR [some 0]) 8 .shared M_law_e_ways) := ⟨_, _, ok__law_e_ways (cm := cmK K) (k := 2) F__law_e_ways (D__law_e_draw.mono (by decide)) (PySem.W.mg_none_of X G z_range) (PySem.W.mg_none_of X G z_tuple), PySem.W.mg_of X G a__law_e_ways, k__law_e_ways, F__law_e_ways.binds (ps := ["tray"]) (fun _ _ _ _ _ _ us hl => match us, hl with | [_], _ => rfl)⟩
  have D__law_e_ring : Def l.prog w K mg base CX0 1 "_law_e_ring" ["up", "place"] (SpM K (cmK K) (pmR [none, none]) 4 .shared M_law_e_ring) := ⟨_, _, ok__law_e_ring (cm := cmK K) (k := 0) F__law_e_ring (PySem.W.mg_none_of X G z_list) (PySem.W.mg_none_of X G z_tuple), PySem.W.mg_of X G a__law_e_ring, k__law_e_ring, F__law_e_ring.binds (ps := ["up", "place"]) (fun _ _ _ _ _ _ us hl => match us, hl with | [_, _], _ => rfl)⟩
  have D__law_e_with_root : Def l.prog w K mg base CX0 1 "_law_e_with_root" ["found", "place"] (SpM K (cmK K) (pmR [none, none]) 2 .shared M_law_e_with_root) := ⟨_, _, ok__law_e_with_root (cm := cmK K) (k := 0) F__law_e_with_root, PySem.W.mg_of X G a__law_e_with_root, k__law_e_with_root, F__law_e_with_root.binds (ps := ["found", "place"]) (fun _ _ _ _ _ _ us hl => match us, hl with | [_, _], _ => rfl)⟩
  have D__law_e_spoilt : Def l.prog w K mg base CX0 3 "_law_e_spoilt" ["tray", "up"] (SpM K (cmK K) (pmR [some 0, none]) 9 .fr1 M_law_e_spoilt) := ⟨_, _, ok__law_e_spoilt (cm := cmK K) (k := 2) F__law_e_spoilt (D__law_e_draw.mono (by decide)) (D__law_e_ring.mono (by decide)) (D__law_e_with_root.mono (by decide)) (PySem.W.mg_none_of X G z_len) (PySem.W.mg_none_of X G z_list) (PySem.W.mg_none_of X G z_range), PySem.W.mg_of X G a__law_e_spoilt, k__law_e_spoilt, F__law_e_spoilt.binds (ps := ["tray", "up"]) (fun _ _ _ _ _ _ us hl => match us, hl with | [_, _], _ => rfl)⟩
  have D_way_up : Def l.prog w K mg base CX0 1 "way_up" ["up", "place"] (SpM K (cmK K) (pmR [none, none]) 3 .shared Mway_up) := ⟨_, _, ok_way_up (cm := cmK K) (k := 0) F_way_up (PySem.W.mg_none_of X G z_len), PySem.W.mg_of X G a_way_up, k_way_up, F_way_up.binds (ps := ["up", "place"]) (fun _ _ _ _ _ _ us hl => match us, hl with | [_, _], _ => rfl)⟩
  have D_is_count : Def l.prog w K mg base CX0 1 "is_count" ["thing"] (SpM K (cmK K) (pmR [none]) 1 .imm Mis_count) := ⟨_, _, ok_is_count (cm := cmK K) (k := 0) F_is_count (PySem.W.mg_none_of X G z_int) (PySem.W.mg_none_of X G z_isinstance) (PySem.W.mg_none_of X G z_bool), PySem.W.mg_of X G a_is_count, k_is_count, F_is_count.binds (ps := ["thing"]) (fun _ _ _ _ _ _ us hl => match us, hl with | [_], _ => rfl)⟩
  have D_are_ways : Def l.prog w K mg base CX0 2 "are_ways" ["thing"] (SpM K (cmK K) (pmR [none]) 3 .imm Mare_ways) := ⟨_, _, ok_are_ways (cm := cmK K) (k := 1) F_are_ways (D_is_count.mono (by decide)) (D_way_up.mono (by decide)) (PySem.W.mg_none_of X G z_tuple) (PySem.W.mg_none_of X G z_isinstance) (PySem.W.mg_none_of X G z_len) ⟨_, PySem.W.mg_of X G g_MOST_WAYS⟩ (PySem.W.mg_none_of X G z_all) (PySem.W.mg_none_of X G z_range), PySem.W.mg_of X G a_are_ways, k_are_ways, F_are_ways.binds (ps := ["thing"]) (fun _ _ _ _ _ _ us hl => match us, hl with | [_], _ => rfl)⟩
  have D__law_e_good : Def l.prog w K mg base CX0 1 "_law_e_good" ["thing"] (SpM K (cmK K) (pmR [none]) 5 .imm M_law_e_good) := ⟨_, _, ok__law_e_good (cm := cmK K) (k := 0) F__law_e_good (PySem.W.mg_none_of X G z_tuple) (PySem.W.mg_none_of X G z_isinstance) (PySem.W.mg_none_of X G z_len) (PySem.W.mg_none_of X G z_int) (PySem.W.mg_none_of X G z_bool) (PySem.W.mg_none_of X G z_range), PySem.W.mg_of X G a__law_e_good, k__law_e_good, F__law_e_good.binds (ps := ["thing"]) (fun _ _ _ _ _ _ us hl => match us, hl with | [_], _ => rfl)⟩
  have D_Hearing_hearers : MDef l.prog w K mg base CX0 1 Ca_Hearing "hearers" ["self"] (SpM K (cmK K) (pmR [none]) 2 .shared MHearing_hearers) := ⟨_, _, ok_Hearing_hearers (cm := cmK K) (k := 0) F_Hearing_hearers (fun Ca e => by cases (cmHearing.symm.trans e); exact ⟨⟨pg_Hearing, hd_Hearing, po_Hearing, sa_Hearing⟩, na_Hearing_up⟩) (PySem.W.mg_none_of X G z_len) (PySem.W.mg_none_of X G z_range) (fun Ca e => by cases (cmHearing.symm.trans e); exact ⟨⟨pg_Hearing, hd_Hearing, po_Hearing, sa_Hearing⟩, na_Hearing_hears⟩) (PySem.W.mg_none_of X G z_tuple), ⟨a_Hearing_hearers, i_Hearing_hearers, k_Hearing_hearers⟩, ⟨pg_Hearing, hd_Hearing, po_Hearing, sa_Hearing⟩, F_Hearing_hearers.binds (ps := ["self"]) (fun _ _ _ _ _ _ us hl => match us, hl with | [_], _ => rfl)⟩
  have D_Hearing___init__ : KDef l.prog w K mg base CX0 3 "Hearing" Ca_Hearing ["self", "up"] (SpM K (cmK K) (pmR [some 0, none]) 3 .imm MHearing___init__) := ⟨_, _, ok_Hearing___init__ (cm := cmK K) (k := 2) F_Hearing___init__ (D_are_ways.mono (by decide)) (fun Ca e => by cases (cmHearing.symm.trans e); exact ⟨⟨pg_Hearing, hd_Hearing, po_Hearing, sa_Hearing⟩, na_Hearing_up⟩) (fun Ca e => by cases (cmHearing.symm.trans e); exact ⟨⟨pg_Hearing, hd_Hearing, po_Hearing, sa_Hearing⟩, na_Hearing_root⟩) (fun Ca e => by cases (cmHearing.symm.trans e); exact ⟨⟨pg_Hearing, hd_Hearing, po_Hearing, sa_Hearing⟩, na_Hearing_hears⟩) (fun Ca e => by cases (cmHearing.symm.trans e); exact ⟨⟨pg_Hearing, hd_Hearing, po_Hearing, sa_Hearing⟩, na_Hearing_counts⟩) (fun Ca e => by cases (cmHearing.symm.trans e); exact ⟨⟨pg_Hearing, hd_Hearing, po_Hearing, sa_Hearing⟩, na_Hearing_served⟩) (fun Ca e => by cases (cmHearing.symm.trans e); exact ⟨⟨pg_Hearing, hd_Hearing, po_Hearing, sa_Hearing⟩, na_Hearing_row_up⟩) (fun Ca e => by cases (cmHearing.symm.trans e); exact ⟨⟨pg_Hearing, hd_Hearing, po_Hearing, sa_Hearing⟩, na_Hearing_row_down⟩) (fun Ca e => by cases (cmHearing.symm.trans e); exact ⟨⟨pg_Hearing, hd_Hearing, po_Hearing, sa_Hearing⟩, na_Hearing_told⟩) (fun Ca e => by cases (cmHearing.symm.trans e); exact ⟨⟨pg_Hearing, hd_Hearing, po_Hearing, sa_Hearing⟩, na_Hearing_following⟩) (fun Ca e => by cases (cmHearing.symm.trans e); exact ⟨⟨pg_Hearing, hd_Hearing, po_Hearing, sa_Hearing⟩, na_Hearing_put_up⟩) (fun Ca e => by cases (cmHearing.symm.trans e); exact ⟨⟨pg_Hearing, hd_Hearing, po_Hearing, sa_Hearing⟩, na_Hearing_put_down⟩), ⟨mk_Hearing, a_Hearing___init__, i_Hearing___init__, kc_Hearing⟩, PySem.W.mg_of X G aC_Hearing, F_Hearing___init__.binds (ps := ["self", "up"]) (fun _ _ _ _ _ _ us hl => match us, hl with | [_, _], _ => rfl)⟩
  exact ok_law (cm := cmK K) (k := 4) F_law (D__law_e_ways.mono (by decide)) (D_are_ways.mono (by decide)) (D__law_e_spoilt.mono (by decide)) (D__law_e_good.mono (by decide)) D_Hearing___init__ (by decide) (D_Hearing_hearers.mono (by decide)) (PySem.W.mg_none_of X G z_range) (PySem.W.mg_none_of X G z_len) cmHearing (PySem.W.mg_none_of X G z_bool) (PySem.W.mg_none_of X G z_isinstance)
end Lw
open PySem PySem.W PyProof.Rows
theorem PySem.Challenge.cw_hearkenway_k40_ways_of_anything_holds : PySem.Challenge.rw_hearkenway_k40_ways_of_anything.Holds := by
  w_on; o_law; k_head; (case hw => w_witness2)
  k_fill
  refine L2.walk_of (l := PySem.Challenge.rw_hearkenway_k40_ways_of_anything) (n := 63) (k := 5) (x := "script") (CX := fun _ => L2.CX0) (sp := fun w => Tm.SpK _ (Tm.pmR [none]) 7 .imm Lw.Mlaw) rfl (by decide) rfl ⟨rfl, by decide, by decide⟩ (fun w h Y => PySem.W.kIn_of Y) ?F (fun _ H a ns hl hO hS => Tm.spM_law Lw.law_true hO hS) (fun _ _ _ _ _ h => h)
  case F =>
    intro w mg fa h KX G hmg
    refine' Lw.all_mk KX G hmg ?aC_Hearing ?pg_Hearing ?hd_Hearing ?po_Hearing ?sa_Hearing ?mk_Hearing ?kc_Hearing ?na_Hearing_up ?na_Hearing_hears ?na_Hearing_root ?na_Hearing_counts ?na_Hearing_served ?na_Hearing_row_up ?na_Hearing_row_down ?na_Hearing_told ?na_Hearing_following ?na_Hearing_put_up ?na_Hearing_put_down ?a__law_e_blend ?l__law_e_blend ?c__law_e_blend ?k__law_e_blend ?a__law_e_draw ?l__law_e_draw ?c__law_e_draw ?k__law_e_draw ?a__law_e_ways ?l__law_e_ways ?c__law_e_ways ?k__law_e_ways ?a__law_e_ring ?l__law_e_ring ?c__law_e_ring ?k__law_e_ring ?a__law_e_with_root ?l__law_e_with_root ?c__law_e_with_root ?k__law_e_with_root ?a__law_e_spoilt ?l__law_e_spoilt ?c__law_e_spoilt ?k__law_e_spoilt ?a_way_up ?l_way_up ?c_way_up ?k_way_up ?a_is_count ?l_is_count ?c_is_count ?k_is_count ?a_are_ways ?l_are_ways ?c_are_ways ?k_are_ways ?a__law_e_good ?l__law_e_good ?c__law_e_good ?k__law_e_good ?a_Hearing_hearers ?i_Hearing_hearers ?l_Hearing_hearers ?c_Hearing_hearers ?k_Hearing_hearers ?a_Hearing___init__ ?i_Hearing___init__ ?l_Hearing___init__ ?c_Hearing___init__ ?k_Hearing___init__ ?a_law ?l_law ?c_law ?k_law ?g_MOST_WAYS ?z_len ?z_range ?z_tuple ?z_list ?z_int ?z_isinstance ?z_bool ?z_all
    (case aC_Hearing => k_is); (case pg_Hearing => k_is); (case hd_Hearing => k_is); (case po_Hearing => k_is); (case sa_Hearing => k_is); (case mk_Hearing => k_is); (case kc_Hearing => k_is); (case na_Hearing_up => k_is); (case na_Hearing_hears => k_is); (case na_Hearing_root => k_is); (case na_Hearing_counts => k_is); (case na_Hearing_served => k_is); (case na_Hearing_row_up => k_is); (case na_Hearing_row_down => k_is); (case na_Hearing_told => k_is); (case na_Hearing_following => k_is); (case na_Hearing_put_up => k_is); (case na_Hearing_put_down => k_is); (case a__law_e_blend => k_is); (case l__law_e_blend => k_is); (case c__law_e_blend => k_is); (case k__law_e_blend => k_is); (case a__law_e_draw => k_is); (case l__law_e_draw => k_is); (case c__law_e_draw => k_is); (case k__law_e_draw => k_is); (case a__law_e_ways => k_is); (case l__law_e_ways => k_is); (case c__law_e_ways => k_is); (case k__law_e_ways => k_is); (case a__law_e_ring => k_is); (case l__law_e_ring => k_is); (case c__law_e_ring => k_is); (case k__law_e_ring => k_is); (case a__law_e_with_root => k_is); (case l__law_e_with_root => k_is); (case c__law_e_with_root => k_is); (case k__law_e_with_root => k_is); (case a__law_e_spoilt => k_is); (case l__law_e_spoilt => k_is); (case c__law_e_spoilt => k_is); (case k__law_e_spoilt => k_is); (case a_way_up => k_is); (case l_way_up => k_is); (case c_way_up => k_is); (case k_way_up => k_is); (case a_is_count => k_is); (case l_is_count => k_is); (case c_is_count => k_is); (case k_is_count => k_is); (case a_are_ways => k_is); (case l_are_ways => k_is); (case c_are_ways => k_is); (case k_are_ways => k_is); (case a__law_e_good => k_is); (case l__law_e_good => k_is); (case c__law_e_good => k_is); (case k__law_e_good => k_is); (case a_Hearing_hearers => k_is); (case i_Hearing_hearers => k_is); (case l_Hearing_hearers => k_is); (case c_Hearing_hearers => k_is); (case k_Hearing_hearers => k_is); (case a_Hearing___init__ => k_is); (case i_Hearing___init__ => k_is); (case l_Hearing___init__ => k_is); (case c_Hearing___init__ => k_is); (case k_Hearing___init__ => k_is); (case a_law => k_is); (case l_law => k_is); (case c_law => k_is); (case k_law => k_is); (case g_MOST_WAYS => k_is); (case z_len => k_is); (case z_range => k_is); (case z_tuple => k_is); (case z_list => k_is); (case z_int => k_is); (case z_isinstance => k_is); (case z_bool => k_is); (case z_all => k_is)
