import PyProof.Rows.All
import Wide.All
import OpenK.AllK
import Wide.FinOn
import KE.KStateDown
import Lean
import HandS.ForMost
import HandS.Deep
import HandS.DictTup
import HandS.Wide
import HandS.Conv
import HandS.Style
import HandS.Zip
import HandS.TupAny
import HandS.TupSets
import HandS.SortOrd
import HandS.SortRule
import HandS.DictComp
import KE.KDictSum
import KE.KDictPairs
import KE.KDictCopyH
import PyProof.ReprRoads
import HandS.Head0
import HandS.Head1
import HandS.Head2
import HandS.HeadEnd
import HandS.HeadHook1
import HandS.HeadHook2
import HandS.IsInst
import PySem.Challenge.RW_owedonce_k61_what_is_lacking
set_option Elab.async false
set_option linter.all false
set_option maxRecDepth 100000
set_option maxHeartbeats 0
/-! the data layer: what is known (F), what is owned (O), by pure data -/
namespace OW
open PySem PySem.Spec PyProof.Rows L2

/-- pure data; ref: an owned object, by its address -/
inductive D where
  | non | bl (b : Bool) | int (i : Int) | str (x : Str) | ref (a : Addr) | ty (n : String)
  | tup (xs : List D) | lst (xs : List D)

mutual
inductive Rel (F : Hp) : D → V → Prop
  | non : Rel F .non .non
  | bl (b : Bool) : Rel F (.bl b) (.bl b)
  | int (i : Int) : Rel F (.int i) (.int i)
  | str (x : Str) : Rel F (.str x) (.str x)
  | ref (a : Addr) : Rel F (.ref a) (.ref a)
  | ty (n : String) : Rel F (.ty n) (.ty n)
  | tup {a : Addr} {vs : List V} {xs : List D} : F a = some (.tup vs) → RelL F xs vs → Rel F (.tup xs) (.ref a)
  | lst {a : Addr} {vs : List V} {xs : List D} : F a = some (.lst vs) → RelL F xs vs → Rel F (.lst xs) (.ref a)
inductive RelL (F : Hp) : List D → List V → Prop
  | nil : RelL F [] []
  | cons {d : D} {v : V} {ds : List D} {vs : List V} : Rel F d v → RelL F ds vs → RelL F (d :: ds) (v :: vs)
end

/-- owned contents -/
inductive C where
  | lst (xs : List D) | dT (kvs : List (List Key × D)) | dK (kvs : List (Key × D)) | dice (n : Nat)

def RelKV {κ : Type} (F : Hp) : List (κ × D) → List (κ × V) → Prop := Paired fun p q => p.1 = q.1 ∧ Rel F p.2 q.2
inductive CRel (F : Hp) : C → HO → Prop
  | lst {xs vs} : RelL F xs vs → CRel F (.lst xs) (.lst vs)
  | dT {kvs ks} : RelKV F kvs ks → CRel F (.dT kvs) (.dT ks)
  | dK {kvs ks} : RelKV F kvs ks → CRel F (.dK kvs) (.dK ks)
  | dice {l : Addr} {ns : List Int} {n : Nat} {spot more rest : Int} : F l = some (.lst (ns.map V.int)) → ns.length ≤ 63 → 0 ≤ spot → spot ≤ n → CRel F (.dice n) (.lst [.ref l, .int spot, .int more, .int rest])

section
variable {F F' H H' : Hp}
theorem Same.f {p : Addr} {o : HO} (h : H p = none) : Same H (upd H p o) := fun b x e => by
  rw [upd_ne (ne_of_none e h)]
  exact e
mutual
theorem Rel.mono (s : Same F F') : ∀ {d : D} {v : V}, Rel F d v → Rel F' d v
  | _, _, .non => .non
  | _, _, .bl b => .bl b
  | _, _, .int b => .int b
  | _, _, .str b => .str b
  | _, _, .ref b => .ref b
  | _, _, .ty b => .ty b
  | _, _, .tup h r => .tup (s _ _ h) (RelL.mono s r)
  | _, _, .lst h r => .lst (s _ _ h) (RelL.mono s r)
theorem RelL.mono (s : Same F F') : ∀ {ds : List D} {vs : List V}, RelL F ds vs → RelL F' ds vs
  | _, _, .nil => .nil
  | _, _, .cons h t => .cons (Rel.mono s h) (RelL.mono s t)
end
theorem RelL.length : ∀ {ds : List D} {vs : List V}, RelL F ds vs → ds.length = vs.length
  | _, _, .nil => rfl
  | _, _, .cons _ t => by rw [List.length_cons, List.length_cons, RelL.length t]
theorem RelL.get : ∀ {ds : List D} {vs : List V} {i : Nat} {d : D}, RelL F ds vs → ds[i]? = some d → ∃ v, vs[i]? = some v ∧ Rel F d v
  | _, _, i, _, .nil, h => by simp at h
  | _, _, 0, _, .cons r _, h => ⟨_, rfl, by
      have e := Option.some.inj h
      subst e
      exact r⟩
  | _, _, i + 1, _, .cons _ t, h => by
    obtain ⟨v, e, r⟩ := RelL.get (i := i) t h
    exact ⟨v, e, r⟩
theorem RelL.back : ∀ {ds : List D} {vs : List V} {i : Nat} {v : V}, RelL F ds vs → vs[i]? = some v → ∃ d, ds[i]? = some d ∧ Rel F d v
  | _, _, i, _, .nil, h => by simp at h
  | _, _, 0, _, .cons r _, h => ⟨_, rfl, by
      have e := Option.some.inj h
      subst e
      exact r⟩
  | _, _, i + 1, _, .cons _ t, h => by
    obtain ⟨v, e, r⟩ := RelL.back (i := i) t h
    exact ⟨v, e, r⟩
theorem RelL.append : ∀ {ds es : List D} {vs ws : List V}, RelL F ds vs → RelL F es ws → RelL F (ds ++ es) (vs ++ ws)
  | _, _, _, _, .nil, s => s
  | _, _, _, _, .cons r t, s => .cons r (RelL.append t s)
theorem RelL.take : ∀ {ds : List D} {vs : List V} (n : Nat), RelL F ds vs → RelL F (ds.take n) (vs.take n)
  | _, _, 0, _ => .nil
  | _, _, _ + 1, .nil => .nil
  | _, _, n + 1, .cons r t => .cons r (RelL.take n t)
theorem RelL.drop : ∀ {ds : List D} {vs : List V} (n : Nat), RelL F ds vs → RelL F (ds.drop n) (vs.drop n)
  | _, _, 0, r => r
  | _, _, _ + 1, .nil => .nil
  | _, _, n + 1, .cons _ t => RelL.drop n t
theorem RelL.reverse {ds : List D} {vs : List V} (h : RelL F ds vs) : RelL F ds.reverse vs.reverse := by
  induction ds generalizing vs with
  | nil => cases h; exact .nil
  | cons d ds ih =>
    cases h with
    | cons r t =>
      rw [List.reverse_cons, List.reverse_cons]
      exact (ih t).append (.cons r .nil)
theorem RelL.dropLast {ds : List D} {vs : List V} (h : RelL F ds vs) : RelL F ds.dropLast vs.dropLast := by
  rw [List.dropLast_eq_take, List.dropLast_eq_take, h.length]
  exact h.take _
theorem RelL.eraseIdx : ∀ {ds : List D} {vs : List V} (i : Nat), RelL F ds vs → RelL F (ds.eraseIdx i) (vs.eraseIdx i)
  | _, _, _, .nil => .nil
  | _, _, 0, .cons _ t => t
  | _, _, i + 1, .cons r t => .cons r (RelL.eraseIdx i t)
theorem RelL.set {x : D} {v : V} (r : Rel F x v) : ∀ {ds : List D} {vs : List V} (i : Nat), RelL F ds vs → RelL F (ds.set i x) (vs.set i v)
  | _, _, _, .nil => .nil
  | _, _, 0, .cons _ t => .cons r t
  | _, _, i + 1, .cons q t => .cons q (RelL.set r i t)
theorem RelL.ints : ∀ {ns : List Int} {vs : List V}, RelL F (ns.map D.int) vs → vs = ns.map V.int
  | [], _, .nil => rfl
  | n :: ns, _, .cons r t => by
    cases r
    rw [RelL.ints t]
    rfl
theorem RelL.of_ints : ∀ (ns : List Int), RelL F (ns.map D.int) (ns.map V.int)
  | [] => .nil
  | n :: ns => .cons (.int n) (RelL.of_ints ns)
theorem RelKV.mono {κ : Type} (s : Same F F') {kvs : List (κ × D)} {ks : List (κ × V)} (h : RelKV F kvs ks) : RelKV F' kvs ks :=
  Paired.mapP h fun _ _ z => ⟨z.1, z.2.mono s⟩
theorem CRel.mono (s : Same F F') {c : C} {o : HO} (h : CRel F c o) : CRel F' c o := by
  cases h with
  | lst r => exact .lst (r.mono s)
  | dT r => exact .dT (r.mono s)
  | dK r => exact .dK (r.mono s)
  | dice a b c d => exact .dice (s _ _ a) b c d
theorem CRel.mut {c : C} {o : HO} (h : CRel F c o) : Mut (some o) := by
  cases h <;> exact True.intro
end

abbrev Own := List (Addr × C)
abbrev Ctx := List (Option D)
abbrev dom (O : Own) : List Addr := O.map (·.1)

structure Sat (F H : Hp) (σ : L2.St) (Γ : Ctx) (O : Own) : Prop where
  sub : Same F H
  len : σ.length = Γ.length
  slot : ∀ (i : Nat) (d : D), Γ[i]? = some (some d) → ∃ v, σ[i]? = some (some v) ∧ Rel F d v
  own : ∀ p ∈ O, F p.1 = none ∧ ∃ o, H p.1 = some o ∧ CRel F p.2 o
  nd : (dom O).Nodup
  tups : ∀ b vs, H b = some (.tup vs) → F b = some (.tup vs)

structure Step (A A' : List Addr) (F H F' H' : Hp) : Prop where
  f : Same F F'
  h : ∀ b o, b ∉ A → H b = some o → H' b = some o
  there : ∀ b o, H b = some o → ∃ o', H' b = some o'
  new : ∀ b o, F' b = some o → F b = some o ∨ H b = none ∨ b ∈ A
  own : ∀ a ∈ A', a ∈ A ∨ H a = none

theorem none_or {H : Hp} (b : Addr) : H b = none ∨ ∃ o, H b = some o := by
  cases h : H b with
  | none => exact .inl rfl
  | some o => exact .inr ⟨o, rfl⟩
theorem Step.refl {A : List Addr} {F H : Hp} : Step A A F H F H :=
  ⟨Same.refl F, fun _ _ _ h => h, fun _ o h => ⟨o, h⟩, fun _ _ h => .inl h, fun _ h => .inl h⟩
theorem Step.back {A A' : List Addr} {F H F' H' : Hp} (s : Step A A' F H F' H') {b : Addr} (h : H' b = none) : H b = none := by
  rcases none_or (H := H) b with q | ⟨o, q⟩
  · exact q
  · obtain ⟨o', e⟩ := s.there b o q
    rw [h] at e
    cases e
theorem Step.trans {A A' A'' : List Addr} {F H F1 H1 F2 H2 : Hp} (s : Step A A' F H F1 H1) (t : Step A' A'' F1 H1 F2 H2) : Step A A'' F H F2 H2 where
  f := s.f.trans t.f
  h := fun b o hb e => t.h b o (fun z => (s.own b z).elim hb fun q => by rw [q] at e; cases e) (s.h b o hb e)
  there := fun b o e => by
    obtain ⟨o1, e1⟩ := s.there b o e
    exact t.there b o1 e1
  new := fun b o e => by
    rcases t.new b o e with q | q | q
    · exact s.new b o q
    · exact .inr (.inl (s.back q))
    · rcases s.own b q with z | z
      · exact .inr (.inr z)
      · exact .inr (.inl z)
  own := fun a h => by
    rcases t.own a h with q | q
    · exact s.own a q
    · exact .inr (s.back q)

section
variable {F H F' H' : Hp} {σ : L2.St} {Γ : Ctx} {O O' : Own}
theorem Sat.fresh (S : Sat F H σ Γ O) {p : Addr} (h : H p = none) : F p = none ∧ p ∉ dom O := by
  refine ⟨S.sub.free h, fun m => ?_⟩
  obtain ⟨q, hq, e⟩ := List.mem_map.mp m
  obtain ⟨_, o, ho, _⟩ := S.own q hq
  rw [e, h] at ho
  cases ho
/-- a new object, known for good -/
theorem Sat.laid (S : Sat F H σ Γ O) {p : Addr} {o : HO} (h : H p = none) : Sat (upd F p o) (upd H p o) σ Γ O := by
  have hf := (S.fresh h).1
  have sf : Same F (upd F p o) := Same.f hf
  refine ⟨fun b x e => ?_, S.len, fun i d e => ?_, fun q hq => ?_, S.nd, ?_⟩
  · by_cases hb : b = p
    · subst hb
      rw [upd_same] at e
      rw [upd_same]
      exact e
    · rw [upd_ne hb] at e
      rw [upd_ne hb]
      exact S.sub b x e
  · obtain ⟨v, e1, r⟩ := S.slot i d e
    exact ⟨v, e1, r.mono sf⟩
  · obtain ⟨a, x, e, r⟩ := S.own q hq
    have hne : q.1 ≠ p := ne_of_none e h
    exact ⟨by rw [upd_ne hne]; exact a, x, by rw [upd_ne hne]; exact e, r.mono sf⟩
  · intro b vs e
    by_cases hb : b = p
    · subst hb
      rw [upd_same] at e
      rw [upd_same]
      exact e
    · rw [upd_ne hb] at e
      rw [upd_ne hb]
      exact S.tups b vs e
theorem Step.laid {A : List Addr} {p : Addr} {o : HO} (s : Same F H) (h : H p = none) : Step A A F H (upd F p o) (upd H p o) where
  f := Same.f (s.free h)
  h := fun b x _ e => Same.f h b x e
  there := fun b x e => ⟨x, Same.f h b x e⟩
  new := fun b x e => by
    by_cases hb : b = p
    · subst hb
      exact .inr (.inl h)
    · rw [upd_ne hb] at e
      exact .inl e
  own := fun _ h => .inl h
/-- a new object, owned -/
theorem Sat.made (S : Sat F H σ Γ O) {p : Addr} {o : HO} {c : C} (h : H p = none) (r : CRel F c o) : Sat F (upd H p o) σ Γ ((p, c) :: O) := by
  refine ⟨fun b x e => Same.f h b x (S.sub b x e), S.len, S.slot, fun q hq => ?_, List.nodup_cons.mpr ⟨(S.fresh h).2, S.nd⟩, ?_⟩
  rcases List.mem_cons.mp hq with e | hq
  · subst e
    exact ⟨(S.fresh h).1, o, upd_same, r⟩
  · obtain ⟨a, x, e, r⟩ := S.own q hq
    exact ⟨a, x, Same.f h _ _ e, r⟩
  · intro b vs e
    by_cases hb : b = p
    · subst hb
      rw [upd_same] at e
      have e2 := Option.some.inj e
      subst e2
      cases r
    · rw [upd_ne hb] at e
      exact S.tups b vs e
theorem Step.made {A : List Addr} {p : Addr} {o : HO} (h : H p = none) : Step A (p :: A) F H F (upd H p o) where
  f := Same.refl F
  h := fun b x _ e => Same.f h b x e
  there := fun b x e => ⟨x, Same.f h b x e⟩
  new := fun b x e => .inl e
  own := fun a m => by
    rcases List.mem_cons.mp m with e | m
    · subst e
      exact .inr h
    · exact .inl m
theorem set_dom {O : Own} {j : Nat} {a : Addr} {c c' : C} (h : O[j]? = some (a, c)) : dom (O.set j (a, c')) = dom O := by
  unfold dom
  rw [List.map_set]
  refine List.ext_getElem? fun i => ?_
  rw [List.getElem?_set]
  by_cases e : j = i
  · subst e
    have hl := (List.getElem?_eq_some_iff.mp h).1
    rw [if_pos rfl, if_pos (by simpa using hl), List.getElem?_map, h]
    rfl
  · rw [if_neg e]
/-- an owned object is written -/
theorem Sat.write (S : Sat F H σ Γ O) {j : Nat} {a : Addr} {c c' : C} {o : HO} (hj : O[j]? = some (a, c)) (r : CRel F c' o) : Sat F (upd H a o) σ Γ (O.set j (a, c')) := by
  have hm : (a, c) ∈ O := List.mem_of_getElem? hj
  obtain ⟨hf, ox, hx, rx⟩ := S.own _ hm
  refine ⟨fun b x e => ?_, S.len, S.slot, fun q hq => ?_, by rw [set_dom hj]; exact S.nd, fun b vs e => ?_⟩
  · rw [upd_ne (ne_of_none e hf)]
    exact S.sub b x e
  · obtain ⟨i, hi⟩ := List.getElem?_of_mem hq
    rw [List.getElem?_set] at hi
    by_cases e : j = i
    · subst e
      have hl := (List.getElem?_eq_some_iff.mp hj).1
      rw [if_pos rfl, if_pos hl] at hi
      have e2 := Option.some.inj hi
      subst e2
      exact ⟨hf, o, upd_same, r⟩
    · rw [if_neg e] at hi
      obtain ⟨f1, x, e1, r1⟩ := S.own q (List.mem_of_getElem? hi)
      have hne : q.1 ≠ a := fun z => by
        have h1 : (dom O)[i]? = some a := by
          rw [List.getElem?_map, hi, ← z]
          rfl
        have h2 : (dom O)[j]? = some a := by
          rw [List.getElem?_map, hj]
          rfl
        exact e ((nd_ix S.nd h2 h1))
      exact ⟨f1, x, by rw [upd_ne hne]; exact e1, r1⟩
  · by_cases hb : b = a
    · subst hb
      rw [upd_same] at e
      have e2 := Option.some.inj e
      subst e2
      cases r
    · rw [upd_ne hb] at e
      exact S.tups b vs e
theorem Step.write {O : Own} {j : Nat} {a : Addr} {c c' : C} {o ox : HO} (hj : O[j]? = some (a, c)) (hx : H a = some ox) (hf : F a = none) : Step (dom O) (dom (O.set j (a, c'))) F H F (upd H a o) where
  f := Same.refl F
  h := fun b x hb e => by
    have hne : b ≠ a := fun z => hb (by
      subst z
      exact List.mem_map.mpr ⟨_, List.mem_of_getElem? hj, rfl⟩)
    rw [upd_ne hne]
    exact e
  there := fun b x e => by
    by_cases hb : b = a
    · subst hb
      exact ⟨o, upd_same⟩
    · exact ⟨x, by rw [upd_ne hb]; exact e⟩
  new := fun b x e => .inl e
  own := fun b m => by
    rw [set_dom hj] at m
    exact .inl m
/-- slots -/
theorem Sat.put (S : Sat F H σ Γ O) {d : D} {v : V} (i : Nat) (r : Rel F d v) : Sat F H (σ.set i (some v)) (Γ.set i (some d)) O := by
  refine ⟨S.sub, by rw [List.length_set, List.length_set]; exact S.len, fun j e h => ?_, S.own, S.nd, S.tups⟩
  rw [List.getElem?_set] at h
  by_cases hj : i = j
  · subst hj
    rw [if_pos rfl] at h
    by_cases hl : i < Γ.length
    · rw [if_pos hl] at h
      have e1 := Option.some.inj (Option.some.inj h)
      subst e1
      exact ⟨v, List.getElem?_set_self (by rw [S.len]; exact hl), r⟩
    · rw [if_neg hl] at h
      cases h
  · rw [if_neg hj] at h
    obtain ⟨w, e1, r1⟩ := S.slot j e h
    exact ⟨w, by rw [List.getElem?_set_ne hj]; exact e1, r1⟩
theorem Sat.forget (S : Sat F H σ Γ O) {Γ' : Ctx} (hl : Γ'.length = Γ.length) (h : ∀ (i : Nat) (d : D), Γ'[i]? = some (some d) → Γ[i]? = some (some d)) : Sat F H σ Γ' O :=
  ⟨S.sub, S.len.trans hl.symm, fun i d e => S.slot i d (h i d e), S.own, S.nd, S.tups⟩
/-- behind a step whose owned objects are told anew -/
theorem Sat.moved (S : Sat F H σ Γ O) (f : Same F F') (hs : Same F' H') (ho : ∀ p ∈ O', F' p.1 = none ∧ ∃ o, H' p.1 = some o ∧ CRel F' p.2 o) (nd : (dom O').Nodup) (ht : ∀ b vs, H' b = some (.tup vs) → F' b = some (.tup vs)) : Sat F' H' σ Γ O' :=
  ⟨hs, S.len, fun i d e => let ⟨v, a, r⟩ := S.slot i d e; ⟨v, a, r.mono f⟩, ho, nd, ht⟩
end
end OW

/-! judgements over pure states -/
namespace OW
open PySem PySem.Spec PyProof.Rows L2

abbrev KD := D → Own → Prop
/-- behind an expression that ends at (d, O'), from (F, H) with the owned O -/
def Aft (σ : L2.St) (Γ : Ctx) (O : Own) (F H : Hp) (Q : VK) (d : D) (O' : Own) : Prop := ∀ v F' H', Step (dom O) (dom O') F H F' H' → Sat F' H' σ Γ O' → Rel F' d v → Q v H'
def Ef (te : TE) (Γ : Ctx) (O : Own) (K : KD) : Prop := ∀ F H σ Q, Sat F H σ Γ O → (∀ d O', K d O' → Aft σ Γ O F H Q d O') → te σ H Q
def Tf (tt : TT) (Γ : Ctx) (O : Own) (K : Bool → Own → Prop) : Prop := ∀ F H σ (Q : Bool → Hp → Prop), Sat F H σ Γ O → (∀ b O', K b O' → ∀ F' H', Step (dom O) (dom O') F H F' H' → Sat F' H' σ Γ O' → Q b H') → tt σ H Q
def Af (ta : TA) (Γ : Ctx) (O : Own) (K : List D → Own → Prop) : Prop := ∀ F H σ (Q : List V → Hp → Prop), Sat F H σ Γ O → (∀ ds O', K ds O' → ∀ vs F' H', Step (dom O) (dom O') F H F' H' → Sat F' H' σ Γ O' → RelL F' ds vs → Q vs H') → ta σ H Q
structure Ks where
  nx : Ctx → Own → Prop
  rt : KD
  bk : Ctx → Own → Prop := fun _ _ => False
  ct : Ctx → Own → Prop := fun _ _ => False
structure SfEnds (O : Own) (F H : Hp) (K : Ks) (E : Ends) : Prop where
  nx : ∀ Γ' O', K.nx Γ' O' → ∀ σ' F' H', Step (dom O) (dom O') F H F' H' → Sat F' H' σ' Γ' O' → E.nx σ' H'
  rt : ∀ d O', K.rt d O' → ∀ v σ' Γ' F' H', Step (dom O) (dom O') F H F' H' → Sat F' H' σ' Γ' O' → Rel F' d v → E.rt v H'
  bk : ∀ Γ' O', K.bk Γ' O' → ∀ σ' F' H', Step (dom O) (dom O') F H F' H' → Sat F' H' σ' Γ' O' → E.bk σ' H'
  ct : ∀ Γ' O', K.ct Γ' O' → ∀ σ' F' H', Step (dom O) (dom O') F H F' H' → Sat F' H' σ' Γ' O' → E.ct σ' H'
def Sf (ts : TS) (Γ : Ctx) (O : Own) (K : Ks) : Prop := ∀ F H σ (E : Ends), Sat F H σ Γ O → SfEnds O F H K E → ts E σ H
/-- a target: the value d stored -/
def Gf (g : TG) (Γ : Ctx) (d : D) (K : Ctx → Prop) : Prop := ∀ F H σ O v (Q : L2.St → Hp → Prop), Sat F H σ Γ O → Rel F d v → (∀ Γ', K Γ' → ∀ σ', Sat F H σ' Γ' O → Q σ' H) → g v σ H Q
def Gfs (g : TGs) (Γ : Ctx) (ds : List D) (K : Ctx → Prop) : Prop := ∀ F H σ O vs (Q : L2.St → Hp → Prop), Sat F H σ Γ O → RelL F ds vs → (∀ Γ', K Γ' → ∀ σ', Sat F H σ' Γ' O → Q σ' H) → g vs σ H Q

section
variable {Γ : Ctx} {O : Own} {K : KD}
/-! ### to go on -/
theorem Aft.step {σ : L2.St} {O O1 : Own} {F H F1 H1 : Hp} {Q : VK} (s : Step (dom O) (dom O1) F H F1 H1) {d : D} {O' : Own} (h : Aft σ Γ O F H Q d O') : Aft σ Γ O1 F1 H1 Q d O' := fun v F' H' t S r => h v F' H' (s.trans t) S r
theorem Ef.mono {te : TE} {K K' : KD} (h : Ef te Γ O K) (k : ∀ d O', K d O' → K' d O') : Ef te Γ O K' := fun F H σ Q S hk => h F H σ Q S fun d O' kd => hk d O' (k d O' kd)
theorem Tf.mono {tt : TT} {K K' : Bool → Own → Prop} (h : Tf tt Γ O K) (k : ∀ d O', K d O' → K' d O') : Tf tt Γ O K' := fun F H σ Q S hk => h F H σ Q S fun d O' kd => hk d O' (k d O' kd)
theorem Af.mono {ta : TA} {K K' : List D → Own → Prop} (h : Af ta Γ O K) (k : ∀ d O', K d O' → K' d O') : Af ta Γ O K' := fun F H σ Q S hk => h F H σ Q S fun d O' kd => hk d O' (k d O' kd)
theorem Sf.mono {ts : TS} {K K' : Ks} (h : Sf ts Γ O K) (n : ∀ Γ' O', K.nx Γ' O' → K'.nx Γ' O') (r : ∀ d O', K.rt d O' → K'.rt d O') (b : ∀ Γ' O', K.bk Γ' O' → K'.bk Γ' O') (c : ∀ Γ' O', K.ct Γ' O' → K'.ct Γ' O') : Sf ts Γ O K' := fun F H σ E S e =>
  h F H σ E S ⟨fun Γ' O' k => e.nx Γ' O' (n _ _ k), fun d O' k => e.rt d O' (r _ _ k), fun Γ' O' k => e.bk Γ' O' (b _ _ k), fun Γ' O' k => e.ct Γ' O' (c _ _ k)⟩
theorem SfEnds.step {O O1 : Own} {F H F1 H1 : Hp} {K : Ks} {E : Ends} (s : Step (dom O) (dom O1) F H F1 H1) (h : SfEnds O F H K E) : SfEnds O1 F1 H1 K E :=
  ⟨fun Γ' O' k σ' F' H' t S => h.nx Γ' O' k σ' F' H' (s.trans t) S, fun d O' k v σ' Γ' F' H' t S r => h.rt d O' k v σ' Γ' F' H' (s.trans t) S r, fun Γ' O' k σ' F' H' t S => h.bk Γ' O' k σ' F' H' (s.trans t) S, fun Γ' O' k σ' F' H' t S => h.ct Γ' O' k σ' F' H' (s.trans t) S⟩
/-- an expression that neither makes nor changes anything: its value there -/
theorem ef_val {te : TE} {d : D} (h : ∀ F H σ Q, Sat F H σ Γ O → (∀ v, Rel F d v → Q v H) → te σ H Q) (k : K d O) : Ef te Γ O K := fun F H σ Q S hk =>
  h F H σ Q S fun v r => hk d O k v F H Step.refl S r

/-! ### names, constants -/
theorem ef_var {i : Nat} {d : D} (h : Γ[i]? = some (some d)) (k : K d O) : Ef (tVar i) Γ O K := ef_val (fun F H σ Q S q => by
  obtain ⟨v, e, r⟩ := S.slot i d h
  exact ⟨v, e, q v r⟩) k
theorem ef_int {i : Int} (k : K (.int i) O) : Ef (tC (.int i)) Γ O K := ef_val (fun F H σ Q S q => q _ (.int i)) k
theorem ef_bl {i : Bool} (k : K (.bl i) O) : Ef (tC (.bl i)) Γ O K := ef_val (fun F H σ Q S q => q _ (.bl i)) k
theorem ef_str {i : Str} (k : K (.str i) O) : Ef (tC (.str i)) Γ O K := ef_val (fun F H σ Q S q => q _ (.str i)) k
theorem ef_non (k : K .non O) : Ef (tC .non) Γ O K := ef_val (fun F H σ Q S q => q _ .non) k
theorem ef_ty {n : String} (k : K (.ty n) O) : Ef (tC (.ty n)) Γ O K := ef_val (fun F H σ Q S q => q _ (.ty n)) k

/-! ### two in a row -/
theorem ef_bin {r : R2} {ta tb : TE} (ha : Ef ta Γ O fun d1 O1 => Ef tb Γ O1 fun d2 O2 => ∀ F H σ Q v1 v2, Sat F H σ Γ O2 → Rel F d1 v1 → Rel F d2 v2 → (∀ d O', K d O' → Aft σ Γ O2 F H Q d O') → r v1 v2 H Q) : Ef (tOp r ta tb) Γ O K := fun F H σ Q S hk =>
  ha F H σ _ S fun d1 O1 h1 v1 F1 H1 s1 S1 r1 => h1 F1 H1 σ _ S1 fun d2 O2 h2 v2 F2 H2 s2 S2 r2 => h2 F2 H2 σ Q v1 v2 S2 (r1.mono s2.f) r2 fun d O' k => ((hk d O' k).step s1).step s2
/-- by values: what two pure values give -/
def BinV (r : R2) (x y z : D) : Prop := ∀ (F H : Hp) (Q : VK) v1 v2, Rel F x v1 → Rel F y v2 → (∀ v, Rel F z v → Q v H) → r v1 v2 H Q
theorem ef_binV {r : R2} {ta tb : TE} (ha : Ef ta Γ O fun d1 O1 => Ef tb Γ O1 fun d2 O2 => ∃ z, BinV r d1 d2 z ∧ K z O2) : Ef (tOp r ta tb) Γ O K :=
  ef_bin (ha.mono fun d1 O1 h1 => h1.mono fun d2 O2 ⟨z, hz, k⟩ F H σ Q v1 v2 S r1 r2 hk => hz F H Q v1 v2 r1 r2 fun v r => hk z O2 k v F H Step.refl S r)
theorem binV_I0 {g : Int → Int → V} {gd : Int → Int → D} (hg : ∀ F i j, Rel F (gd i j) (g i j)) {i j : Int} : BinV (rI0 g) (.int i) (.int j) (gd i j) := fun F H Q v1 v2 r1 r2 q => by
  cases r1
  cases r2
  exact ⟨i, j, rfl, rfl, q _ (hg F i j)⟩
theorem ef_I0i {g : Int → Int → Int} {ta tb : TE} (ha : Ef ta Γ O fun d1 O1 => Ef tb Γ O1 fun d2 O2 => ∃ i j, d1 = .int i ∧ d2 = .int j ∧ K (.int (g i j)) O2) : Ef (tOp (rI0 fun i j => .int (g i j)) ta tb) Γ O K :=
  ef_binV (ha.mono fun d1 O1 h1 => h1.mono fun d2 O2 ⟨i, j, e1, e2, k⟩ => by
    subst e1; subst e2
    exact ⟨_, binV_I0 (gd := fun i j => .int (g i j)) (fun F i j => .int _), k⟩)
theorem ef_I0b {g : Int → Int → Bool} {ta tb : TE} (ha : Ef ta Γ O fun d1 O1 => Ef tb Γ O1 fun d2 O2 => ∃ i j, d1 = .int i ∧ d2 = .int j ∧ K (.bl (g i j)) O2) : Ef (tOp (rI0 fun i j => .bl (g i j)) ta tb) Γ O K :=
  ef_binV (ha.mono fun d1 O1 h1 => h1.mono fun d2 O2 ⟨i, j, e1, e2, k⟩ => by
    subst e1; subst e2
    exact ⟨_, binV_I0 (gd := fun i j => .bl (g i j)) (fun F i j => .bl _), k⟩)
theorem ef_I {C : Int → Int → Prop} {g : Int → Int → Int} {ta tb : TE} (ha : Ef ta Γ O fun d1 O1 => Ef tb Γ O1 fun d2 O2 => ∃ i j, d1 = .int i ∧ d2 = .int j ∧ C i j ∧ K (.int (g i j)) O2) : Ef (tOp (rI C fun i j => .int (g i j)) ta tb) Γ O K :=
  ef_binV (ha.mono fun d1 O1 h1 => h1.mono fun d2 O2 ⟨i, j, e1, e2, c, k⟩ => by
    subst e1; subst e2
    exact ⟨.int (g i j), fun F H Q v1 v2 r1 r2 q => by
      cases r1
      cases r2
      exact ⟨i, j, rfl, rfl, c, q _ (.int _)⟩, k⟩)
theorem ef_neg {ta : TE} (ha : Ef ta Γ O fun d1 O1 => ∃ i, d1 = .int i ∧ K (.int (-i)) O1) : Ef (tUn (rU fun i => .int (-i)) ta) Γ O K := fun F H σ Q S hk =>
  ha F H σ _ S fun d1 O1 ⟨i, e, k⟩ v1 F1 H1 s1 S1 r1 => by
    subst e
    cases r1
    exact ⟨i, rfl, hk _ _ k _ F1 H1 s1 S1 (.int _)⟩
/-- ==, != of scalars -/
def scalD : D → D → Bool
  | .int _, .int _ => true
  | .bl _, .bl _ => true
  | .str _, .str _ => true
  | .non, .non => true
  | .non, .int _ => true
  | .int _, .non => true
  | .non, .str _ => true
  | .str _, .non => true
  | _, _ => false
def eqD : D → D → Bool
  | .int i, .int j => decide (i = j)
  | .bl i, .bl j => decide (i = j)
  | .str i, .str j => decide (i = j)
  | .non, .non => true
  | _, _ => false
theorem ef_eqS {ta tb : TE} (ha : Ef ta Γ O fun d1 O1 => Ef tb Γ O1 fun d2 O2 => scalD d1 d2 = true ∧ K (.bl (eqD d1 d2)) O2) : Ef (tOp rEq ta tb) Γ O K :=
  ef_binV (ha.mono fun d1 O1 h1 => h1.mono fun d2 O2 ⟨e, k⟩ => ⟨_, fun F H Q v1 v2 r1 r2 q => by
    cases r1 <;> cases r2 <;> simp [scalD] at e <;> refine ⟨rfl, q _ ?_⟩ <;> simp [eqD] <;> exact .bl _, k⟩)
theorem ef_neS {ta tb : TE} (ha : Ef ta Γ O fun d1 O1 => Ef tb Γ O1 fun d2 O2 => scalD d1 d2 = true ∧ K (.bl (!eqD d1 d2)) O2) : Ef (tOp rNe ta tb) Γ O K :=
  ef_binV (ha.mono fun d1 O1 h1 => h1.mono fun d2 O2 ⟨e, k⟩ => ⟨_, fun F H Q v1 v2 r1 r2 q => by
    cases r1 <;> cases r2 <;> simp [scalD] at e <;> refine ⟨rfl, q _ ?_⟩ <;> simp [eqD] <;> exact .bl _, k⟩)

/-! ### arguments, displays -/
theorem af_nil {K : List D → Own → Prop} (k : K [] O) : Af tNil Γ O K := fun F H σ Q S hk => hk [] O k [] F H Step.refl S .nil
theorem af_cons {K : List D → Own → Prop} {te : TE} {tr : TA} (h : Ef te Γ O fun d O1 => Af tr Γ O1 fun ds O2 => K (d :: ds) O2) : Af (tCons te tr) Γ O K := fun F H σ Q S hk =>
  h F H σ _ S fun d O1 h1 v F1 H1 s1 S1 r1 => h1 F1 H1 σ _ S1 fun ds O2 k vs F2 H2 s2 S2 r2 => hk (d :: ds) O2 k (v :: vs) F2 H2 (s1.trans s2) S2 (.cons (r1.mono s2.f) r2)
theorem sz {n : Nat} (h : n ≤ 1000000) : n ≤ sizeLine := Nat.le_trans h (by decide)
theorem szlt {n : Nat} (h : n < 1000000) : n < sizeLine := Nat.lt_of_lt_of_le h (by decide)
theorem ef_tup {ta : TA} (h : Af ta Γ O fun ds O1 => ds.length ≤ 1000000 ∧ K (.tup ds) O1) : Ef (tTup ta) Γ O K := fun F H σ Q S hk =>
  h F H σ _ S fun ds O1 ⟨hl, k⟩ vs F1 H1 s1 S1 r1 => ⟨sz (by rw [← r1.length]; exact hl), fun p hp => hk _ _ k _ _ _ (s1.trans (Step.laid S1.sub hp)) (S1.laid hp) (.tup upd_same (r1.mono (Same.f (S1.sub.free hp))))⟩
/-- a list for good -/
theorem ef_lst {ta : TA} (h : Af ta Γ O fun ds O1 => ds.length ≤ 1000000 ∧ K (.lst ds) O1) : Ef (tLst ta) Γ O K := fun F H σ Q S hk =>
  h F H σ _ S fun ds O1 ⟨hl, k⟩ vs F1 H1 s1 S1 r1 => ⟨sz (by rw [← r1.length]; exact hl), fun p hp => hk _ _ k _ _ _ (s1.trans (Step.laid S1.sub hp)) (S1.laid hp) (.lst upd_same (r1.mono (Same.f (S1.sub.free hp))))⟩
/-- a list of one's own -/
theorem ef_lstO {ta : TA} (h : Af ta Γ O fun ds O1 => ds.length ≤ 1000000 ∧ ∀ p, K (.ref p) ((p, .lst ds) :: O1)) : Ef (tLst ta) Γ O K := fun F H σ Q S hk =>
  h F H σ _ S fun ds O1 ⟨hl, k⟩ vs F1 H1 s1 S1 r1 => ⟨sz (by rw [← r1.length]; exact hl), fun p hp => hk _ _ (k p) _ _ _ (s1.trans (Step.made hp)) (S1.made hp (.lst r1)) (.ref p)⟩
theorem ef_dnewT (k : ∀ p, K (.ref p) ((p, .dT []) :: O)) : Ef tDNewT Γ O K := fun F H σ Q S hk p hp => hk _ _ (k p) _ _ _ (Step.made hp) (S.made hp (.dT .nil)) (.ref p)
theorem ef_dnewK (k : ∀ p, K (.ref p) ((p, .dK []) :: O)) : Ef tDNewK Γ O K := fun F H σ Q S hk p hp => hk _ _ (k p) _ _ _ (Step.made hp) (S.made hp (.dK .nil)) (.ref p)

/-! ### lists read: known ones, owned ones -/
inductive IsL (O : Own) : D → List D → Prop
  | im (xs : List D) : IsL O (.lst xs) xs
  | own {a : Addr} {xs : List D} (j : Nat) : O[j]? = some (a, .lst xs) → IsL O (.ref a) xs
theorem IsL.at {F H : Hp} {σ : L2.St} {d : D} {xs : List D} {v : V} (S : Sat F H σ Γ O) (h : IsL O d xs) (r : Rel F d v) : ∃ a vs, v = .ref a ∧ H a = some (.lst vs) ∧ RelL F xs vs := by
  cases h with
  | im =>
    cases r with
    | lst e r => exact ⟨_, _, rfl, S.sub _ _ e, r⟩
  | own j e =>
    cases r
    obtain ⟨_, o, ho, c⟩ := S.own _ (List.mem_of_getElem? e)
    cases c with
    | lst r => exact ⟨_, _, rfl, ho, r⟩
theorem atI_rel {F : Hp} {xs : List D} {vs : List V} {i : Int} {d : D} (r : RelL F xs vs) (h : atI xs i = some d) : ∃ v, atI vs i = some v ∧ Rel F d v := by
  unfold atI at h ⊢
  rw [← r.length]
  cases hx : ixN xs.length i with
  | none => rw [hx] at h; cases h
  | some j =>
    rw [hx] at h
    exact r.get h
theorem ef_ixL {Kf : PySem.W.Frag} {ta tb : TE} (ha : Ef ta Γ O fun d1 O1 => Ef tb Γ O1 fun d2 O2 => ∃ xs i d, IsL O2 d1 xs ∧ d2 = .int i ∧ atI xs i = some d ∧ K d O2) : Ef (tOp (rIxL Kf) ta tb) Γ O K :=
  ef_bin (ha.mono fun d1 O1 h1 => h1.mono fun d2 O2 ⟨xs, i, d, hl, e, hd, k⟩ F H σ Q v1 v2 S r1 r2 hk => by
    subst e
    cases r2
    obtain ⟨a, vs, rfl, ha, rl⟩ := hl.at S r1
    obtain ⟨v, hv, rv⟩ := atI_rel rl hd
    exact ⟨a, vs, i, v, rfl, rfl, .inl (.inl ha), hv, hk d O2 k v F H Step.refl S rv⟩)
theorem ef_ixT {Kf : PySem.W.Frag} {ta tb : TE} (ha : Ef ta Γ O fun d1 O1 => Ef tb Γ O1 fun d2 O2 => ∃ xs i d, d1 = .tup xs ∧ d2 = .int i ∧ atI xs i = some d ∧ K d O2) : Ef (tOp (rIxT Kf) ta tb) Γ O K :=
  ef_bin (ha.mono fun d1 O1 h1 => h1.mono fun d2 O2 ⟨xs, i, d, e0, e, hd, k⟩ F H σ Q v1 v2 S r1 r2 hk => by
    subst e; subst e0
    cases r2
    cases r1 with
    | tup ea rl =>
      obtain ⟨v, hv, rv⟩ := atI_rel rl hd
      exact ⟨_, _, i, v, rfl, rfl, .inl (.inl (S.sub _ _ ea)), hv, hk d O2 k v F H Step.refl S rv⟩)
/-- calls of built-ins with one argument, two -/
theorem ef_cb {r : List V → Hp → VK → Prop} {ta : TA} (ha : Af ta Γ O fun ds O1 => ∀ F H σ Q vs, Sat F H σ Γ O1 → RelL F ds vs → (∀ d O', K d O' → Aft σ Γ O1 F H Q d O') → r vs H Q) : Ef (tCB r ta) Γ O K := fun F H σ Q S hk =>
  ha F H σ _ S fun ds O1 h1 vs F1 H1 s1 S1 r1 => h1 F1 H1 σ Q vs S1 r1 fun d O' k => (hk d O' k).step s1
theorem relL1 {F : Hp} {d : D} {vs : List V} (r : RelL F [d] vs) : ∃ v, vs = [v] ∧ Rel F d v := by
  cases r with
  | cons r t =>
    cases t
    exact ⟨_, rfl, r⟩
theorem relL2 {F : Hp} {d e : D} {vs : List V} (r : RelL F [d, e] vs) : ∃ v w, vs = [v, w] ∧ Rel F d v ∧ Rel F e w := by
  cases r with
  | cons r t =>
    obtain ⟨w, rfl, r2⟩ := relL1 t
    exact ⟨_, _, rfl, r, r2⟩
abbrev rLenSq (Kf : PySem.W.Frag) : List V → Hp → VK → Prop := fun xs H Q => ∃ p ys, xs = [.ref p] ∧ (SqL Kf H p ys ∨ SqT Kf H p ys) ∧ Q (.int ys.length) H
theorem ef_len {Kf : PySem.W.Frag} {te : TE} (h : Ef te Γ O fun d O1 => ∃ xs, (IsL O1 d xs ∨ d = .tup xs) ∧ K (.int (xs.length : Int)) O1) : Ef (tCB (fun xs H Q => ∃ p ys, xs = [.ref p] ∧ (SqL Kf H p ys ∨ SqT Kf H p ys) ∧ Q (.int ys.length) H) (tCons te tNil)) Γ O K :=
  ef_cb (af_cons (h.mono fun d O1 ⟨xs, hl, k⟩ => af_nil fun F H σ Q vs S r hk => by
    obtain ⟨v, rfl, rv⟩ := relL1 r
    rcases hl with hl | rfl
    · obtain ⟨a, ws, rfl, ha, rl⟩ := hl.at S rv
      refine ⟨a, ws, rfl, .inl (.inl (.inl ha)), ?_⟩
      rw [← rl.length]
      exact hk _ _ k _ F H Step.refl S (.int _)
    · cases rv with
      | tup ea rl =>
        refine ⟨_, _, rfl, .inr (.inl (.inl (S.sub _ _ ea))), ?_⟩
        rw [← rl.length]
        exact hk _ _ k _ F H Step.refl S (.int _)))
/-- list(xs): a new list of one's own -/
theorem ef_list {Kf : PySem.W.Frag} {te : TE} (h : Ef te Γ O fun d O1 => ∃ xs, (IsL O1 d xs ∨ d = .tup xs) ∧ ∀ p, K (.ref p) ((p, .lst xs) :: O1)) :
    Ef (tCB (fun xs H Q => ∃ p ys, xs = [.ref p] ∧ (SqL Kf H p ys ∨ SqT Kf H p ys) ∧ ∀ l, H l = none → Q (.ref l) (upd H l (.lst ys))) (tCons te tNil)) Γ O K :=
  ef_cb (af_cons (h.mono fun d O1 ⟨xs, hl, k⟩ => af_nil fun F H σ Q vs S r hk => by
    obtain ⟨v, rfl, rv⟩ := relL1 r
    rcases hl with hl | rfl
    · obtain ⟨a, ws, rfl, ha, rl⟩ := hl.at S rv
      exact ⟨a, ws, rfl, .inl (.inl (.inl ha)), fun l hl => hk _ _ (k l) _ F _ (Step.made hl) (S.made hl (.lst rl)) (.ref l)⟩
    · cases rv with
      | tup ea rl => exact ⟨_, _, rfl, .inr (.inl (.inl (S.sub _ _ ea))), fun l hl => hk _ _ (k l) _ F _ (Step.made hl) (S.made hl (.lst rl)) (.ref l)⟩))
/-- tuple(list) -/
theorem ef_tuple {Kf : PySem.W.Frag} {te : TE} (h : Ef te Γ O fun d O1 => ∃ xs, IsL O1 d xs ∧ K (.tup xs) O1) :
    Ef (tCB (fun xs H Q => ∃ p ys, xs = [.ref p] ∧ ((SqL Kf H p ys ∧ ∀ l, H l = none → Q (.ref l) (upd H l (.tup ys))) ∨ (SqT Kf H p ys ∧ Q (.ref p) H))) (tCons te tNil)) Γ O K :=
  ef_cb (af_cons (h.mono fun d O1 ⟨xs, hl, k⟩ => af_nil fun F H σ Q vs S r hk => by
    obtain ⟨v, rfl, rv⟩ := relL1 r
    obtain ⟨a, ws, rfl, ha, rl⟩ := hl.at S rv
    exact ⟨a, ws, rfl, .inl ⟨.inl (.inl ha), fun l hl => hk _ _ k _ _ _ (Step.laid S.sub hl) (S.laid hl) (.tup upd_same (rl.mono (Same.f (S.sub.free hl))))⟩⟩))
/-- sum of a list of ints -/
theorem ef_sum {Kf : PySem.W.Frag} {te : TE} (h : Ef te Γ O fun d O1 => ∃ ns : List Int, IsL O1 d (ns.map .int) ∧ K (.int ns.sum) O1) : Ef (tCB (rSum Kf) (tCons te tNil)) Γ O K :=
  ef_cb (af_cons (h.mono fun d O1 ⟨ns, hl, k⟩ => af_nil fun F H σ Q vs S r hk => by
    obtain ⟨v, rfl, rv⟩ := relL1 r
    obtain ⟨a, ws, rfl, ha, rl⟩ := hl.at S rv
    exact ⟨a, ns, rfl, .inl (.inl (by rw [ha, rl.ints])), hk _ _ k _ F H Step.refl S (.int _)⟩))
/-- int(b) -/
theorem ef_intB {te : TE} (h : Ef te Γ O fun d O1 => (∃ i, d = .int i ∧ K (.int i) O1) ∨ ∃ b, d = .bl b ∧ K (.int (if b then 1 else 0)) O1) :
    Ef (tCB (fun xs H Q => (∃ i, xs = [.int i] ∧ Q (.int i) H) ∨ ∃ k, xs = [.bl k] ∧ Q (.int (if k then 1 else 0)) H) (tCons te tNil)) Γ O K :=
  ef_cb (af_cons (h.mono fun d O1 hd => af_nil fun F H σ Q vs S r hk => by
    obtain ⟨v, rfl, rv⟩ := relL1 r
    rcases hd with ⟨i, rfl, k⟩ | ⟨b, rfl, k⟩
    · cases rv
      exact .inl ⟨i, rfl, hk _ _ k _ F H Step.refl S (.int _)⟩
    · cases rv
      exact .inr ⟨b, rfl, hk _ _ k _ F H Step.refl S (.int _)⟩))

/-! ### tests -/
theorem tf_test {te : TE} {K : Bool → Own → Prop} (h : Ef te Γ O fun d O1 => ∃ b, d = .bl b ∧ K b O1) : Tf (tTest te) Γ O K := fun F H σ Q S hk =>
  h F H σ _ S fun d O1 ⟨b, e, k⟩ v F1 H1 s1 S1 r1 => by
    subst e
    cases r1
    exact ⟨b, rfl, hk b O1 k F1 H1 s1 S1⟩
theorem tf_B {te : TE} {K : Bool → Own → Prop} (h : Ef te Γ O fun d O1 => ∃ b, d = .bl b ∧ K b O1) : Tf (tB te) Γ O K := fun F H σ Q S hk =>
  h F H σ _ S fun d O1 ⟨b, e, k⟩ v F1 H1 s1 S1 r1 => by
    subst e
    cases r1
    exact ⟨b, rfl, hk b O1 k F1 H1 s1 S1⟩
theorem tf_and {t u : TT} {K : Bool → Own → Prop} (h : Tf t Γ O fun a O1 => (a = true → Tf u Γ O1 K) ∧ (a = false → K false O1)) : Tf (tAnd t u) Γ O K := fun F H σ Q S hk =>
  h F H σ _ S fun a O1 ⟨h1, h2⟩ F1 H1 s1 S1 => by
    cases a with
    | true => exact h1 rfl F1 H1 σ Q S1 fun b O' k F' H' t S' => hk b O' k F' H' (s1.trans t) S'
    | false => exact hk false O1 (h2 rfl) F1 H1 s1 S1
theorem tf_or {t u : TT} {K : Bool → Own → Prop} (h : Tf t Γ O fun a O1 => (a = false → Tf u Γ O1 K) ∧ (a = true → K true O1)) : Tf (tOr t u) Γ O K := fun F H σ Q S hk =>
  h F H σ _ S fun a O1 ⟨h1, h2⟩ F1 H1 s1 S1 => by
    cases a with
    | false => exact h1 rfl F1 H1 σ Q S1 fun b O' k F' H' t S' => hk b O' k F' H' (s1.trans t) S'
    | true => exact hk true O1 (h2 rfl) F1 H1 s1 S1
theorem tf_not {t : TT} {K : Bool → Own → Prop} (h : Tf t Γ O fun a O1 => K (!a) O1) : Tf (tNot t) Γ O K := fun F H σ Q S hk => h F H σ _ S fun a O1 k F1 H1 s1 S1 => hk (!a) O1 k F1 H1 s1 S1
theorem ef_if {t : TT} {ta tb : TE} (h : Tf t Γ O fun b O1 => (b = true → Ef ta Γ O1 K) ∧ (b = false → Ef tb Γ O1 K)) : Ef (tIf t ta tb) Γ O K := fun F H σ Q S hk =>
  h F H σ _ S fun b O1 ⟨h1, h2⟩ F1 H1 s1 S1 => by
    cases b with
    | true => exact h1 rfl F1 H1 σ Q S1 fun d O' k => (hk d O' k).step s1
    | false => exact h2 rfl F1 H1 σ Q S1 fun d O' k => (hk d O' k).step s1
theorem ef_andV {ta tb : TE} (h : Ef ta Γ O fun d O1 => ∃ b, d = .bl b ∧ (b = true → Ef tb Γ O1 K) ∧ (b = false → K (.bl false) O1)) : Ef (tAndV ta tb) Γ O K := fun F H σ Q S hk =>
  h F H σ _ S fun d O1 ⟨b, e, h1, h2⟩ v F1 H1 s1 S1 r1 => by
    subst e
    cases r1
    refine ⟨b, rfl, ?_⟩
    cases b with
    | true => exact h1 rfl F1 H1 σ Q S1 fun d O' k => (hk d O' k).step s1
    | false => exact hk _ _ (h2 rfl) _ F1 H1 s1 S1 (.bl _)
theorem ef_orV {ta tb : TE} (h : Ef ta Γ O fun d O1 => ∃ b, d = .bl b ∧ (b = false → Ef tb Γ O1 K) ∧ (b = true → K (.bl true) O1)) : Ef (tOrV ta tb) Γ O K := fun F H σ Q S hk =>
  h F H σ _ S fun d O1 ⟨b, e, h1, h2⟩ v F1 H1 s1 S1 r1 => by
    subst e
    cases r1
    refine ⟨b, rfl, ?_⟩
    cases b with
    | false => exact h1 rfl F1 H1 σ Q S1 fun d O' k => (hk d O' k).step s1
    | true => exact hk _ _ (h2 rfl) _ F1 H1 s1 S1 (.bl _)
theorem ef_notV {ta : TE} (h : Ef ta Γ O fun d O1 => ∃ b, d = .bl b ∧ K (.bl (!b)) O1) : Ef (tNotV ta) Γ O K := fun F H σ Q S hk =>
  h F H σ _ S fun d O1 ⟨b, e, k⟩ v F1 H1 s1 S1 r1 => by
    subst e
    cases r1
    exact ⟨b, rfl, hk _ _ k _ F1 H1 s1 S1 (.bl _)⟩

/-! ### targets -/
theorem gf_name {i : Nat} {d : D} {K : Ctx → Prop} (k : K (Γ.set i (some d))) : Gf (gName i) Γ d K := fun F H σ O v Q S r hk => hk _ k _ (S.put i r)
theorem gfs_nil {K : Ctx → Prop} (k : K Γ) : Gfs gNil Γ [] K := fun F H σ O vs Q S r hk => by
  cases r
  exact ⟨rfl, hk _ k _ S⟩
theorem gfs_cons {g : TG} {gs : TGs} {d : D} {ds : List D} {K : Ctx → Prop} (h : Gf g Γ d fun Γ1 => Gfs gs Γ1 ds K) : Gfs (gCons g gs) Γ (d :: ds) K := fun F H σ O vs Q S r hk => by
  cases r with
  | cons r t => exact ⟨_, _, rfl, h F H σ O _ _ S r fun Γ1 h1 σ1 S1 => h1 F H σ1 O _ Q S1 t hk⟩
theorem gf_tup {Kf : PySem.W.Frag} {n : Nat} {gs : TGs} {ds : List D} {K : Ctx → Prop} (hn : ds.length = n) (h : Gfs gs Γ ds K) : Gf (gTup Kf n gs) Γ (.tup ds) K := fun F H σ O v Q S r hk => by
  cases r with
  | tup e rl => exact ⟨_, _, rfl, .inl (.inl (S.sub _ _ e)), by rw [← rl.length]; exact hn, h F H σ O _ Q S rl hk⟩

/-! ### statements -/
theorem sf_next {K : Ks} (k : K.nx Γ O) : Sf tNext Γ O K := fun F H σ E S e => e.nx Γ O k σ F H Step.refl S
theorem sf_break {K : Ks} (k : K.bk Γ O) : Sf tBreak Γ O K := fun F H σ E S e => e.bk Γ O k σ F H Step.refl S
theorem sf_cont {K : Ks} (k : K.ct Γ O) : Sf tCont Γ O K := fun F H σ E S e => e.ct Γ O k σ F H Step.refl S
theorem sf_seq {t u : TS} {K : Ks} (h : Sf t Γ O { K with nx := fun Γ1 O1 => Sf u Γ1 O1 K }) : Sf (tSeq t u) Γ O K := fun F H σ E S e =>
  h F H σ { E with nx := u E } S ⟨fun Γ1 O1 k σ1 F1 H1 s S1 => k F1 H1 σ1 E S1 (e.step s), e.rt, e.bk, e.ct⟩
theorem sf_asg {te : TE} {g : TG} {K : Ks} (h : Ef te Γ O fun d O1 => Gf g Γ d fun Γ1 => K.nx Γ1 O1) : Sf (tAsg te g) Γ O K := fun F H σ E S e =>
  h F H σ _ S fun d O1 hg v F1 H1 s1 S1 r1 => hg F1 H1 σ O1 v _ S1 r1 fun Γ1 k σ1 S2 => e.nx Γ1 O1 k σ1 F1 H1 s1 S2
theorem sf_drop {te : TE} {K : Ks} (h : Ef te Γ O fun _ O1 => K.nx Γ O1) : Sf (tDrop te) Γ O K := fun F H σ E S e =>
  h F H σ _ S fun d O1 k v F1 H1 s1 S1 r1 => e.nx Γ O1 k σ F1 H1 s1 S1
theorem sf_ret {te : TE} {K : Ks} (h : Ef te Γ O K.rt) : Sf (tRet te) Γ O K := fun F H σ E S e =>
  h F H σ _ S fun d O1 k v F1 H1 s1 S1 r1 => e.rt d O1 k v σ Γ F1 H1 s1 S1 r1
theorem sf_retN {K : Ks} (h : K.rt .non O) : Sf tRetN Γ O K := fun F H σ E S e => e.rt .non O h _ σ Γ F H Step.refl S .non
theorem sf_if {c : TT} {t u : TS} {K : Ks} (h : Tf c Γ O fun b O1 => (b = true → Sf t Γ O1 K) ∧ (b = false → Sf u Γ O1 K)) : Sf (tIfS c t u) Γ O K := fun F H σ E S e =>
  h F H σ _ S fun b O1 ⟨h1, h2⟩ F1 H1 s1 S1 => by
    cases b with
    | true => exact h1 rfl F1 H1 σ E S1 (e.step s1)
    | false => exact h2 rfl F1 H1 σ E S1 (e.step s1)
theorem sf_aug {i : Nat} {te : TE} {f : Int → Int → Int} {K : Ks} {a : Int} (hx : Γ[i]? = some (some (.int a))) (h : Ef te Γ O fun d O1 => ∃ b, d = .int b ∧ K.nx (Γ.set i (some (.int (f a b)))) O1) : Sf (tAug i te (ipI f)) Γ O K := fun F H σ E S e => by
  obtain ⟨v, ev, rv⟩ := S.slot i _ hx
  cases rv
  exact ⟨_, ev, h F H σ _ S fun d O1 ⟨b, eb, k⟩ v F1 H1 s1 S1 r1 => by
    subst eb
    cases r1
    exact ⟨a, b, rfl, rfl, e.nx _ O1 k _ F1 H1 s1 (S1.put i (.int _))⟩⟩
theorem sf_while {c : TT} {tb : TS} {K : Ks} (I : Nat → Ctx → Own → Prop) (m0 : Nat) (h0 : I m0 Γ O)
    (h : ∀ m Γ O, I m Γ O → Tf c Γ O fun b O1 => (b = true → Sf tb Γ O1 { K with nx := fun Γ' O' => ∃ m', m' < m ∧ I m' Γ' O', ct := fun Γ' O' => ∃ m', m' < m ∧ I m' Γ' O', bk := K.nx }) ∧ (b = false → K.nx Γ O1)) : Sf (tWhile c tb) Γ O K := fun F H σ E S e => by
  refine ⟨fun m σ1 H1 => ∃ Γ1 O1 F1, I m Γ1 O1 ∧ Step (dom O) (dom O1) F H F1 H1 ∧ Sat F1 H1 σ1 Γ1 O1, ⟨m0, Γ, O, F, h0, Step.refl, S⟩, ?_⟩
  rintro m σ1 H1 ⟨Γ1, O1, F1, i1, s1, S1⟩
  refine h m Γ1 O1 i1 F1 H1 σ1 _ S1 fun b O2 ⟨ht, hf⟩ F2 H2 s2 S2 => ?_
  cases b with
  | true =>
    rw [if_pos rfl]
    refine ⟨fun σ3 H3 => ∃ Γ3 O3 F3, (∃ m', m' < m ∧ I m' Γ3 O3) ∧ Step (dom O) (dom O3) F H F3 H3 ∧ Sat F3 H3 σ3 Γ3 O3, fun σ3 H3 ⟨Γ3, O3, F3, ⟨m', hm, i3⟩, s3, S3⟩ => ⟨m', hm, Γ3, O3, F3, i3, s3, S3⟩, ?_⟩
    refine ht rfl F2 H2 σ1 _ S2 ⟨?_, ?_, ?_, ?_⟩
    · intro Γ' O' k σ' F' H' t S'
      exact ⟨Γ', O', F', k, (s1.trans s2).trans t, S'⟩
    · intro d O' k v σ' Γ' F' H' t S' r
      exact e.rt d O' k v σ' Γ' F' H' ((s1.trans s2).trans t) S' r
    · intro Γ' O' k σ' F' H' t S'
      exact e.nx Γ' O' k σ' F' H' ((s1.trans s2).trans t) S'
    · intro Γ' O' k σ' F' H' t S'
      exact ⟨Γ', O', F', k, (s1.trans s2).trans t, S'⟩
  | false =>
    rw [if_neg Bool.false_ne_true]
    exact e.nx Γ1 O2 (hf rfl) σ1 F2 H2 (s1.trans s2) S2
end
end OW

/-! functions, loops, comprehensions -/
namespace OW
open PySem PySem.Spec PyProof.Rows L2

theorem getD_at {α : Type} {l : List α} {i : Nat} {d : α} (h : i < l.length) : l.getD i d = l[i] := by
  simp [List.getD, h]
/-! ### functions -/
abbrev Pre := List D → Own → KD → Prop
def Fsp (n : Nat) (P : Pre) : Sp := fun vs H Q _ => vs.length = n ∧ ∃ F ds O K, P ds O K ∧ Sat F H [] [] O ∧ RelL F ds vs ∧
  ∀ d O', K d O' → ∀ v F' H', Step (dom O) (dom O') F H F' H' → Sat F' H' [] [] O' → Rel F' d v → Q v H'
theorem Sat.bare {F H : Hp} {σ : L2.St} {Γ : Ctx} {O : Own} (S : Sat F H σ Γ O) : Sat F H [] [] O := ⟨S.sub, rfl, fun i d h => by simp at h, S.own, S.nd, S.tups⟩
theorem Sat.with {F H F' H' : Hp} {σ : L2.St} {Γ : Ctx} {O O' : Own} (S : Sat F H σ Γ O) (f : Same F F') (S' : Sat F' H' [] [] O') : Sat F' H' σ Γ O' := S.moved f S'.sub S'.own S'.nd S'.tups
theorem ef_call {n : Nat} {P : Pre} {E : XK} {t : TA} {Γ : Ctx} {O : Own} {K : KD} (h : Af t Γ O fun ds O1 => ds.length = n ∧ P ds O1 K) : Ef (tCall (Fsp n P) [] E t) Γ O K := fun F H σ Q S hk =>
  h F H σ _ S fun ds O1 ⟨hl, hp⟩ vs F1 H1 s1 S1 r1 => by
    show Fsp n P (vs ++ []) H1 Q E
    rw [List.append_nil]
    exact ⟨by rw [← r1.length]; exact hl, F1, ds, O1, K, hp, S1.bare, r1, fun d O' k v F' H' t S' r => hk d O' k v F' H' (s1.trans t) (S1.with t.f S') r⟩
def args (ds : List D) (n : Nat) : Ctx := ds.map some ++ List.replicate (n - ds.length) none
theorem slots_args {F : Hp} {ds : List D} {vs : List V} (r : RelL F ds vs) (n : Nat) (i : Nat) (d : D) (h : (args ds n)[i]? = some (some d)) : ∃ v, (vs.map some ++ List.replicate (n - vs.length) none)[i]? = some (some v) ∧ Rel F d v := by
  unfold args at h
  by_cases hi : i < ds.length
  · rw [List.getElem?_append_left (by rw [List.length_map]; exact hi), List.getElem?_map] at h
    cases e : ds[i]? with
    | none => rw [e] at h; simp at h
    | some x =>
      rw [e] at h
      have e2 : x = d := by simpa using h
      subst e2
      obtain ⟨v, hv, rv⟩ := r.get e
      refine ⟨v, ?_, rv⟩
      rw [List.getElem?_append_left (by rw [List.length_map, ← r.length]; exact hi), List.getElem?_map, hv]
      rfl
  · rw [List.getElem?_append_right (by rw [List.length_map]; omega), List.getElem?_replicate] at h
    split at h <;> simp at h
theorem fn_body {t : TS} {N : List Str} {n : Nat} {P : Pre} (h : ∀ ds O K, ds.length = n → P ds O K → Sf t (args ds N.length) O { nx := fun _ O' => K .non O', rt := K })
    (vs : List V) (H : Hp) (Q : VK) (E : XK) (hs : Fsp n P vs H Q E) : t { nx := fun _ H' => Q .non H', rt := Q } (L2.start N vs) H := by
  obtain ⟨hl, F, ds, O, K, hp, S, r, k⟩ := hs
  refine h ds O K (by rw [r.length]; exact hl) hp F H _ _ ⟨S.sub, ?_, fun i d e => slots_args r _ i d e, S.own, S.nd, S.tups⟩ ⟨?_, ?_, ?_, ?_⟩
  · unfold L2.start args
    rw [List.length_append, List.length_append, List.length_map, List.length_map, List.length_replicate, List.length_replicate, r.length]
  · intro Γ' O' kk σ' F' H' s S'
    exact k .non O' kk .non F' H' s S'.bare .non
  · intro d O' kk v σ' Γ' F' H' s S' rr
    exact k d O' kk v F' H' s S'.bare rr
  · intro _ _ z
    exact z.elim
  · intro _ _ z
    exact z.elim

/-! ### for over a list -/
section
variable {Γ : Ctx} {O : Own}
/-- what a list stays, at each heap behind: where it is known, or owned and untouched -/
theorem IsL.sq {F H : Hp} {σ : L2.St} {d : D} {xs : List D} {v : V} {Kf : PySem.W.Frag} (S : Sat F H σ Γ O) (h : IsL O d xs) (r : Rel F d v) : ∃ a vs, v = .ref a ∧ SqL Kf H a vs ∧ RelL F xs vs := by
  obtain ⟨a, vs, e, ha, rl⟩ := h.at S r
  exact ⟨a, vs, e, .inl (.inl ha), rl⟩
/-- a loop's turns: over what yields ds, one behind another -/
structure Yields (J : It) (R : Hp → Prop) (n : Nat) (y : Nat → D) (ok : Own → Prop) : Prop where
  mono : ∀ {F F'}, Same F F' → R F → R F'
  go : ∀ F H σ Γ O i, Sat F H σ Γ O → R F → ok O → i < n → J.go i H ∧ ∀ x H', J.yld i H x H' → ∃ F', Step (dom O) (dom O) F H F' H' ∧ Sat F' H' σ Γ O ∧ Rel F' (y i) x
  stop : ∀ F H σ Γ O, Sat F H σ Γ O → R F → ok O → J.stop n H
theorem for_core {J : It} {R : Hp → Prop} {n : Nat} {y : Nat → D} {ok : Own → Prop} (Y : Yields J R n y ok) {g : TG} {tb : TS} {K : Ks} {F H : Hp} {σ : L2.St} {E : Ends} {O1 : Own} {Γ1 : Ctx} {F1 H1 : Hp} (s1 : Step (dom O) (dom O1) F H F1 H1) (S1 : Sat F1 H1 σ Γ1 O1) (r1 : R F1) (e : SfEnds O F H K E) (I : Nat → Ctx → Own → Prop) (h0 : I 0 Γ1 O1)
    (hok : ∀ i Γ' O', i ≤ n → I i Γ' O' → ok O') (hs : ∀ (i : Nat) Γ' O', i < n → I i Γ' O' → Gf g Γ' (y i) fun Γ2 => Sf tb Γ2 O' { K with nx := I (i + 1), ct := I (i + 1), bk := K.nx }) (hd : ∀ Γ' O', I n Γ' O' → K.nx Γ' O') :
    ∃ W : Nat → Nat → L2.St → Hp → Prop, (∃ m, W 0 m σ H1) ∧ ∀ i m σ H, W i m σ H →
      (J.stop i H ∧ E.nx σ H) ∨ (J.go i H ∧ ∃ N : L2.St → Hp → Prop, (∀ σ' H', N σ' H' → ∃ m', m' < m ∧ W (i + 1) m' σ' H') ∧ ∀ x H', J.yld i H x H' → g x σ H' fun σ2 H2 => tb { E with nx := N, ct := N, bk := E.nx } σ2 H2) := by
  refine ⟨fun i m σ2 H2 => m = n - i ∧ i ≤ n ∧ ∃ Γ2 O2 F2, I i Γ2 O2 ∧ Step (dom O) (dom O2) F H F2 H2 ∧ Sat F2 H2 σ2 Γ2 O2 ∧ R F2, ⟨n, by simp, Nat.zero_le _, Γ1, O1, F1, h0, s1, S1, r1⟩, ?_⟩
  rintro i m σ2 H2 ⟨rfl, hi, Γ2, O2, F2, i2, s2, S2, r2⟩
  by_cases hlt : i < n
  · obtain ⟨hg, hy⟩ := Y.go F2 H2 σ2 Γ2 O2 i S2 r2 (hok i Γ2 O2 hi i2) hlt
    refine .inr ⟨hg, fun σ3 H3 => ∃ Γ3 O3 F3, I (i + 1) Γ3 O3 ∧ Step (dom O) (dom O3) F H F3 H3 ∧ Sat F3 H3 σ3 Γ3 O3 ∧ R F3, fun σ3 H3 ⟨Γ3, O3, F3, i3, s3, S3, r3⟩ => ⟨n - (i + 1), by omega, rfl, hlt, Γ3, O3, F3, i3, s3, S3, r3⟩, ?_⟩
    intro x H3 yx
    obtain ⟨F3, s3, S3, rx⟩ := hy x H3 yx
    refine hs i Γ2 O2 hlt i2 F3 H3 σ2 O2 x _ S3 rx fun Γ3 hb σ3 S4 => hb F3 H3 σ3 _ S4 ⟨?_, ?_, ?_, ?_⟩
    · intro Γ' O' k σ' F' H' t S'
      exact ⟨Γ', O', F', k, (s2.trans s3).trans t, S', Y.mono (s3.f.trans t.f) r2⟩
    · intro d O' k v σ' Γ' F' H' t S' r
      exact e.rt d O' k v σ' Γ' F' H' ((s2.trans s3).trans t) S' r
    · intro Γ' O' k σ' F' H' t S'
      exact e.nx Γ' O' k σ' F' H' ((s2.trans s3).trans t) S'
    · intro Γ' O' k σ' F' H' t S'
      exact ⟨Γ', O', F', k, (s2.trans s3).trans t, S', Y.mono (s3.f.trans t.f) r2⟩
  · have ei : i = n := by omega
    subst ei
    exact .inl ⟨Y.stop F2 H2 σ2 Γ2 O2 S2 r2 (hok _ Γ2 O2 (Nat.le_refl _) i2), e.nx Γ2 O2 (hd Γ2 O2 i2) σ2 F2 H2 s2 S2⟩
theorem yields_list {Kf : PySem.W.Frag} {a : Addr} {d : D} {xs : List D} : Yields (Itl Kf a) (fun F => Rel F d (.ref a)) xs.length (fun i => xs.getD i .non) (fun O => IsL O d xs) where
  mono := fun s r => r.mono s
  go := fun F H σ Γ O i S r hl hi => by
    obtain ⟨a', vs, e, hq, rl⟩ := hl.sq (Kf := Kf) S r
    cases e
    obtain ⟨v, hv, rv⟩ := rl.get (List.getElem?_eq_getElem hi)
    refine ⟨⟨vs, v, hq, hv⟩, fun x H' ⟨e, hx⟩ => ?_⟩
    subst e
    have ex : x = v := Option.some.inj ((hx vs hq).symm.trans hv)
    subst ex
    exact ⟨F, Step.refl, S, by
      show Rel F (xs.getD i .non) x
      rw [getD_at hi]
      exact rv⟩
  stop := fun F H σ Γ O S r hl => by
    obtain ⟨a', vs, e, hq, rl⟩ := hl.sq (Kf := Kf) S r
    cases e
    exact ⟨vs, hq, Nat.le_of_eq rl.length.symm⟩
theorem yields_tup {Kf : PySem.W.Frag} {a : Addr} {xs : List D} : Yields (Itt Kf a) (fun F => Rel F (.tup xs) (.ref a)) xs.length (fun i => xs.getD i .non) (fun _ => True) where
  mono := fun s r => r.mono s
  go := fun F H σ Γ O i S r _ hi => by
    cases r with
    | tup ea rl =>
      rename_i vs
      have hq : SqT Kf H a vs := .inl (.inl (S.sub _ _ ea))
      obtain ⟨v, hv, rv⟩ := rl.get (List.getElem?_eq_getElem hi)
      refine ⟨⟨vs, v, hq, hv⟩, fun x H' ⟨e, hx⟩ => ?_⟩
      subst e
      have ex : x = v := Option.some.inj ((hx vs hq).symm.trans hv)
      subst ex
      exact ⟨F, Step.refl, S, by
        show Rel F (xs.getD i .non) x
        rw [getD_at hi]
        exact rv⟩
  stop := fun F H σ Γ O S r _ => by
    cases r with
    | tup ea rl => exact ⟨_, .inl (.inl (S.sub _ _ ea)), Nat.le_of_eq rl.length.symm⟩
theorem yields_rng {lo : Int} {n : Nat} : Yields (Itr lo n) (fun _ => True) n (fun i => .int (lo + (i : Int))) (fun _ => True) where
  mono := fun _ _ => trivial
  go := fun F H σ Γ O i S r _ hi => ⟨hi, fun x H' ⟨e, hx⟩ => by
    subst e; subst hx
    exact ⟨F, Step.refl, S, .int _⟩⟩
  stop := fun F H σ Γ O S r _ => Nat.le_refl _
theorem yields_enum {Kf : PySem.W.Frag} {a : Addr} {d : D} {xs : List D} : Yields (Ite Kf a) (fun F => Rel F d (.ref a)) xs.length (fun i => .tup [.int (i : Int), xs.getD i .non]) (fun O => IsL O d xs) where
  mono := fun s r => r.mono s
  go := fun F H σ Γ O i S r hl hi => by
    obtain ⟨a', vs, e, hq, rl⟩ := hl.sq (Kf := Kf) S r
    cases e
    obtain ⟨v, hv, rv⟩ := rl.get (List.getElem?_eq_getElem hi)
    refine ⟨⟨vs, v, hq, hv⟩, fun x H' ⟨T, x', e1, hT, e2, hx⟩ => ?_⟩
    subst e1; subst e2
    have ex : x' = v := Option.some.inj ((hx vs hq).symm.trans hv)
    subst ex
    refine ⟨_, Step.laid S.sub hT, S.laid hT, .tup upd_same (.cons (.int _) (.cons ?_ .nil))⟩
    rw [getD_at hi]
    exact rv.mono (Same.f (S.sub.free hT))
  stop := fun F H σ Γ O S r hl => by
    obtain ⟨a', vs, e, hq, rl⟩ := hl.sq (Kf := Kf) S r
    cases e
    exact ⟨vs, hq, Nat.le_of_eq rl.length.symm⟩
theorem yields_zip {Kf : PySem.W.Frag} {a b : Addr} {d e : D} {xs ys : List D} : Yields (Itz Kf a b) (fun F => Rel F d (.ref a) ∧ Rel F e (.ref b)) (min xs.length ys.length) (fun i => .tup [xs.getD i .non, ys.getD i .non]) (fun O => IsL O d xs ∧ IsL O e ys) where
  mono := fun s r => ⟨r.1.mono s, r.2.mono s⟩
  go := fun F H σ Γ O i S r hl hi => by
    obtain ⟨a', vs, e1, hq, rl⟩ := hl.1.sq (Kf := Kf) S r.1
    cases e1
    obtain ⟨b', ws, e2, hq2, rl2⟩ := hl.2.sq (Kf := Kf) S r.2
    cases e2
    have h1 : i < xs.length := by omega
    have h2 : i < ys.length := by omega
    obtain ⟨v, hv, rv⟩ := rl.get (List.getElem?_eq_getElem h1)
    obtain ⟨w, hw, rw'⟩ := rl2.get (List.getElem?_eq_getElem h2)
    refine ⟨⟨vs, ws, v, w, hq, hq2, hv, hw⟩, fun x H' ⟨T, x', y', e1, hT, e2, hx, hy⟩ => ?_⟩
    subst e1; subst e2
    have ex : x' = v := Option.some.inj ((hx vs hq).symm.trans hv)
    have ey : y' = w := Option.some.inj ((hy ws hq2).symm.trans hw)
    subst ex; subst ey
    refine ⟨_, Step.laid S.sub hT, S.laid hT, .tup upd_same (.cons ?_ (.cons ?_ .nil))⟩
    · rw [getD_at h1]
      exact rv.mono (Same.f (S.sub.free hT))
    · rw [getD_at h2]
      exact rw'.mono (Same.f (S.sub.free hT))
  stop := fun F H σ Γ O S r hl => by
    obtain ⟨a', vs, e1, hq, rl⟩ := hl.1.sq (Kf := Kf) S r.1
    cases e1
    obtain ⟨b', ws, e2, hq2, rl2⟩ := hl.2.sq (Kf := Kf) S r.2
    cases e2
    refine ⟨vs, ws, hq, hq2, ?_⟩
    have := rl.length
    have := rl2.length
    omega
theorem sf_forL {Kf : PySem.W.Frag} {tl : TE} {g : TG} {tb : TS} {K : Ks} (h : Ef tl Γ O fun d O1 => ∃ xs, ∃ I : Nat → Ctx → Own → Prop, IsL O1 d xs ∧ I 0 Γ O1 ∧ (∀ i Γ' O', i ≤ xs.length → I i Γ' O' → IsL O' d xs) ∧
    (∀ (i : Nat) Γ' O', i < xs.length → I i Γ' O' → Gf g Γ' (xs.getD i .non) fun Γ2 => Sf tb Γ2 O' { K with nx := I (i + 1), ct := I (i + 1), bk := K.nx }) ∧ ∀ Γ' O', I xs.length Γ' O' → K.nx Γ' O') : Sf (tFor (iList Kf tl) g tb) Γ O K := fun F H σ E S e =>
  h F H σ _ S fun d O1 ⟨xs, I, hl, h0, hk, hs, hd⟩ v F1 H1 s1 S1 r1 => by
    obtain ⟨a, vs, rfl, hq, rl⟩ := hl.sq (Kf := Kf) S1 r1
    exact ⟨a, rfl, ⟨vs, hq⟩, for_core yields_list s1 S1 r1 e I h0 hk hs hd⟩
theorem sf_forT {Kf : PySem.W.Frag} {tl : TE} {g : TG} {tb : TS} {K : Ks} (h : Ef tl Γ O fun d O1 => ∃ xs, ∃ I : Nat → Ctx → Own → Prop, d = .tup xs ∧ I 0 Γ O1 ∧
    (∀ (i : Nat) Γ' O', i < xs.length → I i Γ' O' → Gf g Γ' (xs.getD i .non) fun Γ2 => Sf tb Γ2 O' { K with nx := I (i + 1), ct := I (i + 1), bk := K.nx }) ∧ ∀ Γ' O', I xs.length Γ' O' → K.nx Γ' O') : Sf (tFor (iTup Kf tl) g tb) Γ O K := fun F H σ E S e =>
  h F H σ _ S fun d O1 ⟨xs, I, hl, h0, hs, hd⟩ v F1 H1 s1 S1 r1 => by
    subst hl
    cases id r1 with
    | tup ea rl => exact ⟨_, rfl, ⟨_, .inl (.inl (S1.sub _ _ ea))⟩, for_core yields_tup s1 S1 r1 e I h0 (fun _ _ _ _ _ => trivial) hs hd⟩
theorem sf_forE {Kf : PySem.W.Frag} {te : TE} {g : TG} {tb : TS} {K : Ks} (h : Ef te Γ O fun d O1 => ∃ xs, ∃ I : Nat → Ctx → Own → Prop, IsL O1 d xs ∧ I 0 Γ O1 ∧ (∀ i Γ' O', i ≤ xs.length → I i Γ' O' → IsL O' d xs) ∧
    (∀ (i : Nat) Γ' O', i < xs.length → I i Γ' O' → Gf g Γ' (.tup [.int (i : Int), xs.getD i .non]) fun Γ2 => Sf tb Γ2 O' { K with nx := I (i + 1), ct := I (i + 1), bk := K.nx }) ∧ ∀ Γ' O', I xs.length Γ' O' → K.nx Γ' O') : Sf (tFor (iEnum Kf (tCons te tNil)) g tb) Γ O K := fun F H σ E S e =>
  h F H σ _ S fun d O1 ⟨xs, I, hl, h0, hk, hs, hd⟩ v F1 H1 s1 S1 r1 => by
    obtain ⟨a, vs, rfl, hq, rl⟩ := hl.sq (Kf := Kf) S1 r1
    exact ⟨a, vs, rfl, hq, for_core yields_enum s1 S1 r1 e I h0 hk hs hd⟩
theorem sf_forR1 {te : TE} {g : TG} {tb : TS} {K : Ks} (h : Ef te Γ O fun d O1 => ∃ n : Int, ∃ I : Nat → Ctx → Own → Prop, d = .int n ∧ (-1000000000 ≤ n ∧ n ≤ 1000000000) ∧ I 0 Γ O1 ∧
    (∀ (i : Nat) Γ' O', i < n.toNat → I i Γ' O' → Gf g Γ' (.int (i : Int)) fun Γ2 => Sf tb Γ2 O' { K with nx := I (i + 1), ct := I (i + 1), bk := K.nx }) ∧ ∀ Γ' O', I n.toNat Γ' O' → K.nx Γ' O') : Sf (tFor (iRng1 (tCons te tNil)) g tb) Γ O K := fun F H σ E S e =>
  h F H σ _ S fun d O1 ⟨n, I, e0, hn, h0, hs, hd⟩ v F1 H1 s1 S1 r1 => by
    subst e0
    cases r1
    refine ⟨n, rfl, by omega, by omega, for_core (n := n.toNat) (Y := yields_rng (lo := 0)) s1 S1 trivial e I h0 (fun _ _ _ _ _ => trivial) (fun i Γ' O' hi ii => ?_) hd⟩
    show Gf g Γ' (.int (0 + (i : Int))) _
    rw [Int.zero_add]
    exact hs i Γ' O' hi ii
theorem sf_forR2 {te tf : TE} {g : TG} {tb : TS} {K : Ks} (h : Ef te Γ O fun d O1 => Ef tf Γ O1 fun d2 O2 => ∃ lo n : Int, ∃ I : Nat → Ctx → Own → Prop, d = .int lo ∧ d2 = .int n ∧ (-1000000000 ≤ lo ∧ lo ≤ 1000000000 ∧ -1000000000 ≤ n ∧ n ≤ 1000000000) ∧ I 0 Γ O2 ∧
    (∀ (i : Nat) Γ' O', i < (n - lo).toNat → I i Γ' O' → Gf g Γ' (.int (lo + (i : Int))) fun Γ2 => Sf tb Γ2 O' { K with nx := I (i + 1), ct := I (i + 1), bk := K.nx }) ∧ ∀ Γ' O', I (n - lo).toNat Γ' O' → K.nx Γ' O') : Sf (tFor (iRng2 (tCons te (tCons tf tNil))) g tb) Γ O K := fun F H σ E S e =>
  h F H σ _ S fun d O1 h1 v F1 H1 s1 S1 r1 => h1 F1 H1 σ _ S1 fun d2 O2 ⟨lo, n, I, e0, e1, hn, h0, hs, hd⟩ v2 F2 H2 s2 S2 r2 => by
    subst e0; subst e1
    cases r1
    cases r2
    exact ⟨lo, n, rfl, by omega, for_core (n := (n - lo).toNat) (Y := yields_rng (lo := lo)) (s1.trans s2) S2 trivial e I h0 (fun _ _ _ _ _ => trivial) hs hd⟩
end

/-! ### comprehensions -/
section
variable {Γ : Ctx} {O : Own} {K : KD}
def wipeC (Γ : Ctx) : List Nat → Ctx
  | [] => Γ
  | v :: vs => (wipeC Γ vs).set v none
theorem wipeC_len (Γ : Ctx) : ∀ vs, (wipeC Γ vs).length = Γ.length
  | [] => rfl
  | v :: vs => by unfold wipeC; rw [List.length_set, wipeC_len Γ vs]
theorem wipe_at {σ : L2.St} {i : Nat} : ∀ {vs : List Nat}, i ∉ vs → (wipe σ vs)[i]? = σ[i]?
  | [], _ => rfl
  | v :: vs, h => by
    unfold wipe
    rw [List.getElem?_set_ne (fun e => h (by rw [e]; exact List.mem_cons_self)), wipe_at fun m => h (List.mem_cons_of_mem _ m)]
theorem wipeC_at {Γ : Ctx} {i : Nat} {d : D} : ∀ {vs : List Nat}, (wipeC Γ vs)[i]? = some (some d) → i ∉ vs ∧ Γ[i]? = some (some d)
  | [], h => ⟨by simp, h⟩
  | v :: vs, h => by
    unfold wipeC at h
    rw [List.getElem?_set] at h
    by_cases e : v = i
    · rw [if_pos e] at h
      split at h <;> simp at h
    · rw [if_neg e] at h
      obtain ⟨a, b⟩ := wipeC_at h
      exact ⟨fun m => (List.mem_cons.mp m).elim (fun z => e z.symm) a, b⟩
theorem Sat.wiped {F H : Hp} {σ : L2.St} {O : Own} (S : Sat F H σ Γ O) (vs : List Nat) : Sat F H (wipe σ vs) (wipeC Γ vs) O :=
  ⟨S.sub, by rw [wipe_length, wipeC_len]; exact S.len, fun i d h => by
    obtain ⟨a, b⟩ := wipeC_at h
    obtain ⟨v, e, r⟩ := S.slot i d b
    exact ⟨v, by rw [wipe_at a]; exact e, r⟩, S.own, S.nd, S.tups⟩
/-- a target that writes the comprehension's own slots alone -/
def GOk (g : TG) (vs : List Nat) : Prop := ∀ v σ H (Q : L2.St → Hp → Prop), (g v σ H fun σ' H' => Q σ' H') → g v σ H fun σ' H' => wipe σ' vs = wipe σ vs ∧ Q σ' H'
def GsOk (g : TGs) (vs : List Nat) : Prop := ∀ v σ H (Q : L2.St → Hp → Prop), (g v σ H fun σ' H' => Q σ' H') → g v σ H fun σ' H' => wipe σ' vs = wipe σ vs ∧ Q σ' H'
theorem wipe_set {σ : L2.St} {i : Nat} {x : Option V} : ∀ {vs : List Nat}, i ∈ vs → wipe (σ.set i x) vs = wipe σ vs
  | v :: vs, h => by
    unfold wipe
    by_cases m : i ∈ vs
    · rw [wipe_set m]
    · have e : i = v := (List.mem_cons.mp h).resolve_right m
      subst e
      refine List.ext_getElem? fun j => ?_
      by_cases hj : i = j
      · subst hj
        rw [List.getElem?_set, List.getElem?_set, if_pos rfl, if_pos rfl, wipe_length, wipe_length, List.length_set]
      · rw [List.getElem?_set_ne hj, List.getElem?_set_ne hj]
        by_cases mj : j ∈ vs
        · have z : ∀ (τ : L2.St) (ws : List Nat), j ∈ ws → j < τ.length → (wipe τ ws)[j]? = some none := by
            intro τ ws
            induction ws with
            | nil => intro m; cases m
            | cons w ws ih =>
              intro m hl
              unfold wipe
              by_cases e : w = j
              · subst e
                rw [List.getElem?_set_self (by rw [wipe_length]; exact hl)]
              · rw [List.getElem?_set_ne e]
                exact ih ((List.mem_cons.mp m).resolve_left fun z => e z.symm) hl
          by_cases hl : j < σ.length
          · rw [z _ _ mj (by rw [List.length_set]; exact hl), z _ _ mj hl]
          · rw [List.getElem?_eq_none_iff.mpr (by rw [wipe_length, List.length_set]; omega), List.getElem?_eq_none_iff.mpr (by rw [wipe_length]; omega)]
        · rw [wipe_at mj, wipe_at mj, List.getElem?_set_ne hj]
theorem wipe_wipe {σ : L2.St} : ∀ (vs ws : List Nat), (∀ i ∈ vs, i ∈ ws) → wipe (wipe σ vs) ws = wipe σ ws
  | [], _, _ => rfl
  | v :: vs, ws, h => by
    show wipe ((wipe σ vs).set v none) ws = _
    rw [wipe_set (h v List.mem_cons_self), wipe_wipe vs ws fun i m => h i (List.mem_cons_of_mem _ m)]
theorem gok_name {i : Nat} {vs : List Nat} (h : i ∈ vs := by decide) : GOk (gName i) vs := fun v σ H Q q => ⟨wipe_set h, q⟩
theorem gsok_nil {vs : List Nat} : GsOk gNil vs := fun v σ H Q ⟨e, q⟩ => ⟨e, rfl, q⟩
theorem gsok_cons {g : TG} {gs : TGs} {vs : List Nat} (hm : ∀ v σ H Q Q', (∀ σ' H', Q σ' H' → Q' σ' H') → g v σ H Q → g v σ H Q') (hms : ∀ v σ H Q Q', (∀ σ' H', Q σ' H' → Q' σ' H') → gs v σ H Q → gs v σ H Q') (h : GOk g vs) (hs : GsOk gs vs) : GsOk (gCons g gs) vs := fun v σ H Q ⟨a, r, e, q⟩ =>
  ⟨a, r, e, hm _ _ _ _ _ (fun σ' H' ⟨e1, q1⟩ => hms _ _ _ _ _ (fun σ2 H2 ⟨e2, q2⟩ => ⟨e2.trans e1, q2⟩) (hs _ _ _ _ q1)) (h _ _ _ _ q)⟩
theorem gmono_name {i : Nat} : ∀ v σ H (Q Q' : L2.St → Hp → Prop), (∀ σ' H', Q σ' H' → Q' σ' H') → gName i v σ H Q → gName i v σ H Q' := fun v σ H Q Q' k q => k _ _ q
theorem gmono_nil : ∀ v σ H (Q Q' : L2.St → Hp → Prop), (∀ σ' H', Q σ' H' → Q' σ' H') → gNil v σ H Q → gNil v σ H Q' := fun v σ H Q Q' k ⟨e, q⟩ => ⟨e, k _ _ q⟩
theorem gmono_cons {g : TG} {gs : TGs} (hm : ∀ v σ H Q Q', (∀ σ' H', Q σ' H' → Q' σ' H') → g v σ H Q → g v σ H Q') (hms : ∀ v σ H Q Q', (∀ σ' H', Q σ' H' → Q' σ' H') → gs v σ H Q → gs v σ H Q') :
    ∀ v σ H (Q Q' : L2.St → Hp → Prop), (∀ σ' H', Q σ' H' → Q' σ' H') → gCons g gs v σ H Q → gCons g gs v σ H Q' := fun v σ H Q Q' k ⟨a, r, e, q⟩ => ⟨a, r, e, hm _ _ _ _ _ (fun σ' H' q1 => hms _ _ _ _ _ k q1) q⟩
theorem gok_tup {Kf : PySem.W.Frag} {n : Nat} {gs : TGs} {vs : List Nat} (h : GsOk gs vs) : GOk (gTup Kf n gs) vs := fun v σ H Q ⟨a, xs, e, hq, hn, q⟩ => ⟨a, xs, e, hq, hn, h _ _ _ _ q⟩
theorem gok2 {Kf : PySem.W.Frag} {n i j : Nat} {vs : List Nat} (hi : i ∈ vs := by decide) (hj : j ∈ vs := by decide) : GOk (gTup Kf n (gCons (gName i) (gCons (gName j) gNil))) vs :=
  gok_tup (gsok_cons gmono_name (gmono_cons gmono_name gmono_nil) (gok_name hi) (gsok_cons gmono_name gmono_nil (gok_name hj) gsok_nil))
theorem gok3 {Kf : PySem.W.Frag} {n i j k : Nat} {vs : List Nat} (hi : i ∈ vs := by decide) (hj : j ∈ vs := by decide) (hk : k ∈ vs := by decide) : GOk (gTup Kf n (gCons (gName i) (gCons (gName j) (gCons (gName k) gNil)))) vs :=
  gok_tup (gsok_cons gmono_name (gmono_cons gmono_name (gmono_cons gmono_name gmono_nil)) (gok_name hi) (gsok_cons gmono_name (gmono_cons gmono_name gmono_nil) (gok_name hj) (gsok_cons gmono_name gmono_nil (gok_name hk) gsok_nil)))
theorem dom_cons {p : Addr} {c : C} : dom ((p, c) :: O) = p :: dom O := rfl
/-- behind the list's making: W over the turns; acc: what it holds. J acc O': what is known -/
theorem lc_core' {J : It} {R : Hp → Prop} {n : Nat} {y : Nat → D} {ok : Own → Prop} (Y : Yields J R n y ok) {g : TG} {tt : TT} {te : TE} {vs : List Nat} {F H : Hp} {σ : L2.St} {Q : VK} {O1 : Own} {F1 H1 : Hp} (s1 : Step (dom O) (dom O1) F H F1 H1) (S1 : Sat F1 H1 σ Γ O1) (r1 : R F1) (hg : GOk g vs)
    (I : Nat → List D → Own → Prop) (h0 : I 0 [] O1) (hok : ∀ i acc O', i ≤ n → I i acc O' → ok O') (hlen : ∀ i acc O', i ≤ n → I i acc O' → acc.length < 1000000)
    (hs : ∀ (i : Nat) acc O' Dl, i < n → I i acc O' → Gf g (wipeC Γ vs) (y i) fun Γ2 => Tf tt Γ2 ((Dl, .lst acc) :: O') fun b O2 => if b = true then Ef te Γ2 O2 fun z O3 => ∃ O4, O3 = (Dl, .lst acc) :: O4 ∧ I (i + 1) (acc ++ [z]) O4 else ∃ O4, O2 = (Dl, .lst acc) :: O4 ∧ I (i + 1) acc O4)
    (hd : ∀ acc O' Dl, I n acc O' → ∀ F' H', Step (dom O) (dom ((Dl, .lst acc) :: O')) F H F' H' → Sat F' H' σ Γ ((Dl, .lst acc) :: O') → Q (.ref Dl) H') :
    ∀ Dl, H1 Dl = none → ∃ W : Nat → Nat → Hp → Prop, (∃ m, W 0 m (upd H1 Dl (.lst []))) ∧ ∀ i m H, W i m H →
      (J.stop i H ∧ Q (.ref Dl) H) ∨ (J.go i H ∧ ∃ Nx : Hp → Prop, (∀ H', Nx H' → ∃ m', m' < m ∧ W (i + 1) m' H') ∧ ∀ x H', J.yld i H x H' → g x (wipe σ vs) H' fun σ2 H2 => wipe σ2 vs = wipe σ vs ∧ tt σ2 H2 fun b H3 =>
        if b = true then te σ2 H3 fun y H4 => ∃ acc, H4 Dl = some (.lst acc) ∧ acc.length < sizeLine ∧ Nx (upd H4 Dl (.lst (acc ++ [y]))) else Nx H3) := by
  intro Dl hDl
  have S2 : Sat F1 (upd H1 Dl (.lst [])) σ Γ ((Dl, .lst []) :: O1) := S1.made hDl (.lst .nil)
  refine ⟨fun i m H2 => m = n - i ∧ i ≤ n ∧ ∃ acc O2 F2, I i acc O2 ∧ Step (dom O) (dom ((Dl, .lst acc) :: O2)) F H F2 H2 ∧ Sat F2 H2 σ Γ ((Dl, .lst acc) :: O2) ∧ R F2, ⟨n, by simp, Nat.zero_le _, [], O1, F1, h0, s1.trans (Step.made hDl), S2, r1⟩, ?_⟩
  rintro i m H2 ⟨rfl, hi, acc, O2, F2, i2, s2, S2, r2⟩
  have Sb : Sat F2 H2 σ Γ O2 := ⟨S2.sub, S2.len, S2.slot, fun p hp => S2.own p (List.mem_cons_of_mem _ hp), (List.nodup_cons.mp S2.nd).2, S2.tups⟩
  by_cases hlt : i < n
  · obtain ⟨hgo, hy⟩ := Y.go F2 H2 σ Γ O2 i Sb r2 (hok i acc O2 hi i2) hlt
    refine .inr ⟨hgo, fun H3 => ∃ acc O3 F3, I (i + 1) acc O3 ∧ Step (dom O) (dom ((Dl, .lst acc) :: O3)) F H F3 H3 ∧ Sat F3 H3 σ Γ ((Dl, .lst acc) :: O3) ∧ R F3, fun H3 ⟨acc, O3, F3, i3, s3, S3, r3⟩ => ⟨n - (i + 1), by omega, rfl, hlt, acc, O3, F3, i3, s3, S3, r3⟩, ?_⟩
    intro x H3 yx
    obtain ⟨F3, s3, S3, rx⟩ := hy x H3 yx
    -- the turn keeps the list made so far
    have hDn : ∃ o, H2 Dl = some o ∧ CRel F2 (.lst acc) o ∧ F2 Dl = none := by
      obtain ⟨a, o, b, c⟩ := S2.own _ List.mem_cons_self
      exact ⟨o, b, c, a⟩
    obtain ⟨oD, hoD, cD, fD⟩ := hDn
    have nD : Dl ∉ dom O2 := (List.nodup_cons.mp S2.nd).1
    have S3' : Sat F3 H3 σ Γ ((Dl, .lst acc) :: O2) := by
      refine ⟨S3.sub, S3.len, S3.slot, fun p hp => ?_, S2.nd, S3.tups⟩
      rcases List.mem_cons.mp hp with e | hp
      · subst e
        refine ⟨?_, oD, s3.h Dl _ nD hoD, cD.mono s3.f⟩
        rcases none_or (H := F3) Dl with q | ⟨o', q⟩
        · exact q
        · rcases s3.new Dl o' q with z | z | z
          · rw [fD] at z; cases z
          · rw [hoD] at z; cases z
          · exact absurd z nD
      · exact S3.own p hp
    have s3' : Step (dom ((Dl, C.lst acc) :: O2)) (dom ((Dl, C.lst acc) :: O2)) F2 H2 F3 H3 :=
      ⟨s3.f, fun b o hb e => s3.h b o (fun z => hb (List.mem_cons_of_mem _ z)) e, s3.there, fun b o e => (s3.new b o e).elim .inl fun z => z.elim (fun z => .inr (.inl z)) fun z => .inr (.inr (List.mem_cons_of_mem _ z)), fun a h => .inl h⟩
    have hh := hs i acc O2 Dl hlt i2 F3 H3 (wipe σ vs) _ x (fun σ2 H3' => tt σ2 H3' fun b H3 =>
        if b = true then te σ2 H3 fun y H4 => ∃ acc, H4 Dl = some (.lst acc) ∧ acc.length < sizeLine ∧ (fun H3 => ∃ acc O3 F3, I (i + 1) acc O3 ∧ Step (dom O) (dom ((Dl, .lst acc) :: O3)) F H F3 H3 ∧ Sat F3 H3 σ Γ ((Dl, .lst acc) :: O3) ∧ R F3) (upd H4 Dl (.lst (acc ++ [y]))) else (fun H3 => ∃ acc O3 F3, I (i + 1) acc O3 ∧ Step (dom O) (dom ((Dl, .lst acc) :: O3)) F H F3 H3 ∧ Sat F3 H3 σ Γ ((Dl, .lst acc) :: O3) ∧ R F3) H3) (S3'.wiped vs) rx ?_
    · have q := hg _ _ _ _ hh
      have ww : wipe (wipe σ vs) vs = wipe σ vs := wipe_wipe vs vs fun _ h => h
      rw [ww] at q
      exact q
    intro Γ2 hb σ2 S4
    refine hb F3 H3 σ2 _ S4 fun b O4 hk F5 H5 s5 S5 => ?_
    have back : ∀ {F6 H6 O6}, Step (dom O2) (dom O6) F2 H2 F6 H6 → True := fun _ => trivial
    cases b with
    | true =>
      rw [if_pos rfl] at hk ⊢
      refine hk F5 H5 σ2 _ S5 fun z O6 ⟨O7, e6, i7⟩ w F7 H7 s7 S7 r7 => ?_
      subst e6
      obtain ⟨f7, o7, h7, c7⟩ := S7.own _ List.mem_cons_self
      cases c7 with
      | lst rl7 =>
        rename_i ws
        have Sσ : Sat F7 H7 σ Γ ((Dl, .lst acc) :: O7) := ⟨S7.sub, S3.len, fun j e hj => by
          obtain ⟨u, a, b⟩ := S3.slot j e hj
          exact ⟨u, a, b.mono (s5.f.trans s7.f)⟩, S7.own, S7.nd, S7.tups⟩
        refine ⟨ws, h7, ?_, acc ++ [z], O7, F7, i7, ((((s2.trans s3').trans s5).trans s7).trans (Step.write (j := 0) (c' := .lst (acc ++ [z])) rfl h7 f7)), Sσ.write (j := 0) (c := .lst acc) rfl (.lst (rl7.append (.cons r7 .nil))), Y.mono ((s3.f.trans s5.f).trans s7.f) r2⟩
        rw [← rl7.length]
        exact szlt (hlen i acc O2 hi i2)
    | false =>
      rw [if_neg Bool.false_ne_true] at hk ⊢
      obtain ⟨O7, e6, i7⟩ := hk
      subst e6
      have Sσ : Sat F5 H5 σ Γ ((Dl, .lst acc) :: O7) := ⟨S5.sub, S3.len, fun j e hj => by
          obtain ⟨u, a, b⟩ := S3.slot j e hj
          exact ⟨u, a, b.mono s5.f⟩, S5.own, S5.nd, S5.tups⟩
      exact ⟨acc, O7, F5, i7, (s2.trans s3').trans s5, Sσ, Y.mono (s3.f.trans s5.f) r2⟩
  · have ei : i = n := by omega
    subst ei
    exact .inl ⟨Y.stop F2 H2 σ Γ O2 Sb r2 (hok _ acc O2 (Nat.le_refl _) i2), hd acc O2 Dl i2 F2 H2 s2 S2⟩
/-- the turns of a comprehension; Fin: what is wanted at the end -/
def Turns (g : TG) (tt : TT) (te : TE) (Γ : Ctx) (vs : List Nat) (n : Nat) (y : Nat → D) (O1 : Own) (ok : Own → Prop) (Fin : List D → Own → Prop) : Prop :=
  ∃ I : Nat → List D → Own → Prop, I 0 [] O1 ∧ (∀ i acc O', i ≤ n → I i acc O' → ok O' ∧ acc.length < 1000000) ∧
    (∀ (i : Nat) acc O' Dl, i < n → I i acc O' → Gf g (wipeC Γ vs) (y i) fun Γ2 => Tf tt Γ2 ((Dl, .lst acc) :: O') fun b O2 => if b = true then Ef te Γ2 O2 fun z O3 => ∃ O4, O3 = (Dl, .lst acc) :: O4 ∧ I (i + 1) (acc ++ [z]) O4 else ∃ O4, O2 = (Dl, .lst acc) :: O4 ∧ I (i + 1) acc O4) ∧
    ∀ acc O', I n acc O' → Fin acc O'
theorem Sat.frz {A : List Addr} {F0 H0 F H : Hp} {σ : L2.St} {p : Addr} {xs : List D} {O' : Own} (S : Sat F H σ Γ ((p, .lst xs) :: O')) (s : Step A (dom ((p, .lst xs) :: O')) F0 H0 F H) :
    ∃ F', Sat F' H σ Γ O' ∧ Step A (dom O') F0 H0 F' H ∧ Rel F' (.lst xs) (.ref p) ∧ Same F F' := by
  obtain ⟨hf, o, ho, c⟩ := S.own _ List.mem_cons_self
  cases c with
  | lst rl =>
    rename_i ws
    have sf : Same F (upd F p (.lst ws)) := Same.f hf
    obtain ⟨n1, n2⟩ := List.nodup_cons.mp S.nd
    refine ⟨upd F p (.lst ws), ⟨fun b x e => ?_, S.len, fun i d e => ?_, fun q hq => ?_, n2, fun b vs e => sf _ _ (S.tups b vs e)⟩, ⟨s.f.trans sf, s.h, s.there, fun b x e => ?_, fun a h => s.own a (List.mem_cons_of_mem _ h)⟩, .lst upd_same (rl.mono sf), sf⟩
    · by_cases hb : b = p
      · subst hb
        rw [upd_same] at e
        rw [← e]
        exact ho
      · rw [upd_ne hb] at e
        exact S.sub b x e
    · obtain ⟨v, a, r⟩ := S.slot i d e
      exact ⟨v, a, r.mono sf⟩
    · obtain ⟨a, x, e, r⟩ := S.own q (List.mem_cons_of_mem _ hq)
      have hne : q.1 ≠ p := fun z => n1 (by
        rw [← z]
        exact List.mem_map.mpr ⟨q, hq, rfl⟩)
      exact ⟨by rw [upd_ne hne]; exact a, x, e, r.mono sf⟩
    · by_cases hb : b = p
      · subst hb
        rcases s.own b List.mem_cons_self with z | z
        · exact .inr (.inr z)
        · exact .inr (.inl z)
      · rw [upd_ne hb] at e
        exact s.new b x e
abbrev LcFin (K : KD) : List D → Own → Prop := fun acc O' => K (.lst acc) O' ∨ ∀ p, K (.ref p) ((p, .lst acc) :: O')
theorem lc_fin {σ : L2.St} {F H : Hp} {Q : VK} (hk : ∀ d O', K d O' → Aft σ Γ O F H Q d O') {acc : List D} {O' : Own} {Dl : Addr} (h : LcFin K acc O') {F' H' : Hp} (s : Step (dom O) (dom ((Dl, .lst acc) :: O')) F H F' H') (S : Sat F' H' σ Γ ((Dl, .lst acc) :: O')) : Q (.ref Dl) H' := by
  rcases h with k | k
  · obtain ⟨F2, S2, s2, r, _⟩ := S.frz s
    exact hk _ _ k _ F2 H' s2 S2 r
  · exact hk _ _ (k Dl) _ F' H' s S (.ref Dl)
theorem ef_lcL {Kf : PySem.W.Frag} {tl : TE} {g : TG} {tt : TT} {te : TE} {vs : List Nat} (hg : GOk g vs) (h : Ef tl Γ O fun d O1 => ∃ xs, IsL O1 d xs ∧ Turns g tt te Γ vs xs.length (fun i => xs.getD i .non) O1 (fun O' => IsL O' d xs) (LcFin K)) : Ef (tLc (iList Kf tl) g tt te vs) Γ O K := fun F H σ Q S hk =>
  h F H σ _ S fun d O1 ⟨xs, hl, I, h0, hok, hs, hd⟩ v F1 H1 s1 S1 r1 => by
    obtain ⟨a, ws, rfl, hq, rl⟩ := hl.sq (Kf := Kf) S1 r1
    exact ⟨a, rfl, ⟨ws, hq⟩, lc_core' yields_list s1 S1 r1 hg I h0 (fun i acc O' hi ii => (hok i acc O' hi ii).1) (fun i acc O' hi ii => (hok i acc O' hi ii).2) hs fun acc O' Dl hI F' H' s S => lc_fin hk (hd acc O' hI) s S⟩
theorem ef_lcT {Kf : PySem.W.Frag} {tl : TE} {g : TG} {tt : TT} {te : TE} {vs : List Nat} (hg : GOk g vs) (h : Ef tl Γ O fun d O1 => ∃ xs, d = .tup xs ∧ Turns g tt te Γ vs xs.length (fun i => xs.getD i .non) O1 (fun O' => True) (LcFin K)) : Ef (tLc (iTup Kf tl) g tt te vs) Γ O K := fun F H σ Q S hk =>
  h F H σ _ S fun d O1 ⟨xs, hl, I, h0, hok, hs, hd⟩ v F1 H1 s1 S1 r1 => by
    subst hl
    cases id r1 with
    | tup ea rl => exact ⟨_, rfl, ⟨_, .inl (.inl (S1.sub _ _ ea))⟩, lc_core' yields_tup s1 S1 r1 hg I h0 (fun i acc O' hi ii => trivial) (fun i acc O' hi ii => (hok i acc O' hi ii).2) hs fun acc O' Dl hI F' H' s S => lc_fin hk (hd acc O' hI) s S⟩
theorem ef_lcE {Kf : PySem.W.Frag} {tl : TE} {g : TG} {tt : TT} {te : TE} {vs : List Nat} (hg : GOk g vs) (h : Ef tl Γ O fun d O1 => ∃ xs, IsL O1 d xs ∧ Turns g tt te Γ vs xs.length (fun i => .tup [.int (i : Int), xs.getD i .non]) O1 (fun O' => IsL O' d xs) (LcFin K)) : Ef (tLc (iEnum Kf (tCons tl tNil)) g tt te vs) Γ O K := fun F H σ Q S hk =>
  h F H σ _ S fun d O1 ⟨xs, hl, I, h0, hok, hs, hd⟩ v F1 H1 s1 S1 r1 => by
    obtain ⟨a, ws, rfl, hq, rl⟩ := hl.sq (Kf := Kf) S1 r1
    exact ⟨a, ws, rfl, hq, lc_core' yields_enum s1 S1 r1 hg I h0 (fun i acc O' hi ii => (hok i acc O' hi ii).1) (fun i acc O' hi ii => (hok i acc O' hi ii).2) hs fun acc O' Dl hI F' H' s S => lc_fin hk (hd acc O' hI) s S⟩
theorem ef_lcZ {Kf : PySem.W.Frag} {tl tm : TE} {g : TG} {tt : TT} {te : TE} {vs : List Nat} (hg : GOk g vs) (h : Ef tl Γ O fun d O1 => Ef tm Γ O1 fun e O2 => ∃ xs ys, IsL O2 d xs ∧ IsL O2 e ys ∧ Turns g tt te Γ vs (min xs.length ys.length) (fun i => .tup [xs.getD i .non, ys.getD i .non]) O2 (fun O' => IsL O' d xs ∧ IsL O' e ys) (LcFin K)) : Ef (tLc (iZip Kf (tCons tl (tCons tm tNil))) g tt te vs) Γ O K := fun F H σ Q S hk =>
  h F H σ _ S fun d O1 h1 v F1 H1 s1 S1 r1 => h1 F1 H1 σ _ S1 fun e O2 ⟨xs, ys, hl, hl2, I, h0, hok, hs, hd⟩ w F2 H2 s2 S2 r2 => by
    have r1' := r1.mono s2.f
    obtain ⟨a, vs', rfl, hq, rl⟩ := hl.sq (Kf := Kf) S2 r1'
    obtain ⟨b, ws, rfl, hq2, rl2⟩ := hl2.sq (Kf := Kf) S2 r2
    exact ⟨a, b, vs', ws, rfl, hq, hq2, lc_core' yields_zip (s1.trans s2) S2 ⟨r1', r2⟩ hg I h0 (fun i acc O' hi ii => (hok i acc O' hi ii).1) (fun i acc O' hi ii => (hok i acc O' hi ii).2) hs fun acc O' Dl hI F' H' s S => lc_fin hk (hd acc O' hI) s S⟩
theorem ef_lcR {te0 : TE} {g : TG} {tt : TT} {te : TE} {vs : List Nat} (hg : GOk g vs) (h : Ef te0 Γ O fun d O1 => ∃ n : Int, d = .int n ∧ (-1000000000 ≤ n ∧ n ≤ 1000000000) ∧ Turns g tt te Γ vs n.toNat (fun i => .int (i : Int)) O1 (fun O' => True) (LcFin K)) : Ef (tLc (iRng1 (tCons te0 tNil)) g tt te vs) Γ O K := fun F H σ Q S hk =>
  h F H σ _ S fun d O1 ⟨n, e0, hn, I, h0, hok, hs, hd⟩ v F1 H1 s1 S1 r1 => by
    subst e0
    cases r1
    refine ⟨n, rfl, by omega, by omega, lc_core' (n := n.toNat) (yields_rng (lo := 0)) s1 S1 trivial hg I h0 (fun i acc O' hi ii => trivial) (fun i acc O' hi ii => (hok i acc O' hi ii).2) (fun i acc O' Dl hi ii => ?_) fun acc O' Dl hI F' H' s S => lc_fin hk (hd acc O' hI) s S⟩
    show Gf g (wipeC Γ vs) (.int (0 + (i : Int))) _
    rw [Int.zero_add]
    exact hs i acc O' Dl hi ii
theorem tf_yes {K : Bool → Own → Prop} (k : K true O) : Tf tYes Γ O K := fun F H σ Q S hk => hk true O k F H Step.refl S
theorem take_range_succ {α : Type} (y : Nat → α) (i : Nat) : (List.range (i + 1)).map y = (List.range i).map y ++ [y i] := by rw [List.range_succ, List.map_append] <;> rfl
theorem range_getD (xs : List D) : (List.range xs.length).map (fun i => xs.getD i .non) = xs := by
  refine List.ext_getElem? fun i => ?_
  rw [List.getElem?_map]
  by_cases h : i < xs.length
  · rw [List.getElem?_range h, List.getElem?_eq_getElem h]
    show some (xs.getD i .non) = _
    rw [getD_at h]
  · rw [List.getElem?_eq_none_iff.mpr (by rw [List.length_range]; omega), List.getElem?_eq_none_iff.mpr (by omega)]
    rfl
/-- turns that read alone -/
theorem turns_pure {g : TG} {tt : TT} {te : TE} {vs : List Nat} {n : Nat} {y : Nat → D} {O1 : Own} {ok : Own → Prop} {Fin : List D → Own → Prop} (p : D → Bool) (f : D → D) (hok : ok O1) (hn : n < 1000000)
    (hs : ∀ (i : Nat) acc Dl, i < n → Gf g (wipeC Γ vs) (y i) fun Γ2 => Tf tt Γ2 ((Dl, .lst acc) :: O1) fun b O2 => O2 = (Dl, .lst acc) :: O1 ∧ b = p (y i) ∧ (b = true → Ef te Γ2 ((Dl, .lst acc) :: O1) fun z O3 => O3 = (Dl, .lst acc) :: O1 ∧ z = f (y i)))
    (hd : Fin ((((List.range n).map y).filter p).map f) O1) : Turns g tt te Γ vs n y O1 ok Fin := by
  refine ⟨fun i acc O' => O' = O1 ∧ acc = (((List.range i).map y).filter p).map f, ⟨rfl, rfl⟩, ?_, ?_, ?_⟩
  · rintro i acc O' hi ⟨rfl, rfl⟩
    refine ⟨hok, ?_⟩
    rw [List.length_map]
    have h := List.length_filter_le p ((List.range i).map y)
    rw [List.length_map, List.length_range] at h
    omega
  · rintro i acc O' Dl hi ⟨rfl, rfl⟩ F H σ O v Q S r hk
    refine hs i _ Dl hi F H σ O v Q S r fun Γ2 h2 => hk Γ2 (h2.mono fun b O2 ⟨e2, eb, h3⟩ => ?_)
    subst e2
    cases hb : b with
    | true =>
      rw [if_pos rfl]
      refine (h3 hb).mono fun z O3 ⟨e3, ez⟩ => ⟨O', e3, rfl, ?_⟩
      rw [take_range_succ, List.filter_append, List.map_append, List.filter_cons, if_pos (by rw [← eb]; exact hb), ez]
      rfl
    | false =>
      rw [if_neg Bool.false_ne_true]
      refine ⟨O', rfl, rfl, ?_⟩
      rw [take_range_succ, List.filter_append, List.map_append, List.filter_cons, if_neg (by rw [← eb, hb]; exact Bool.false_ne_true)]
      show _ = _ ++ []
      rw [List.append_nil]
  · rintro acc O' ⟨rfl, rfl⟩
    exact hd
end
end OW

/-! methods, slices, dicts, comparison -/
namespace OW
open PySem PySem.Spec PyProof.Rows L2
section
variable {Γ : Ctx} {O : Own} {K : KD} {Kf : PySem.W.Frag}

theorem Sat.at {F H : Hp} {σ : L2.St} {j : Nat} {a : Addr} {xs : List D} (S : Sat F H σ Γ O) (h : O[j]? = some (a, .lst xs)) : F a = none ∧ ∃ vs, H a = some (.lst vs) ∧ RelL F xs vs := by
  obtain ⟨f, o, e, c⟩ := S.own _ (List.mem_of_getElem? h)
  cases c with
  | lst r => exact ⟨f, _, e, r⟩
/-- a method on an owned list: the arguments, then what it does -/
theorem ef_bm {r : V → List V → Hp → VK → Prop} {to : TE} {t : TA} (h : Ef to Γ O fun d O1 => ∃ a, d = .ref a ∧ (∃ (j : Nat) (xs : List D), O1[j]? = some (a, .lst xs)) ∧ Af t Γ O1 fun ds O2 => ∀ F H σ Q vs, Sat F H σ Γ O2 → RelL F ds vs → (∀ d O', K d O' → Aft σ Γ O2 F H Q d O') → r (.ref a) vs H Q) :
    Ef (tBM Kf "list" r to t) Γ O K := fun F H σ Q S hk =>
  h F H σ _ S fun d O1 ⟨a, e, ⟨j, xs, hj⟩, h1⟩ v F1 H1 s1 S1 r1 => by
    subst e
    cases r1
    obtain ⟨_, vs, hv, _⟩ := S1.at hj
    exact ⟨.inl ⟨rfl, vs, .inl (.inl hv)⟩, h1 F1 H1 σ _ S1 fun ds O2 h2 us F2 H2 s2 S2 r2 => h2 F2 H2 σ Q us S2 r2 fun d O' k => ((hk d O' k).step s1).step s2⟩
theorem ef_bm0 {r : V → List V → Hp → VK → Prop} {to : TE} (h : Ef to Γ O fun d O1 => ∃ a, d = .ref a ∧ (∃ (j : Nat) (xs : List D), O1[j]? = some (a, .lst xs)) ∧ ∀ F H σ Q, Sat F H σ Γ O1 → (∀ d O', K d O' → Aft σ Γ O1 F H Q d O') → r (.ref a) [] H Q) :
    Ef (tBM0 Kf "list" r to) Γ O K := fun F H σ Q S hk =>
  h F H σ _ S fun d O1 ⟨a, e, ⟨j, xs, hj⟩, h1⟩ v F1 H1 s1 S1 r1 => by
    subst e
    cases r1
    obtain ⟨_, vs, hv, _⟩ := S1.at hj
    exact ⟨.inl ⟨rfl, vs, .inl (.inl hv)⟩, h1 F1 H1 σ Q S1 fun d O' k => (hk d O' k).step s1⟩
theorem aft_write {F H : Hp} {σ : L2.St} {Q : VK} {j : Nat} {a : Addr} {c c' : C} {o : HO} {d : D} {v : V} (S : Sat F H σ Γ O) (hk : ∀ d O', K d O' → Aft σ Γ O F H Q d O') (hj : O[j]? = some (a, c)) (k : K d (O.set j (a, c'))) (r : CRel F c' o) (rd : Rel F d v) : Q v (upd H a o) := by
  obtain ⟨f, ox, e, _⟩ := S.own _ (List.mem_of_getElem? hj)
  exact hk _ _ k v F _ (Step.write hj e f) (S.write hj r) rd
theorem ef_append {to te : TE} (h : Ef to Γ O fun d O1 => ∃ a, d = .ref a ∧ (∃ (j : Nat) (xs : List D), O1[j]? = some (a, .lst xs)) ∧ Ef te Γ O1 fun y O2 => ∃ (j : Nat) (xs : List D), O2[j]? = some (a, .lst xs) ∧ xs.length < 1000000 ∧ K .non (O2.set j (a, .lst (xs ++ [y])))) :
    Ef (tBM Kf "list" rAppend to (tCons te tNil)) Γ O K :=
  ef_bm (h.mono fun d O1 ⟨a, e, hj, h1⟩ => ⟨a, e, hj, af_cons (h1.mono fun y O2 ⟨j, xs, hj, hl, k⟩ => af_nil fun F H σ Q vs S r hk => by
    obtain ⟨v, rfl, rv⟩ := relL1 r
    obtain ⟨f, ws, hw, rl⟩ := S.at hj
    exact ⟨a, ws, v, rfl, rfl, hw, by rw [← rl.length]; exact szlt hl, aft_write S hk hj k (.lst (rl.append (.cons rv .nil))) .non⟩)⟩)
theorem ef_extend {to te : TE} (h : Ef to Γ O fun d O1 => ∃ a, d = .ref a ∧ (∃ (j : Nat) (xs : List D), O1[j]? = some (a, .lst xs)) ∧ Ef te Γ O1 fun y O2 => ∃ (j : Nat) (xs ys : List D), O2[j]? = some (a, .lst xs) ∧ IsL O2 y ys ∧ xs.length + ys.length ≤ 1000000 ∧ K .non (O2.set j (a, .lst (xs ++ ys)))) :
    Ef (tBM Kf "list" rExtend to (tCons te tNil)) Γ O K :=
  ef_bm (h.mono fun d O1 ⟨a, e, hj, h1⟩ => ⟨a, e, hj, af_cons (h1.mono fun y O2 ⟨j, xs, ys, hj, hy, hl, k⟩ => af_nil fun F H σ Q vs S r hk => by
    obtain ⟨v, rfl, rv⟩ := relL1 r
    obtain ⟨f, ws, hw, rl⟩ := S.at hj
    obtain ⟨b, us, rfl, hb, rb⟩ := hy.at S rv
    exact ⟨a, b, ws, us, rfl, rfl, hw, hb, by rw [← rl.length, ← rb.length]; exact sz hl, aft_write S hk hj k (.lst (rl.append rb)) .non⟩)⟩)
theorem ef_pop {to : TE} (h : Ef to Γ O fun d O1 => ∃ (a : Addr) (j : Nat) (xs : List D) (y : D), d = .ref a ∧ O1[j]? = some (a, .lst xs) ∧ xs[xs.length - 1]? = some y ∧ K y (O1.set j (a, .lst xs.dropLast))) :
    Ef (tBM0 Kf "list" rPop to) Γ O K :=
  ef_bm0 (h.mono fun d O1 ⟨a, j, xs, y, e, hj, hy, k⟩ => ⟨a, e, ⟨j, xs, hj⟩, fun F H σ Q S hk => by
    obtain ⟨f, ws, hw, rl⟩ := S.at hj
    obtain ⟨v, hv, rv⟩ := rl.get hy
    exact ⟨a, ws, v, rfl, rfl, hw, by rw [← rl.length]; exact hv, aft_write S hk hj k (.lst rl.dropLast) rv⟩⟩)
theorem ef_clear {to : TE} (h : Ef to Γ O fun d O1 => ∃ (a : Addr) (j : Nat) (xs : List D), d = .ref a ∧ O1[j]? = some (a, .lst xs) ∧ K .non (O1.set j (a, .lst []))) :
    Ef (tBM0 Kf "list" rClear to) Γ O K :=
  ef_bm0 (h.mono fun d O1 ⟨a, j, xs, e, hj, k⟩ => ⟨a, e, ⟨j, xs, hj⟩, fun F H σ Q S hk => by
    obtain ⟨f, ws, hw, rl⟩ := S.at hj
    exact ⟨a, ws, rfl, rfl, hw, aft_write S hk hj k (.lst .nil) .non⟩⟩)
theorem ef_popAt {to te : TE} (h : Ef to Γ O fun d O1 => ∃ a, d = .ref a ∧ (∃ (j : Nat) (xs : List D), O1[j]? = some (a, .lst xs)) ∧ Ef te Γ O1 fun z O2 => ∃ (j : Nat) (xs : List D) (n : Nat) (y : D), O2[j]? = some (a, .lst xs) ∧ z = .int (n : Int) ∧ n < 1000000000 ∧ xs[n]? = some y ∧ K y (O2.set j (a, .lst (xs.eraseIdx n)))) :
    Ef (tBM Kf "list" rPopAt to (tCons te tNil)) Γ O K :=
  ef_bm (h.mono fun d O1 ⟨a, e, hj, h1⟩ => ⟨a, e, hj, af_cons (h1.mono fun z O2 ⟨j, xs, n, y, hj, ez, hn, hy, k⟩ => af_nil fun F H σ Q vs S r hk => by
    subst ez
    obtain ⟨v, rfl, rv⟩ := relL1 r
    cases rv
    obtain ⟨f, ws, hw, rl⟩ := S.at hj
    obtain ⟨v, hv, rv⟩ := rl.get hy
    have hlt : n < ws.length := (List.getElem?_eq_some_iff.mp hv).1
    have hx : seqIndex? (n : Int) ws.length = some n := (ixN_seq (by
      unfold ixN
      rw [if_pos (Int.natCast_nonneg n), if_pos (by omega)]
      rfl)).1
    exact ⟨a, ws, (n : Int), n, v, rfl, rfl, hw, by omega, by omega, hx, hv, aft_write S hk hj k (.lst (rl.eraseIdx n)) rv⟩)⟩)
abbrev rInsert : V → List V → Hp → VK → Prop := fun x vs H Q => ∃ (l : Addr) (xs : List V) (i : Int) (y : V), x = .ref l ∧ vs = [.int i, y] ∧ H l = some (.lst xs) ∧ xs.length < sizeLine ∧ 0 ≤ i ∧ i < 2 ^ 63 ∧
      Q .non (upd H l (.lst (xs.take i.toNat ++ [y] ++ xs.drop i.toNat)))
theorem ef_insert {to te tf : TE} (h : Ef to Γ O fun d O1 => ∃ a, d = .ref a ∧ (∃ (j : Nat) (xs : List D), O1[j]? = some (a, .lst xs)) ∧ Ef te Γ O1 fun z O2 => Ef tf Γ O2 fun y O3 => ∃ (j : Nat) (xs : List D) (n : Nat), O3[j]? = some (a, .lst xs) ∧ z = .int (n : Int) ∧ n < 1000000000 ∧ xs.length < 1000000 ∧ K .non (O3.set j (a, .lst (xs.take n ++ [y] ++ xs.drop n)))) :
    Ef (tBM Kf "list" rInsert to (tCons te (tCons tf tNil))) Γ O K :=
  ef_bm (h.mono fun d O1 ⟨a, e, hj, h1⟩ => ⟨a, e, hj, af_cons (h1.mono fun z O2 h2 => af_cons (h2.mono fun y O3 ⟨j, xs, n, hj, ez, hn, hl, k⟩ => af_nil fun F H σ Q vs S r hk => by
    subst ez
    obtain ⟨v, w, rfl, rv, rw'⟩ := relL2 r
    cases rv
    obtain ⟨f, ws, hw, rl⟩ := S.at hj
    refine ⟨a, ws, (n : Int), w, rfl, rfl, hw, by rw [← rl.length]; exact szlt hl, by omega, by omega, aft_write S hk hj k (.lst ?_) .non⟩
    exact ((rl.take _).append (.cons rw' .nil)).append (rl.drop _)))⟩)
theorem sf_setL {te ta tb : TE} {K : Ks} (h : Ef te Γ O fun x O1 => Ef ta Γ O1 fun d O2 => Ef tb Γ O2 fun e O3 => ∃ (a : Addr) (j : Nat) (xs : List D) (k : Int) (n : Nat), d = .ref a ∧ e = .int k ∧ O3[j]? = some (a, .lst xs) ∧ ixN xs.length k = some n ∧ K.nx Γ (O3.set j (a, .lst (xs.set n x)))) :
    Sf (tAsg te (gSub ta tb rSetL)) Γ O K := fun F H σ E S e =>
  h F H σ _ S fun x O1 h1 v F1 H1 s1 S1 r1 => h1 F1 H1 σ _ S1 fun d O2 h2 w F2 H2 s2 S2 r2 => h2 F2 H2 σ _ S2 fun e3 O3 ⟨a, j, xs, k, n, e1, e2, hj, hn, kk⟩ u F3 H3 s3 S3 r3 => by
    subst e1; subst e2
    cases r2
    cases r3
    obtain ⟨f, ws, hw, rl⟩ := S3.at hj
    refine ⟨a, ws, k, n, rfl, rfl, hw, by rw [← rl.length]; exact hn, ?_⟩
    exact e.nx _ _ kk _ F3 _ (((s1.trans s2).trans s3).trans (Step.write hj hw f)) (S3.write hj (.lst (rl.set (r1.mono (s2.f.trans s3.f)) n)))

/-! ### slices, +, * -/
def Of (to : TO) (Γ : Ctx) (O : Own) (K : Option Int → Own → Prop) : Prop := ∀ F H σ (Q : Option Int → Hp → Prop), Sat F H σ Γ O → (∀ b O', K b O' → ∀ F' H', Step (dom O) (dom O') F H F' H' → Sat F' H' σ Γ O' → Q b H') → to σ H Q
theorem of_none {K : Option Int → Own → Prop} (k : K none O) : Of tNoPart Γ O K := fun F H σ Q S hk => hk none O k F H Step.refl S
theorem of_some {te : TE} {K : Option Int → Own → Prop} (h : Ef te Γ O fun d O1 => ∃ i, d = .int i ∧ K (some i) O1) : Of (tPart te) Γ O K := fun F H σ Q S hk =>
  h F H σ _ S fun d O1 ⟨i, e, k⟩ v F1 H1 s1 S1 r1 => by
    subst e
    cases r1
    exact ⟨i, rfl, hk _ O1 k F1 H1 s1 S1⟩
def cutD (xs : List D) (lo hi : Option Int) : List D := (xs.drop (HT.sIx xs.length 0 lo)).take (HT.sIx xs.length xs.length hi - HT.sIx xs.length 0 lo)
theorem RelL.cut {F : Hp} {xs : List D} {vs : List V} (r : RelL F xs vs) (lo hi : Option Int) : RelL F (cutD xs lo hi) (cutV vs lo hi) := by
  unfold cutD cutV
  rw [r.length]
  exact (r.drop _).take _
/-- a new list from what stands: for good, or owned -/
theorem lnew {F H : Hp} {σ : L2.St} {Q : VK} {xs : List D} {vs : List V} (S : Sat F H σ Γ O) (hk : ∀ d O', K d O' → Aft σ Γ O F H Q d O') (k : LcFin K xs O) (rl : RelL F xs vs) {p : Addr} (hp : H p = none) : Q (.ref p) (upd H p (.lst vs)) := by
  rcases k with k | k
  · exact hk _ _ k _ _ _ (Step.laid S.sub hp) (S.laid hp) (.lst upd_same (rl.mono (Same.f (S.sub.free hp))))
  · exact hk _ _ (k p) _ F _ (Step.made hp) (S.made hp (.lst rl)) (.ref p)
theorem ef_slL {te : TE} {tl th : TO} (h : Ef te Γ O fun d O1 => Of tl Γ O1 fun lo O2 => Of th Γ O2 fun hi O3 => ∃ xs, IsL O3 d xs ∧ LcFin K (cutD xs lo hi) O3) : Ef (tSl (rSlL Kf) te tl th) Γ O K := fun F H σ Q S hk =>
  h F H σ _ S fun d O1 h1 v F1 H1 s1 S1 r1 => h1 F1 H1 σ _ S1 fun lo O2 h2 F2 H2 s2 S2 => h2 F2 H2 σ _ S2 fun hi O3 ⟨xs, hl, k⟩ F3 H3 s3 S3 => by
    obtain ⟨a, vs, rfl, hq, rl⟩ := hl.sq (Kf := Kf) S3 (r1.mono (s2.f.trans s3.f))
    exact ⟨a, vs, rfl, hq, fun p hp => lnew S3 (fun d O' k => ((hk d O' k).step (s1.trans s2)).step s3) k (rl.cut lo hi) hp⟩
theorem ef_rev {te : TE} (h : Ef te Γ O fun d O1 => ∃ xs, IsL O1 d xs ∧ LcFin K xs.reverse O1) : Ef (tRevL Kf te) Γ O K := fun F H σ Q S hk =>
  h F H σ _ S fun d O1 ⟨xs, hl, k⟩ v F1 H1 s1 S1 r1 => by
    obtain ⟨a, vs, rfl, hq, rl⟩ := hl.sq (Kf := Kf) S1 r1
    exact ⟨a, vs, rfl, hq, fun p hp => lnew S1 (fun d O' k => (hk d O' k).step s1) k rl.reverse hp⟩
theorem ef_cat {ta tb : TE} (h : Ef ta Γ O fun d1 O1 => Ef tb Γ O1 fun d2 O2 => ∃ xs ys, IsL O2 d1 xs ∧ IsL O2 d2 ys ∧ xs.length + ys.length ≤ 1000000 ∧ LcFin K (xs ++ ys) O2) : Ef (tOp rCat ta tb) Γ O K :=
  ef_bin (h.mono fun d1 O1 h1 => h1.mono fun d2 O2 ⟨xs, ys, hx, hy, hl, k⟩ F H σ Q v1 v2 S r1 r2 hk => by
    obtain ⟨a, vs, rfl, ha, ra⟩ := hx.at S r1
    obtain ⟨b, ws, rfl, hb, rb⟩ := hy.at S r2
    exact ⟨a, b, vs, ws, rfl, rfl, ha, hb, by rw [← ra.length, ← rb.length]; exact sz hl, fun p hp => lnew S hk k (ra.append rb) hp⟩)
theorem RelL.repl {F : Hp} {xs : List D} {vs : List V} (r : RelL F xs vs) : ∀ n : Nat, RelL F (List.replicate n xs).flatten (List.replicate n vs).flatten
  | 0 => .nil
  | n + 1 => by
    rw [List.replicate_succ, List.replicate_succ, List.flatten_cons, List.flatten_cons]
    exact r.append (RelL.repl r n)
theorem ef_rep {ta tb : TE} (h : Ef ta Γ O fun d1 O1 => Ef tb Γ O1 fun d2 O2 => ∃ (xs : List D) (n : Int), IsL O2 d1 xs ∧ d2 = .int n ∧ (-1000000 ≤ n ∧ n ≤ 1000000) ∧ xs.length * n.toNat ≤ 1000000 ∧ LcFin K (List.replicate n.toNat xs).flatten O2) : Ef (tOp rRep ta tb) Γ O K :=
  ef_bin (h.mono fun d1 O1 h1 => h1.mono fun d2 O2 ⟨xs, n, hx, e, hn, hl, k⟩ F H σ Q v1 v2 S r1 r2 hk => by
    subst e
    cases r2
    obtain ⟨a, vs, rfl, ha, ra⟩ := hx.at S r1
    exact ⟨a, n, vs, rfl, rfl, ha, by omega, by omega, by rw [← ra.length]; exact sz hl, fun p hp => lnew S hk k (ra.repl _) hp⟩)
/-- tuples, + (neither is empty) -/
theorem ef_catT {ta tb : TE} (h : Ef ta Γ O fun d1 O1 => Ef tb Γ O1 fun d2 O2 => ∃ xs ys, d1 = .tup xs ∧ d2 = .tup ys ∧ xs.length + ys.length ≤ 1000000 ∧ K (.tup (xs ++ ys)) O2) : Ef (tOp (rCatA Kf) ta tb) Γ O K :=
  ef_bin (h.mono fun d1 O1 h1 => h1.mono fun d2 O2 ⟨xs, ys, e1, e2, hl, k⟩ F H σ Q v1 v2 S r1 r2 hk => by
    subst e1; subst e2
    cases r1 with
    | tup ea ra =>
      rename_i a vs
      cases r2 with
      | tup eb rb =>
        rename_i b ws
        refine ⟨a, b, vs, ws, rfl, rfl, .inl (.inl (S.sub _ _ ea)), .inl (.inl (S.sub _ _ eb)), by rw [← ra.length, ← rb.length]; exact sz hl, fun z => ?_, fun z1 z2 => ?_, fun z1 z2 p hp => ?_⟩
        · subst z
          cases ra
          exact hk _ _ k _ F H Step.refl S (.tup eb rb)
        · subst z2
          cases rb
          rw [List.append_nil] at k
          exact hk _ _ k _ F H Step.refl S (.tup ea ra)
        · exact hk _ _ k _ _ _ (Step.laid S.sub hp) (S.laid hp) (.tup upd_same ((ra.append rb).mono (Same.f (S.sub.free hp)))))

/-! ### dicts -/
def kD : Key → D
  | .inl i => .int i
  | .inr x => .str x
theorem rel_key {F : Hp} {k : Key} {v : V} (r : Rel F (kD k) v) : v = kV k := by
  cases k <;> cases r <;> rfl
theorem relL_keys {F : Hp} : ∀ {ks : List Key} {vs : List V}, RelL F (ks.map kD) vs → vs = ks.map kV
  | [], _, .nil => rfl
  | k :: ks, _, .cons r t => by
    rw [rel_key r, relL_keys t]
    rfl
section
variable {κ : Type} [DecidableEq κ]
def valD (kvs : List (κ × D)) (k : κ) : Option D := (kvs.find? fun kv => decide (kv.1 = k)).map (·.2)
def putD (kvs : List (κ × D)) (k : κ) (d : D) : List (κ × D) :=
  if (kvs.any fun kv => decide (kv.1 = k)) = true then kvs.map (fun kv => if kv.1 = k then (kv.1, d) else kv) else kvs ++ [(k, d)]
theorem RelKV.length {F : Hp} {kvs : List (κ × D)} {ks : List (κ × V)} (r : RelKV F kvs ks) : kvs.length = ks.length := Paired.length r
theorem RelKV.val {F : Hp} {kvs : List (κ × D)} {ks : List (κ × V)} (r : RelKV F kvs ks) (k : κ) : (valD kvs k = none ∧ valV ks k = none) ∨ ∃ d v, valD kvs k = some d ∧ valV ks k = some v ∧ Rel F d v := by
  induction r with
  | nil => exact .inl ⟨rfl, rfl⟩
  | cons h t ih =>
    rename_i p q _ _
    obtain ⟨e, rr⟩ := h
    unfold valD
    by_cases z : p.1 = k
    · rw [List.find?_cons_of_pos (by simp [z]), valV_pos (e ▸ z)]
      exact .inr ⟨_, _, rfl, rfl, rr⟩
    · rw [List.find?_cons_of_neg (by simp [z]), valV_neg (fun q => z (e.trans q))]
      exact ih
theorem RelKV.any {F : Hp} {kvs : List (κ × D)} {ks : List (κ × V)} (r : RelKV F kvs ks) (k : κ) : (kvs.any fun kv => decide (kv.1 = k)) = ks.any fun kv => decide (kv.1 = k) := by
  induction r with
  | nil => rfl
  | cons h t ih => rw [List.any_cons, List.any_cons, ih, h.1]
theorem RelKV.repl {F : Hp} {kvs : List (κ × D)} {ks : List (κ × V)} (r : RelKV F kvs ks) (k : κ) {d : D} {v : V} (rd : Rel F d v) : RelKV F (kvs.map fun kv => if kv.1 = k then (kv.1, d) else kv) (ks.map fun kv => if kv.1 = k then (kv.1, v) else kv) := by
  induction r with
  | nil => exact .nil
  | cons h t ih =>
    rw [List.map_cons, List.map_cons]
    refine .cons ?_ ih
    rw [h.1]
    split
    · exact ⟨rfl, rd⟩
    · exact h
theorem paired_app {α β : Type} {R : α → β → Prop} : ∀ {a b : List α} {c d : List β}, Paired R a c → Paired R b d → Paired R (a ++ b) (c ++ d)
  | _, _, _, _, .nil, h => h
  | _, _, _, _, .cons r t, h => .cons r (paired_app t h)
theorem RelKV.put {F : Hp} {kvs : List (κ × D)} {ks : List (κ × V)} (r : RelKV F kvs ks) (k : κ) {d : D} {v : V} (rd : Rel F d v) : RelKV F (putD kvs k d) (putK ks k v) := by
  unfold putD putK
  rw [r.any]
  split
  · exact r.repl k rd
  · exact paired_app r (.cons ⟨rfl, rd⟩ .nil)
end
/-- a dict's key, its entries -/
inductive IsK : D → C → Option D → Prop
  | t (ks : List Key) (kvs : List (List Key × D)) : IsK (.tup (ks.map kD)) (.dT kvs) (valD kvs ks)
  | k (k : Key) (kvs : List (Key × D)) : IsK (kD k) (.dK kvs) (valD kvs k)
theorem dget_of {F H : Hp} {σ : L2.St} {j : Nat} {a : Addr} {c : C} {y : D} {v : V} {r : Option D} (S : Sat F H σ Γ O) (hj : O[j]? = some (a, c)) (ry : Rel F y v) (h : IsK y c r) : ∃ o, DGet H a v o ∧ ((r = none ∧ o = none) ∨ ∃ d x, r = some d ∧ o = some x ∧ Rel F d x) := by
  obtain ⟨f, ob, e, cr⟩ := S.own _ (List.mem_of_getElem? hj)
  cases h with
  | t ks kvs =>
    cases cr with
    | dT rk =>
      cases ry with
      | tup eb rb =>
        rw [relL_keys rb] at eb
        exact ⟨_, DGet.t e (S.sub _ _ eb), rk.val ks⟩
  | k k kvs =>
    cases cr with
    | dK rk =>
      rw [rel_key ry]
      exact ⟨_, DGet.k e, rk.val k⟩
theorem ef_dget {td ty : TE} (h : Ef td Γ O fun d O1 => Ef ty Γ O1 fun y O2 => ∃ (a : Addr) (j : Nat) (c : C) (z : D), d = .ref a ∧ O2[j]? = some (a, c) ∧ IsK y c (some z) ∧ K z O2) : Ef (tDGet td ty) Γ O K := fun F H σ Q S hk =>
  h F H σ _ S fun d O1 h1 v F1 H1 s1 S1 r1 => h1 F1 H1 σ _ S1 fun y O2 ⟨a, j, c, z, e, hj, hy, k⟩ w F2 H2 s2 S2 r2 => by
    subst e
    cases r1
    obtain ⟨o, g, q⟩ := dget_of S2 hj r2 hy
    rcases q with ⟨q, _⟩ | ⟨d, x, q, rfl, rx⟩
    · cases q
    · cases q
      exact ⟨a, x, rfl, g, hk z O2 k x F2 H2 (s1.trans s2) S2 rx⟩
theorem ef_din {ty td : TE} (h : Ef ty Γ O fun y O1 => Ef td Γ O1 fun d O2 => ∃ (a : Addr) (j : Nat) (c : C) (r : Option D), d = .ref a ∧ O2[j]? = some (a, c) ∧ IsK y c r ∧ K (.bl r.isSome) O2) : Ef (tDIn ty td) Γ O K := fun F H σ Q S hk =>
  h F H σ _ S fun y O1 h1 v F1 H1 s1 S1 r1 => h1 F1 H1 σ _ S1 fun d O2 ⟨a, j, c, r, e, hj, hy, k⟩ w F2 H2 s2 S2 r2 => by
    subst e
    cases r2
    obtain ⟨o, g, q⟩ := dget_of S2 hj (r1.mono s2.f) hy
    refine ⟨a, o, rfl, g, ?_⟩
    have e : o.isSome = r.isSome := by rcases q with ⟨rfl, rfl⟩ | ⟨d, x, rfl, rfl, _⟩ <;> rfl
    rw [e]
    exact hk _ O2 k _ F2 H2 (s1.trans s2) S2 (.bl _)
theorem ef_dnotin {ty td : TE} (h : Ef ty Γ O fun y O1 => Ef td Γ O1 fun d O2 => ∃ (a : Addr) (j : Nat) (c : C) (r : Option D), d = .ref a ∧ O2[j]? = some (a, c) ∧ IsK y c r ∧ K (.bl (!r.isSome)) O2) : Ef (tDNotIn ty td) Γ O K := fun F H σ Q S hk =>
  h F H σ _ S fun y O1 h1 v F1 H1 s1 S1 r1 => h1 F1 H1 σ _ S1 fun d O2 ⟨a, j, c, r, e, hj, hy, k⟩ w F2 H2 s2 S2 r2 => by
    subst e
    cases r2
    obtain ⟨o, g, q⟩ := dget_of S2 hj (r1.mono s2.f) hy
    refine ⟨a, o, rfl, g, ?_⟩
    have e : o.isSome = r.isSome := by rcases q with ⟨rfl, rfl⟩ | ⟨d, x, rfl, rfl, _⟩ <;> rfl
    rw [e]
    exact hk _ O2 k _ F2 H2 (s1.trans s2) S2 (.bl _)
theorem isD_own {F H : Hp} {σ : L2.St} {j : Nat} {a : Addr} {c : C} (S : Sat F H σ Γ O) (hj : O[j]? = some (a, c)) (h : (∃ kvs, c = .dK kvs) ∨ ∃ kvs, c = .dT kvs) : IsD H a := by
  obtain ⟨f, ob, e, cr⟩ := S.own _ (List.mem_of_getElem? hj)
  rcases h with ⟨kvs, rfl⟩ | ⟨kvs, rfl⟩
  · cases cr
    exact .inl ⟨_, .inl e⟩
  · cases cr
    exact .inr ⟨_, .inl e⟩
/-- d.get(k, x) -/
theorem ef_dget2 {td ty tx : TE} (h : Ef td Γ O fun d O1 => ∃ a, d = .ref a ∧ (∃ (j : Nat) (c : C), O1[j]? = some (a, c) ∧ ((∃ kvs, c = .dK kvs) ∨ ∃ kvs, c = .dT kvs)) ∧ Ef ty Γ O1 fun y O2 => Ef tx Γ O2 fun z O3 => ∃ (j : Nat) (c : C) (r : Option D), O3[j]? = some (a, c) ∧ IsK y c r ∧ K (r.getD z) O3) :
    Ef (tDGet2 td ty tx) Γ O K := fun F H σ Q S hk =>
  h F H σ _ S fun d O1 ⟨a, e, ⟨j0, c0, hj0, hc0⟩, h1⟩ v F1 H1 s1 S1 r1 => by
    subst e
    cases r1
    refine ⟨a, rfl, isD_own S1 hj0 hc0, h1 F1 H1 σ _ S1 fun y O2 h2 w F2 H2 s2 S2 r2 => h2 F2 H2 σ _ S2 fun z O3 ⟨j, c, r, hj, hy, k⟩ u F3 H3 s3 S3 r3 => ?_⟩
    obtain ⟨o, g, q⟩ := dget_of S3 hj (r2.mono s3.f) hy
    refine ⟨o, g, ?_⟩
    rcases q with ⟨rfl, rfl⟩ | ⟨d, x, rfl, rfl, rx⟩
    · exact hk _ O3 k u F3 H3 ((s1.trans s2).trans s3) S3 r3
    · exact hk _ O3 k x F3 H3 ((s1.trans s2).trans s3) S3 rx
inductive PutC : D → D → C → C → Prop
  | t (ks : List Key) (d : D) (kvs : List (List Key × D)) : kvs.length < 1000000 → PutC (.tup (ks.map kD)) d (.dT kvs) (.dT (putD kvs ks d))
  | k (k : Key) (d : D) (kvs : List (Key × D)) : kvs.length < 1000000 → PutC (kD k) d (.dK kvs) (.dK (putD kvs k d))
theorem sf_dput {td ty tv : TE} {K : Ks} (h : Ef tv Γ O fun x O1 => Ef td Γ O1 fun d O2 => Ef ty Γ O2 fun y O3 => ∃ (a : Addr) (j : Nat) (c c' : C), d = .ref a ∧ O3[j]? = some (a, c) ∧ PutC y x c c' ∧ K.nx Γ (O3.set j (a, c'))) : Sf (sDPut td ty tv) Γ O K := fun F H σ E S e =>
  h F H σ _ S fun x O1 h1 v F1 H1 s1 S1 r1 => h1 F1 H1 σ _ S1 fun d O2 h2 w F2 H2 s2 S2 r2 => h2 F2 H2 σ _ S2 fun y O3 ⟨a, j, c, c', e1, hj, hp, k⟩ u F3 H3 s3 S3 r3 => by
    subst e1
    cases r2
    have rx := r1.mono (s2.f.trans s3.f)
    obtain ⟨f, ob, eo, cr⟩ := S3.own _ (List.mem_of_getElem? hj)
    have fin : ∀ o', CRel F3 c' o' → E.nx σ (upd H3 a o') := fun o' hc => e.nx _ _ k σ F3 _ (((s1.trans s2).trans s3).trans (Step.write hj eo f)) (S3.write hj hc)
    cases hp with
    | t ks _ kvs hl =>
      cases cr with
      | dT rk =>
        cases r3 with
        | tup eb rb =>
          rw [relL_keys rb] at eb
          exact ⟨a, _, rfl, DPut.t eo (S3.sub _ _ eb) (by rw [← rk.length]; exact szlt hl), fin _ (.dT (rk.put ks rx))⟩
    | k kk _ kvs hl =>
      cases cr with
      | dK rk =>
        rw [rel_key r3]
        exact ⟨a, _, rfl, DPut.k eo (by rw [← rk.length]; exact szlt hl), fin _ (.dK (rk.put kk rx))⟩

/-! ### deep comparison -/
mutual
inductive Pd (O : Own) : D → PyData → Prop
  | non : Pd O .non .none
  | bl (b : Bool) : Pd O (.bl b) (.bool b)
  | int (i : Int) : Pd O (.int i) (.int i)
  | str (x : Str) : Pd O (.str x) (.str x)
  | tup {xs : List D} {ys : List PyData} : PdL O xs ys → Pd O (.tup xs) (.tuple ys)
  | lst {xs : List D} {ys : List PyData} : PdL O xs ys → Pd O (.lst xs) (.list ys)
  | own {a : Addr} {xs : List D} {ys : List PyData} (j : Nat) : O[j]? = some (a, .lst xs) → PdL O xs ys → Pd O (.ref a) (.list ys)
inductive PdL (O : Own) : List D → List PyData → Prop
  | nil : PdL O [] []
  | cons {x : D} {y : PyData} {xs : List D} {ys : List PyData} : Pd O x y → PdL O xs ys → PdL O (x :: xs) (y :: ys)
end
mutual
theorem Pd.dp {F H : Hp} {σ : L2.St} (S : Sat F H σ Γ O) : ∀ {d : D} {x : PyData} {v : V}, Pd O d x → Rel F d v → Dp Kf H v x
  | _, _, _, .non, .non => .non
  | _, _, _, .bl _, .bl b => .bl b
  | _, _, _, .int _, .int b => .int b
  | _, _, _, .str _, .str b => .str b
  | _, _, _, .tup t, .tup e r => .tup (.inl (.inl (S.sub _ _ e))) (PdL.dp S t r)
  | _, _, _, .lst t, .lst e r => .lst (.inl (.inl (S.sub _ _ e))) (PdL.dp S t r)
  | _, _, _, .own j h t, .ref _ => by
    obtain ⟨f, vs, e, r⟩ := S.at h
    exact .lst (.inl (.inl e)) (PdL.dp S t r)
theorem PdL.dp {F H : Hp} {σ : L2.St} (S : Sat F H σ Γ O) : ∀ {ds : List D} {xs : List PyData} {vs : List V}, PdL O ds xs → RelL F ds vs → DpAll Kf H vs xs
  | _, _, _, .nil, .nil => .nil
  | _, _, _, .cons h t, .cons r s => .cons (Pd.dp S h r) (PdL.dp S t s)
end
theorem ef_eqP {ta tb : TE} (h : Ef ta Γ O fun d1 O1 => Ef tb Γ O1 fun d2 O2 => ∃ x y, Pd O2 d1 x ∧ Pd O2 d2 y ∧ SeqAt.shaped x = true ∧ SeqAt.shaped y = true ∧ K (.bl (PyData.eqv x y)) O2) : Ef (tOp (rEqD Kf) ta tb) Γ O K :=
  ef_bin (h.mono fun d1 O1 h1 => h1.mono fun d2 O2 ⟨x, y, hx, hy, sx, sy, k⟩ F H σ Q v1 v2 S r1 r2 hk => ⟨x, y, hx.dp S r1, hy.dp S r2, sx, sy, hk _ _ k _ F H Step.refl S (.bl _)⟩)
theorem ef_neP {ta tb : TE} (h : Ef ta Γ O fun d1 O1 => Ef tb Γ O1 fun d2 O2 => ∃ x y, Pd O2 d1 x ∧ Pd O2 d2 y ∧ SeqAt.shaped x = true ∧ SeqAt.shaped y = true ∧ K (.bl (!PyData.eqv x y)) O2) : Ef (tOp (rNeD Kf) ta tb) Γ O K :=
  ef_bin (h.mono fun d1 O1 h1 => h1.mono fun d2 O2 ⟨x, y, hx, hy, sx, sy, k⟩ F H σ Q v1 v2 S r1 r2 hk => ⟨x, y, hx.dp S r1, hy.dp S r2, sx, sy, hk _ _ k _ F H Step.refl S (.bl _)⟩)
theorem ef_inP {ta tb : TE} (h : Ef ta Γ O fun d1 O1 => Ef tb Γ O1 fun d2 O2 => ∃ x ys, Pd O2 d1 x ∧ Pd O2 d2 (.list ys) ∧ SeqAt.shaped x = true ∧ SeqAt.shaped (.list ys) = true ∧ K (.bl (ys.any fun z => PyData.eqv z x)) O2) : Ef (tOp (rInD Kf) ta tb) Γ O K :=
  ef_bin (h.mono fun d1 O1 h1 => h1.mono fun d2 O2 ⟨x, y, hx, hy, sx, sy, k⟩ F H σ Q v1 v2 S r1 r2 hk => ⟨x, y, hx.dp S r1, hy.dp S r2, sx, sy, hk _ _ k _ F H Step.refl S (.bl _)⟩)
theorem ef_notinP {ta tb : TE} (h : Ef ta Γ O fun d1 O1 => Ef tb Γ O1 fun d2 O2 => ∃ x ys, Pd O2 d1 x ∧ Pd O2 d2 (.list ys) ∧ SeqAt.shaped x = true ∧ SeqAt.shaped (.list ys) = true ∧ K (.bl (!ys.any fun z => PyData.eqv z x)) O2) : Ef (tOp (rNotInD Kf) ta tb) Γ O K :=
  ef_bin (h.mono fun d1 O1 h1 => h1.mono fun d2 O2 ⟨x, y, hx, hy, sx, sy, k⟩ F H σ Q v1 v2 S r1 r2 hk => ⟨x, y, hx.dp S r1, hy.dp S r2, sx, sy, hk _ _ k _ F H Step.refl S (.bl _)⟩)
end
end OW

/-! sorting of tuples of ints of any lengths -/
namespace OW
open PySem PySem.Spec PyProof.Rows L2

/-- the order of lists of ints -/
theorem lex_asym : ∀ a b : List Int, HT.lexLt a b = true → HT.lexLt b a = false
  | [], [], h => by cases h
  | [], _ :: _, _ => rfl
  | _ :: _, [], h => by cases h
  | x :: xs, y :: ys, h => by
    rw [HT.lexLt_cons] at h ⊢
    by_cases e : x = y
    · subst e
      rw [if_pos rfl] at h ⊢
      exact lex_asym xs ys h
    · rw [if_neg e] at h
      rw [if_neg (Ne.symm e)]
      have := of_decide_eq_true h
      exact decide_eq_false (by omega)
theorem lex_tr : ∀ a b c : List Int, HT.lexLt b a = false → HT.lexLt c b = false → HT.lexLt c a = false
  | [], _, [], _, _ => rfl
  | [], [], c :: cs, _, h2 => h2
  | [], b :: bs, c :: cs, _, _ => rfl
  | a :: as, [], c, h1, _ => by cases h1
  | a :: as, b :: bs, [], h1, h2 => by cases h2
  | a :: as, b :: bs, c :: cs, h1, h2 => by
    rw [HT.lexLt_cons] at h1 h2 ⊢
    by_cases e1 : b = a
    · subst e1
      rw [if_pos rfl] at h1
      by_cases e2 : c = b
      · subst e2
        rw [if_pos rfl] at h2 ⊢
        exact lex_tr as bs cs h1 h2
      · rw [if_neg e2] at h2 ⊢
        exact h2
    · rw [if_neg e1] at h1
      have h1 := of_decide_eq_false h1
      by_cases e2 : c = b
      · subst e2
        rw [if_neg e1]
        exact decide_eq_false h1
      · rw [if_neg e2] at h2
        have h2 := of_decide_eq_false h2
        rw [if_neg (by omega)]
        exact decide_eq_false (by omega)
theorem lex_tot : ∀ a b : List Int, HT.lexLt a b = false → HT.lexLt b a = false → a = b
  | [], [], _, _ => rfl
  | [], _ :: _, h, _ => by cases h
  | _ :: _, [], _, h => by cases h
  | x :: xs, y :: ys, h1, h2 => by
    rw [HT.lexLt_cons] at h1 h2
    by_cases e : x = y
    · subst e
      rw [if_pos rfl] at h1 h2
      rw [lex_tot xs ys h1 h2]
    · rw [if_neg e] at h1
      rw [if_neg (Ne.symm e)] at h2
      have := of_decide_eq_false h1
      have := of_decide_eq_false h2
      omega
theorem swoN {α : Type} (k : α → List Int) : SrtO.Swo fun x y => HT.lexLt (k x) (k y) := ⟨fun _ _ => lex_asym _ _, fun _ _ _ => lex_tr _ _ _⟩

/-- v is a tuple of the ints ns -/
def IsIT (h : Heap) (v : Value) (ns : List Int) : Prop := ∃ (a : Addr) (o : Obj) (xs : Array Value) (n : Nat), v = .ref a ∧ h.get? a = some o ∧ o.cls = .type "tuple" ∧ o.data = .seq xs n ∧ IntsAre xs.toList ns
theorem IsIT.keeps {h h' : Heap} {v : Value} {ns : List Int} (x : IsIT h v ns) (k : ∀ b o, h.get? b = some o → o.cls = .type "tuple" → h'.get? b = some o) : IsIT h' v ns := by
  obtain ⟨a, o, xs, n, e, ho, hc, r⟩ := x
  exact ⟨a, o, xs, n, e, k _ _ ho hc, hc, r⟩
section
variable {prog : Program} {w : World} {A : Around} {E : Value → Shared → Prop} {s : Shared}
theorem lex_walk {b fin : Bool} {Q : Bool → Shared → Prop} : ∀ {vs us : List Value} {ns ms : List Int} (i : Nat), IntsAre vs ns → IntsAre us ms → fin = decide (vs.length < us.length) → Q (HT.lexLt ns ms) s → PySem.W.KatLex prog w A b fin Q (vs.zip us) i s
  | _, _, _, _, i, .nil, .nil, e, q => PySem.W.kat_nil (by
      subst e
      exact q)
  | _, _, _, _, i, .nil, .cons m u t, e, q => PySem.W.kat_nil (by
      subst e
      rw [decide_eq_true (by simp)]
      exact q)
  | _, _, _, _, i, .cons n v t, .nil, e, q => PySem.W.kat_nil (by
      subst e
      exact q)
  | _, _, _, _, i, .cons n v t, .cons m u r, e, q => by
    rw [HT.lexLt_cons] at q
    refine PySem.W.kat_cons (SeqAt.EqAt.int_int n v m u prog w _ _ ?_)
    refine PySem.W.kat_go (fun e1 => ?_) (fun e1 => ?_)
    · have ex : n = m := by simpa using e1
      rw [if_pos ex] at q
      exact PySem.W.kat_yes (lex_walk (i + 1) t r (by rw [e]; simp) q)
    · have ex : ¬ n = m := by simpa using e1
      rw [if_neg ex] at q
      refine PySem.W.kat_no ?_
      cases hb : (b && i == 0) with
      | true => exact oneLt_int q
      | false => exact PySem.W.kat_one _ _ (PyProof.Rows.lt_int (Q := PySem.W.BoolBack Q) q)
theorem it_cmp {vs : List Value} {k : Value → List Int} (hp : ∀ v ∈ vs, IsIT s.heap v (k v)) (b : Bool) : SrtO.Cmp prog w A s (tuples' b) (fun p => p.1 ∈ vs) (SrtO.lt2 fun v u => HT.lexLt (k v) (k u)) := by
  intro p q hm hm'
  obtain ⟨a, o, xs, n, e, ho, hc, hd, hi⟩ := hp _ hm
  obtain ⟨a', o', xs', n', e', ho', hc', hd', hi'⟩ := hp _ hm'
  show wpAny (model prog w) A (keyLt' (tuples' b) p.1 q.1) (fun r s' => s' = s ∧ r = HT.lexLt (k p.1) (k q.1)) (fun _ _ => False) s
  generalize k p.1 = ns at hi ⊢
  generalize k q.1 = ms at hi' ⊢
  rw [e, e']
  refine PySem.W.kat_lt ho hd ho' hd' (lex_walk 0 hi hi' (by simp) ⟨rfl, rfl⟩)
theorem it_firsts {h : Heap} {k : Value → List Int} : ∀ {vs : List Value}, (∀ v ∈ vs, IsIT h v (k v) ∧ k v ≠ []) → ∃ fs : List Value, PySem.W.KatTups h vs fs ∧ fs.length = vs.length ∧ ∀ f ∈ fs, ∃ x t, f = Value.int x t
  | [], _ => ⟨[], PySem.W.KatTups.nil, rfl, fun _ hm => by simp at hm⟩
  | v :: vs, hp => by
    obtain ⟨fs, h1, h2, h3⟩ := it_firsts (vs := vs) fun v' hm => hp v' (List.mem_cons_of_mem _ hm)
    obtain ⟨⟨a, o, xs, n, e, ho, hc, hd, hi⟩, hne⟩ := hp v (List.mem_cons_self ..)
    generalize k v = ns at hi hne
    subst e
    cases hx : xs.toList with
    | nil =>
      rw [hx] at hi
      cases hi
      exact absurd rfl hne
    | cons y ys =>
      rw [hx] at hi
      cases hi with
      | cons z t r =>
        have e0 : xs[0]? = some (.int z t) := by
          rw [← Array.getElem?_toList, hx]
          rfl
        refine ⟨.int z t :: fs, PySem.W.KatTups.cons ho hc hd e0 h1, by rw [List.length_cons, List.length_cons, h2], fun f hm => ?_⟩
        rcases List.mem_cons.mp hm with rfl | hm
        · exact ⟨z, t, rfl⟩
        · exact h3 f hm
theorem it_sortable {a : Addr} {vs : List Value} {k : Value → List Int} (h0 : 0 < vs.length) (hp : ∀ v ∈ vs, IsIT s.heap v (k v) ∧ k v ≠ []) (ha : ∀ o, s.heap.get? a = some o → o.cls ≠ .type "tuple") : SrtO.SortableO prog w A s a vs fun v u => HT.lexLt (k v) (k u) := by
  intro h' keep
  have hp' : ∀ v ∈ vs, IsIT h' v (k v) ∧ k v ≠ [] := fun v hm => ⟨(hp v hm).1.keeps fun b o e c => keep b o (fun z => by subst z; exact ha o e c) e, (hp v hm).2⟩
  obtain ⟨fs, h1, h2, h3⟩ := it_firsts hp'
  refine ⟨tuples' true, fun Q E hq => ?_, it_cmp (fun v hm => (hp' v hm).1) true⟩
  refine PySem.W.kat_kind (T := .type "int") h1 (by omega) (fun f hm => ?_) (by rfl) ?_
  · obtain ⟨x, t, rfl⟩ := h3 f hm
    exact PySem.W.Looks.now
  · have e : (Value.type "int" != Value.type "tuple") = true := by first | decide +kernel | rfl | decide
    rw [e]
    exact hq
/-- sorted(x), whatever is walked: G tells what was collected -/
theorem sorted_gen {x : Value} {k : Value → List Int} {G : List Value → Prop} {Q : Value → Shared → Prop}
    (hc : ∀ R : List Value → Shared → Prop, (∀ s1 vs, (∀ b o, s.heap.get? b = some o → s1.heap.get? b = some o) → s1.gens = s.gens → s1.os = s.os → G vs → R vs s1) → wpAny (model prog w) A.in1 (collect x) R (fun e s' => False) s)
    (hG : ∀ vs, G vs → vs.length ≤ sizeLine ∧ ∀ v ∈ vs, IsIT s.heap v (k v) ∧ k v ≠ [])
    (h : ∀ (h1 : Heap) (s' : Shared) (d : Addr) (vs out : List Value) (c : Nat), (∀ b o, s.heap.get? b = some o → h1.get? b = some o) → (∀ b o, h1.get? b = some o → s'.heap.get? b = some o) → s'.gens = s.gens → s'.os = s.os → h1.objs.size ≤ d → s'.heap.get? d = some (seqObj "list" out.toArray c) → G vs →
      SrtO.Srtd (fun v u => HT.lexLt (k v) (k u)) out → SrtO.Stb (fun v u => HT.lexLt (k v) (k u)) out vs → Q (.ref d) s') : wpAny (model prog w) A (call (.builtin "sorted") [x]) Q E s := by
  refine Calls.call_function_entry kind_sorted plain_sorted entry_sorted (args_sorted1 _) ?_
  unfold Builtin.«sorted»
  refine wpAny_bind (m := checkCount "sorted" 1 1 _) (wpAny_pure ?_)
  refine wpAny_bind (wpAny_mono (hc _ fun s1 vs k1 g1 o1 hg => ?_) (fun _ _ z => z) fun _ _ z => z.elim)
  obtain ⟨hz, hv⟩ := hG vs hg
  refine wpAny_bind (wpAny_newList ?_ hz)
  have hoL : (s1.heap.push (seqObj "list" vs.toArray 0)).get? s1.heap.objs.size = some (seqObj "list" vs.toArray 0) := Heap.get?_push_size _ rfl
  have kk : ∀ b o, s.heap.get? b = some o → (s1.heap.push (seqObj "list" vs.toArray 0)).get? b = some o := fun b o e => Heap.get?_push_of_some _ (k1 b o e)
  refine wpAny_bind (wpAny_holding (wpAny_call_entry (s := { s1 with heap := s1.heap.push (seqObj "list" vs.toArray 0) }) slot_list_sort ⟨_, hoL, rfl⟩ entry_list_sort (SrtO.list_sort_ord (swoN k) hoL hz (fun h2 => it_sortable (by omega) (fun v hm => ⟨((hv v hm).1).keeps fun b o e _ => kk b o e, (hv v hm).2⟩) fun o e => ?_) fun out hs hb => ⟨_, rfl, ?_⟩) (args_list_sort _)))
  · have e' : some o = some (seqObj "list" vs.toArray 0) := e.symm.trans hoL
    cases e'
    intro c
    exact absurd (Value.type.inj c) (by decide)
  · obtain ⟨c, hcc⟩ := sortedHeap_at (vs := vs) (out := out.toArray) hoL
    refine wpAny_pure ⟨_, rfl, h s1.heap _ s1.heap.objs.size vs out c k1 (fun b o e => ?_) g1 o1 (Nat.le_refl _) hcc hg hs hb⟩
    have hlt := Heap.lt_size e
    show (sortedHeap (s1.heap.push (seqObj "list" vs.toArray 0)) s1.heap.objs.size vs out.toArray).get? b = some o
    rw [sortedHeap_old (Nat.ne_of_lt hlt) (by rw [size_push']; exact Nat.lt_succ_of_lt hlt)]
    exact Heap.get?_push_of_some _ e
end

/-! as rules: of a list, a set just made of a list, a dict's keys -/
section
variable {X : Cx}
/-- what comes out: the tuples ts, their ints a sorted arrangement -/
def SortOut (ns : List (List Int)) (H : Hp) (Q : VK) : Prop := ∀ (ts : List (Addr × List Int)) (p : Addr), (∀ q ∈ ts, H q.1 = some (.tup (q.2.map V.int))) → (ts.map (·.2)).Perm ns → (ts.map (·.2)).Pairwise (fun a b => HT.lexLt b a = false) → H p = none → Q (.ref p) (upd H p (.lst (ts.map fun q => V.ref q.1)))
def SrcL (H : Hp) (x : V) (ts : List (Addr × List Int)) : Prop := ∃ a, x = .ref a ∧ H a = some (.lst (ts.map fun q => V.ref q.1))
/-- the ints of a value that is one of these tuples -/
noncomputable def kOf (ts : List (Addr × List Int)) (v : Value) : List Int := match v with
  | .ref a => ((ts.find? fun q => q.1 == a).map (·.2)).getD []
  | _ => []
theorem kOf_mem {ts : List (Addr × List Int)} (hi : ∀ q ∈ ts, ∀ r ∈ ts, q.1 = r.1 → q.2 = r.2) {q : Addr × List Int} (hq : q ∈ ts) : kOf ts (.ref q.1) = q.2 := by
  unfold kOf
  cases e : ts.find? fun r => r.1 == q.1 with
  | none =>
    have := List.find?_eq_none.mp e q hq
    simp at this
  | some r =>
    have h1 := List.mem_of_find?_eq_some e
    have h2 : r.1 = q.1 := by simpa using List.find?_some e
    have z : (ts.find? fun r => r.1 == q.1) = some r := e
    show ((ts.find? fun r => r.1 == q.1).map (·.2)).getD [] = q.2
    rw [z]
    exact hi r h1 q hq h2
theorem vals_refs : ∀ {ts : List (Addr × List Int)} {us : List Value}, Vals (ts.map fun q => V.ref q.1) us → us = ts.map fun q => Value.ref q.1
  | [], _, .nil => rfl
  | p :: ks, _, .cons r t => by
    cases r
    rw [vals_refs t]
    rfl
theorem refs_vals : ∀ (ts : List (Addr × List Int)), Vals (ts.map fun q => V.ref q.1) (ts.map fun q => Value.ref q.1)
  | [] => .nil
  | p :: ks => .cons rfl (refs_vals ks)
theorem isIT_of {pins : List (Addr × Obj)} {σ : L2.St} {H : Hp} {s : Shared} (I : Inv X pins σ H s) {a : Addr} {ns : List Int} (h : H a = some (.tup (ns.map V.int))) : IsIT s.heap (.ref a) ns := by
  obtain ⟨_, its, r, o, ho, hc, n, hd⟩ := I.hok _ _ h
  exact ⟨a, o, its.toArray, n, rfl, ho, hc, hd, by simpa using r.ints⟩
theorem arr_of {ts : List (Addr × List Int)} : ∀ {out : List Value}, (∀ v ∈ out, ∃ q ∈ ts, v = Value.ref q.1) → ∃ us : List (Addr × List Int), out = us.map (fun q => Value.ref q.1) ∧ ∀ q ∈ us, q ∈ ts
  | [], _ => ⟨[], rfl, fun q h => by cases h⟩
  | v :: vs, h => by
    obtain ⟨q, hq, e⟩ := h v List.mem_cons_self
    obtain ⟨us, e1, hs⟩ := arr_of (out := vs) fun u hu => h u (List.mem_cons_of_mem _ hu)
    refine ⟨q :: us, by rw [List.map_cons, e, e1], fun r hr => ?_⟩
    rcases List.mem_cons.mp hr with z | z
    · rw [z]; exact hq
    · exact hs r z
/-- the end: the new list, tracked -/
theorem sort_end {pins : List (Addr × Obj)} {σ : L2.St} {H : Hp} {s s' : Shared} {h1 : Heap} {Q : VK} {d : Addr} {ts : List (Addr × List Int)} {vs out : List Value} {c : Nat} {ns : List (List Int)} (I : Inv X pins σ H s)
    (k1 : ∀ b o, s.heap.get? b = some o → h1.get? b = some o) (k2 : ∀ b o, h1.get? b = some o → s'.heap.get? b = some o) (g : s'.gens = s.gens) (o : s'.os = s.os) (hd : h1.objs.size ≤ d) (hl : s'.heap.get? d = some (seqObj "list" out.toArray c))
    (ht : ∀ q ∈ ts, H q.1 = some (.tup (q.2.map V.int))) (hi : ∀ q ∈ ts, ∀ r ∈ ts, q.1 = r.1 → q.2 = r.2) (hp : vs.Perm (ts.map fun q => Value.ref q.1)) (hns : (ts.map (·.2)).Perm ns) (hz : vs.length ≤ sizeLine)
    (hs : SrtO.Srtd (fun v u => HT.lexLt (kOf ts v) (kOf ts u)) out) (hb : SrtO.Stb (fun v u => HT.lexLt (kOf ts v) (kOf ts u)) out vs) (q : SortOut ns H Q) : EP X pins σ Q (.ref d) s' := by
  have hm : out.Perm (ts.map fun q => Value.ref q.1) := hb.perm.trans hp
  obtain ⟨us, eo, hus⟩ := arr_of (ts := ts) (out := out) fun v hv => by
    obtain ⟨r, hr, e⟩ := List.mem_map.mp (hm.mem_iff.mp hv)
    exact ⟨r, hr, e.symm⟩
  have hk : ∀ u ∈ us, kOf ts (.ref u.1) = u.2 := fun u hu => kOf_mem hi (hus u hu)
  have ek : ∀ l : List (Addr × List Int), (∀ u ∈ l, u ∈ ts) → (l.map fun q => Value.ref q.1).map (kOf ts) = l.map (·.2) := fun l hl => by
    rw [List.map_map]
    exact List.map_congr_left fun u hu => kOf_mem hi (hl u hu)
  have pm : (us.map (·.2)).Perm (ts.map (·.2)) := by
    have z := hm.map (kOf ts)
    rw [eo, ek us hus, ek ts fun _ h => h] at z
    exact z
  have pw : (us.map (·.2)).Pairwise (fun a b => HT.lexLt b a = false) := by
    rw [← ek us hus, ← eo]
    exact List.pairwise_map.mpr hs
  have I1 : Inv X pins σ H { s with heap := h1 } := I.kept (t' := s.toks) k1
  have hn : H d = none := I1.hok.fresh hd
  have hlen : (us.map fun q => V.ref q.1).length ≤ sizeLine := by
    rw [List.length_map]
    have z1 := hb.perm.length_eq
    rw [eo, List.length_map] at z1
    omega
  have J : Inv X pins σ (upd H d (.lst (us.map fun q => V.ref q.1))) { s with heap := s'.heap, gens := s'.gens, drawn := s'.drawn, toks := s'.toks } :=
    Inv.call (s := { s with heap := h1 }) I1 (ch := []) (Un.laid k2 hd hn) (I1.hok.laid k2 hd ⟨hlen, out, c, by rw [eo]; exact refs_vals us, hl⟩) (by rw [g]; exact I.bare) (fun _ z => nomatch z)
  have e : s' = { s with heap := s'.heap, gens := s'.gens, drawn := s'.drawn, toks := s'.toks } := by
    cases s'
    cases s
    cases o
    rfl
  rw [e]
  exact ⟨.ref d, _, J, rfl, q us d (fun r hr => ht r (hus r hr)) (pm.trans hns) pw hn⟩
theorem one_tup {H : Hp} {ts : List (Addr × List Int)} (ht : ∀ q ∈ ts, H q.1 = some (.tup (q.2.map V.int))) : ∀ q ∈ ts, ∀ r ∈ ts, q.1 = r.1 → q.2 = r.2 := fun q hq r hr e => by
  have h1 := ht q hq
  have h2 := ht r hr
  rw [e, h2] at h1
  have h3 : r.2.map V.int = q.2.map V.int := by injection (Option.some.inj h1)
  have inj : ∀ a b : List Int, a.map V.int = b.map V.int → a = b := fun a => by
    induction a with
    | nil => intro b h; cases b with | nil => rfl | cons _ _ => simp at h
    | cons x xs ih =>
      intro b h
      cases b with
      | nil => simp at h
      | cons y ys =>
        rw [List.map_cons, List.map_cons] at h
        obtain ⟨a1, a2⟩ := List.cons.inj h
        rw [V.int.inj a1, ih ys a2]
  exact (inj _ _ h3).symm
def rSortN : List V → Hp → VK → Prop := fun vs H Q => ∃ (a : Addr) (ts : List (Addr × List Int)), vs = [V.ref a] ∧ H a = some (.lst (ts.map fun q => V.ref q.1)) ∧ (∀ q ∈ ts, H q.1 = some (.tup (q.2.map V.int)) ∧ q.2 ≠ []) ∧ SortOut (ts.map (·.2)) H Q
theorem cr_sortN : CallR X (.builtin "sorted") rSortN := by
  intro pins s σ H vs us Q I r h
  obtain ⟨a, ts, rfl, ha, ht, q⟩ := h
  obtain ⟨u, rfl, ru⟩ := vals1 r
  obtain rfl : u = Value.ref a := ru
  obtain ⟨its, rv, hl, hz⟩ := I.list (.inl (.inl ha))
  have ei := vals_refs rv
  subst ei
  rw [List.length_map] at hz
  have ht1 : ∀ q ∈ ts, H q.1 = some (.tup (q.2.map V.int)) := fun q hq => (ht q hq).1
  have hi := one_tup ht1
  refine sorted_gen (k := kOf ts) (G := fun vs => vs = ts.map fun q => Value.ref q.1) (fun R hR => collect_list hl.isList (hR _ _ (fun b o e => ?_) rfl rfl rfl) (by rw [List.length_map]; exact hz)) (fun vs e => ?_) fun h1 s' d vs out c k1 k2 g o hd hc e hs hb => ?_
  · have hlt := Heap.lt_size e
    show ((s.heap.push (seqObj "list" #[] 0)).update s.heap.objs.size _).get? b = some o
    rw [Heap.get?_update_ne _ _ _ _ (Nat.ne_of_lt hlt)]
    exact Heap.get?_push_of_some _ e
  · subst e
    refine ⟨by rw [List.length_map]; exact hz, fun v hv => ?_⟩
    obtain ⟨r, hr, rfl⟩ := List.mem_map.mp hv
    rw [kOf_mem hi hr]
    exact ⟨isIT_of I (ht r hr).1, (ht r hr).2⟩
  · subst e
    exact sort_end I k1 k2 g o hd hc ht1 hi (List.Perm.refl _) (List.Perm.refl _) (by rw [List.length_map]; exact hz) hs hb q
/-- of a set of such tuples -/
def rSortS (P : Program) (w : World) : List V → Hp → VK → Prop := fun vs H Q => ∃ (a : Addr) (L : List (Addr × List Int)), vs = [V.ref a] ∧ H a = some (SetTO P w a L) ∧ (∀ q ∈ L, H q.1 = some (.tup (q.2.map V.int)) ∧ q.2 ≠ []) ∧ ((L.map (·.2)).Nodup → SortOut (L.map (·.2)) H Q)
theorem cr_sortS (hc : X.calm = true) : CallR X (.builtin "sorted") (rSortS X.prog X.w) := by
  intro pins s σ H vs us Q I r h
  obtain ⟨a, L, rfl, ha, ht, q⟩ := h
  have R0 : SetT0 X.prog X.w s.heap a L := (I.hok a _ ha).1
  have ht1 : ∀ q ∈ L, H q.1 = some (.tup (q.2.map V.int)) := fun q hq => (ht q hq).1
  obtain ⟨es, ep, t, R⟩ := R0.full fun p hp => I.isT (.inl (.inl (ht1 p hp)))
  rw [Vals.ref1 r]
  have hi := one_tup ht1
  obtain ⟨o, ho, hex, hd⟩ := R.ob
  have hfew := R.few
  have hsz := R.size
  have hes : es.toList.map (·.2) = L.map fun q => Value.ref q.1 := by
    rw [R.rows]
    unfold rowsOf
    rw [List.map_map] <;> rfl
  refine sorted_gen (k := kOf L) (G := fun vs => vs.Perm (L.map fun q => Value.ref q.1)) (fun R' hR => collect_set (A := X.A.in1) (I.ok.hd hc) ⟨o, ho, hex.1, hd⟩ R.fits (by unfold scanBound; omega) R.tab.ris R.led fun s1 vs k1 _ g1 o1 pm => hR s1 vs k1 g1 o1 (by rw [hes] at pm; exact pm)) (fun vs e => ?_) fun h1 s' d vs out c k1 k2 g o hd hc e hs hb => ?_
  · have hl := e.length_eq
    rw [List.length_map] at hl
    refine ⟨by rw [sizeLine_eq]; omega, fun v hv => ?_⟩
    obtain ⟨r, hr, rfl⟩ := List.mem_map.mp (e.mem_iff.mp hv)
    rw [kOf_mem hi hr]
    exact ⟨isIT_of I (ht r hr).1, (ht r hr).2⟩
  · have hl := e.length_eq
    rw [List.length_map] at hl
    exact sort_end I k1 k2 g o hd hc ht1 hi e (List.Perm.refl _) (by rw [sizeLine_eq]; omega) hs hb (q R.nd)
end
end OW

/-! dicts whose keys are tuples: sorted, made of pairs, by a comprehension -/
namespace OW
open PySem PySem.Spec PyProof.Rows L2
section
variable {X : Cx}
theorem kt_at {H : Hp} {kvs : List (List Key × V)} {xs : List (List Key × Addr × Value)} (r : KT H kvs xs) : kvs.map (·.1) = xs.map (·.1) ∧ kvs.length = xs.length ∧ ∀ x ∈ xs, H x.2.1 = some (.tup (x.1.map kV)) := by
  induction r with
  | nil => exact ⟨rfl, rfl, fun x h => by cases h⟩
  | cons h t ih =>
    obtain ⟨a, b, c⟩ := ih
    refine ⟨by rw [List.map_cons, List.map_cons, a, h.1], by rw [List.length_cons, List.length_cons, b], fun x hx => ?_⟩
    rcases List.mem_cons.mp hx with e | hx
    · subst e
      rw [← h.1]
      exact h.2.1
    · exact c x hx
def intKs (n : List Int) : List Key := n.map Sum.inl
theorem kV_ints (n : List Int) : (intKs n).map kV = n.map V.int := by
  unfold intKs
  rw [List.map_map]
  rfl
def rSortD : List V → Hp → VK → Prop := fun vs H Q => ∃ (a : Addr) (kvs : List (List Key × V)) (ns : List (List Int)), vs = [V.ref a] ∧ H a = some (.dT kvs) ∧ kvs.map (·.1) = ns.map intKs ∧ (∀ n ∈ ns, n ≠ []) ∧ SortOut ns H Q
theorem zip_keys : ∀ {xs : List (List Key × Addr × Value)} {ns : List (List Int)}, xs.map (·.1) = ns.map intKs → ∃ ts : List (Addr × List Int), ts.map (·.2) = ns ∧ ts.map (·.1) = xs.map (·.2.1) ∧ ∀ q ∈ ts, ∃ x ∈ xs, x.2.1 = q.1 ∧ x.1 = intKs q.2
  | [], [], _ => ⟨[], rfl, rfl, fun q h => by cases h⟩
  | [], _ :: _, h => by simp at h
  | _ :: _, [], h => by simp at h
  | x :: xs, n :: ns, h => by
    rw [List.map_cons, List.map_cons] at h
    obtain ⟨h1, h2⟩ := List.cons.inj h
    obtain ⟨ts, e1, e2, e3⟩ := zip_keys h2
    refine ⟨(x.2.1, n) :: ts, by rw [List.map_cons, e1], by rw [List.map_cons, List.map_cons, e2], fun q hq => ?_⟩
    rcases List.mem_cons.mp hq with e | hq
    · subst e
      exact ⟨x, List.mem_cons_self, rfl, h1⟩
    · obtain ⟨y, hy, r⟩ := e3 q hq
      exact ⟨y, List.mem_cons_of_mem _ hy, r⟩
theorem cr_sortD (hc : X.calm = true) : CallR X (.builtin "sorted") rSortD := by
  intro pins s σ H vs us Q I r h
  obtain ⟨a, kvs, ns, rfl, ha, hk, hne, q⟩ := h
  rw [Vals.ref1 r]
  obtain ⟨hz, hd, xs, rel, o, es, ep, ho, hex, hdat, hes, _, _⟩ := dt_of I.hok ha
  obtain ⟨k1, k2, k3⟩ := kt_at rel
  obtain ⟨ts, t1, t2, t3⟩ := zip_keys (k1.symm.trans hk)
  have ht1 : ∀ q ∈ ts, H q.1 = some (.tup (q.2.map V.int)) := fun q hq => by
    obtain ⟨x, hx, e1, e2⟩ := t3 q hq
    have := k3 x hx
    rw [e1, e2, kV_ints] at this
    exact this
  have hi := one_tup ht1
  have sz1 : es.size = xs.length := by rw [← Array.length_toList, hes, List.length_map]
  have lt : ts.length = xs.length := by
    have z := congrArg List.length t2
    rwa [List.length_map, List.length_map] at z
  have raw : s.heap.DictRaw a es ep := ⟨o, ho, hex, hdat⟩
  refine sorted_gen (k := kOf ts) (G := fun vs => vs = ts.map fun q => Value.ref q.1) (fun R hR => PySem.W.kdu_collect (A := X.A.in1) (KdlSrc.rawDict hd) (I.ok.hd hc) raw (by rw [sz1, ← k2]; exact hz) fun h' tk acc kk hacc => hR _ _ kk rfl rfl ?_) (fun vs e => ?_) fun h1 s' d vs out c k1 k2' g o hd' hcc e hs hb => ?_
  · refine List.ext_getElem? fun j => ?_
    rw [List.getElem?_map]
    by_cases hj : j < ts.length
    · have hj2 : j < acc.toList.length := by
        rw [Array.length_toList, hacc.1, sz1, ← lt]
        exact hj
      have e1 : acc.toList[j]? = some acc.toList[j] := List.getElem?_eq_getElem hj2
      obtain ⟨h6, e7⟩ := hacc.2 j acc.toList[j] (by rw [← Array.getElem?_toList]; exact e1)
      rw [e1, e7, List.getElem?_eq_getElem hj]
      have e4 : es[j] = entryOfKey (tupleKind (mixKind X.prog X.w)) (xs[j]'(by omega)) := by
        have z : es.toList[j]? = (xs.map (entryOfKey (tupleKind (mixKind X.prog X.w))))[j]? := by rw [hes]
        rw [List.getElem?_map, List.getElem?_eq_getElem (show j < xs.length by omega), List.getElem?_eq_getElem (by rw [Array.length_toList]; omega), Array.getElem_toList] at z
        exact Option.some.inj z
      have e5 : ts[j].1 = (xs[j]'(by omega)).2.1 := by
        have z : (ts.map (·.1))[j]? = (xs.map (·.2.1))[j]? := by rw [t2]
        rw [List.getElem?_map, List.getElem?_map, List.getElem?_eq_getElem hj, List.getElem?_eq_getElem (show j < xs.length by omega)] at z
        exact Option.some.inj z
      rw [e4]
      show some (Value.ref (xs[j]'(by omega)).2.1) = some (Value.ref ts[j].1)
      rw [e5]
    · rw [List.getElem?_eq_none_iff.mpr (by rw [Array.length_toList, hacc.1, sz1]; omega), List.getElem?_eq_none_iff.mpr (by omega)]
      rfl
  · subst e
    refine ⟨by rw [List.length_map, lt, ← k2]; exact hz, fun v hv => ?_⟩
    obtain ⟨r, hr, rfl⟩ := List.mem_map.mp hv
    rw [kOf_mem hi hr]
    exact ⟨isIT_of I (ht1 r hr), hne r.2 (by rw [← t1]; exact List.mem_map.mpr ⟨r, hr, rfl⟩)⟩
  · subst e
    exact sort_end I k1 k2' g o hd' hcc ht1 hi (List.Perm.refl _) (by rw [t1]) (by rw [List.length_map, lt, ← k2]; exact hz) hs hb q

/-- dict(pairs) -/
def mergeT (kvs more : List (List Key × V)) : List (List Key × V) := more.foldl (fun acc kv => putK acc kv.1 kv.2) kvs
theorem KT.store {H : Hp} : ∀ {more : List (List Key × V)} {ps xs : List (List Key × Addr × Value)} {kvs : List (List Key × V)}, KT H more ps → KT H kvs xs → KT H (mergeT kvs more) (storedAllH xs ps)
  | _, _, xs, kvs, .nil, h => h
  | _, _, xs, kvs, .cons (a := p) (b := q) r t, h => by
    show KT H (mergeT (putK kvs p.1 p.2) _) (storedAllH (storedH xs q.1 q.2.1 q.2.2) _)
    refine KT.store t ?_
    rw [← r.1]
    exact h.put p.1 r.2.1 r.2.2
theorem length_mergeT : ∀ (more kvs : List (List Key × V)), (mergeT kvs more).length ≤ kvs.length + more.length
  | [], kvs => Nat.le_refl _
  | p :: more, kvs => by
    have h1 := length_mergeT more (putK kvs p.1 p.2)
    have h2 := length_putK kvs p.1 p.2
    show (mergeT (putK kvs p.1 p.2) more).length ≤ _
    rw [List.length_cons]
    omega
def rDictT : List V → Hp → VK → Prop := fun xs H Q => ∃ (a : Addr) (ps : List Addr) (kvs : List (List Key × V)), xs = [.ref a] ∧ H a = some (.lst (ps.map V.ref)) ∧ Paired (fun p kv => ∃ b, H p = some (.tup [.ref b, kv.2]) ∧ H b = some (.tup (kv.1.map kV))) ps kvs ∧
    ∀ p, H p = none → Q (.ref p) (upd H p (.dT (mergeT [] kvs)))
theorem cr_dictT (hc : X.calm = true) (hu : X.A.units + 3 < cLine) : CallR X (.type "dict") rDictT := by
  intro pins s σ H vs us Q I r h
  obtain ⟨a, ps, kvs, rfl, ha, hp, q⟩ := h
  rw [Vals.ref1 r]
  obtain ⟨its, rv, ⟨oa, na, hoa, hca, hda, hdat⟩, hz⟩ := I.list (.inl (.inl ha))
  have ei := refs_at rv
  subst ei
  rw [List.length_map] at hz
  -- the pairs as they stand
  have all : ∀ {ps : List Addr} {kvs : List (List Key × V)}, Paired (fun p kv => ∃ b, H p = some (.tup [.ref b, kv.2]) ∧ H b = some (.tup (kv.1.map kV))) ps kvs →
      ∃ prs : List (List Key × Addr × Value), KT H kvs prs ∧ prs.length = ps.length ∧ ∀ (j : Nat) (x : List Key × Addr × Value), prs[j]? = some x → ∃ p, ps[j]? = some p ∧ s.heap.IsTuple p #[.ref x.2.1, x.2.2] := by
    intro ps kvs hp
    induction hp with
    | nil => exact ⟨[], .nil, rfl, fun j x h => by simp at h⟩
    | @cons p kv ps kvs h t ih =>
      obtain ⟨prs, r1, r2, r3⟩ := ih
      obtain ⟨b, hb1, hb2⟩ := h
      obtain ⟨_, its, rt, htup⟩ := I.hok _ _ hb1
      obtain ⟨u1, u2, rfl, ru1, ru2⟩ := vals2 rt
      obtain rfl : u1 = Value.ref b := ru1
      refine ⟨(kv.1, b, u2) :: prs, .cons ⟨rfl, hb2, ru2⟩ r1, by rw [List.length_cons, List.length_cons, r2], fun j x hj => ?_⟩
      cases j with
      | zero =>
        have e := Option.some.inj hj
        subst e
        exact ⟨p, rfl, htup⟩
      | succ j => exact r3 j x hj
  obtain ⟨prs, r1, r2, r3⟩ := all hp
  have pi : PairItems s.heap (ps.map Value.ref).toArray (fun j => ps.getD j 0) (prs.map fun x => (Value.ref x.2.1, x.2.2)) := by
    refine ⟨by simp [r2], fun j k v hj => ?_⟩
    rw [List.getElem?_map] at hj
    cases e : prs[j]? with
    | none =>
      rw [e] at hj
      simp at hj
    | some x =>
      rw [e] at hj
      have hj' : (Value.ref x.2.1, x.2.2) = (k, v) := Option.some.inj hj
      obtain ⟨rfl, rfl⟩ := Prod.mk.inj hj'
      obtain ⟨p, hp1, hp2⟩ := r3 j x e
      have hD : ps.getD j 0 = p := by simp [List.getD, hp1]
      refine ⟨?_, ?_⟩
      · show _ = some (Value.ref (ps.getD j 0))
        rw [hD]
        simp [hp1]
      · show PairAt s.heap (ps.getD j 0) _ _
        rw [hD]
        exact .inl hp2
  have keys : ∀ x ∈ prs, H x.2.1 = some (.tup (x.1.map kV)) := (kt_at r1).2.2
  refine call_dict_pairsH (knd := tupleKind (mixKind X.prog X.w)) (ps := prs) (PairArg.list a (ps.map Value.ref).toArray (fun j => ps.getD j 0) (prs.map fun x => (Value.ref x.2.1, x.2.2))) (I.ok.hd hc) (tupleKind_room_in1 (by show X.A.units + 1 + 1 < cLine; omega)) ⟨⟨oa, na, hoa, hca, hda, hdat⟩, pi⟩ ⟨by rw [List.length_map], fun i key v hr => ?_⟩ (fun h' hk x hx => ?_) (by rw [List.length_map, r2]; exact hz) fun h' tk hd' hk => ?_
  · have hr' : (prs.map fun x => (Value.ref x.2.1, x.2.2))[i]? = some (key, v) := hr
    rw [List.getElem?_map] at hr'
    cases e : prs[i]? with
    | none =>
      rw [e] at hr'
      simp at hr'
    | some x =>
      rw [e] at hr'
      have z : (Value.ref x.2.1, x.2.2) = (key, v) := Option.some.inj hr'
      obtain ⟨rfl, rfl⟩ := Prod.mk.inj z
      exact ⟨x.1, x.2.1, rfl, rfl⟩
  · have k0 := keys x hx
    obtain ⟨o, ys, n, ho, r⟩ := key_of I.hok k0
    exact ⟨o, ys, n, hk _ _ (Nat.ne_of_lt (Heap.lt_size ho)) (by simp) ho, r⟩
  · have hn : H s.heap.objs.size = none := I.hok.fresh (Nat.le_refl _)
    have kk : ∀ b o, s.heap.get? b = some o → h'.get? b = some o := fun b o e => hk b o (by simp) e
    obtain ⟨od, es, ep, d1, d2, d3, d4, _, d5⟩ := hd'
    refine ⟨.ref s.heap.objs.size, _, I.laid (t' := tk) (o := .dT (mergeT [] kvs)) kk (Nat.le_refl _) ⟨?_, ?_, _, ?_, od, es, ep, d1, d2, d3, d4, d5⟩, rfl, q _ hn⟩
    · have z := length_mergeT kvs []
      have z2 := Paired.length hp
      have z3 : ([] : List (List Key × V)).length = 0 := rfl
      omega
    · have z := I.big
      exact beq_eq_false_iff_ne.mpr (Nat.ne_of_gt z)
    · refine KT.keeps (KT.store r1 .nil) fun b ys e => ?_
      rw [upd_ne (ne_of_none e hn)]
      exact e
end
end OW

/-! {k: v for .. in ..} with tuples as keys; repr of data -/
namespace OW
open PySem PySem.Spec PyProof.Rows L2

/-- a tuple key is stored -/
theorem put_tup {X : Cx} {pins : List (Addr × Obj)} {σ : L2.St} {H : Hp} {s : Shared} {A : Around} {E : Value → Shared → Prop} {a b : Addr} {kvs : List (List Key × V)} {k : List Key} {v : V} {r : Value} {Q : Unit → Shared → Prop} (hu : A.units < cLine) (I : Inv X pins σ H s)
    (e : H a = some (.dT kvs)) (eb : H b = some (.tup (k.map kV))) (l : kvs.length < sizeLine) (rv : RelV v r) (h : ∀ s', Inv X pins σ (upd H a (.dT (putK kvs k v))) s' → Q () s') : wpAny (model X.prog X.w) A (dictSet a (.ref b) r) Q E s := by
  obtain ⟨z, hd, xs, rel, dd⟩ := dt_of I.hok e
  have z1 : xs.length ≤ sizeLine := by
    rw [← (kt_at rel).2.1]
    exact z
  have z2 := length_putK kvs k v
  refine wpAny_dictSet_heap (hsz := z1) (knd := tupleKind (mixKind X.prog X.w)) hu (key_of I.hok eb) dd fun h' ⟨o, es, ep, o1, o2, o3, o4, _, o5⟩ sb => h _ ?_
  have new : ObjOk X.prog X.w (upd H a (.dT (putK kvs k v))) h' a (.dT (putK kvs k v)) := by
    refine ⟨by omega, hd, _, KT.keeps (rel.put k eb rv) fun c ys ec => ?_, o, es, ep, o1, o2, o3, o4, o5⟩
    have hne : c ≠ a := ne_of ec e (by intro q; cases q)
    rw [upd_ne hne]
    exact ec
  exact d_write I (by rw [e]; trivial) sb ⟨o, o1⟩ new
section
variable {X : Cx}
def tDcT (wi : TI) (g : TG) (tt : TT) (tk tv : TE) (vs : List Nat) : TE := fun σ H Q => wi σ H fun J H1 => ∀ Dl, H1 Dl = none → ∃ W : Nat → Nat → Hp → Prop, (∃ m, W 0 m (upd H1 Dl (.dT []))) ∧ ∀ i m H, W i m H →
  (J.stop i H ∧ Q (.ref Dl) H) ∨ (J.go i H ∧ ∃ Nx : Hp → Prop, (∀ H', Nx H' → ∃ m', m' < m ∧ W (i + 1) m' H') ∧ ∀ x H', J.yld i H x H' → g x (wipe σ vs) H' fun σ2 H2 => wipe σ2 vs = wipe σ vs ∧ tt σ2 H2 fun b H3 =>
    if b = true then tk σ2 H3 fun y H4 => tv σ2 H4 fun z H5 => ∃ kvs k b, y = .ref b ∧ H5 b = some (.tup (k.map kV)) ∧ H5 Dl = some (.dT kvs) ∧ kvs.length < sizeLine ∧ Nx (upd H5 Dl (.dT (putK kvs k z))) else Nx H3)
/-- the block's turns keep W; then what follows sees the dict -/
theorem dcT_core {pins : List (Addr × Obj)} {s : Shared} {σ : L2.St} {H : Hp} {Q : VK} {kx vx tg iter : Expr} {ifs : List Expr} {scope : Scope} {own : List (Str × Nat)} {pos pos' : Pos} {wi : TI} {g : TG} {tt : TT} {tk tv : TE} {use : Option (Value → Sem Unit)} {Qf : Value → Shared → Prop}
    (hc : X.calm = true) (hu : X.A.units < cLine) (hN : X.N.Nodup) (I : Inv X pins σ H s) (hi : PI X tg iter wi) (ok : BlkOk X.N X.env.scope scope own)
    (hg : ∀ (s : Shared) (H : Hp) (C : Addr) (cl : List (Str × Addr)) (fp : List Addr), PG (X.blk s H scope (compEnvC scope cl C X.env) fp) tg g)
    (ht : ∀ (s : Shared) (H : Hp) (C : Addr) (cl : List (Str × Addr)) (fp : List Addr), PTs (X.blk s H scope (compEnvC scope cl C X.env) fp) ifs tt)
    (hk : ∀ (s : Shared) (H : Hp) (C : Addr) (cl : List (Str × Addr)) (fp : List Addr), PE (X.blk s H scope (compEnvC scope cl C X.env) fp) kx tk)
    (hv : ∀ (s : Shared) (H : Hp) (C : Addr) (cl : List (Str × Addr)) (fp : List Addr), PE (X.blk s H scope (compEnvC scope cl C X.env) fp) vx tv) (hs : ∀ x, foldedSetIterable iter X.env x = pure x)
    (h : tDcT wi g tt tk tv (own.map (·.2)) σ H Q)
    (fin : ∀ Dl C s' m H', Inv X pins σ H' s' → Q (.ref Dl) H' → s'.heap.Ns C m → FpOk X pins H' C → compPost (model X.prog X.w) X.A X.xe use Qf (.ref Dl) C (.ok .next) s') :
    wpAny (model X.prog X.w) X.A (comprehension (.DictComp kx vx [⟨tg, iter, ifs, 0⟩] scope pos) scope X.env pos' newDict false (eval iter X.env) use) Qf X.xe s := by
  have clo : closureFor scope X.env = pure (cloFrom X.env.cells scope.names []) := closure_ok fun y hy e => (ok.free y hy e).elim (fun k => I.ok.has _ (.inl k)) fun k => I.ok.has _ (.inr k)
  refine wpAny_comprehension_free (use := use) rfl hs clo ok.kind (fun y hy e => by rw [ok.uniq y hy, e]) (thn (hi.run pins s σ H _ I h) fun xv s1 hx => thn hx fun itv s2 ⟨it, fp, tn, J, H2, e, I2, T, st2, f2, q⟩ => ?_)
  subst e
  refine wpAny_newObj_type (newEnv_comp ?_)
  generalize hD : s2.heap.objs.size = Dl
  have hDn : H2 Dl = none := I2.hok.fresh (Nat.le_of_eq hD)
  obtain ⟨W, ⟨m0, w0⟩, turn⟩ := q Dl hDn
  -- the state with the empty dict
  generalize hs3 : ({ s2 with heap := s2.heap.push { cls := .type "dict", data := .dict #[] } } : Shared) = s3
  have h3 : s3.heap = s2.heap.push { cls := .type "dict", data := .dict #[] } := by rw [← hs3]
  have I3 : Inv X pins σ (upd H2 Dl (.dT [])) s3 := by
    have em : ObjOk X.prog X.w (upd H2 Dl (.dT [])) (s2.heap.push { cls := .type "dict", data := .dict #[] }) Dl (.dT []) := by
      rw [← hD]
      exact dt_empty s2.heap I2.big
    rw [← hs3]
    exact I2.laid (t' := s2.toks) (fun b o e => Heap.get?_push_of_some _ e) (Nat.le_of_eq hD) em
  have below : ∀ b ∈ fp, b < s2.heap.objs.size := fun b hb => (T.obj _ _ st2 b hb).elim fun o z => Heap.lt_size z.1
  have f3 : ∀ b ∈ fp, FpOk X pins (upd H2 Dl (.dT [])) b ∧ b < s3.heap.objs.size := fun b hb => by
    have hlt := below b hb
    refine ⟨⟨?_, (f2 b hb).2⟩, by rw [h3, Heap.size_push]; exact Nat.lt_succ_of_lt hlt⟩
    rw [upd_ne (show b ≠ Dl by rw [← hD]; exact Nat.ne_of_lt hlt)]
    exact (f2 b hb).1
  have st3 : tn 0 s3.heap := T.keep _ _ _ st2 fun b _ o e => by
    rw [h3]
    exact Heap.get?_push_of_some _ e
  have I4 := block_start I3 ok hN f3
  have pg := hg s3 (upd H2 Dl (.dT [])) s3.heap.objs.size (cellsFrom (s3.heap.objs.size + 1) scope.names (cloFrom X.env.cells scope.names [])) fp
  have pt := ht s3 (upd H2 Dl (.dT [])) s3.heap.objs.size (cellsFrom (s3.heap.objs.size + 1) scope.names (cloFrom X.env.cells scope.names [])) fp
  have pk := hk s3 (upd H2 Dl (.dT [])) s3.heap.objs.size (cellsFrom (s3.heap.objs.size + 1) scope.names (cloFrom X.env.cells scope.names [])) fp
  have pe := hv s3 (upd H2 Dl (.dT [])) s3.heap.objs.size (cellsFrom (s3.heap.objs.size + 1) scope.names (cloFrom X.env.cells scope.names [])) fp
  show codeAny _ _ (.compStart (.DictComp kx vx [⟨tg, iter, ifs, 0⟩] scope pos) 0 (.ref it) (.ref Dl) (compEnvC scope (cellsFrom (s3.heap.objs.size + 1) scope.names (cloFrom X.env.cells scope.names [])) s3.heap.objs.size X.env)) (compPost (model X.prog X.w) X.A X.xe use Qf (.ref Dl) s3.heap.objs.size) { s3 with heap := pushCells (s3.heap.push { cls := .type "dict", data := .dict #[] }) scope.names }
  have off3 : ∀ b ∈ fp, (upd H2 Dl (.dT [])) b = none := fun b hb => (f3 b hb).1.1
  generalize hce : compEnvC scope (cellsFrom (s3.heap.objs.size + 1) scope.names (cloFrom X.env.cells scope.names [])) s3.heap.objs.size X.env = ce at I4 pg pt pk pe ⊢
  have cL : ce.locals = s3.heap.objs.size := by
    subst hce
    rfl
  generalize hH3 : upd H2 Dl (.dT []) = H3 at I3 I4 pg pt pk pe w0 off3 f3
  generalize hs4 : ({ s3 with heap := pushCells (s3.heap.push { cls := .type "dict", data := .dict #[] }) scope.names } : Shared) = s4 at I4 ⊢
  have st4 : tn 0 s4.heap := T.keep _ _ _ st3 fun b _ o e => by
    rw [← hs4]
    exact pushCells_keeps _ _ _ _ (Heap.get?_push_of_some _ e)
  generalize hB : X.blk s3 H3 scope ce fp = B at I4 pg pt pk pe
  have hBA : B.A = X.A := by rw [← hB]
  have hBw : B.w = X.w := by rw [← hB]
  have hBp : B.prog = X.prog := by rw [← hB]
  have stand : ∀ {σ' : L2.St} {H' : Hp} {s' : Shared}, Inv B [] σ' H' s' → (∀ b ∈ fp, H' b = none) → ∀ b ∈ fp, FpOk B [] H' b := fun {σ' H' s'} I' hn b hb => by
    subst hB
    exact ⟨hn b hb, (I'.ok.exf b hb).1, I'.ok.exfs b hb, .inl hb, fun x c e => (I'.ok.exf b hb).2 x c e, fun p hp => by cases hp⟩
  have loop : codeAny (model X.prog X.w) X.A (.compLoop (.DictComp kx vx [⟨tg, iter, ifs, 0⟩] scope pos) 0 (.ref it) (.ref Dl) ce) (compPost (model X.prog X.w) X.A X.xe use Qf (.ref Dl) s3.heap.objs.size) s4 := by
    refine compLoop_anyD (fun n s' => ∃ i H', Inv B [] (wipe σ (own.map (·.2))) H' s' ∧ tn i s'.heap ∧ (∀ b ∈ fp, H' b = none) ∧ W i n H') ?_ m0 ⟨0, H3, I4, st4, off3, w0⟩
    rintro n s5 ⟨i, H5, I5, st5, n5, w5⟩
    rcases turn i n H5 w5 with ⟨stop, qq⟩ | ⟨go, Nx, hNx, step⟩
    · subst hB
      refine thnF (T.done (X.blk s3 H3 scope ce fp) rfl rfl rfl hc i [] s5 _ H5 (fun _ _ => False) I5 (stand I5 n5) st5 stop) fun r s6 ⟨hr, I6⟩ => ?_
      subst hr
      have nC : H5 s3.heap.objs.size = none := by
        have z : H5 ce.locals = none := I6.free
        rwa [cL] at z
      obtain ⟨m, hn, _⟩ := I6.loc
      have hn : s6.heap.Ns ce.locals m := hn
      rw [cL] at hn
      exact fin Dl s3.heap.objs.size s6 m H5 (I3.call' (ch := fp) I6.os I6.base I6.hok I6.bare fun b hb => ⟨(f3 b hb).1.2.2.2.1, (f3 b hb).1.2.1, (f3 b hb).1.2.2.2.2.1, (f3 b hb).1.2.2.2.2.2⟩) qq hn (I3.fpOk (Nat.le_refl _) nC)
    · subst hB
      refine thnF (T.item (X.blk s3 H3 scope ce fp) rfl rfl rfl hc i [] s5 _ H5 (fun _ _ => False) I5 (stand I5 n5) st5 go) fun r s6 ⟨u, hr, h6⟩ => ?_
      subst hr
      refine thnF h6 fun _ s7 ⟨x, H7, I7, r7, y7, st7, n7⟩ => ?_
      refine thnF (pg.run _ s7 _ H7 x u _ (I7.pinned (stand I7 n7) (T.obj _ _ st7)) r7 (step x H7 y7)) fun _ s8 ⟨σ8, H8, I8, hw8, q8⟩ => ?_
      refine thnF (pt.run _ s8 σ8 H8 _ I8 q8) fun b s9 ⟨H9, I9, q9⟩ => ?_
      have again : ∀ {s' : Shared} {H' : Hp}, Inv (X.blk s3 H3 scope ce fp) ([] ++ pinsAt fp s7.heap) σ8 H' s' → Nx H' → ∃ m, m < n ∧ ∃ i H', Inv (X.blk s3 H3 scope ce fp) [] (wipe σ (own.map (·.2))) H' s' ∧ tn i s'.heap ∧ (∀ b ∈ fp, H' b = none) ∧ W i m H' := fun {s' H'} I' nx => by
        obtain ⟨m', hm, w'⟩ := hNx H' nx
        have pin : ∀ b ∈ fp, ∀ o, s7.heap.get? b = some o → s'.heap.get? b = some o ∧ H' b = none := fun b hb o e =>
          (I'.pin (b, o) (List.mem_append_right _ (List.mem_append_right _ (mem_pinsAt hb e)))).imp_right fun z => z.1
        refine ⟨m', hm, i + 1, H', (I'.unpinned (pins := [])).weak (by rw [← hw8, wipe_length]) (fun j v e => ?_), T.keep _ _ _ st7 fun b hb o e => (pin b hb o e).1, fun b hb => (T.obj _ _ st7 b hb).elim fun o z => (pin b hb o z.1).2, w'⟩
        rw [← hw8] at e
        exact (wipe_some e).1
      cases b with
      | false => exact again I9 q9
      | true =>
        refine thnF (pk.run _ s9 σ8 H9 _ I9 q9) fun z s10 ⟨yk, H10, I10, r10, q10⟩ => ?_
        refine thnF (pe.run _ s10 σ8 H10 _ I10 q10) fun z2 s11 ⟨yv, H11, I11, r11, kvs, k, bk, ek, hk11, hD11, hz11, nx⟩ => ?_
        subst ek
        obtain rfl : z = Value.ref bk := r10
        exact put_tup (X := X.blk s3 H3 scope ce fp) hu I11 hD11 hk11 hz11 r11 fun s12 I12 => again I12 nx
  exact codeAny_compStart_dict loop (T.self X.A 0 _ _ _ st4 loop)
theorem pe_dcT {kx vx tg iter : Expr} {ifs : List Expr} {scope : Scope} {own : List (Str × Nat)} {pos : Pos} {wi : TI} {g : TG} {tt : TT} {tk tv : TE} (hc : X.calm = true) (hu : X.A.units < cLine) (hN : X.N.Nodup) (hi : PI X tg iter wi) (ok : BlkOk X.N X.env.scope scope own)
    (hg : ∀ (s : Shared) (H : Hp) (C : Addr) (cl : List (Str × Addr)) (fp : List Addr), PG (X.blk s H scope (compEnvC scope cl C X.env) fp) tg g)
    (ht : ∀ (s : Shared) (H : Hp) (C : Addr) (cl : List (Str × Addr)) (fp : List Addr), PTs (X.blk s H scope (compEnvC scope cl C X.env) fp) ifs tt)
    (hk : ∀ (s : Shared) (H : Hp) (C : Addr) (cl : List (Str × Addr)) (fp : List Addr), PE (X.blk s H scope (compEnvC scope cl C X.env) fp) kx tk)
    (hv : ∀ (s : Shared) (H : Hp) (C : Addr) (cl : List (Str × Addr)) (fp : List Addr), PE (X.blk s H scope (compEnvC scope cl C X.env) fp) vx tv) (hs : ∀ x, foldedSetIterable iter X.env x = pure x := by intro _; rfl) :
    PE X (.DictComp kx vx [⟨tg, iter, ifs, 0⟩] scope pos) (tDcT wi g tt tk tv (own.map (·.2))) :=
  ⟨fun pins s σ H Q I h => by
    rw [arm_eval_DictComp]
    exact dcT_core hc hu hN I hi ok hg ht hk hv hs h fun Dl C s' m H' I' q hn f => ⟨m, hn, fun h'' sb => ⟨.ref Dl, H', I'.turned (t' := s'.toks) (fun b o hb e => (sb.2 b hb).trans e) f.1 f.2.1 f.2.2.2.1 f.2.2.2.2.1 f.2.2.2.2.2, rfl, q⟩⟩⟩

/-! ### repr -/
def rRepr (K : PySem.W.Frag) : List V → Hp → VK → Prop := fun vs H Q => ∃ (a : Addr) (d : PyData), vs = [V.ref a] ∧ Dp K H (.ref a) d ∧ d.showable = true ∧ d.hasDict = false ∧ d.depth ≤ 60 ∧ d.shown.length ≤ sizeLine ∧ Q (.str d.shown) H
theorem cr_repr (hg : X.A.guards = some []) (hu : X.A.units + 64 < cLine) : CallR X (.builtin "repr") (rRepr X.K) := by
  intro pins s σ H vs us Q I r h
  obtain ⟨a, d, rfl, hd, h1, h2, h3, h4, q⟩ := h
  rw [Vals.ref1 r]
  obtain ⟨as, hr⟩ := Dp.reads I d (.ref a) (.ref a) hd rfl
  exact repr_of_reads' (h₀ := s.heap) hr h1 (fun z => by rw [h2] at z; cases z) hg (by omega) (fun _ _ e => e) (fun h' u tk k => ⟨.str d.shown, H, I.kept (t' := tk) k, ⟨u, rfl⟩, q⟩) h4
end
end OW

/-! the same over pure states -/
namespace OW
open PySem PySem.Spec PyProof.Rows L2
def num (ns : List Int) : D := .tup (ns.map .int)
section
variable {Γ : Ctx} {O : Own} {K : KD} {Kf : PySem.W.Frag} {P : Program} {w : World}
theorem rel_num {F : Hp} {n : List Int} {v : V} (r : Rel F (num n) v) : ∃ a, v = .ref a ∧ F a = some (.tup (n.map V.int)) := by
  cases r with
  | tup e rl => exact ⟨_, rfl, by rw [e, rl.ints]⟩
theorem relL_nums {F : Hp} : ∀ {ns : List (List Int)} {vs : List V}, RelL F (ns.map num) vs → ∃ ts : List (Addr × List Int), vs = ts.map (fun q => V.ref q.1) ∧ ts.map (·.2) = ns ∧ ∀ q ∈ ts, F q.1 = some (.tup (q.2.map V.int))
  | [], _, .nil => ⟨[], rfl, rfl, fun q h => by cases h⟩
  | n :: ns, _, .cons r t => by
    obtain ⟨a, rfl, e⟩ := rel_num r
    obtain ⟨ts, e1, e2, e3⟩ := relL_nums t
    refine ⟨(a, n) :: ts, by rw [List.map_cons, e1], by rw [List.map_cons, e2], fun q hq => ?_⟩
    rcases List.mem_cons.mp hq with z | hq
    · subst z
      exact e
    · exact e3 q hq
theorem nums_relL {F : Hp} : ∀ (ts : List (Addr × List Int)), (∀ q ∈ ts, F q.1 = some (.tup (q.2.map V.int))) → RelL F ((ts.map (·.2)).map num) (ts.map fun q => V.ref q.1)
  | [], _ => .nil
  | q :: ts, h => .cons (.tup (h q List.mem_cons_self) (RelL.of_ints _)) (nums_relL ts fun r hr => h r (List.mem_cons_of_mem _ hr))
abbrev SortedN (ys : List (List Int)) : Prop := ys.Pairwise (fun a b => HT.lexLt b a = false)
/-- what follows a sort -/
def SortFin (K : KD) (ns : List (List Int)) (O : Own) : Prop := ∀ ys : List (List Int), ys.Perm ns → SortedN ys → LcFin K (ys.map num) O
theorem sort_out {F H : Hp} {σ : L2.St} {Q : VK} {ns : List (List Int)} (S : Sat F H σ Γ O) (hk : ∀ d O', K d O' → Aft σ Γ O F H Q d O') (k : SortFin K ns O) : SortOut ns H Q := fun ts p h1 h2 h3 hp =>
  lnew S hk (k _ h2 h3) (nums_relL ts fun q hq => S.tups _ _ (h1 q hq)) hp
theorem ef_sortN {te : TE} (h : Ef te Γ O fun d O1 => ∃ ns : List (List Int), IsL O1 d (ns.map num) ∧ (∀ n ∈ ns, n ≠ []) ∧ SortFin K ns O1) : Ef (tCB rSortN (tCons te tNil)) Γ O K :=
  ef_cb (af_cons (h.mono fun d O1 ⟨ns, hl, hne, k⟩ => af_nil fun F H σ Q vs S r hk => by
    obtain ⟨v, rfl, rv⟩ := relL1 r
    obtain ⟨a, ws, rfl, ha, rl⟩ := hl.at S rv
    obtain ⟨ts, rfl, rfl, ht⟩ := relL_nums rl
    exact ⟨a, ts, rfl, ha, fun q hq => ⟨S.sub _ _ (ht q hq), hne _ (List.mem_map.mpr ⟨q, hq, rfl⟩)⟩, sort_out S hk k⟩))
theorem Sat.extra {F H : Hp} {σ : L2.St} (S : Sat F H σ Γ O) {p : Addr} {o : HO} (h : H p = none) (ht : ∀ vs, o ≠ .tup vs) : Sat F (upd H p o) σ Γ O := by
  refine ⟨fun b x e => Same.f h b x (S.sub b x e), S.len, S.slot, fun q hq => ?_, S.nd, fun b vs e => ?_⟩
  · obtain ⟨a, x, e, r⟩ := S.own q hq
    exact ⟨a, x, Same.f h _ _ e, r⟩
  · by_cases hb : b = p
    · subst hb
      rw [upd_same] at e
      exact absurd (Option.some.inj e) (ht vs)
    · rw [upd_ne hb] at e
      exact S.tups b vs e
theorem Step.extra {A : List Addr} {F H : Hp} {p : Addr} {o : HO} (h : H p = none) : Step A A F H F (upd H p o) where
  f := Same.refl F
  h := fun b x _ e => Same.f h b x e
  there := fun b x e => ⟨x, Same.f h b x e⟩
  new := fun b x e => .inl e
  own := fun a m => .inl m
/-- sorted(set(xs)) -/
theorem ef_sortSet {te : TE} (h : Ef te Γ O fun d O1 => ∃ ns : List (List Int), IsL O1 d (ns.map num) ∧ ns.length < 64 ∧ (∀ n ∈ ns, n ≠ []) ∧ ∀ ms : List (List Int), ms.Nodup → (∀ m ∈ ms, m ∈ ns) → (∀ n ∈ ns, n ∈ ms) → SortFin K ms O1) :
    Ef (tCB (rSortS P w) (tCons (tCB (rSetOfT Kf P w) (tCons te tNil)) tNil)) Γ O K := fun F H σ Q S hk =>
  h F H σ _ S fun d O1 ⟨ns, hl, hlen, hne, k⟩ v F1 H1 s1 S1 r1 => by
    obtain ⟨a, ws, rfl, ha, rl⟩ := hl.at S1 r1
    obtain ⟨ts, rfl, rfl, ht⟩ := relL_nums rl
    have htH : ∀ q ∈ ts, H1 q.1 = some (.tup (q.2.map V.int)) := fun q hq => S1.sub _ _ (ht q hq)
    refine ⟨a, ts, rfl, .inl (.inl ha), fun q hq => .inl (.inl (htH q hq)), by rwa [List.length_map] at hlen, fun b L hb h1 h2 => ?_⟩
    have S2 : Sat F1 (upd H1 b (SetTO P w b L)) σ Γ O1 := S1.extra hb (fun vs z => by unfold SetTO at z; cases z)
    refine ⟨b, L, rfl, upd_same, fun q hq => ⟨?_, hne _ (List.mem_map.mpr ⟨q, h1 q hq, rfl⟩)⟩, fun nd => ?_⟩
    · rw [upd_ne (ne_of_none (htH q (h1 q hq)) hb)]
      exact htH q (h1 q hq)
    · refine sort_out S2 (fun d O' kk => ((hk d O' kk).step s1).step (Step.extra hb)) (k _ nd (fun m hm => ?_) fun n hn => ?_)
      · obtain ⟨q, hq, rfl⟩ := List.mem_map.mp hm
        exact List.mem_map.mpr ⟨q, h1 q hq, rfl⟩
      · obtain ⟨q, hq, rfl⟩ := List.mem_map.mp hn
        exact h2 q hq
theorem RelKV.keys {κ : Type} {F : Hp} {kvs : List (κ × D)} {ks : List (κ × V)} (r : RelKV F kvs ks) : kvs.map (·.1) = ks.map (·.1) := by
  induction r with
  | nil => rfl
  | cons h t ih => rw [List.map_cons, List.map_cons, ih, h.1]
theorem ef_sortD {te : TE} (h : Ef te Γ O fun d O1 => ∃ (a : Addr) (j : Nat) (kvs : List (List Key × D)) (ns : List (List Int)), d = .ref a ∧ O1[j]? = some (a, .dT kvs) ∧ kvs.map (·.1) = ns.map intKs ∧ (∀ n ∈ ns, n ≠ []) ∧ SortFin K ns O1) : Ef (tCB rSortD (tCons te tNil)) Γ O K :=
  ef_cb (af_cons (h.mono fun d O1 ⟨a, j, kvs, ns, e, hj, hk', hne, k⟩ => af_nil fun F H σ Q vs S r hk => by
    subst e
    obtain ⟨v, rfl, rv⟩ := relL1 r
    cases rv
    obtain ⟨f, o, ho, c⟩ := S.own _ (List.mem_of_getElem? hj)
    cases c with
    | dT rk => exact ⟨a, _, ns, rfl, ho, rk.keys.symm.trans hk', hne, sort_out S hk k⟩))
/-! dicts made -/
def mergeD (kvs more : List (List Key × D)) : List (List Key × D) := more.foldl (fun acc kv => putD acc kv.1 kv.2) kvs
theorem RelKV.merge {F : Hp} : ∀ {more : List (List Key × D)} {ms : List (List Key × V)} {kvs : List (List Key × D)} {ks : List (List Key × V)}, RelKV F more ms → RelKV F kvs ks → RelKV F (mergeD kvs more) (mergeT ks ms)
  | _, _, _, _, .nil, h => h
  | _, _, kvs, ks, .cons (a := p) (b := q) r t, h => by
    show RelKV F (mergeD (putD kvs p.1 p.2) _) (mergeT (putK ks q.1 q.2) _)
    refine RelKV.merge t ?_
    rw [← r.1]
    exact h.put p.1 r.2
theorem ef_dictT {te : TE} (h : Ef te Γ O fun d O1 => ∃ ps : List (List Key × D), IsL O1 d (ps.map fun p => .tup [.tup (p.1.map kD), p.2]) ∧ ∀ p, K (.ref p) ((p, .dT (mergeD [] ps)) :: O1)) : Ef (tCB rDictT (tCons te tNil)) Γ O K :=
  ef_cb (af_cons (h.mono fun d O1 ⟨ps, hl, k⟩ => af_nil fun F H σ Q vs S r hk => by
    obtain ⟨v, rfl, rv⟩ := relL1 r
    obtain ⟨a, ws, rfl, ha, rl⟩ := hl.at S rv
    have all : ∀ {ps : List (List Key × D)} {ws : List V}, RelL F (ps.map fun p => .tup [.tup (p.1.map kD), p.2]) ws → ∃ (as : List Addr) (kvs : List (List Key × V)), ws = as.map V.ref ∧ RelKV F ps kvs ∧ Paired (fun p kv => ∃ b, H p = some (.tup [.ref b, kv.2]) ∧ H b = some (.tup (kv.1.map kV))) as kvs := by
      intro ps
      induction ps with
      | nil =>
        intro ws r
        cases r
        exact ⟨[], [], rfl, .nil, .nil⟩
      | cons p ps ih =>
        intro ws r
        cases r with
        | cons r t =>
          obtain ⟨as, kvs, rfl, h2, h3⟩ := ih t
          cases r with
          | tup e rr =>
            rename_i pa us
            obtain ⟨v1, v2, rfl, r1, r2⟩ := relL2 rr
            cases r1 with
            | tup eb rb =>
              rename_i b bs
              rw [relL_keys rb] at eb
              exact ⟨pa :: as, (p.1, v2) :: kvs, rfl, .cons ⟨rfl, r2⟩ h2, .cons ⟨b, S.sub _ _ e, S.sub _ _ eb⟩ h3⟩
    obtain ⟨as, kvs, rfl, h2, h3⟩ := all rl
    exact ⟨a, as, kvs, rfl, ha, h3, fun p hp => hk _ _ (k p) _ F _ (Step.made hp) (S.made hp (.dT (RelKV.merge h2 .nil))) (.ref p)⟩))
/-- {k: v for .. in xs}, read alone -/
theorem ef_dcT {tl : TE} {g : TG} {tk tv : TE} {vs : List Nat} (hg : GOk g vs) (h : Ef tl Γ O fun d O1 => ∃ (xs : List D) (kk : Nat → List Key) (ff : Nat → D), IsL O1 d xs ∧ xs.length < 1000000 ∧
      (∀ (i : Nat) c Dl, i < xs.length → Gf g (wipeC Γ vs) (xs.getD i .non) fun Γ2 => Ef tk Γ2 ((Dl, c) :: O1) fun y O2 => O2 = (Dl, c) :: O1 ∧ y = .tup ((kk i).map kD) ∧ Ef tv Γ2 ((Dl, c) :: O1) fun z O3 => O3 = (Dl, c) :: O1 ∧ z = ff i) ∧
      ∀ p, K (.ref p) ((p, .dT (mergeD [] ((List.range xs.length).map fun i => (kk i, ff i)))) :: O1)) : Ef (tDcT (iList Kf tl) g tYes tk tv vs) Γ O K := fun F H σ Q S hk =>
  h F H σ _ S fun d O1 ⟨xs, kk, ff, hl, hlen, hs, k⟩ v F1 H1 s1 S1 r1 => by
    obtain ⟨a, ws, rfl, hq, rl⟩ := hl.sq (Kf := Kf) S1 r1
    refine ⟨a, rfl, ⟨ws, hq⟩, fun Dl hDl => ?_⟩
    have Y := yields_list (Kf := Kf) (a := a) (d := d) (xs := xs)
    let at_ : Nat → List (List Key × D) := fun i => mergeD [] ((List.range i).map fun i => (kk i, ff i))
    have step : ∀ i, i < xs.length → at_ (i + 1) = putD (at_ i) (kk i) (ff i) := fun i hi => by
      show mergeD [] ((List.range (i + 1)).map _) = _
      rw [List.range_succ, List.map_append]
      unfold mergeD
      rw [List.foldl_append]
      rfl
    have S2 : Sat F1 (upd H1 Dl (.dT [])) σ Γ ((Dl, .dT (at_ 0)) :: O1) := S1.made hDl (.dT .nil)
    refine ⟨fun i m H2 => m = xs.length - i ∧ i ≤ xs.length ∧ ∃ F2, Step (dom O) (dom ((Dl, .dT (at_ i)) :: O1)) F H F2 H2 ∧ Sat F2 H2 σ Γ ((Dl, .dT (at_ i)) :: O1) ∧ Rel F2 d (.ref a), ⟨xs.length, by simp, Nat.zero_le _, F1, s1.trans (Step.made hDl), S2, r1⟩, ?_⟩
    rintro i m H2 ⟨rfl, hi, F2, s2, S2, r2⟩
    have Sb : Sat F2 H2 σ Γ O1 := ⟨S2.sub, S2.len, S2.slot, fun p hp => S2.own p (List.mem_cons_of_mem _ hp), (List.nodup_cons.mp S2.nd).2, S2.tups⟩
    by_cases hlt : i < xs.length
    · obtain ⟨hgo, hy⟩ := Y.go F2 H2 σ Γ O1 i Sb r2 hl hlt
      refine .inr ⟨hgo, fun H3 => ∃ F3, Step (dom O) (dom ((Dl, .dT (at_ (i + 1))) :: O1)) F H F3 H3 ∧ Sat F3 H3 σ Γ ((Dl, .dT (at_ (i + 1))) :: O1) ∧ Rel F3 d (.ref a), fun H3 ⟨F3, s3, S3, r3⟩ => ⟨xs.length - (i + 1), by omega, rfl, hlt, F3, s3, S3, r3⟩, ?_⟩
      rintro x H3 ⟨rfl, hx⟩
      obtain ⟨F3, s3, S3, rx⟩ := hy x H3 ⟨rfl, hx⟩
      have S3' : Sat F3 H3 σ Γ ((Dl, .dT (at_ i)) :: O1) := by
        refine ⟨S3.sub, S3.len, S3.slot, fun p hp => ?_, S2.nd, S3.tups⟩
        rcases List.mem_cons.mp hp with e | hp
        · subst e
          obtain ⟨f, o, ho, c⟩ := S2.own _ List.mem_cons_self
          refine ⟨?_, o, ho, c.mono s3.f⟩
          rcases none_or (H := F3) Dl with q | ⟨o', q⟩
          · exact q
          · rcases s3.new Dl o' q with z | z | z
            · rw [f] at z; cases z
            · rw [ho] at z; cases z
            · exact absurd z (List.nodup_cons.mp S2.nd).1
        · exact S3.own p hp
      have s3' : Step (dom ((Dl, C.dT (at_ i)) :: O1)) (dom ((Dl, C.dT (at_ i)) :: O1)) F2 H3 F3 H3 :=
        ⟨s3.f, fun b o hb e => s3.h b o (fun z => hb (List.mem_cons_of_mem _ z)) e, s3.there, fun b o e => (s3.new b o e).elim .inl fun z => z.elim (fun z => .inr (.inl z)) fun z => .inr (.inr (List.mem_cons_of_mem _ z)), fun a h => .inl h⟩
      have hh := hs i (.dT (at_ i)) Dl hlt F3 H3 (wipe σ vs) _ x (fun σ2 H3' => tYes σ2 H3' fun b H3 =>
        if b = true then tk σ2 H3 fun y H4 => tv σ2 H4 fun z H5 => ∃ kvs k b, y = .ref b ∧ H5 b = some (.tup (k.map kV)) ∧ H5 Dl = some (.dT kvs) ∧ kvs.length < sizeLine ∧ (fun H3 => ∃ F3, Step (dom O) (dom ((Dl, .dT (at_ (i + 1))) :: O1)) F H F3 H3 ∧ Sat F3 H3 σ Γ ((Dl, .dT (at_ (i + 1))) :: O1) ∧ Rel F3 d (.ref a)) (upd H5 Dl (.dT (putK kvs k z))) else (fun H3 => ∃ F3, Step (dom O) (dom ((Dl, .dT (at_ (i + 1))) :: O1)) F H F3 H3 ∧ Sat F3 H3 σ Γ ((Dl, .dT (at_ (i + 1))) :: O1) ∧ Rel F3 d (.ref a)) H3) (S3'.wiped vs) rx ?_
      · have q := hg _ _ _ _ hh
        rw [wipe_wipe vs vs fun _ h => h] at q
        exact q
      intro Γ2 hb σ2 S4
      unfold tYes
      dsimp only
      rw [if_pos rfl]
      refine hb F3 H3 σ2 _ S4 fun y O2 ⟨eO2, ey, hv⟩ w5 F5 H5 s5 S5 r5 => ?_
      subst eO2; subst ey
      refine hv F5 H5 σ2 _ S5 fun z O3 ⟨eO3, ez⟩ w6 F6 H6 s6 S6 r6 => ?_
      subst eO3; subst ez
      obtain ⟨f6, o6, h6, c6⟩ := S6.own _ List.mem_cons_self
      cases c6 with
      | dT rk =>
        cases r5 with
        | tup eb rb =>
          rename_i ks b bs
          rw [relL_keys rb] at eb
          have rk' : RelKV F6 (at_ (i + 1)) (putK ks (kk i) w6) := by
            rw [step i hlt]
            exact rk.put _ r6
          refine ⟨ks, _, b, rfl, S6.sub _ _ (s6.f _ _ eb), h6, ?_, F6, ?_, ?_, r2.mono ((s3.f.trans s5.f).trans s6.f)⟩
          · rw [← RelKV.length rk]
            have z : ∀ (l acc : List (List Key × D)), (mergeD acc l).length ≤ acc.length + l.length := by
              intro l
              induction l with
              | nil => intro acc; exact Nat.le_refl _
              | cons q l ih =>
                intro acc
                have h1 := ih (putD acc q.1 q.2)
                have h2 : (putD acc q.1 q.2).length ≤ acc.length + 1 := by
                  unfold putD
                  split
                  · rw [List.length_map]; omega
                  · rw [List.length_append]; exact Nat.le_refl _
                show (mergeD (putD acc q.1 q.2) l).length ≤ _
                rw [List.length_cons]
                omega
            have z2 := z ((List.range i).map fun i => (kk i, ff i)) []
            rw [List.length_map, List.length_range] at z2
            refine szlt (Nat.lt_of_le_of_lt z2 ?_)
            have z3 : ([] : List (List Key × D)).length = 0 := rfl
            omega
          · exact (((s2.trans s3').trans s5).trans s6).trans (Step.write (j := 0) (c' := .dT (at_ (i + 1))) rfl h6 f6)
          · have Sσ : Sat F6 H6 σ Γ ((Dl, .dT (at_ i)) :: O1) := ⟨S6.sub, S3.len, fun j e hj => by
              obtain ⟨u, a, b⟩ := S3.slot j e hj
              exact ⟨u, a, b.mono (s5.f.trans s6.f)⟩, S6.own, S6.nd, S6.tups⟩
            exact Sσ.write (j := 0) (c := .dT (at_ i)) rfl (.dT rk')
    · have ei : i = xs.length := by omega
      subst ei
      refine .inl ⟨Y.stop F2 H2 σ Γ O1 Sb r2 hl, ?_⟩
      exact hk _ _ (k Dl) _ F2 H2 s2 S2 (.ref Dl)
/-- repr -/
theorem ef_repr {te : TE} (h : Ef te Γ O fun d O1 => ∃ x, Pd O1 d x ∧ (∃ xs, x = .list xs ∨ x = .tuple xs) ∧ x.showable = true ∧ x.hasDict = false ∧ x.depth ≤ 60 ∧ x.shown.length ≤ sizeLine ∧ K (.str x.shown) O1) : Ef (tCB (rRepr Kf) (tCons te tNil)) Γ O K :=
  ef_cb (af_cons (h.mono fun d O1 ⟨x, hp, hx, h1, h2, h3, h4, k⟩ => af_nil fun F H σ Q vs S r hk => by
    obtain ⟨v, rfl, rv⟩ := relL1 r
    have hd : Dp Kf H v x := hp.dp S rv
    have hv : ∃ a, v = .ref a := by
      obtain ⟨xs, rfl | rfl⟩ := hx
      · cases hd with
        | lst _ _ => exact ⟨_, rfl⟩
      · cases hd with
        | tup _ _ => exact ⟨_, rfl⟩
    obtain ⟨a, rfl⟩ := hv
    exact ⟨a, x, rfl, hd, h1, h2, h3, h4, hk _ _ k _ F H Step.refl S (.str _)⟩))
end
end OW

/-! the law's own def: run once, where no repr is under way -/
namespace OW
open PySem PySem.Spec PyProof.Rows L2
/-- the law's call keeps the promise sp -/
def LawC (P : Program) (w : World) (K : PySem.W.Frag) (mg : Str → Option Value) (base : Heap) (fa : Addr) (fd : FuncData) (x : Str) (sp : Sp) : Prop :=
  ∀ (s : Shared) (H : Hp) (u : Value) (v : V) (Q : VK) (E : XK), Env0 P w K mg base callerA [] s H → BindsTo s fd ⟨[u], []⟩ [(x, u)] → RelV v u → sp [v] H Q E → codeAny (model P w) callerA (.call (.ref fa) ⟨[u], []⟩) (CR CX0 [] P w H s Q E) s
theorem lawC_of {P : Program} {w : World} {K : PySem.W.Frag} {mg : Str → Option Value} {base : Heap} {k : Nat} {f : Addr} {fd : FuncData} {name qual x : Str} {params : Arguments} {body : List Stmt} {scope : Scope} {N : List Str} {sp : Sp}
    (F : FunD K name qual params body scope [] [] f fd) (S : FnScope N [x] scope) (hr : Room (k + 1) callerA)
    (hbody : ∀ (cdv : Value) (s : Shared) (H : Hp) (v : V) (Q : VK) (E : XK), Room k (callerA.deeper (envOfC qual scope s.heap.objs.size f cdv)) → sp [v] H Q E →
      ∃ t, PSs (cxOf CX0 P w K mg base N qual scope f cdv callerA [] s H E).nox body t ∧ t { nx := fun _ H' => Q .non H', rt := Q } (L2.start N [v]) H) : LawC P w K mg base f fd x sp := by
  obtain ⟨oc, od, dV, kV, doc, pm, an, cdv, ct, osl, rfl, lk, hcd, _, _⟩ := F.ex
  intro s H u v Q E e0 hb r hsp
  have KX : K.In s.heap := e0.mod.kin.keeps fun b o e => (e0.bs b o e).1
  have lim : s.heap.NoLimit := e0.mod.nolimit.keeps fun b o e => (e0.bs b o e).1
  have px : scope.names.lookup x = some .local ∨ scope.names.lookup x = some .cell := S.par x List.mem_cons_self
  have hkind : ∀ y ∈ [(x, u)], scope.names.lookup y.1 = some .local ∨ (scope.names.lookup y.1 = some .cell ∧ ((cellsFrom (s.heap.objs.size + 1) scope.names []).lookup y.1).isSome = true) := fun y hy => by
    obtain rfl := List.mem_singleton.mp hy
    exact px.imp_right fun q => ⟨q, PySem.W.cellsFrom_some _ _ _ (.inl q)⟩
  refine codeAny_call_function hr.depth (KX _ _ lk) rfl S.co S.gen rfl (PySem.W.codeRec_of KX hcd) (hb _ _ _ _ ?_)
  refine wpAny_newFunctionEnv_cells S.kind hkind fun env he s1 xx => ?_
  subst he
  refine ⟨lim.keeps xx.toInCall.keep, codeAny_func ?_⟩
  obtain ⟨t, ht, hq⟩ := hbody cdv s H v Q E (hr.deeper _) hsp
  have I : Inv (cxOf CX0 P w K mg base N qual scope f cdv callerA [] s H E) [] (L2.start N [v]) H s1 := inv_start S hr.hd e0 rfl (.cons r .nil) xx
  refine wpAny_mono (ht.nox.run [] s1 (L2.start N [v]) H _ I hq) (fun fl s' hs => ?_) fun e s' hs => hs
  cases fl with
  | ret u' =>
    obtain ⟨v', σ', H', J, rv, q⟩ := hs
    exact ⟨v', H', J.os, J.bare, J.base, J.hok, rv, q⟩
  | next =>
    obtain ⟨σ', H', J, q⟩ := hs
    exact ⟨V.non, H', J.os, J.bare, J.base, J.hok, rfl, q⟩
  | brk =>
    obtain ⟨_, _, _, q⟩ := hs
    exact q.elim
  | cont =>
    obtain ⟨_, _, _, q⟩ := hs
    exact q.elim
/-- from the promise to the claim's call -/
theorem law_callC {P : Program} {w : World} {K : PySem.W.Frag} {mg mb : Str → Option Value} {fa a : Addr} {fd : FuncData} {x : Str} {sp : Sp} {s₁ : Shared} {vs : List Value} {ns : List Int}
    (KX : K.In s₁.heap) (hns : s₁.heap.Ns mainGlobals mg) (hb : s₁.heap.Ns builtinsNs mb) (hbb : ∀ x : Str, x ≠ "__name__" → mb x = bootBuiltins x) (hlim : s₁.heap.NoLimit) (hg : s₁.gens = #[])
    (ha : s₁.heap.get? a = some { cls := .type "list", data := .seq vs.toArray }) (hi : IntsAre vs ns) (hl : ns.length ≤ sizeLine)
    (F : ∀ base : Heap, K.In base → base.Ns mainGlobals mg → LawC P w K mg base fa fd x sp) (hbind : ∀ (s : Shared) (u : Value), BindsTo s fd ⟨[u], []⟩ [(x, u)])
    (hsp : ∀ H : Hp, Only H → SqL K H a (ns.map V.int) → sp [.ref a] H (fun v _ => v = .bl true) fun _ _ _ => False) :
    codeAny (model P w) callerA (.call (.ref fa) ⟨[.ref a], []⟩) (fun r s' => r = .ok (.ret (.bool true)) ∧ OldK s₁.heap s'.heap ∧ s'.os = s₁.os ∧ AllBare s'.gens) s₁ := by
  have rv : Vals (ns.map V.int) vs := vals_ints hi
  suffices ∃ H : Hp, Only H ∧ SqL K H a (ns.map V.int) ∧ HOk P w H s₁.heap ∧ (∀ b, H b ≠ none → b = a ∧ K.lookup a = none) by
    obtain ⟨H, hO, hS, hok, hA⟩ := this
    have off : ∀ {b : Addr} {o : Obj}, s₁.heap.get? b = some o → (∀ es ep, o.data = .dict es ep → H b = none) := fun {b o} e es ep d => by
      rcases none_or (H := H) b with q | ⟨u, q⟩
      · exact q
      · obtain ⟨rfl, _⟩ := hA b (by rw [q]; simp)
        rw [ha] at e
        obtain rfl := Option.some.inj e
        cases d
    have nsK : ∀ {b : Addr} {m : Str → Option Value}, s₁.heap.Ns b m → (hidT s₁.heap H).Ns b m := fun {b m} ⟨o, es, ep, e, d, r⟩ => ⟨o, es, ep, hidT_get e (off e es ep d), d, r⟩
    have hKb : K.In (hidT s₁.heap H) := fun b o e => hidT_get (KX b o e) (by
      rcases none_or (H := H) b with q | ⟨u, q⟩
      · exact q
      · obtain ⟨rfl, z⟩ := hA b (by rw [q]; simp)
        rw [z] at e
        cases e)
    have hM : Mod K mg (hidT s₁.heap H) := ⟨hKb, nsK hns, ⟨mb, nsK hb, hbb⟩, let ⟨mc, h1, h2⟩ := hlim; ⟨mc, nsK h1, h2⟩⟩
    have e0 : Env0 P w K mg (hidT s₁.heap H) callerA [] s₁ H := ⟨rfl, hM, fun b o e => of_hidT e, Nat.le_of_eq (hidT_size _ _), trivial, fun b hb => (by cases hb), hok, .of_eq hg⟩
    refine codeAny_mono (F _ hKb (nsK hns) s₁ H (.ref a) (.ref a) _ _ e0 (hbind s₁ (.ref a)) rfl (hsp H hO hS)) fun r s' h => ?_
    match r, h with
    | .ok (.ret u), ⟨v, H', os, bare, un, hok', r', q⟩ =>
      have q' : v = .bl true := q
      subst q'
      obtain rfl : u = Value.bool true := r'
      refine ⟨rfl, OldK.of_keep fun b o e => ?_, os, bare⟩
      rcases none_or (H := H) b with q | ⟨u, q⟩
      · exact un.keep b o e q (by intro z; cases z) (by simp)
      · rcases hO b with z | ⟨ob, xs, z⟩
        · rw [q] at z; cases z
        · obtain ⟨e1, _⟩ := hok b _ z
          obtain ⟨e2, _⟩ := hok' b _ (un.frzs b ob _ z)
          rw [e] at e1
          cases e1
          exact e2
  cases hk : K.lookup a with
  | some o =>
    have e := KX a o hk
    rw [ha] at e
    obtain rfl := Option.some.inj e
    exact ⟨fun _ => none, fun _ => .inl rfl, .inr ⟨_, vs.toArray, _, hk, rfl, rfl, rfl, by rw [List.size_toArray, hi.length]; exact hl, by simpa using rv⟩, fun b u z => (by cases z), fun b z => absurd rfl z⟩
  | none =>
    refine ⟨fun b => if b = a then some (.frz { cls := .type "list", data := .seq vs.toArray } (.lst (ns.map V.int))) else none, fun b => ?_, .inl (.inr ⟨_, if_pos rfl⟩), fun b u z => ?_, fun b z => ?_⟩
    · by_cases hb : b = a
      · exact .inr ⟨_, _, if_pos hb⟩
      · exact .inl (if_neg hb)
    · by_cases hb : b = a
      · have z' := (if_pos hb).symm.trans z
        cases z'
        subst hb
        exact ⟨ha, by rw [List.length_map]; exact hl, vs, _, rv, ha⟩
      · have z' := (if_neg hb).symm.trans z
        cases z'
    · by_cases hb : b = a
      · exact ⟨hb, rfl⟩
      · exact absurd (if_neg hb) z
theorem walk_ofC {l : PySem.W.OpenLaw} {n : Nat} {q : Program} {loose : List Str} {XP : (Str → Option Value) → Heap → Prop} {YP : World → Heap → Prop} {d : DefRec} {x : Str}
    (hn : l.most = some n) (hn2 : n ≤ sizeLine) (hdf : d.params.defaults = [])
    (F : ∀ (w : World) (mg : Str → Option Value) (fa : Addr) (h : Heap), YP w h → h.Ns mainGlobals mg → mg d.name = some (.ref fa) →
      ∃ (K : PySem.W.Frag) (fd : FuncData) (sp : Sp), K.In h ∧ (∀ (s : Shared) (u : Value), BindsTo s fd ⟨[u], []⟩ [(x, u)]) ∧
        (∀ (H : Hp) (a : Addr) (ns : List Int), ns.length ≤ n → Only H → SqL K H a (ns.map V.int) → sp [.ref a] H (fun v _ => v = .bl true) fun _ _ _ => False) ∧
        ∀ base : Heap, K.In base → base.Ns mainGlobals mg → LawC l.prog w K mg base fa fd x sp) :
    PySem.W.WalkO q loose XP YP l.row.toRowW d [] (fun f vs => PySem.call f vs) :=
  Att.attach_call hn hdf fun w s₀ s₁ mg mb fa o pm cd doc a vs ns G Y ho hd hcd hmg hobj hints hlen hg => by
    obtain ⟨K, fd, sp, KX, hb, hsp, hF⟩ := F w mg fa _ Y G.T.g hmg
    exact law_callC KX G.T.g G.T.b G.T.builtins G.T.nolimit hg hobj hints (Nat.le_trans hlen hn2) hF hb fun H hO hS => hsp H a ns hlen hO hS
end OW

/-! calls by bundles of facts; dict comprehensions stored; weakening; dice -/
namespace OW
open PySem PySem.Spec PyProof.Rows L2
/-- a def that is there and keeps its promise -/
def Cal (P : Program) (w : World) (K : PySem.W.Frag) (mg : Str → Option Value) (base : Heap) (k : Nat) (x : Str) (ps : List Str) (n : Nat) (Pr : Pre) : Prop :=
  ∃ f fd, FnOk P w K mg base CX0 k f fd ps (Fsp n Pr) ∧ mg x = some (.ref f) ∧ PySem.W.keepIn K (.ref f) = true ∧ Binds K fd ps []
section
variable {X : Cx}
theorem pe_callC {k j : Nat} {x : Str} {ps : List Str} {n : Nat} {Pr : Pre} {e : Expr} {es : List Expr} {t : TA} {p pos : Pos} (c : Cal X.prog X.w X.K X.mg X.base k x ps n Pr) (hr : Room j X.A) (hg : Gl X x) (ha : PA X (e :: es) t) (hj : k ≤ j := by decide)
    (hdb : (x == ("__debug__" : Str)) = false := by decide) (he : starEach (e :: es) X.env = (false, eval e X.env) :: starEach es X.env := by rfl) (hpl : (backTo pos (starEach es X.env)).any (·.1) = false := by rfl) :
    PE X (.Call (.Name x p) (e :: es) [] pos) (tCall (Fsp n Pr) [] E0 t) := by
  obtain ⟨f, fd, G, m, kp, b⟩ := c
  exact pe_call G (hr.mono hj) hg m kp b .nil pass0 ha hdb he hpl
theorem ps_setDcT {i : Nat} {y : Str} {py : Pos} {kx vx tg iter : Expr} {ifs : List Expr} {scope : Scope} {own : List (Str × Nat)} {pos spos : Pos} {wi : TI} {g : TG} {tt : TT} {tk tv : TE} (hc : X.calm = true) (hu : X.A.units < cLine) (hN : X.N.Nodup) (hy : X.N[i]? = some y) (hyl : X.env.scope.names.lookup y = some .local)
    (hsw : swapsWith (.DictComp kx vx [⟨tg, iter, ifs, 0⟩] scope pos) (some (.Name y py)) spos.line X.env = pure true) (hi : PI X tg iter wi) (ok : BlkOk X.N X.env.scope scope own)
    (hg : ∀ (s : Shared) (H : Hp) (C : Addr) (cl : List (Str × Addr)) (fp : List Addr), PG (X.blk s H scope (compEnvC scope cl C X.env) fp) tg g)
    (ht : ∀ (s : Shared) (H : Hp) (C : Addr) (cl : List (Str × Addr)) (fp : List Addr), PTs (X.blk s H scope (compEnvC scope cl C X.env) fp) ifs tt)
    (hk : ∀ (s : Shared) (H : Hp) (C : Addr) (cl : List (Str × Addr)) (fp : List Addr), PE (X.blk s H scope (compEnvC scope cl C X.env) fp) kx tk)
    (hv : ∀ (s : Shared) (H : Hp) (C : Addr) (cl : List (Str × Addr)) (fp : List Addr), PE (X.blk s H scope (compEnvC scope cl C X.env) fp) vx tv) (hs : ∀ x, foldedSetIterable iter X.env x = pure x := by intro _; rfl) :
    PS X (.Assign [.Name y py] (.DictComp kx vx [⟨tg, iter, ifs, 0⟩] scope pos) spos) (tAsg (tDcT wi g tt tk tv (own.map (·.2))) (gName i)) :=
  ⟨fun pins s σ H D I h => by
    rw [exec_Assign_Name_used _ _ _ _ hsw]
    refine wpAny_bind (wpAny_standAt (wpAny_bind ?_))
    show wpAny _ X.A (do let _ ← comprehension (.DictComp kx vx [⟨tg, iter, ifs, 0⟩] scope pos) scope X.env (firstIterPos [⟨tg, iter, ifs, 0⟩] pos) newDict false (eval iter X.env) (some (assign (.Name y py) X.env))) _ _ s
    have h : tDcT wi g tt tk tv (own.map (·.2)) σ H (fun x H1 => gName i x σ H1 D.nx) := h
    refine wpAny_bind (thn (dcT_core (Qf := fun _ s' => SP X pins D .next s') hc hu hN I hi ok hg ht hk hv hs h fun L C s' m H' I' q hn f => ?_) fun _ s' hq => wpAny_pure (wpAny_pure hq))
    show wpAny _ _ (assign (.Name y py) X.env (.ref L)) _ _ _
    refine wpAny_assign_Name (store_ok2 (v := V.ref L) I' hN hy (.inl hyl) rfl (fun s2 I2 ⟨a, sb, ha⟩ => ?_) (.inr hyl))
    obtain ⟨f0, f1, f2, f3, f4, f5⟩ := f
    have haC : C ≠ a := by
      rcases ha with z | z
      · rw [z]; exact f1
      · exact fun e => f4 y a z e.symm
    refine ⟨m, hn.sameBut sb haC, fun h3 sb3 => ?_⟩
    exact ⟨_, H', I2.turned (t' := s2.toks) (fun b o hb e => (sb3.2 b hb).trans e) f0 f1 f3 f4 f5, q⟩⟩
theorem sw_trueD {kx vx : Expr} {gs : List Comprehension} {scope : Scope} {pos py : Pos} {y : Str} {l : Nat} {env : Env} (hk : env.scope.kind = .function) (hy : env.scope.names.lookup y = some .local) (hl : (py.line == pos.line) = true)
    (ha : (scope.names.any fun (n, k) => n == y && (k == .local || k == .cell)) = false) : swapsWith (.DictComp kx vx gs scope pos) (some (.Name y py)) l env = pure true := by
  have ky : env.kindOf y = some .local := hy
  have hb : env.blockKind = .function := by unfold Env.blockKind; rw [hk]; rfl
  unfold swapsWith
  simp only [hb, ky, ha, Expr.pos, hl]
  rfl
end
/-- a def's text, walked -/
theorem mk_ok {P : Program} {w : World} {K : PySem.W.Frag} {mg : Str → Option Value} {base : Heap} {x qual : Str} {params : Arguments} {body : List Stmt} {scope : Scope} {f : Addr} {fd : FuncData} {N ps : List Str} {k n : Nat} {Pr : Pre} {t : TS}
    (F : FunD K x qual params body scope [] [] f fd) (S : FnScope N ps scope) (hn : ps.length = n) (hm : mg x = some (.ref f)) (hb : Binds K fd ps [])
    (hbody : ∀ (cdv : Value) (A : Around) (outer : List Env) (s : Shared) (H : Hp) (E : XK), Room k (A.deeper (envOfC qual scope s.heap.objs.size f cdv)) → PSs (cxOf CX0 P w K mg base N qual scope f cdv A outer s H E).nox body t)
    (hsf : ∀ ds O K, ds.length = n → Pr ds O K → Sf t (args ds N.length) O { nx := fun _ O' => K .non O', rt := K }) : Cal P w K mg base (k + 1) x ps n Pr := by
  refine ⟨f, fd, F.ok S (fun vs H Q E h => h.1.trans hn.symm) (fun cdv A outer s H vs Q E hr h => ⟨t, PSs.nox (hbody cdv A outer s H E hr), fn_body hsf vs H Q E h⟩), hm, F.kp, hb⟩
/-! ### weakening -/
def Wk (O O' : Own) : Prop := (∀ a ∈ dom O', a ∈ dom O) ∧ ∀ F H σ Γ, Sat F H σ Γ O → Sat F H σ Γ O'
theorem Wk.refl (O : Own) : Wk O O := ⟨fun _ h => h, fun _ _ _ _ s => s⟩
theorem Wk.trans {A B C : Own} (h : Wk A B) (k : Wk B C) : Wk A C := ⟨fun a m => h.1 a (k.1 a m), fun F H σ Γ s => k.2 _ _ _ _ (h.2 _ _ _ _ s)⟩
theorem Step.cut {A A' A'' : List Addr} {F H F' H' : Hp} (s : Step A A' F H F' H') (h : ∀ a ∈ A'', a ∈ A') : Step A A'' F H F' H' :=
  ⟨s.f, s.h, s.there, s.new, fun a m => s.own a (h a m)⟩
section
variable {Γ : Ctx} {O : Own} {K : KD}
theorem ef_wk {te : TE} (h : Ef te Γ O fun d O1 => ∃ O2, Wk O1 O2 ∧ K d O2) : Ef te Γ O K := fun F H σ Q S hk =>
  h F H σ Q S fun d O1 ⟨O2, w, k⟩ v F' H' s S' r => hk d O2 k v F' H' (s.cut w.1) (w.2 _ _ _ _ S') r
def Ks.wk (K : Ks) : Ks where
  nx Γ' O1 := ∃ O2, Wk O1 O2 ∧ K.nx Γ' O2
  rt d O1 := ∃ O2, Wk O1 O2 ∧ K.rt d O2
  bk Γ' O1 := ∃ O2, Wk O1 O2 ∧ K.bk Γ' O2
  ct Γ' O1 := ∃ O2, Wk O1 O2 ∧ K.ct Γ' O2
theorem sf_wk {ts : TS} {K : Ks} (h : Sf ts Γ O K.wk) : Sf ts Γ O K := fun F H σ E S e =>
  h F H σ E S ⟨fun Γ' O1 ⟨O2, w, k⟩ σ' F' H' s S' => e.nx Γ' O2 k σ' F' H' (s.cut w.1) (w.2 _ _ _ _ S'), fun d O1 ⟨O2, w, k⟩ v σ' Γ' F' H' s S' r => e.rt d O2 k v σ' Γ' F' H' (s.cut w.1) (w.2 _ _ _ _ S') r,
    fun Γ' O1 ⟨O2, w, k⟩ σ' F' H' s S' => e.bk Γ' O2 k σ' F' H' (s.cut w.1) (w.2 _ _ _ _ S'), fun Γ' O1 ⟨O2, w, k⟩ σ' F' H' s S' => e.ct Γ' O2 k σ' F' H' (s.cut w.1) (w.2 _ _ _ _ S')⟩
theorem upd_self {H : Hp} {a : Addr} {o : HO} (h : H a = some o) : upd H a o = H := by
  funext b
  by_cases hb : b = a
  · subst hb
    rw [upd_same]
    exact h.symm
  · rw [upd_ne hb]
theorem Sat.dget {F H : Hp} {σ : L2.St} {j : Nat} {a : Addr} {n : Nat} (S : Sat F H σ Γ O) (hj : O[j]? = some (a, .dice n)) : ∃ (ns : List Int) (spot more rest : Int), ns.length ≤ 63 ∧ 0 ≤ spot ∧ spot ≤ n ∧ Sat F H σ Γ (O.set j (a, .lst [.lst (ns.map .int), .int spot, .int more, .int rest])) := by
  obtain ⟨hf, o, ho, r⟩ := S.own _ (List.mem_of_getElem? hj)
  have r' : CRel F (.dice n) o := r
  have ho' : H a = some o := ho
  cases r' with
  | @dice b ns n spot more rest x l p q =>
    refine ⟨ns, spot, more, rest, l, p, q, ?_⟩
    have hr : CRel F (.lst [.lst (ns.map .int), .int spot, .int more, .int rest]) (.lst [.ref b, .int spot, .int more, .int rest]) := .lst (.cons (.lst x (RelL.of_ints _)) (.cons (.int _) (.cons (.int _) (.cons (.int _) .nil))))
    have z := S.write hj hr
    rw [upd_self ho'] at z
    exact z
theorem Sat.dput {F H : Hp} {σ : L2.St} {j : Nat} {a : Addr} {n : Nat} {ns : List Int} {spot more rest : Int} (S : Sat F H σ Γ O) (hj : O[j]? = some (a, .lst [.lst (ns.map .int), .int spot, .int more, .int rest])) (hl : ns.length ≤ 63) (h0 : 0 ≤ spot) (h1 : spot ≤ n) : Sat F H σ Γ (O.set j (a, .dice n)) := by
  obtain ⟨hf, o, ho, r⟩ := S.own _ (List.mem_of_getElem? hj)
  have r' : CRel F (.lst [.lst (ns.map .int), .int spot, .int more, .int rest]) o := r
  have ho' : H a = some o := ho
  have : ∃ b, o = .lst [.ref b, .int spot, .int more, .int rest] ∧ F b = some (.lst (ns.map V.int)) := by
    cases r' with
    | lst x =>
      cases x with
      | cons r1 x =>
        cases r1 with
        | lst e y =>
          rw [RelL.ints y] at e
          cases x with
          | cons r2 x => cases r2; cases x with
            | cons r3 x => cases r3; cases x with
              | cons r4 x =>
                cases r4
                cases x
                exact ⟨_, rfl, e⟩
  obtain ⟨b, rfl, e⟩ := this
  have z := S.write hj (CRel.dice (rest := rest) (more := more) e hl h0 h1)
  rw [upd_self ho'] at z
  exact z
/-- the dice are opened -/
theorem sf_open {ts : TS} {K : Ks} {j : Nat} {a : Addr} {n : Nat} (hj : O[j]? = some (a, .dice n))
    (h : ∀ (ns : List Int) (spot more rest : Int), ns.length ≤ 63 → 0 ≤ spot → spot ≤ n → Sf ts Γ (O.set j (a, .lst [.lst (ns.map .int), .int spot, .int more, .int rest])) K) : Sf ts Γ O K := fun F H σ E S e => by
  obtain ⟨ns, spot, more, rest, l, p, q, S'⟩ := S.dget hj
  have hd : dom (O.set j (a, .lst [.lst (ns.map .int), .int spot, .int more, .int rest])) = dom O := set_dom hj
  refine h ns spot more rest l p q F H σ E S' ⟨fun Γ' O' k σ' F' H' s => e.nx Γ' O' k σ' F' H' ?_, fun d O' k v σ' Γ' F' H' s => e.rt d O' k v σ' Γ' F' H' ?_, fun Γ' O' k σ' F' H' s => e.bk Γ' O' k σ' F' H' ?_, fun Γ' O' k σ' F' H' s => e.ct Γ' O' k σ' F' H' ?_⟩ <;> rw [← hd] <;> exact s
def tk (c : Nat) : C → C
  | .dice n => .dice (n + c)
  | x => x
def tick (c : Nat) (O : Own) : Own := O.map fun p => (p.1, tk c p.2)
theorem tick_dom {c : Nat} {O : Own} : dom (tick c O) = dom O := by
  unfold tick dom
  rw [List.map_map]
  rfl
theorem tk_tk {c d : Nat} {x : C} : tk c (tk d x) = tk (d + c) x := by
  cases x <;> simp [tk, Nat.add_assoc]
theorem tick_tick {c d : Nat} {O : Own} : tick c (tick d O) = tick (d + c) O := by
  unfold tick
  rw [List.map_map]
  congr 1
  funext p
  show (p.1, tk c (tk d p.2)) = _
  rw [tk_tk]
theorem tick_cons {c : Nat} {p : Addr} {x : C} : tick c ((p, x) :: O) = (p, tk c x) :: tick c O := rfl
theorem tick_app {c : Nat} {A B : Own} : tick c (A ++ B) = tick c A ++ tick c B := List.map_append
theorem CRel.tk {F : Hp} {x : C} {o : HO} {c : Nat} (h : CRel F x o) : CRel F (tk c x) o := by
  cases h with
  | lst r => exact .lst r
  | dT r => exact .dT r
  | dK r => exact .dK r
  | dice a b p q => exact .dice a b p (by omega)
theorem wk_tick (c : Nat) (O : Own) : Wk O (tick c O) := by
  refine ⟨fun a h => by rw [tick_dom] at h; exact h, fun F H σ Γ S => ⟨S.sub, S.len, S.slot, fun p hp => ?_, by rw [tick_dom]; exact S.nd, S.tups⟩⟩
  obtain ⟨q, hq, e⟩ := List.mem_map.mp hp
  subst e
  obtain ⟨f, o, ho, r⟩ := S.own q hq
  exact ⟨f, o, ho, r.tk⟩
theorem wk_ticks {c d : Nat} (h : c ≤ d) (O : Own) : Wk (tick c O) (tick d O) := by
  have e : tick d O = tick (d - c) (tick c O) := by rw [tick_tick]; congr 1; omega
  rw [e]
  exact wk_tick _ _
theorem Wk.app {X A B : Own} (h : Wk A B) (hd : dom A = dom B) : Wk (X ++ A) (X ++ B) := by
  have e : dom (X ++ B) = dom (X ++ A) := by simp [dom, List.map_append]; exact (hd.symm : _)
  refine ⟨fun a m => by rw [e] at m; exact m, fun F H σ Γ S => ⟨S.sub, S.len, S.slot, fun p hp => ?_, by rw [e]; exact S.nd, S.tups⟩⟩
  rcases List.mem_append.mp hp with m | m
  · exact S.own p (List.mem_append_left _ m)
  · have S' : Sat F H σ Γ A := ⟨S.sub, S.len, S.slot, fun q hq => S.own q (List.mem_append_right _ hq), by
      have := S.nd
      simp only [dom, List.map_append] at this
      exact (List.nodup_append.mp this).2.1, S.tups⟩
    exact (h.2 F H σ Γ S').own p m
def HasDice (O : Own) (a : Addr) (m : Nat) : Prop := ∃ (j n : Nat), O[j]? = some (a, .dice n) ∧ n + m ≤ 1000000
theorem HasDice.cons {a : Addr} {m : Nat} (h : HasDice O a m) (p : Addr × C) : HasDice (p :: O) a m := let ⟨j, n, e, l⟩ := h; ⟨j + 1, n, e, l⟩
theorem HasDice.app {a : Addr} {m : Nat} (h : HasDice O a m) (X : Own) : HasDice (X ++ O) a m := by
  induction X with
  | nil => exact h
  | cons p X ih => exact ih.cons p
theorem HasDice.less {a : Addr} {m k : Nat} (h : HasDice O a m) (l : k ≤ m) : HasDice O a k := let ⟨j, n, e, z⟩ := h; ⟨j, n, e, by omega⟩
theorem HasDice.tick {a : Addr} {m c : Nat} (h : HasDice O a (m + c)) : HasDice (tick c O) a m := by
  obtain ⟨j, n, e, l⟩ := h
  refine ⟨j, n + c, ?_, by omega⟩
  unfold OW.tick
  rw [List.getElem?_map, e]
  rfl
theorem IsL.cons {d : D} {xs : List D} (h : IsL O d xs) (p : Addr × C) : IsL (p :: O) d xs := by
  cases h with
  | im => exact .im _
  | own j e => exact .own (j + 1) e
theorem IsL.app {d : D} {xs : List D} (h : IsL O d xs) (X : Own) : IsL (X ++ O) d xs := by
  induction X with
  | nil => exact h
  | cons p X ih => exact ih.cons p
theorem IsL.tick {d : D} {xs : List D} {c : Nat} (h : IsL O d xs) : IsL (tick c O) d xs := by
  cases h with
  | im => exact .im _
  | own j e =>
    refine .own j ?_
    unfold OW.tick
    rw [List.getElem?_map, e]
    rfl
end
end OW

/-! short names for readings; the builtins -/
namespace OW
open PySem PySem.Spec PyProof.Rows L2
abbrev rLt : R2 := rI0 fun i j => .bl (decide (i < j))
abbrev rLe : R2 := rI0 fun i j => .bl (decide (i ≤ j))
abbrev rGt : R2 := rI0 fun i j => .bl (decide (j < i))
abbrev rGe : R2 := rI0 fun i j => .bl (decide (j ≤ i))
abbrev rAdd : R2 := rI0 fun i j => .int (i + j)
abbrev rSub : R2 := rI0 fun i j => .int (i - j)
abbrev rMul : R2 := rI CMul fun i j => .int (i * j)
abbrev rMod : R2 := rI (fun _ j => 0 < j) fun i j => .int (i % j)
abbrev rFdiv : R2 := rI CDiv fun i j => .int (i / j)
abbrev rPow : R2 := rI CPow fun i j => .int (i ^ j.toNat)
structure Bu (mg : Str → Option Value) : Prop where
  len_ : mg "len" = none
  range_ : mg "range" = none
  sorted_ : mg "sorted" = none
  list_ : mg "list" = none
  tuple_ : mg "tuple" = none
  set_ : mg "set" = none
  sum_ : mg "sum" = none
  int_ : mg "int" = none
  dict_ : mg "dict" = none
  enumerate_ : mg "enumerate" = none
  zip_ : mg "zip" = none
  repr_ : mg "repr" = none
  isinstance_ : mg "isinstance" = none
  all_ : mg "all" = none
  bool_ : mg "bool" = none
theorem b_len : bootBuiltins "len" = some (.builtin "len") := by decide +kernel
theorem b_sorted : bootBuiltins "sorted" = some (.builtin "sorted") := by decide +kernel
theorem b_list : bootBuiltins "list" = some (.type "list") := by decide +kernel
theorem b_tuple : bootBuiltins "tuple" = some (.type "tuple") := by decide +kernel
theorem b_set : bootBuiltins "set" = some (.type "set") := by decide +kernel
theorem b_sum : bootBuiltins "sum" = some (.builtin "sum") := by decide +kernel
theorem b_int : bootBuiltins "int" = some (.type "int") := by decide +kernel
theorem b_dict : bootBuiltins "dict" = some (.type "dict") := by decide +kernel
theorem b_repr : bootBuiltins "repr" = some (.builtin "repr") := by decide +kernel
theorem hu65 {A : Around} {k : Nat} (hr : Room k A) : A.units + 65 < cLine := by
  have := hr.un
  omega
theorem hu3 {A : Around} {k : Nat} (hr : Room k A) : A.units + 3 < cLine := Nat.lt_of_le_of_lt (Nat.add_le_add_left (by decide : 3 ≤ 64) _) hr.units
theorem hu0 {A : Around} {k : Nat} (hr : Room k A) : A.units < cLine := Nat.lt_of_le_of_lt (Nat.le_add_right _ 64) hr.units
end OW

/-! stepping; the dice's roll -/
namespace OW
open PySem PySem.Spec PyProof.Rows L2
theorem wk_close {O : Own} {j : Nat} {a : Addr} {n : Nat} {ns : List Int} {spot more rest : Int} (hj : O[j]? = some (a, .dice n)) (hl : ns.length ≤ 63) (h0 : 0 ≤ spot) (h1 : spot ≤ n + 1) :
    Wk (O.set j (a, .lst [.lst (ns.map .int), .int spot, .int more, .int rest])) (tick 1 O) := by
  refine ⟨fun b h => by rw [tick_dom] at h; rw [set_dom hj]; exact h, fun F H σ Γ S => ?_⟩
  have hlt := (List.getElem?_eq_some_iff.mp hj).1
  have S2 : Sat F H σ Γ (O.set j (a, .dice (n + 1))) := by
    have z := S.dput (n := n + 1) (List.getElem?_set_self hlt) hl h0 (by omega)
    rwa [List.set_set] at z
  refine ⟨S2.sub, S2.len, S2.slot, fun p hp => ?_, by rw [tick_dom, ← set_dom (c' := .dice (n + 1)) hj]; exact S2.nd, S2.tups⟩
  obtain ⟨q, hq, rfl⟩ := List.mem_map.mp hp
  obtain ⟨i, hi⟩ := List.getElem?_of_mem hq
  by_cases e : j = i
  · subst e
    rw [hj] at hi
    cases hi
    exact S2.own (a, .dice (n + 1)) (List.mem_of_getElem? (List.getElem?_set_self hlt))
  · obtain ⟨f, o, ho, r⟩ := S2.own q (List.mem_of_getElem? (i := i) (by rw [List.getElem?_set_ne e]; exact hi))
    exact ⟨f, o, ho, r.tk⟩
theorem sf_cut {t u : TS} {K : Ks} {Γ : Ctx} {O : Own} (M : Ctx → Own → Prop) (h : Sf t Γ O { K with nx := M }) (k : ∀ Γ' O', M Γ' O' → Sf u Γ' O' K) : Sf (tSeq t u) Γ O K :=
  sf_seq (h.mono k (fun _ _ z => z) (fun _ _ z => z) (fun _ _ z => z))
theorem pdL_ints {O : Own} : ∀ ns : List Int, PdL O (ns.map .int) (ns.map .int)
  | [] => .nil
  | n :: ns => .cons (.int n) (pdL_ints ns)
theorem canLay_ints : ∀ ns : List Int, PyData.canLayAll0 (ns.map .int) = true
  | [] => rfl
  | n :: ns => by
    show (PyData.canLay0 (.int n) && PyData.canLayAll0 (ns.map .int)) = true
    rw [canLay_ints ns]
    rfl
theorem depth_ints : ∀ ns : List Int, PyData.depthAll (ns.map .int) = 0
  | [] => rfl
  | n :: ns => by
    show max (PyData.depth (.int n)) (PyData.depthAll (ns.map .int)) = 0
    rw [depth_ints ns]
    rfl
theorem shaped_ints (ns : List Int) : SeqAt.shaped (.list (ns.map .int)) = true := by
  unfold SeqAt.shaped
  rw [Bool.and_eq_true]
  refine ⟨canLay_ints ns, decide_eq_true ?_⟩
  show PyData.depthAll (ns.map .int) + 1 ≤ 64
  rw [depth_ints]
  decide
theorem atI_at {xs : List D} {i : Int} {n : Nat} (h0 : 0 ≤ i) (h : i.toNat = n) (hn : n < xs.length) : atI xs i = some xs[n] := by
  subst h
  have e : ixN xs.length i = some i.toNat := by
    unfold ixN
    rw [if_pos h0, if_pos (by omega)]
  show (ixN xs.length i).bind (fun j => xs[j]?) = _
  rw [e]
  exact List.getElem?_eq_getElem hn
def pRoll : Pre := fun ds O Kd => ∃ (a : Addr) (size : Int), ds = [.ref a, .int size] ∧ HasDice O a 1 ∧ 0 < size ∧ size < 1073741824 ∧ ∀ r : Int, 0 ≤ r → r < size → Kd (.int r) (tick 1 O)
end OW

/-! tools: typed walks, dicts of numbers, thawing, weakening, sorting -/
namespace OW
open PySem PySem.Spec PyProof.Rows L2
local macro_rules | `(tactic| walk_at "ow") => `(tactic| first
  | with_reducible refine sf_seq ?_
  | with_reducible refine sf_asg ?_
  | with_reducible refine sf_drop ?_
  | with_reducible refine sf_ret ?_
  | with_reducible refine sf_next ?_
  | (with_reducible apply ef_var; rfl)
  | with_reducible refine ef_int ?_
  | with_reducible refine ef_bl ?_
  | with_reducible refine ef_non ?_
  | with_reducible refine gf_name ?_
  | with_reducible refine gfs_nil ?_
  | with_reducible refine gfs_cons ?_
  | (with_reducible refine gf_tup ?_ ?_; rfl)
  | with_reducible refine tf_test ?_
  | with_reducible refine tf_yes ?_
  | with_reducible refine tf_B ?_
  | with_reducible refine af_cons ?_
  | with_reducible refine af_nil ?_
  | with_reducible refine ef_call ?_
  | with_reducible refine ef_I0i ?_
  | with_reducible refine ef_I0b ?_
  | with_reducible refine ef_I ?_
  | with_reducible refine ef_neg ?_
  | with_reducible refine ef_ixL ?_
  | with_reducible refine ef_ixT ?_
  | with_reducible refine ef_len ?_
  | with_reducible refine ef_tup ?_)
/-! ### numbers as keys -/
theorem intKs_kD (n : List Int) : (intKs n).map kD = n.map .int := by
  unfold intKs
  rw [List.map_map]
  rfl
theorem num_eq (n : List Int) : num n = .tup ((intKs n).map kD) := by
  rw [intKs_kD]
  rfl
theorem intKs_inj {m n : List Int} (h : intKs m = intKs n) : m = n := by
  have e : (intKs m).map (fun | .inl i => i | .inr _ => 0) = (intKs n).map (fun | .inl i => i | .inr _ => 0) := by rw [h]
  unfold intKs at e
  rw [List.map_map, List.map_map] at e
  have z : ∀ l : List Int, l.map ((fun | .inl i => i | .inr _ => 0 : Key → Int) ∘ Sum.inl) = l := fun l => by
    induction l with
    | nil => rfl
    | cons a l ih => rw [List.map_cons, ih]; rfl
  rwa [z, z] at e
abbrev ND := List (List Int × D)
def dN (m : ND) : C := .dT (m.map fun p => (intKs p.1, p.2))
def lookN (m : ND) (n : List Int) : Option D := (m.find? fun p => decide (p.1 = n)).map (·.2)
def putN (m : ND) (n : List Int) (d : D) : ND := if (m.any fun p => decide (p.1 = n)) = true then m.map (fun p => if p.1 = n then (p.1, d) else p) else m ++ [(n, d)]
theorem dec_key (m n : List Int) : decide (intKs m = intKs n) = decide (m = n) := by
  by_cases h : m = n
  · subst h
    rw [decide_eq_true rfl, decide_eq_true rfl]
  · rw [decide_eq_false h, decide_eq_false fun z => h (intKs_inj z)]
theorem valD_num (m : ND) (n : List Int) : valD (m.map fun p => (intKs p.1, p.2)) (intKs n) = lookN m n := by
  unfold valD lookN
  induction m with
  | nil => rfl
  | cons p m ih =>
    rw [List.map_cons, List.find?_cons, List.find?_cons, dec_key]
    cases decide (p.1 = n)
    · exact ih
    · rfl
theorem any_num (m : ND) (n : List Int) : ((m.map fun p => (intKs p.1, p.2)).any fun kv => decide (kv.1 = intKs n)) = m.any fun p => decide (p.1 = n) := by
  induction m with
  | nil => rfl
  | cons p m ih =>
    rw [List.map_cons, List.any_cons, List.any_cons, dec_key, ih]
theorem putD_num (m : ND) (n : List Int) (d : D) : putD (m.map fun p => (intKs p.1, p.2)) (intKs n) d = (putN m n d).map fun p => (intKs p.1, p.2) := by
  unfold putD putN
  rw [any_num]
  split
  · rw [List.map_map, List.map_map]
    congr 1
    funext p
    show (if intKs p.1 = intKs n then (intKs p.1, d) else (intKs p.1, p.2)) = _
    by_cases h : p.1 = n
    · rw [if_pos (by rw [h])]
      show _ = (intKs (if p.1 = n then (p.1, d) else p).1, (if p.1 = n then (p.1, d) else p).2)
      rw [if_pos h]
    · rw [if_neg fun z => h (intKs_inj z)]
      show _ = (intKs (if p.1 = n then (p.1, d) else p).1, (if p.1 = n then (p.1, d) else p).2)
      rw [if_neg h]
  · rw [List.map_append]
    rfl
theorem isK_num (m : ND) (n : List Int) : IsK (num n) (dN m) (lookN m n) := by
  rw [num_eq, ← valD_num]
  exact .t _ _
theorem putC_num {m : ND} {n : List Int} {d : D} (h : m.length < 1000000) : PutC (num n) d (dN m) (dN (putN m n d)) := by
  rw [num_eq]
  unfold dN
  rw [← putD_num]
  exact .t _ _ _ (by rw [List.length_map]; exact h)
theorem putN_len (m : ND) (n : List Int) (d : D) : (putN m n d).length ≤ m.length + 1 := by
  unfold putN
  split
  · rw [List.length_map]; omega
  · rw [List.length_append]; exact Nat.le_refl _
theorem lookN_put (m : ND) (n : List Int) (d : D) (k : List Int) : lookN (putN m n d) k = if k = n then some d else lookN m k := by
  unfold lookN putN
  by_cases ha : (m.any fun p => decide (p.1 = n)) = true
  · rw [if_pos ha]
    induction m with
    | nil => cases ha
    | cons p m ih =>
      rw [List.map_cons, List.find?_cons, List.find?_cons]
      by_cases hp : p.1 = n
      · rw [if_pos hp]
        by_cases hk : k = n
        · subst hk
          rw [decide_eq_true hp, if_pos rfl]
          rfl
        · rw [decide_eq_false (fun z => hk (by rw [← z, hp]) : ¬ p.1 = k), if_neg hk]
          have : ∀ l : ND, ((l.map fun p => if p.1 = n then (p.1, d) else p).find? fun p => decide (p.1 = k)).map (·.2) = (l.find? fun p => decide (p.1 = k)).map (·.2) := fun l => by
            induction l with
            | nil => rfl
            | cons q l ih =>
              rw [List.map_cons, List.find?_cons, List.find?_cons]
              by_cases hq : q.1 = n
              · rw [if_pos hq, decide_eq_false (fun z => hk (by rw [← z, hq]) : ¬ q.1 = k)]
                exact ih
              · rw [if_neg hq]
                cases decide (q.1 = k)
                · exact ih
                · rfl
          exact this m
      · rw [if_neg hp]
        rw [List.any_cons, decide_eq_false hp, Bool.false_or] at ha
        cases hq : decide (p.1 = k) with
        | true =>
          rw [if_neg (fun z => hp (by rw [of_decide_eq_true hq, z]))]
        | false => exact ih ha
  · rw [if_neg ha]
    have hn : ∀ p ∈ m, p.1 ≠ n := fun p hp e => ha (List.any_eq_true.mpr ⟨p, hp, decide_eq_true e⟩)
    rw [List.find?_append]
    by_cases hk : k = n
    · subst hk
      rw [if_pos rfl]
      have : (m.find? fun p => decide (p.1 = k)) = none := List.find?_eq_none.mpr fun p hp z => hn p hp (of_decide_eq_true z)
      rw [this]
      show (([(k, d)] : ND).find? fun p => decide (p.1 = k)).map (·.2) = _
      rw [List.find?_cons, decide_eq_true rfl]
      rfl
    · rw [if_neg hk]
      have : (([(n, d)] : ND).find? fun p => decide (p.1 = k)) = none := by
        rw [List.find?_cons, decide_eq_false (fun z => hk z.symm : ¬ n = k)]
        rfl
      rw [this, Option.or_none]
theorem putD_new {κ : Type} [DecidableEq κ] {kvs : List (κ × D)} {k : κ} {d : D} (h : k ∉ kvs.map (·.1)) : putD kvs k d = kvs ++ [(k, d)] := by
  unfold putD
  rw [if_neg]
  intro z
  obtain ⟨p, hp, e⟩ := List.any_eq_true.mp z
  exact h (List.mem_map.mpr ⟨p, hp, of_decide_eq_true e⟩)
theorem mergeD_nd : ∀ (ps acc : List (List Key × D)), (acc ++ ps).map (·.1) |>.Nodup → mergeD acc ps = acc ++ ps
  | [], acc, _ => by rw [List.append_nil]; rfl
  | p :: ps, acc, h => by
    have e : acc ++ p :: ps = (acc ++ [p]) ++ ps := by rw [List.append_assoc]; rfl
    have hp : p.1 ∉ acc.map (·.1) := fun z => by
      rw [List.map_append, List.nodup_append] at h
      exact h.2.2 _ z _ (List.mem_map.mpr ⟨p, List.mem_cons_self, rfl⟩) rfl
    show mergeD (putD acc p.1 p.2) ps = _
    rw [putD_new hp, mergeD_nd ps (acc ++ [(p.1, p.2)]) (by rw [← e]; exact h), e]
theorem mergeD_num (m : ND) (h : (m.map (·.1)).Nodup) : C.dT (mergeD [] (m.map fun p => (intKs p.1, p.2))) = dN m := by
  rw [mergeD_nd]
  · rfl
  · rw [List.nil_append, List.map_map]
    have : (fun p : List Int × D => intKs p.1) = intKs ∘ (·.1) := rfl
    show (m.map fun p => intKs p.1).Nodup
    rw [this, ← List.map_map]
    exact List.Pairwise.map _ (fun a b hab z => hab (intKs_inj z)) h
/-! ### weakening: what is no longer wanted is let go -/
section
variable {Γ : Ctx} {O : Own} {K : KD} {Kf : PySem.W.Frag}
theorem wk_mid (A B : Own) (x : Addr × C) : Wk (A ++ x :: B) (A ++ B) := by
  have hd : dom (A ++ x :: B) = dom A ++ x.1 :: dom B := by simp [dom]
  have hd2 : dom (A ++ B) = dom A ++ dom B := by simp [dom]
  refine ⟨fun a h => by rw [hd2] at h; rw [hd]; exact (List.mem_append.mp h).elim (fun z => List.mem_append_left _ z) fun z => List.mem_append_right _ (List.mem_cons_of_mem _ z), fun F H σ Γ S => ⟨S.sub, S.len, S.slot, fun p hp => S.own p ?_, ?_, S.tups⟩⟩
  · exact (List.mem_append.mp hp).elim (fun z => List.mem_append_left _ z) fun z => List.mem_append_right _ (List.mem_cons_of_mem _ z)
  · have z := S.nd
    rw [hd] at z
    rw [hd2]
    exact z.sublist (List.Sublist.append_left (List.sublist_cons_self _ _) _)
theorem wk_drop (x : Addr × C) (O : Own) : Wk (x :: O) O := wk_mid [] O x
theorem wk_app : ∀ (A O : Own), Wk (A ++ O) O
  | [], O => Wk.refl O
  | x :: A, O => (wk_drop x (A ++ O)).trans (wk_app A O)
theorem Ks.wk_rt {Kd : KD} {n : Ctx → Own → Prop} {d : D} {O1 O2 : Own} (w : Wk O1 O2) (k : Kd d O2) : (Ks.wk { nx := n, rt := Kd }).rt d O1 := ⟨O2, w, k⟩
/-! ### thawing: an owned list that is not written any more is known -/
mutual
def frzD (p : Addr) (xs : List D) : D → D
  | .ref a => if a = p then .lst xs else .ref a
  | .tup ys => .tup (frzDs p xs ys)
  | .lst ys => .lst (frzDs p xs ys)
  | .non => .non
  | .bl b => .bl b
  | .int i => .int i
  | .str x => .str x
  | .ty n => .ty n
def frzDs (p : Addr) (xs : List D) : List D → List D
  | [] => []
  | d :: ds => frzD p xs d :: frzDs p xs ds
end
mutual
theorem Rel.frz {F : Hp} {p : Addr} {xs : List D} (h : Rel F (.lst xs) (.ref p)) : ∀ {d : D} {v : V}, Rel F d v → Rel F (frzD p xs d) v
  | _, _, .non => .non
  | _, _, .bl b => .bl b
  | _, _, .int b => .int b
  | _, _, .str b => .str b
  | _, _, .ref a => by
    show Rel F (if a = p then .lst xs else .ref a) _
    by_cases e : a = p
    · subst e
      rw [if_pos rfl]
      exact h
    · rw [if_neg e]
      exact .ref a
  | _, _, .ty b => .ty b
  | _, _, .tup e r => .tup e (RelL.frz h r)
  | _, _, .lst e r => .lst e (RelL.frz h r)
theorem RelL.frz {F : Hp} {p : Addr} {xs : List D} (h : Rel F (.lst xs) (.ref p)) : ∀ {ds : List D} {vs : List V}, RelL F ds vs → RelL F (frzDs p xs ds) vs
  | _, _, .nil => .nil
  | _, _, .cons a b => .cons (Rel.frz h a) (RelL.frz h b)
end
def KD.frz (K : KD) : KD := fun d O1 => K d O1 ∨ ∃ p xs O2, O1 = (p, .lst xs) :: O2 ∧ K (frzD p xs d) O2
theorem frz_aft {σ : L2.St} {F H : Hp} {Q : VK} (hk : ∀ d O', K d O' → Aft σ Γ O F H Q d O') {d : D} {O' : Own} (h : K.frz d O') : Aft σ Γ O F H Q d O' := fun v F' H' s S r => by
  rcases h with k | ⟨p, xs, O2, rfl, k⟩
  · exact hk d O' k v F' H' s S r
  · obtain ⟨F2, S2, s2, r2, f2⟩ := S.frz s
    exact hk _ O2 k v F2 H' s2 S2 (r2.frz (r.mono f2))
theorem ef_frz {te : TE} (h : Ef te Γ O K.frz) : Ef te Γ O K := fun F H σ Q S hk => h F H σ Q S fun d O' k => frz_aft hk k
theorem sf_ret_frz {te : TE} {K : Ks} (h : Ef te Γ O K.rt.frz) : Sf (tRet te) Γ O K := sf_ret (ef_frz h)
/-! ### typed walks -/
theorem map_getD {α : Type} (ys : List α) (y : α → D) {i : Nat} (h : i < ys.length) : (ys.map y).getD i .non = y ys[i] := by
  rw [getD_at (by rw [List.length_map]; exact h), List.getElem_map]
theorem turns_typed {α : Type} {g : TG} {tt : TT} {te : TE} {vs : List Nat} {n : Nat} {y0 : Nat → D} {O1 : Own} {ok : Own → Prop} {Fin : List D → Own → Prop} (ys : List α) (hn : ys.length = n) (hb : n < 1000000) (p : α → Bool) (f : α → D) (hok : ok O1)
    (hs : ∀ (i : Nat) (h : i < ys.length) acc Dl, Gf g (wipeC Γ vs) (y0 i) fun Γ2 => Tf tt Γ2 ((Dl, .lst acc) :: O1) fun b O2 => O2 = (Dl, .lst acc) :: O1 ∧ b = p ys[i] ∧ (b = true → Ef te Γ2 ((Dl, .lst acc) :: O1) fun z O3 => O3 = (Dl, .lst acc) :: O1 ∧ z = f ys[i]))
    (hd : Fin ((ys.filter p).map f) O1) : Turns g tt te Γ vs n y0 O1 ok Fin := by
  subst hn
  refine ⟨fun i acc O' => O' = O1 ∧ acc = ((ys.take i).filter p).map f, ⟨rfl, rfl⟩, ?_, ?_, ?_⟩
  · rintro i acc O' hi ⟨rfl, rfl⟩
    refine ⟨hok, ?_⟩
    rw [List.length_map]
    have h := List.length_filter_le p (ys.take i)
    rw [List.length_take] at h
    omega
  · rintro i acc O' Dl hi ⟨rfl, rfl⟩ F H σ O v Q S r hk
    refine hs i hi _ Dl F H σ O v Q S r fun Γ2 h2 => hk Γ2 (h2.mono fun b O2 ⟨e2, eb, h3⟩ => ?_)
    subst e2
    cases hb : b with
    | true =>
      rw [if_pos rfl]
      refine (h3 hb).mono fun z O3 ⟨e3, ez⟩ => ⟨O', e3, rfl, ?_⟩
      rw [List.take_succ_eq_append_getElem hi, List.filter_append, List.map_append, List.filter_cons, if_pos (by rw [← eb]; exact hb), ez]
      rfl
    | false =>
      rw [if_neg Bool.false_ne_true]
      refine ⟨O', rfl, rfl, ?_⟩
      rw [List.take_succ_eq_append_getElem hi, List.filter_append, List.map_append, List.filter_cons, if_neg (by rw [← eb, hb]; exact Bool.false_ne_true)]
      show _ = _ ++ []
      rw [List.append_nil]
  · rintro acc O' ⟨rfl, rfl⟩
    rw [List.take_length]
    exact hd
theorem ef_lcLt {tl : TE} {g : TG} {tt : TT} {te : TE} {vs : List Nat} (hg : GOk g vs) (h : Ef tl Γ O fun d O1 => ∃ (α : Type) (ys : List α) (y : α → D) (p : α → Bool) (f : α → D), IsL O1 d (ys.map y) ∧ ys.length < 1000000 ∧
      (∀ (a : α), a ∈ ys → ∀ acc Dl, Gf g (wipeC Γ vs) (y a) fun Γ2 => Tf tt Γ2 ((Dl, .lst acc) :: O1) fun b O2 => O2 = (Dl, .lst acc) :: O1 ∧ b = p a ∧ (b = true → Ef te Γ2 ((Dl, .lst acc) :: O1) fun z O3 => O3 = (Dl, .lst acc) :: O1 ∧ z = f a)) ∧
      LcFin K ((ys.filter p).map f) O1) : Ef (tLc (iList Kf tl) g tt te vs) Γ O K :=
  ef_lcL hg (h.mono fun d O1 ⟨α, ys, y, p, f, hl, hn, hs, hd⟩ => ⟨_, hl, turns_typed ys (List.length_map _).symm (by rw [List.length_map]; exact hn) p f hl (fun i hi acc Dl => by
    rw [map_getD ys y hi]
    exact hs _ (List.getElem_mem hi) acc Dl) hd⟩)
theorem ef_dcTt {tl : TE} {g : TG} {tk tv : TE} {vs : List Nat} (hg : GOk g vs) (h : Ef tl Γ O fun d O1 => ∃ (α : Type) (ys : List α) (y : α → D) (kk : α → List Int) (ff : α → D), IsL O1 d (ys.map y) ∧ ys.length < 1000000 ∧ (ys.map kk).Nodup ∧
      (∀ (a : α), a ∈ ys → ∀ c Dl, Gf g (wipeC Γ vs) (y a) fun Γ2 => Ef tk Γ2 ((Dl, c) :: O1) fun y O2 => O2 = (Dl, c) :: O1 ∧ y = num (kk a) ∧ Ef tv Γ2 ((Dl, c) :: O1) fun z O3 => O3 = (Dl, c) :: O1 ∧ z = ff a) ∧
      ∀ p, K (.ref p) ((p, dN (ys.map fun a => (kk a, ff a))) :: O1)) : Ef (tDcT (iList Kf tl) g tYes tk tv vs) Γ O K := by
  refine ef_dcT hg (h.mono fun d O1 ⟨α, ys, y, kk, ff, hl, hn, hnd, hs, hk⟩ => ⟨_, fun i => if h : i < ys.length then intKs (kk ys[i]) else [], fun i => if h : i < ys.length then ff ys[i] else .non, hl, by rw [List.length_map]; exact hn, fun i c Dl hi => ?_, fun p => ?_⟩)
  · rw [List.length_map] at hi
    rw [map_getD ys y hi]
    have z := hs _ (List.getElem_mem hi) c Dl
    rw [num_eq] at z
    simp only [dif_pos hi]
    exact z
  · have e : (List.range (ys.map y).length).map (fun i => (((if h : i < ys.length then intKs (kk ys[i]) else [] : List Key)), ((if h : i < ys.length then ff ys[i] else .non : D)))) = (ys.map fun a => (kk a, ff a)).map fun p => (intKs p.1, p.2) := by
      refine List.ext_getElem (by simp) fun i h1 h2 => ?_
      have hi : i < ys.length := by simpa using h2
      simp [hi]
    rw [e, mergeD_num _ (by rw [List.map_map]; exact hnd)]
    exact hk p
end
/-! ### sorting -/
def srt (ns : List (List Int)) : List (List Int) := ns.mergeSort fun a b => !HT.lexLt b a
theorem srt_perm (ns : List (List Int)) : (srt ns).Perm ns := List.mergeSort_perm _ _
theorem srt_sorted (ns : List (List Int)) : SortedN (srt ns) := by
  have h := List.pairwise_mergeSort (le := fun a b : List Int => !HT.lexLt b a) (fun a b c h1 h2 => by
      rw [Bool.not_eq_true'] at h1 h2 ⊢
      exact lex_tr a b c h1 h2) (fun a b => by
      cases hb : HT.lexLt b a with
      | false => rfl
      | true => rw [lex_asym _ _ hb]; rfl) ns
  exact h.imp fun {a b} z => by rwa [Bool.not_eq_true'] at z
theorem sorted_uniq : ∀ {A B : List (List Int)}, A.Perm B → SortedN A → SortedN B → A = B
  | [], B, p, _, _ => (List.nil_perm.mp p).symm
  | a :: A, [], p, _, _ => (by simpa using p.length_eq)
  | a :: A, b :: B, p, ha, hb => by
    have e : a = b := by
      have h1 : a ∈ b :: B := p.mem_iff.mp List.mem_cons_self
      have h2 : b ∈ a :: A := p.mem_iff.mpr List.mem_cons_self
      rcases List.mem_cons.mp h1 with e | m1
      · exact e
      · rcases List.mem_cons.mp h2 with e | m2
        · exact e.symm
        · exact lex_tot _ _ ((List.pairwise_cons.mp hb).1 a m1 |> fun z => z) ((List.pairwise_cons.mp ha).1 b m2) |> fun z => by first | exact z | exact z.symm
    subst e
    rw [sorted_uniq (List.perm_cons a |>.mp p) (List.pairwise_cons.mp ha).2 (List.pairwise_cons.mp hb).2]
theorem sortFin_srt {K : KD} {ns : List (List Int)} {O : Own} (h : LcFin K ((srt ns).map num) O) : SortFin K ns O := fun ys p s => by
  rw [sorted_uniq (p.trans (srt_perm ns).symm) s (srt_sorted ns)]
  exact h
end OW

/-! isinstance, all, chains, constants -/
namespace OW
open PySem PySem.Spec PyProof.Rows L2
local macro_rules | `(tactic| walk_at "ow") => `(tactic| first
  | with_reducible refine sf_seq ?_
  | with_reducible refine sf_asg ?_
  | with_reducible refine sf_drop ?_
  | with_reducible refine sf_ret ?_
  | with_reducible refine sf_next ?_
  | (with_reducible apply ef_var; rfl)
  | with_reducible refine ef_int ?_
  | with_reducible refine ef_bl ?_
  | with_reducible refine ef_non ?_
  | with_reducible refine gf_name ?_
  | with_reducible refine gfs_nil ?_
  | with_reducible refine gfs_cons ?_
  | (with_reducible refine gf_tup ?_ ?_; rfl)
  | with_reducible refine tf_test ?_
  | with_reducible refine tf_yes ?_
  | with_reducible refine tf_B ?_
  | with_reducible refine af_cons ?_
  | with_reducible refine af_nil ?_
  | with_reducible refine ef_call ?_
  | with_reducible refine ef_I0i ?_
  | with_reducible refine ef_I0b ?_
  | with_reducible refine ef_I ?_
  | with_reducible refine ef_neg ?_
  | with_reducible refine ef_ixL ?_
  | with_reducible refine ef_ixT ?_
  | with_reducible refine ef_len ?_
  | with_reducible refine ef_tup ?_)
theorem b_isinstance : bootBuiltins "isinstance" = some (.builtin "isinstance") := by decide +kernel
theorem b_all : bootBuiltins "all" = some (.builtin "all") := by decide +kernel
theorem b_bool : bootBuiltins "bool" = some (.type "bool") := by decide +kernel
theorem pe_globI {X : Cx} {x : Str} {i : Int} {pos : Pos} (hg : Gl X x) (hm : ∃ t, X.mg x = some (.int i t)) (hd : (x == ("__debug__" : Str)) = false := by decide) : PE X (.Name x pos) (tC (.int i)) := by
  obtain ⟨t, hm⟩ := hm
  exact pe_glob (v := .int i) hg hm ⟨_, rfl⟩ hd
inductive TyD (O : Own) : D → String → Prop
  | non : TyD O .non "NoneType"
  | bl (b : Bool) : TyD O (.bl b) "bool"
  | int (i : Int) : TyD O (.int i) "int"
  | str (x : Str) : TyD O (.str x) "str"
  | tup (xs : List D) : TyD O (.tup xs) "tuple"
  | lst (xs : List D) : TyD O (.lst xs) "list"
  | own {a : Addr} {xs : List D} (j : Nat) : O[j]? = some (a, .lst xs) → TyD O (.ref a) "list"
theorem TyD.at {Kf : PySem.W.Frag} {F H : Hp} {σ : L2.St} {Γ : Ctx} {O : Own} {d : D} {t : String} {v : V} (S : Sat F H σ Γ O) (h : TyD O d t) (r : Rel F d v) : TyX Kf H v (.type t) := by
  cases h with
  | non => cases r; exact .base .non
  | bl b => cases r; exact .base (.bl b)
  | int i => cases r; exact .base (.int i)
  | str x => cases r; exact .base (.str x)
  | tup xs => cases r with | tup e _ => exact .base (.tup (S.sub _ _ e))
  | lst xs => cases r with | lst e _ => exact .base (.lst (S.sub _ _ e))
  | own j e =>
    cases r
    obtain ⟨_, vs, hv, _⟩ := S.at e
    exact .base (.lst hv)
theorem IsL.ty {O : Own} {d : D} {xs : List D} (h : IsL O d xs) : TyD O d "list" := by
  cases h with
  | im => exact .lst _
  | own j e => exact .own j e
section
variable {Kf : PySem.W.Frag} {Γ : Ctx} {O : Own} {K : KD}
theorem ef_isi {te : TE} {n : String} (h : Ef te Γ O fun d O1 => ∃ t b, TyD O1 d t ∧ kitB t n = some b ∧ K (.bl b) O1) : Ef (tCB (rIsi Kf) (tCons te (tCons (tC (.ty n)) tNil))) Γ O K :=
  ef_cb (af_cons (h.mono fun d O1 ⟨t, b, ht, hb, k⟩ => af_cons (ef_ty (af_nil fun F H σ Q vs S r hk => by
    obtain ⟨v, u, rfl, r1, r2⟩ := relL2 r
    cases r2
    exact ⟨v, .ty n, _, .type n, b, rfl, .ty n, ht.at S r1, kit_ty hb, hk _ _ k _ F H .refl S (.bl b)⟩))))
theorem ef_chain {g h : Int → Int → Bool} {ta tb tc : TE} (H0 : Ef ta Γ O fun d1 O1 => Ef tb Γ O1 fun d2 O2 => ∃ i j, d1 = .int i ∧ d2 = .int j ∧ (g i j = true → Ef tc Γ O2 fun d3 O3 => ∃ k, d3 = .int k ∧ K (.bl (h j k)) O3) ∧ (g i j = false → K (.bl false) O2)) :
    Ef (tChain (rI0 fun i j => .bl (g i j)) (rI0 fun i j => .bl (h i j)) ta tb tc) Γ O K := fun F H σ Q S hk =>
  H0 F H σ _ S fun d1 O1 h1 v1 F1 H1 s1 S1 r1 => h1 F1 H1 σ _ S1 fun d2 O2 ⟨i, j, e1, e2, ht, hf⟩ v2 F2 H2 s2 S2 r2 => by
    subst e1 e2
    cases r1
    cases r2
    refine ⟨i, j, rfl, rfl, g i j, rfl, ?_⟩
    cases hg : g i j with
    | true =>
      rw [if_pos rfl]
      refine ht hg F2 H2 σ _ S2 fun d3 O3 ⟨k, e3, q⟩ v3 F3 H3 s3 S3 r3 => ?_
      subst e3
      cases r3
      exact ⟨j, k, rfl, rfl, hk _ _ q _ F3 H3 ((s1.trans s2).trans s3) S3 (.bl _)⟩
    | false =>
      rw [if_neg Bool.false_ne_true]
      exact hk _ _ (hf hg) _ F2 H2 (s1.trans s2) S2 (.bl _)
theorem relL_bls {F : Hp} : ∀ {bs : List Bool} {vs : List V}, RelL F (bs.map D.bl) vs → vs = bs.map V.bl
  | [], _, .nil => rfl
  | b :: bs, _, .cons r t => by
    cases r
    rw [relL_bls t]
    rfl
theorem ef_all {te : TE} (h : Ef te Γ O fun d O1 => ∃ bs : List Bool, IsL O1 d (bs.map .bl) ∧ K (.bl (bs.all id)) O1) : Ef (tCB (rAll Kf) (tCons te tNil)) Γ O K :=
  ef_cb (af_cons (h.mono fun d O1 ⟨bs, hl, k⟩ => af_nil fun F H σ Q vs S r hk => by
    obtain ⟨v, rfl, r1⟩ := relL1 r
    obtain ⟨a, ws, rfl, hq, rl⟩ := hl.sq (Kf := Kf) S r1
    rw [relL_bls rl] at hq
    exact ⟨a, bs, rfl, hq, hk _ _ k _ F H .refl S (.bl _)⟩))
end
end OW

/-! readings of the defs (printed by gen.py) -/
namespace OW
open PySem PySem.Spec PyProof.Rows L2
/-! past: slots 0:ledger 1:k 2:found -/
abbrev Npast : List Str := ["ledger", "k", "found"]
def tpast (Kf : PySem.W.Frag) (P : Program) (w : World) : TS :=
  (tSeq (tAsg (tLst tNil) (gName 2))
  (tSeq (tWhile (tTest (tOp rGt (tVar 1) (tC (.int 0)))) (tSeq (tDrop (tBM Kf "list" rAppend (tVar 2) (tCons (tVar 1) tNil)))
  (tAsg (tOp (rIxT Kf) (tOp (rIxL Kf) (tOp (rIxT Kf) (tVar 0) (tC (.int 0))) (tOp rSub (tVar 1) (tC (.int 1)))) (tC (.int 0))) (gName 1))))
  (tRet (tRevL Kf (tVar 2)))))
/-! asks: slots 0:ledger 1:k 2:heard 3:number 4:own 5:asked 6:found 7:left -/
abbrev Nasks : List Str := ["ledger", "k", "heard", "number", "own", "asked", "found", "left"]
def tasks (Kf : PySem.W.Frag) (P : Program) (w : World) : TS :=
  (tSeq (tAsg (tDcT (iList Kf (tOp (rIxT Kf) (tVar 0) (tC (.int 1)))) (gTup Kf 3 (gCons (gName 3) (gCons (gName 4) (gCons (gName 5) gNil)))) tYes (tVar 3) (tVar 5) [3, 4, 5]) (gName 2))
  (tSeq (tAsg tDNewT (gName 6))
  (tSeq (tAsg (tCB (fun xs H Q => ∃ p ys, xs = [.ref p] ∧ (SqL Kf H p ys ∨ SqT Kf H p ys) ∧ ∀ l, H l = none → Q (.ref l) (upd H l (.lst ys))) (tCons (tOp (rIxT Kf) (tOp (rIxL Kf) (tOp (rIxT Kf) (tVar 0) (tC (.int 0))) (tOp rSub (tVar 1) (tC (.int 1)))) (tC (.int 2))) tNil)) (gName 7))
  (tSeq (tWhile (tTest (tOp (rNeD Kf) (tVar 7) (tLst tNil))) (tSeq (tAsg (tBM0 Kf "list" rPop (tVar 7)) (gName 3))
  (tIfS (tB (tDNotIn (tVar 3) (tVar 6))) (tSeq (sDPut (tVar 6) (tVar 3) (tC (.bl true)))
  (tDrop (tBM Kf "list" rExtend (tVar 7) (tCons (tDGet (tVar 2) (tVar 3)) tNil)))) tNext)))
  (tRet (tCB rSortD (tCons (tVar 6) tNil)))))))
/-! own_steps: slots 0:ledger 1:number 2:own 3:asked -/
abbrev Nown_steps : List Str := ["ledger", "number", "own", "asked"]
def town_steps (Kf : PySem.W.Frag) (P : Program) (w : World) : TS :=
  (tRet (tDcT (iList Kf (tOp (rIxT Kf) (tVar 0) (tC (.int 1)))) (gTup Kf 3 (gCons (gName 1) (gCons (gName 2) (gCons (gName 3) gNil)))) tYes (tVar 1) (tVar 2) [1, 2, 3]))
/-! paid: slots 0:plan 1:deeds 2:found 3:k 4:number 5:amount -/
abbrev Npaid : List Str := ["plan", "deeds", "found", "k", "number", "amount"]
def tpaid (Kf : PySem.W.Frag) (P : Program) (w : World) : TS :=
  (tSeq (tAsg tDNewT (gName 2))
  (tSeq (tFor (iList Kf (tVar 1)) (gName 3) (tFor (iList Kf (tOp (rIxL Kf) (tVar 0) (tOp rSub (tVar 3) (tC (.int 1))))) (gTup Kf 2 (gCons (gName 4) (gCons (gName 5) gNil))) (sDPut (tVar 2) (tVar 4) (tOp rAdd (tDGet2 (tVar 2) (tVar 4) (tC (.int 0))) (tVar 5)))))
  (tRet (tVar 2))))
/-! lacking_at: slots 0:ledger 1:plan 2:k 3:deeds 4:own 5:there 6:rows 7:number 8:row -/
abbrev Nlacking_at : List Str := ["ledger", "plan", "k", "deeds", "own", "there", "rows", "number", "row"]
def tlacking_at (Kf : PySem.W.Frag) (P : Program) (w : World) (pown_steps : Pre) (ppaid : Pre) (pasks : Pre) : TS :=
  (tSeq (tAsg (tCall (Fsp 1 pown_steps) [] E0 (tCons (tVar 0) tNil)) (gName 4))
  (tSeq (tAsg (tCall (Fsp 2 ppaid) [] E0 (tCons (tVar 1) (tCons (tVar 3) tNil))) (gName 5))
  (tSeq (tAsg (tLc (iList Kf (tCall (Fsp 2 pasks) [] E0 (tCons (tVar 0) (tCons (tVar 2) tNil)))) (gName 7) tYes (tTup (tCons (tVar 7) (tCons (tDGet2 (tVar 5) (tVar 7) (tC (.int 0))) (tCons (tDGet (tVar 4) (tVar 7)) tNil)))) [7]) (gName 6))
  (tRet (tLc (iList Kf (tVar 6)) (gName 8) (tTest (tOp rLt (tOp (rIxT Kf) (tVar 8) (tC (.int 1))) (tOp (rIxT Kf) (tVar 8) (tC (.int 2))))) (tVar 8) [8])))))
/-! prices: slots 0:ledger 1:plan 2:number 3:amount 4:deed 5:row -/
abbrev Nprices : List Str := ["ledger", "plan", "number", "amount", "deed", "row"]
def tprices (Kf : PySem.W.Frag) (P : Program) (w : World) : TS :=
  (tRet (tLc (iZip Kf (tCons (tOp (rIxT Kf) (tVar 0) (tC (.int 0))) (tCons (tVar 1) tNil))) (gTup Kf 2 (gCons (gName 4) (gCons (gName 5) gNil))) tYes (tOp rAdd (tOp (rIxT Kf) (tVar 4) (tC (.int 1))) (tCB (rSum Kf) (tCons (tLc (iList Kf (tVar 5)) (gTup Kf 2 (gCons (gName 2) (gCons (gName 3) gNil))) tYes (tVar 3) [2, 3]) tNil))) [4, 5]))
/-! late_plan: slots 0:ledger 1:found 2:k 3:rows 4:number 5:there 6:own -/
abbrev Nlate_plan : List Str := ["ledger", "found", "k", "rows", "number", "there", "own"]
def tlate_plan (Kf : PySem.W.Frag) (P : Program) (w : World) (ppast : Pre) (placking_at : Pre) : TS :=
  (tSeq (tAsg (tLst tNil) (gName 1))
  (tSeq (tFor (iRng2 (tCons (tC (.int 1)) (tCons (tOp rAdd (tCB (fun xs H Q => ∃ p ys, xs = [.ref p] ∧ (SqL Kf H p ys ∨ SqT Kf H p ys) ∧ Q (.int ys.length) H) (tCons (tOp (rIxT Kf) (tVar 0) (tC (.int 0))) tNil)) (tC (.int 1))) tNil))) (gName 2) (tSeq (tAsg (tCall (Fsp 4 placking_at) [] E0 (tCons (tVar 0) (tCons (tVar 1) (tCons (tVar 2) (tCons (tSl (rSlL Kf) (tCall (Fsp 2 ppast) [] E0 (tCons (tVar 0) (tCons (tVar 2) tNil))) tNoPart (tPart (tUn (rU fun i => .int (-i)) (tC (.int 1))))) tNil))))) (gName 3))
  (tDrop (tBM Kf "list" rAppend (tVar 1) (tCons (tLc (iList Kf (tVar 3)) (gTup Kf 3 (gCons (gName 4) (gCons (gName 5) (gCons (gName 6) gNil)))) tYes (tTup (tCons (tVar 4) (tCons (tOp rSub (tVar 6) (tVar 5)) tNil))) [4, 5, 6]) tNil)))))
  (tRet (tVar 1))))
/-! _law_roll: slots 0:dice 1:size 2:spot 3:cell 4:seed 5:rest -/
abbrev N_law_roll : List Str := ["dice", "size", "spot", "cell", "seed", "rest"]
def t_law_roll (Kf : PySem.W.Frag) (P : Program) (w : World) : TS :=
  (tSeq (tIfS (tTest (tOp rEq (tOp (rIxL Kf) (tVar 0) (tC (.int 2))) (tC (.int 0)))) (tSeq (tAsg (tOp (rIxL Kf) (tVar 0) (tC (.int 1))) (gName 2))
  (tSeq (tAsg (tOp rAdd (tVar 2) (tC (.int 1))) (gSub (tVar 0) (tC (.int 1)) rSetL))
  (tSeq (tAsg (tC (.int 0)) (gName 3))
  (tSeq (tIfS (tTest (tOp (rNeD Kf) (tOp (rIxL Kf) (tVar 0) (tC (.int 0))) (tLst tNil))) (tAsg (tOp (rIxL Kf) (tOp (rIxL Kf) (tVar 0) (tC (.int 0))) (tOp rMod (tVar 2) (tCB (fun xs H Q => ∃ p ys, xs = [.ref p] ∧ (SqL Kf H p ys ∨ SqT Kf H p ys) ∧ Q (.int ys.length) H) (tCons (tOp (rIxL Kf) (tVar 0) (tC (.int 0))) tNil)))) (gName 3)) tNext)
  (tSeq (tIfS (tOr (tTest (tOp rGe (tVar 2) (tCB (fun xs H Q => ∃ p ys, xs = [.ref p] ∧ (SqL Kf H p ys ∨ SqT Kf H p ys) ∧ Q (.int ys.length) H) (tCons (tOp (rIxL Kf) (tVar 0) (tC (.int 0))) tNil)))) (tTest (tOp rLt (tVar 3) (tOp rPow (tC (.int 10)) (tC (.int 18)))))) (tSeq (tAsg (tOp rMod (tOp rMul (tOp rAdd (tOp rMod (tVar 3) (tC (.int 999953))) (tC (.int 37))) (tOp rAdd (tOp rAdd (tOp rMul (tVar 2) (tVar 2)) (tOp rMul (tC (.int 79)) (tVar 2))) (tC (.int 4001)))) (tC (.int 1000003))) (gName 4))
  (tSeq (tAsg (tOp rMod (tOp rPow (tVar 4) (tC (.int 3))) (tC (.int 998244353))) (gName 4))
  (tRet (tOp rMod (tOp rFdiv (tOp rMod (tOp rAdd (tVar 4) (tOp rMul (tC (.int 7109)) (tVar 2))) (tC (.int 1000033))) (tC (.int 2))) (tVar 1))))) tNext)
  (tSeq (tAsg (tC (.int 30)) (gSub (tVar 0) (tC (.int 2)) rSetL))
  (tAsg (tOp rSub (tVar 3) (tOp rPow (tC (.int 10)) (tC (.int 18)))) (gSub (tVar 0) (tC (.int 3)) rSetL)))))))) tNext)
  (tSeq (tAsg (tOp rSub (tOp (rIxL Kf) (tVar 0) (tC (.int 2))) (tC (.int 1))) (gSub (tVar 0) (tC (.int 2)) rSetL))
  (tSeq (tAsg (tOp (rIxL Kf) (tVar 0) (tC (.int 3))) (gName 5))
  (tSeq (tAsg (tOp rFdiv (tVar 5) (tVar 1)) (gSub (tVar 0) (tC (.int 3)) rSetL))
  (tRet (tOp rMod (tVar 5) (tVar 1)))))))
/-! _law_pick: slots 0:dice 1:some -/
abbrev N_law_pick : List Str := ["dice", "some"]
def t_law_pick (Kf : PySem.W.Frag) (P : Program) (w : World) (p_law_roll : Pre) : TS :=
  (tRet (tOp (rIxL Kf) (tVar 1) (tCall (Fsp 2 p_law_roll) [] E0 (tCons (tVar 0) (tCons (tCB (fun xs H Q => ∃ p ys, xs = [.ref p] ∧ (SqL Kf H p ys ∨ SqT Kf H p ys) ∧ Q (.int ys.length) H) (tCons (tVar 1) tNil)) tNil)))))
/-! _law_some: slots 0:dice 1:numbers 2:most 3:k -/
abbrev N_law_some : List Str := ["dice", "numbers", "most", "k"]
def t_law_some (Kf : PySem.W.Frag) (P : Program) (w : World) (p_law_roll : Pre) (p_law_pick : Pre) : TS :=
  (tSeq (tIfS (tTest (tOp (rEqD Kf) (tVar 1) (tLst tNil))) (tRet (tLst tNil)) tNext)
  (tRet (tCB (rSortS P w) (tCons (tCB (rSetOfT Kf P w) (tCons (tLc (iRng1 (tCons (tCall (Fsp 2 p_law_roll) [] E0 (tCons (tVar 0) (tCons (tVar 2) tNil))) tNil)) (gName 3) tYes (tCall (Fsp 2 p_law_pick) [] E0 (tCons (tVar 0) (tCons (tVar 1) tNil))) [3]) tNil)) tNil))))
/-! _law_own: slots 0:dice -/
abbrev N_law_own : List Str := ["dice"]
def t_law_own (Kf : PySem.W.Frag) (P : Program) (w : World) (p_law_roll : Pre) : TS :=
  (tRet (tOp (rIxL Kf) (tLst (tCons (tC (.int 0)) (tCons (tC (.int 1)) (tCons (tC (.int 1)) (tCons (tCall (Fsp 2 p_law_roll) [] E0 (tCons (tVar 0) (tCons (tC (.int 6)) tNil))) (tCons (tCall (Fsp 2 p_law_roll) [] E0 (tCons (tVar 0) (tCons (tOp rPow (tC (.int 10)) (tC (.int 9))) tNil))) (tCons (tOp rPow (tC (.int 10)) (tC (.int 15))) tNil))))))) (tCall (Fsp 2 p_law_roll) [] E0 (tCons (tVar 0) (tCons (tC (.int 6)) tNil)))))
/-! _law_ledger: slots 0:dice 1:numbers 2:k 3:most 4:number 5:turn 6:known 7:deeds 8:version -/
abbrev N_law_ledger : List Str := ["dice", "numbers", "k", "most", "number", "turn", "known", "deeds", "version"]
def t_law_ledger (Kf : PySem.W.Frag) (P : Program) (w : World) (p_law_roll : Pre) (p_law_some : Pre) (p_law_own : Pre) (p_law_pick : Pre) : TS :=
  (tSeq (tAsg (tLst tNil) (gName 1))
  (tSeq (tFor (iRng1 (tCons (tCall (Fsp 2 p_law_roll) [] E0 (tCons (tVar 0) (tCons (tC (.int 10)) tNil))) tNil)) (gName 2) (tSeq (tAsg (tOp (rIxL Kf) (tLst (tCons (tC (.int 3)) (tCons (tC (.int 12)) tNil))) (tCall (Fsp 2 p_law_roll) [] E0 (tCons (tVar 0) (tCons (tC (.int 2)) tNil)))) (gName 3))
  (tSeq (tAsg (tOp (rCatA Kf) (tTup (tCons (tCall (Fsp 2 p_law_roll) [] E0 (tCons (tVar 0) (tCons (tC (.int 13)) tNil))) tNil)) (tCB (fun xs H Q => ∃ p ys, xs = [.ref p] ∧ ((SqL Kf H p ys ∧ ∀ l, H l = none → Q (.ref l) (upd H l (.tup ys))) ∨ (SqT Kf H p ys ∧ Q (.ref p) H))) (tCons (tLc (iRng1 (tCons (tOp rAdd (tC (.int 1)) (tCall (Fsp 2 p_law_roll) [] E0 (tCons (tVar 0) (tCons (tC (.int 3)) tNil)))) tNil)) (gName 5) tYes (tOp rAdd (tC (.int 1)) (tCall (Fsp 2 p_law_roll) [] E0 (tCons (tVar 0) (tCons (tVar 3) tNil)))) [5]) tNil))) (gName 4))
  (tIfS (tTest (tOp (rNotInD Kf) (tVar 4) (tVar 1))) (tDrop (tBM Kf "list" rAppend (tVar 1) (tCons (tVar 4) tNil))) tNext))))
  (tSeq (tAsg (tCB rSortN (tCons (tVar 1) tNil)) (gName 1))
  (tSeq (tAsg (tLc (iList Kf (tVar 1)) (gName 4) tYes (tTup (tCons (tVar 4) (tCons (tCall (Fsp 1 p_law_own) [] E0 (tCons (tVar 0) tNil)) (tCons (tCall (Fsp 3 p_law_some) [] E0 (tCons (tVar 0) (tCons (tVar 1) (tCons (tC (.int 4)) tNil)))) tNil)))) [4]) (gName 6))
  (tSeq (tAsg (tLst tNil) (gName 7))
  (tSeq (tFor (iRng1 (tCons (tCall (Fsp 2 p_law_roll) [] E0 (tCons (tVar 0) (tCons (tC (.int 9)) tNil))) tNil)) (gName 2) (tSeq (tAsg (tCall (Fsp 2 p_law_pick) [] E0 (tCons (tVar 0) (tCons (tLst (tCons (tVar 2) (tCons (tVar 2) (tCons (tCall (Fsp 2 p_law_roll) [] E0 (tCons (tVar 0) (tCons (tOp rAdd (tVar 2) (tC (.int 1))) tNil))) tNil)))) tNil))) (gName 8))
  (tDrop (tBM Kf "list" rAppend (tVar 7) (tCons (tTup (tCons (tVar 8) (tCons (tCall (Fsp 1 p_law_own) [] E0 (tCons (tVar 0) tNil)) (tCons (tCall (Fsp 3 p_law_some) [] E0 (tCons (tVar 0) (tCons (tVar 1) (tCons (tC (.int 4)) tNil)))) tNil)))) tNil)))))
  (tRet (tTup (tCons (tVar 7) (tCons (tVar 6) tNil))))))))))
/-! _law_past: slots 0:book 1:k 2:found -/
abbrev N_law_past : List Str := ["book", "k", "found"]
def t_law_past (Kf : PySem.W.Frag) (P : Program) (w : World) : TS :=
  (tSeq (tAsg (tLst tNil) (gName 2))
  (tSeq (tWhile (tTest (tOp rGt (tVar 1) (tC (.int 0)))) (tSeq (tAsg (tOp rCat (tLst (tCons (tVar 1) tNil)) (tVar 2)) (gName 2))
  (tAsg (tOp (rIxT Kf) (tOp (rIxL Kf) (tOp (rIxT Kf) (tVar 0) (tC (.int 0))) (tOp rSub (tVar 1) (tC (.int 1)))) (tC (.int 0))) (gName 1))))
  (tRet (tVar 2))))
/-! _law_asks: slots 0:book 1:k 2:heard 3:number 4:own 5:asked 6:found 7:left 8:one -/
abbrev N_law_asks : List Str := ["book", "k", "heard", "number", "own", "asked", "found", "left", "one"]
def t_law_asks (Kf : PySem.W.Frag) (P : Program) (w : World) : TS :=
  (tSeq (tAsg (tCB rDictT (tCons (tLc (iList Kf (tOp (rIxT Kf) (tVar 0) (tC (.int 1)))) (gTup Kf 3 (gCons (gName 3) (gCons (gName 4) (gCons (gName 5) gNil)))) tYes (tTup (tCons (tVar 3) (tCons (tVar 5) tNil))) [3, 4, 5]) tNil)) (gName 2))
  (tSeq (tAsg (tLst tNil) (gName 6))
  (tSeq (tAsg (tCB (fun xs H Q => ∃ p ys, xs = [.ref p] ∧ (SqL Kf H p ys ∨ SqT Kf H p ys) ∧ ∀ l, H l = none → Q (.ref l) (upd H l (.lst ys))) (tCons (tOp (rIxT Kf) (tOp (rIxL Kf) (tOp (rIxT Kf) (tVar 0) (tC (.int 0))) (tOp rSub (tVar 1) (tC (.int 1)))) (tC (.int 2))) tNil)) (gName 7))
  (tSeq (tWhile (tTest (tOp (rNeD Kf) (tVar 7) (tLst tNil))) (tSeq (tAsg (tBM0 Kf "list" rPop (tVar 7)) (gName 8))
  (tIfS (tTest (tOp (rNotInD Kf) (tVar 8) (tVar 6))) (tSeq (tDrop (tBM Kf "list" rAppend (tVar 6) (tCons (tVar 8) tNil)))
  (tAsg (tOp rCat (tVar 7) (tDGet (tVar 2) (tVar 8))) (gName 7))) tNext)))
  (tRet (tCB rSortN (tCons (tVar 6) tNil)))))))
/-! _law_owns: slots 0:book 1:number 2:own 3:asked -/
abbrev N_law_owns : List Str := ["book", "number", "own", "asked"]
def t_law_owns (Kf : PySem.W.Frag) (P : Program) (w : World) : TS :=
  (tRet (tCB rDictT (tCons (tLc (iList Kf (tOp (rIxT Kf) (tVar 0) (tC (.int 1)))) (gTup Kf 3 (gCons (gName 1) (gCons (gName 2) (gCons (gName 3) gNil)))) tYes (tTup (tCons (tVar 1) (tCons (tVar 2) tNil))) [1, 2, 3]) tNil)))
/-! _law_paid: slots 0:plan 1:way 2:found 3:k 4:number 5:amount -/
abbrev N_law_paid : List Str := ["plan", "way", "found", "k", "number", "amount"]
def t_law_paid (Kf : PySem.W.Frag) (P : Program) (w : World) : TS :=
  (tSeq (tAsg tDNewT (gName 2))
  (tSeq (tFor (iList Kf (tVar 1)) (gName 3) (tFor (iList Kf (tOp (rIxL Kf) (tVar 0) (tOp rSub (tVar 3) (tC (.int 1))))) (gTup Kf 2 (gCons (gName 4) (gCons (gName 5) gNil))) (sDPut (tVar 2) (tVar 4) (tOp rAdd (tDGet2 (tVar 2) (tVar 4) (tC (.int 0))) (tVar 5)))))
  (tRet (tVar 2))))
/-! _law_late: slots 0:book 1:owns 2:found 3:k 4:there 5:short 6:one 7:pair -/
abbrev N_law_late : List Str := ["book", "owns", "found", "k", "there", "short", "one", "pair"]
def t_law_late (Kf : PySem.W.Frag) (P : Program) (w : World) (p_law_owns : Pre) (p_law_past : Pre) (p_law_paid : Pre) (p_law_asks : Pre) : TS :=
  (tSeq (tAsg (tCall (Fsp 1 p_law_owns) [] E0 (tCons (tVar 0) tNil)) (gName 1))
  (tSeq (tAsg (tLst tNil) (gName 2))
  (tSeq (tFor (iRng2 (tCons (tC (.int 1)) (tCons (tOp rAdd (tCB (fun xs H Q => ∃ p ys, xs = [.ref p] ∧ (SqL Kf H p ys ∨ SqT Kf H p ys) ∧ Q (.int ys.length) H) (tCons (tOp (rIxT Kf) (tVar 0) (tC (.int 0))) tNil)) (tC (.int 1))) tNil))) (gName 3) (tSeq (tAsg (tCall (Fsp 2 p_law_paid) [] E0 (tCons (tVar 2) (tCons (tSl (rSlL Kf) (tCall (Fsp 2 p_law_past) [] E0 (tCons (tVar 0) (tCons (tVar 3) tNil))) tNoPart (tPart (tUn (rU fun i => .int (-i)) (tC (.int 1))))) tNil))) (gName 4))
  (tSeq (tAsg (tLc (iList Kf (tCall (Fsp 2 p_law_asks) [] E0 (tCons (tVar 0) (tCons (tVar 3) tNil)))) (gName 6) tYes (tTup (tCons (tVar 6) (tCons (tOp rSub (tDGet (tVar 1) (tVar 6)) (tDGet2 (tVar 4) (tVar 6) (tC (.int 0)))) tNil))) [6]) (gName 5))
  (tDrop (tBM Kf "list" rAppend (tVar 2) (tCons (tLc (iList Kf (tVar 5)) (gName 7) (tTest (tOp rGt (tOp (rIxT Kf) (tVar 7) (tC (.int 1))) (tC (.int 0)))) (tVar 7) [7]) tNil))))))
  (tRet (tVar 2)))))
/-! _law_bent: slots 0:dice 1:plan 2:numbers 3:found 4:row 5:filled 6:k 7:at 8:number 9:amount 10:way -/
abbrev N_law_bent : List Str := ["dice", "plan", "numbers", "found", "row", "filled", "k", "at", "number", "amount", "way"]
def t_law_bent (Kf : PySem.W.Frag) (P : Program) (w : World) (p_law_roll : Pre) (p_law_pick : Pre) : TS :=
  (tSeq (tAsg (tLc (iList Kf (tVar 1)) (gName 4) tYes (tCB (fun xs H Q => ∃ p ys, xs = [.ref p] ∧ (SqL Kf H p ys ∨ SqT Kf H p ys) ∧ ∀ l, H l = none → Q (.ref l) (upd H l (.lst ys))) (tCons (tVar 4) tNil)) [4]) (gName 3))
  (tSeq (tAsg (tLc (iEnum Kf (tCons (tVar 3) tNil)) (gTup Kf 2 (gCons (gName 6) (gCons (gName 4) gNil))) (tTest (tOp (rNeD Kf) (tVar 4) (tLst tNil))) (tVar 6) [6, 4]) (gName 5))
  (tSeq (tIfS (tOr (tTest (tOp (rEqD Kf) (tVar 5) (tLst tNil))) (tTest (tOp rEq (tCall (Fsp 2 p_law_roll) [] E0 (tCons (tVar 0) (tCons (tC (.int 8)) tNil))) (tC (.int 0))))) (tSeq (tDrop (tBM Kf "list" rAppend (tOp (rIxL Kf) (tVar 3) (tCall (Fsp 2 p_law_roll) [] E0 (tCons (tVar 0) (tCons (tCB (fun xs H Q => ∃ p ys, xs = [.ref p] ∧ (SqL Kf H p ys ∨ SqT Kf H p ys) ∧ Q (.int ys.length) H) (tCons (tVar 3) tNil)) tNil)))) (tCons (tTup (tCons (tCall (Fsp 2 p_law_pick) [] E0 (tCons (tVar 0) (tCons (tOp rCat (tVar 2) (tLst (tCons (tTup (tCons (tC (.int 1)) tNil)) tNil))) tNil))) (tCons (tCall (Fsp 2 p_law_roll) [] E0 (tCons (tVar 0) (tCons (tC (.int 4)) tNil))) tNil))) tNil)))
  (tRet (tVar 3))) tNext)
  (tSeq (tAsg (tCall (Fsp 2 p_law_pick) [] E0 (tCons (tVar 0) (tCons (tVar 5) tNil))) (gName 6))
  (tSeq (tAsg (tCall (Fsp 2 p_law_roll) [] E0 (tCons (tVar 0) (tCons (tCB (fun xs H Q => ∃ p ys, xs = [.ref p] ∧ (SqL Kf H p ys ∨ SqT Kf H p ys) ∧ Q (.int ys.length) H) (tCons (tOp (rIxL Kf) (tVar 3) (tVar 6)) tNil)) tNil))) (gName 7))
  (tSeq (tAsg (tBM Kf "list" rPopAt (tOp (rIxL Kf) (tVar 3) (tVar 6)) (tCons (tVar 7) tNil)) (gTup Kf 2 (gCons (gName 8) (gCons (gName 9) gNil))))
  (tSeq (tAsg (tCall (Fsp 2 p_law_roll) [] E0 (tCons (tVar 0) (tCons (tC (.int 6)) tNil))) (gName 10))
  (tSeq (tIfS (tAnd (tTest (tOp rEq (tVar 10) (tC (.int 0)))) (tTest (tOp rGt (tVar 9) (tC (.int 0))))) (tDrop (tBM Kf "list" rInsert (tOp (rIxL Kf) (tVar 3) (tVar 6)) (tCons (tVar 7) (tCons (tTup (tCons (tVar 8) (tCons (tOp rSub (tVar 9) (tC (.int 1))) tNil))) tNil)))) (tIfS (tTest (tOp rEq (tVar 10) (tC (.int 1)))) (tDrop (tBM Kf "list" rInsert (tOp (rIxL Kf) (tVar 3) (tVar 6)) (tCons (tVar 7) (tCons (tTup (tCons (tVar 8) (tCons (tOp rAdd (tVar 9) (tCall (Fsp 2 p_law_pick) [] E0 (tCons (tVar 0) (tCons (tLst (tCons (tC (.int 1)) (tCons (tOp rPow (tC (.int 10)) (tC (.int 17))) tNil))) tNil)))) tNil))) tNil)))) (tIfS (tTest (tOp rEq (tVar 10) (tC (.int 2)))) (tDrop (tBM Kf "list" rInsert (tOp (rIxL Kf) (tVar 3) (tVar 6)) (tCons (tVar 7) (tCons (tTup (tCons (tCall (Fsp 2 p_law_pick) [] E0 (tCons (tVar 0) (tCons (tOp rCat (tVar 2) (tLst (tCons (tOp (rCatA Kf) (tVar 8) (tTup (tCons (tC (.int 1)) tNil))) (tCons (tTup (tCons (tC (.int 99)) tNil)) tNil)))) tNil))) (tCons (tVar 9) tNil))) tNil)))) (tIfS (tTest (tOp rLt (tVar 10) (tC (.int 5)))) (tDrop (tBM Kf "list" rAppend (tOp (rIxL Kf) (tVar 3) (tCall (Fsp 2 p_law_roll) [] E0 (tCons (tVar 0) (tCons (tCB (fun xs H Q => ∃ p ys, xs = [.ref p] ∧ (SqL Kf H p ys ∨ SqT Kf H p ys) ∧ Q (.int ys.length) H) (tCons (tVar 3) tNil)) tNil)))) (tCons (tTup (tCons (tVar 8) (tCons (tVar 9) tNil))) tNil))) (tAsg (tOp rCat (tOp rCat (tLst (tCons (tTup (tCons (tVar 8) (tCons (tOp rSub (tVar 9) (tOp rFdiv (tVar 9) (tC (.int 2)))) tNil))) tNil)) (tOp (rIxL Kf) (tVar 3) (tVar 6))) (tLst (tCons (tTup (tCons (tVar 8) (tCons (tOp rFdiv (tVar 9) (tC (.int 2))) tNil))) tNil))) (gSub (tVar 3) (tVar 6) rSetL))))))
  (tRet (tVar 3))))))))))
end OW

/-! readings of the defs (printed by gen.py) -/
namespace OW
open PySem PySem.Spec PyProof.Rows L2
/-! is_whole: slots 0:thing 1:most -/
abbrev Nis_whole : List Str := ["thing", "most"]
def tis_whole (Kf : PySem.W.Frag) (P : Program) (w : World) : TS :=
  (tRet (tAndV (tCB (rIsi Kf) (tCons (tVar 0) (tCons (tC (.ty "int")) tNil))) (tAndV (tNotV (tCB (rIsi Kf) (tCons (tVar 0) (tCons (tC (.ty "bool")) tNil)))) (tChain rLe rLe (tC (.int 0)) (tVar 0) (tVar 1)))))
/-! is_own_number: slots 0:thing 1:k -/
abbrev Nis_own_number : List Str := ["thing", "k"]
def tis_own_number (Kf : PySem.W.Frag) (P : Program) (w : World) : TS :=
  (tSeq (tIfS (tOr (tNot (tB (tCB (rIsi Kf) (tCons (tVar 0) (tCons (tC (.ty "tuple")) tNil))))) (tNot (tTest (tChain rLe rLe (tC (.int 1)) (tCB (fun xs H Q => ∃ p ys, xs = [.ref p] ∧ (SqL Kf H p ys ∨ SqT Kf H p ys) ∧ Q (.int ys.length) H) (tCons (tVar 0) tNil)) (tC (.int 100)))))) (tRet (tC (.bl false))) tNext)
  (tRet (tCB (rAll Kf) (tCons (tLc (iTup Kf (tVar 0)) (gName 1) tYes (tAndV (tCB (rIsi Kf) (tCons (tVar 1) (tCons (tC (.ty "int")) tNil))) (tNotV (tCB (rIsi Kf) (tCons (tVar 1) (tCons (tC (.ty "bool")) tNil))))) [1]) tNil))))
/-! is_row: slots 0:thing 1:one 2:number 3:amount -/
abbrev Nis_row : List Str := ["thing", "one", "number", "amount"]
def tis_row (Kf : PySem.W.Frag) (P : Program) (w : World) (pis_own_number : Pre) (pis_whole : Pre) : TS :=
  (tSeq (tIfS (tOr (tNot (tB (tCB (rIsi Kf) (tCons (tVar 0) (tCons (tC (.ty "list")) tNil))))) (tTest (tOp rGt (tCB (fun xs H Q => ∃ p ys, xs = [.ref p] ∧ (SqL Kf H p ys ∨ SqT Kf H p ys) ∧ Q (.int ys.length) H) (tCons (tVar 0) tNil)) (tC (.int 100000))))) (tRet (tC (.bl false))) tNext)
  (tSeq (tIfS (tNot (tB (tCB (rAll Kf) (tCons (tLc (iList Kf (tVar 0)) (gName 1) tYes (tAndV (tCB (rIsi Kf) (tCons (tVar 1) (tCons (tC (.ty "tuple")) tNil))) (tOp rEq (tCB (fun xs H Q => ∃ p ys, xs = [.ref p] ∧ (SqL Kf H p ys ∨ SqT Kf H p ys) ∧ Q (.int ys.length) H) (tCons (tVar 1) tNil)) (tC (.int 2)))) [1]) tNil)))) (tRet (tC (.bl false))) tNext)
  (tRet (tCB (rAll Kf) (tCons (tLc (iList Kf (tVar 0)) (gTup Kf 2 (gCons (gName 2) (gCons (gName 3) gNil))) tYes (tAndV (tCall (Fsp 1 pis_own_number) [] E0 (tCons (tVar 2) tNil)) (tCall (Fsp 2 pis_whole) [] E0 (tCons (tVar 3) (tCons (tC (.int 1000000000000000000)) tNil)))) [2, 3]) tNil)))))
/-! is_plan: slots 0:ledger 1:thing 2:one -/
abbrev Nis_plan : List Str := ["ledger", "thing", "one"]
def tis_plan (Kf : PySem.W.Frag) (P : Program) (w : World) (pis_row : Pre) : TS :=
  (tRet (tAndV (tCB (rIsi Kf) (tCons (tVar 1) (tCons (tC (.ty "list")) tNil))) (tAndV (tOp rEq (tCB (fun xs H Q => ∃ p ys, xs = [.ref p] ∧ (SqL Kf H p ys ∨ SqT Kf H p ys) ∧ Q (.int ys.length) H) (tCons (tVar 1) tNil)) (tCB (fun xs H Q => ∃ p ys, xs = [.ref p] ∧ (SqL Kf H p ys ∨ SqT Kf H p ys) ∧ Q (.int ys.length) H) (tCons (tOp (rIxT Kf) (tVar 0) (tC (.int 0))) tNil))) (tCB (rAll Kf) (tCons (tLc (iList Kf (tVar 1)) (gName 2) tYes (tCall (Fsp 1 pis_row) [] E0 (tCons (tVar 2) tNil)) [2]) tNil)))))
/-! lacking: slots 0:ledger 1:plan 2:found 3:k 4:number 5:there 6:own -/
abbrev Nlacking : List Str := ["ledger", "plan", "found", "k", "number", "there", "own"]
def tlacking (Kf : PySem.W.Frag) (P : Program) (w : World) (ppast : Pre) (placking_at : Pre) : TS :=
  (tSeq (tAsg (tLst tNil) (gName 2))
  (tSeq (tFor (iRng2 (tCons (tC (.int 1)) (tCons (tOp rAdd (tCB (fun xs H Q => ∃ p ys, xs = [.ref p] ∧ (SqL Kf H p ys ∨ SqT Kf H p ys) ∧ Q (.int ys.length) H) (tCons (tVar 1) tNil)) (tC (.int 1))) tNil))) (gName 3) (tDrop (tBM Kf "list" rExtend (tVar 2) (tCons (tLc (iList Kf (tCall (Fsp 4 placking_at) [] E0 (tCons (tVar 0) (tCons (tVar 1) (tCons (tVar 3) (tCons (tCall (Fsp 2 ppast) [] E0 (tCons (tVar 0) (tCons (tVar 3) tNil))) tNil)))))) (gTup Kf 3 (gCons (gName 4) (gCons (gName 5) (gCons (gName 6) gNil)))) tYes (tTup (tCons (tVar 3) (tCons (tVar 4) (tCons (tVar 5) (tCons (tVar 6) tNil))))) [4, 5, 6]) tNil))))
  (tRet (tVar 2))))
/-! is_let_by: slots 0:ledger 1:thing -/
abbrev Nis_let_by : List Str := ["ledger", "thing"]
def tis_let_by (Kf : PySem.W.Frag) (P : Program) (w : World) (pis_plan : Pre) (placking : Pre) : TS :=
  (tRet (tAndV (tCall (Fsp 2 pis_plan) [] E0 (tCons (tVar 0) (tCons (tVar 1) tNil))) (tOp (rEqD Kf) (tCall (Fsp 2 placking) [] E0 (tCons (tVar 0) (tCons (tVar 1) tNil))) (tLst tNil))))
/-! _law_lacks: slots 0:book 1:plan 2:owns 3:found 4:k 5:there 6:number -/
abbrev N_law_lacks : List Str := ["book", "plan", "owns", "found", "k", "there", "number"]
def t_law_lacks (Kf : PySem.W.Frag) (P : Program) (w : World) (p_law_owns : Pre) (p_law_past : Pre) (p_law_paid : Pre) (p_law_asks : Pre) : TS :=
  (tSeq (tAsg (tCall (Fsp 1 p_law_owns) [] E0 (tCons (tVar 0) tNil)) (gName 2))
  (tSeq (tAsg (tLst tNil) (gName 3))
  (tSeq (tFor (iRng2 (tCons (tC (.int 1)) (tCons (tOp rAdd (tCB (fun xs H Q => ∃ p ys, xs = [.ref p] ∧ (SqL Kf H p ys ∨ SqT Kf H p ys) ∧ Q (.int ys.length) H) (tCons (tVar 1) tNil)) (tC (.int 1))) tNil))) (gName 4) (tSeq (tAsg (tCall (Fsp 2 p_law_paid) [] E0 (tCons (tVar 1) (tCons (tCall (Fsp 2 p_law_past) [] E0 (tCons (tVar 0) (tCons (tVar 4) tNil))) tNil))) (gName 5))
  (tFor (iList Kf (tCall (Fsp 2 p_law_asks) [] E0 (tCons (tVar 0) (tCons (tVar 4) tNil)))) (gName 6) (tIfS (tTest (tOp rLt (tDGet2 (tVar 5) (tVar 6) (tC (.int 0))) (tDGet (tVar 2) (tVar 6)))) (tDrop (tBM Kf "list" rAppend (tVar 3) (tCons (tTup (tCons (tVar 4) (tCons (tVar 6) (tCons (tDGet2 (tVar 5) (tVar 6) (tC (.int 0))) (tCons (tDGet (tVar 2) (tVar 6)) tNil))))) tNil))) tNext))))
  (tRet (tVar 3)))))
/-! _law_drawn_plan: slots 0:dice 1:book 2:numbers 3:number 4:own 5:asked 6:found 7:row 8:k -/
abbrev N_law_drawn_plan : List Str := ["dice", "book", "numbers", "number", "own", "asked", "found", "row", "k"]
def t_law_drawn_plan (Kf : PySem.W.Frag) (P : Program) (w : World) (p_law_roll : Pre) (p_law_own : Pre) (p_law_pick : Pre) : TS :=
  (tSeq (tAsg (tOp rCat (tLc (iList Kf (tOp (rIxT Kf) (tVar 1) (tC (.int 1)))) (gTup Kf 3 (gCons (gName 3) (gCons (gName 4) (gCons (gName 5) gNil)))) tYes (tVar 3) [3, 4, 5]) (tLst (tCons (tTup (tCons (tC (.int 5)) (tCons (tC (.int 5)) tNil))) tNil))) (gName 2))
  (tSeq (tAsg (tLst tNil) (gName 6))
  (tSeq (tFor (iList Kf (tOp (rIxT Kf) (tVar 1) (tC (.int 0)))) (gName 7) (tDrop (tBM Kf "list" rAppend (tVar 6) (tCons (tLc (iRng1 (tCons (tCall (Fsp 2 p_law_roll) [] E0 (tCons (tVar 0) (tCons (tC (.int 5)) tNil))) tNil)) (gName 8) tYes (tTup (tCons (tCall (Fsp 2 p_law_pick) [] E0 (tCons (tVar 0) (tCons (tVar 2) tNil))) (tCons (tCall (Fsp 1 p_law_own) [] E0 (tCons (tVar 0) tNil)) tNil))) [8]) tNil))))
  (tRet (tVar 6)))))
/-! law: slots 0:script 1:dice 2:turn 3:book 4:plans 5:row 6:k 7:some 8:number 9:own 10:asked 11:seen 12:plan 13:due 14:said -/
abbrev Nlaw : List Str := ["script", "dice", "turn", "book", "plans", "row", "k", "some", "number", "own", "asked", "seen", "plan", "due", "said"]
def tlaw (Kf : PySem.W.Frag) (P : Program) (w : World) (p_law_ledger : Pre) (p_law_drawn_plan : Pre) (p_law_late : Pre) (p_law_pick : Pre) (p_law_bent : Pre) (p_law_lacks : Pre) (placking : Pre) (pis_let_by : Pre) : TS :=
  (tSeq (tAsg (tLst (tCons (tCB (fun xs H Q => ∃ p ys, xs = [.ref p] ∧ (SqL Kf H p ys ∨ SqT Kf H p ys) ∧ ∀ l, H l = none → Q (.ref l) (upd H l (.lst ys))) (tCons (tSl (rSlL Kf) (tVar 0) tNoPart (tPart (tC (.int 63)))) tNil)) (tCons (tC (.int 0)) (tCons (tC (.int 0)) (tCons (tC (.int 0)) tNil))))) (gName 1))
  (tSeq (tFor (iRng1 (tCons (tC (.int 2)) tNil)) (gName 2) (tSeq (tAsg (tCall (Fsp 1 p_law_ledger) [] E0 (tCons (tVar 1) tNil)) (gName 3))
  (tSeq (tAsg (tLst (tCons (tCall (Fsp 1 p_law_late) [] E0 (tCons (tVar 3) tNil)) (tCons (tLc (iList Kf (tOp (rIxT Kf) (tVar 3) (tC (.int 0)))) (gName 5) tYes (tLst tNil) [5]) (tCons (tCall (Fsp 2 p_law_drawn_plan) [] E0 (tCons (tVar 1) (tCons (tVar 3) tNil))) tNil)))) (gName 4))
  (tSeq (tFor (iRng1 (tCons (tOp rMul (tC (.int 6)) (tCB (fun xs H Q => (∃ i, xs = [.int i] ∧ Q (.int i) H) ∨ ∃ k, xs = [.bl k] ∧ Q (.int (if k then 1 else 0)) H) (tCons (tOp (rNeD Kf) (tOp (rIxT Kf) (tVar 3) (tC (.int 0))) (tLst tNil)) tNil))) tNil)) (gName 6) (tSeq (tAsg (tCall (Fsp 2 p_law_pick) [] E0 (tCons (tVar 1) (tCons (tLst (tCons (tOp (rIxL Kf) (tVar 4) (tC (.int 0))) (tCons (tOp (rIxL Kf) (tVar 4) (tC (.int 0))) (tCons (tOp (rIxL Kf) (tVar 4) (tUn (rU fun i => .int (-i)) (tC (.int 1)))) tNil)))) tNil))) (gName 7))
  (tDrop (tBM Kf "list" rAppend (tVar 4) (tCons (tCall (Fsp 3 p_law_bent) [] E0 (tCons (tVar 1) (tCons (tVar 7) (tCons (tLc (iList Kf (tOp (rIxT Kf) (tVar 3) (tC (.int 1)))) (gTup Kf 3 (gCons (gName 8) (gCons (gName 9) (gCons (gName 10) gNil)))) tYes (tVar 8) [8, 9, 10]) tNil)))) tNil)))))
  (tSeq (tAsg (tCB (rRepr Kf) (tCons (tLst (tCons (tVar 3) (tCons (tVar 4) tNil))) tNil)) (gName 11))
  (tSeq (tFor (iList Kf (tVar 4)) (gName 12) (tSeq (tAsg (tCall (Fsp 2 p_law_lacks) [] E0 (tCons (tVar 3) (tCons (tVar 12) tNil))) (gName 13))
  (tSeq (tAsg (tCall (Fsp 2 placking) [] E0 (tCons (tVar 3) (tCons (tVar 12) tNil))) (gName 14))
  (tSeq (tIfS (tOr (tNot (tB (tCB (rIsi Kf) (tCons (tVar 14) (tCons (tC (.ty "list")) tNil))))) (tOr (tTest (tOp (rNeD Kf) (tVar 14) (tVar 13))) (tTest (tOp rNe (tCall (Fsp 2 pis_let_by) [] E0 (tCons (tVar 3) (tCons (tVar 12) tNil))) (tOp (rEqD Kf) (tVar 13) (tLst tNil)))))) (tRet (tC (.bl false))) tNext)
  (tSeq (tDrop (tBM Kf "list" rAppend (tVar 14) (tCons (tC (.int 0)) tNil)))
  (tIfS (tTest (tOp (rNeD Kf) (tCall (Fsp 2 placking) [] E0 (tCons (tVar 3) (tCons (tVar 12) tNil))) (tVar 13))) (tRet (tC (.bl false))) tNext))))))
  (tIfS (tTest (tOp rNe (tCB (rRepr Kf) (tCons (tLst (tCons (tVar 3) (tCons (tVar 4) tNil))) tNil)) (tVar 11))) (tRet (tC (.bl false))) tNext)))))))
  (tRet (tC (.bl true)))))
end OW

namespace OW
open PySem PySem.Spec PyProof.Rows L2
local macro_rules | `(tactic| walk_at "ow") => `(tactic| first
  | with_reducible refine sf_seq ?_
  | with_reducible refine sf_asg ?_
  | with_reducible refine sf_drop ?_
  | with_reducible refine sf_ret ?_
  | with_reducible refine sf_next ?_
  | (with_reducible apply ef_var; rfl)
  | with_reducible refine ef_int ?_
  | with_reducible refine ef_bl ?_
  | with_reducible refine ef_non ?_
  | with_reducible refine gf_name ?_
  | with_reducible refine gfs_nil ?_
  | with_reducible refine gfs_cons ?_
  | (with_reducible refine gf_tup ?_ ?_; rfl)
  | with_reducible refine tf_test ?_
  | with_reducible refine tf_yes ?_
  | with_reducible refine tf_B ?_
  | with_reducible refine af_cons ?_
  | with_reducible refine af_nil ?_
  | with_reducible refine ef_call ?_
  | with_reducible refine ef_I0i ?_
  | with_reducible refine ef_I0b ?_
  | with_reducible refine ef_I ?_
  | with_reducible refine ef_neg ?_
  | with_reducible refine ef_ixL ?_
  | with_reducible refine ef_ixT ?_
  | with_reducible refine ef_len ?_
  | with_reducible refine ef_tup ?_)
theorem sf_roll {Kf : PySem.W.Frag} {P : Program} {w : World} (ds : List D) (O : Own) (Kd : KD) (hl : ds.length = 2) (h : pRoll ds O Kd) : Sf (t_law_roll Kf P w) (args ds 6) O { nx := fun _ O' => Kd .non O', rt := Kd } := by
  obtain ⟨a, size, rfl, ⟨j, n, hj, hn⟩, h0, h1, hk⟩ := h
  show Sf _ [some (.ref a), some (.int size), none, none, none, none] O _
  have hlt := (List.getElem?_eq_some_iff.mp hj).1
  refine sf_wk (sf_open hj fun ns spot more rest l p q => ?_)
  unfold t_law_roll
  have hg : ∀ v : Addr × C, (O.set j v)[j]? = some v := fun v => List.getElem?_set_self hlt
  have step : ∀ {Γ te te2} {K : KD} {X : List D} {i : Int} {d : D}, Γ[0]? = some (some (D.ref a)) → te = tVar 0 → te2 = tC (.int i) → atI X i = some d → K d (O.set j (a, .lst X)) → Ef (tOp (rIxL Kf) te te2) Γ (O.set j (a, .lst X)) K := fun h1 h2 h3 h4 h5 => by
    subst h2 h3
    exact ef_ixL (ef_var h1 (ef_int ⟨_, _, _, .own j (hg _), rfl, h4, h5⟩))
  have stepW : ∀ {Γ te ta tb} {K : Ks} {X : List D} {k : Nat} {y : D}, Γ[0]? = some (some (D.ref a)) → ta = tVar 0 → tb = tC (.int k) → ixN X.length k = some k → Ef te Γ (O.set j (a, .lst X)) (fun d O1 => d = y ∧ O1 = O.set j (a, .lst X)) → K.nx Γ (O.set j (a, .lst (X.set k y))) → Sf (tAsg te (gSub ta tb rSetL)) Γ (O.set j (a, .lst X)) K := fun h1 h2 h3 h4 h5 h6 => by
    subst h2 h3
    refine sf_setL (h5.mono fun d O1 ⟨e1, e2⟩ => ?_)
    subst e1 e2
    refine ef_var h1 (ef_int ⟨_, j, _, _, _, rfl, rfl, hg _, h4, ?_⟩)
    rw [List.set_set]
    exact h6
  have last : ∀ Γ (more spot : Int), (∃ x y z u, Γ = [some (.ref a), some (.int size), x, y, z, u]) → 0 ≤ spot → spot ≤ n + 1 → ∀ rest, Sf (tSeq (tAsg (tOp rSub (tOp (rIxL Kf) (tVar 0) (tC (.int 2))) (tC (.int 1))) (gSub (tVar 0) (tC (.int 2)) rSetL))
  (tSeq (tAsg (tOp (rIxL Kf) (tVar 0) (tC (.int 3))) (gName 5))
  (tSeq (tAsg (tOp rFdiv (tVar 5) (tVar 1)) (gSub (tVar 0) (tC (.int 3)) rSetL))
  (tRet (tOp rMod (tVar 5) (tVar 1)))))) Γ (O.set j (a, .lst [.lst (ns.map .int), .int spot, .int more, .int rest])) (Ks.wk { nx := fun _ O' => Kd .non O', rt := Kd }) := by
    rintro Γ more spot ⟨x, y, z, u, rfl⟩ hs0 hs1 rest
    refine sf_seq (stepW (k := 2) rfl rfl rfl rfl (ef_I0i (step rfl rfl rfl rfl (ef_int ⟨_, _, rfl, rfl, rfl, rfl⟩))) ?_)
    refine sf_seq (sf_asg (step rfl rfl rfl rfl (gf_name ?_)))
    refine sf_seq (stepW (k := 3) rfl rfl rfl rfl (ef_I (ef_var rfl (ef_var rfl ⟨_, _, rfl, rfl, ⟨h0, h1⟩, rfl, rfl⟩))) ?_)
    refine sf_ret (ef_I (ef_var rfl (ef_var rfl ⟨_, _, rfl, rfl, h0, tick 1 O, wk_close hj l hs0 hs1, hk _ (Int.emod_nonneg _ (by omega)) (Int.emod_lt_of_pos _ h0)⟩)))
  walk_at "ow"
  refine sf_if (tf_test (ef_eqS (step rfl rfl rfl rfl (ef_int ⟨rfl, _, rfl, fun hm => ?_, fun hm => ?_⟩))))
  · walk_at "ow"
    walk_at "ow"
    refine step rfl rfl rfl rfl ?_
    walk_at "ow"
    walk_at "ow"
    refine stepW (k := 1) rfl rfl rfl rfl (ef_I0i (ef_var rfl (ef_int ⟨_, _, rfl, rfl, rfl, rfl⟩))) ?_
    walk_at "ow"
    walk_at "ow"
    walk_at "ow"
    walk_at "ow"
    refine sf_cut (fun Γ' O' => ∃ c : Int, Γ' = [some (.ref a), some (.int size), some (.int spot), some (.int c), none, none] ∧ O' = O.set j (a, .lst [.lst (ns.map .int), .int (spot + 1), .int more, .int rest])) ?_ ?_
    · refine sf_if (tf_test (ef_neP (step rfl rfl rfl rfl (ef_lst (af_nil ⟨by decide, .list (ns.map .int), .list [], .lst (pdL_ints ns), .lst .nil, ?_, ?_, _, rfl, fun hm => ?_, fun hm => ?_⟩)))))
      · exact shaped_ints ns
      · rfl
      · cases ns with
        | nil => cases hm
        | cons c cs =>
          refine sf_asg (ef_ixL (step rfl rfl rfl rfl (ef_I (ef_var rfl (ef_len (step rfl rfl rfl rfl ⟨_, .inl (.im _), ?_⟩))))))
          have hL : (0 : Int) < (((c :: cs).map D.int).length : Int) := by simp only [List.map_cons, List.length_cons]; omega
          refine ⟨_, _, rfl, rfl, hL, ?_⟩
          have h1 := Int.emod_nonneg spot (Int.ne_of_gt hL)
          have h2 := Int.emod_lt_of_pos spot hL
          have h3 : (spot % (((c :: cs).map D.int).length : Int)).toNat < ((c :: cs).map D.int).length := by omega
          refine ⟨(c :: cs).map D.int, _, _, .im _, rfl, atI_at h1 rfl h3, ?_⟩
          rw [List.getElem_map]
          walk_at "ow"
          exact ⟨_, rfl, rfl⟩
      · walk_at "ow"
        exact ⟨0, rfl, rfl⟩
    · rintro Γ' O' ⟨c, rfl, rfl⟩
      walk_at "ow"
      have hs64 : (-(2 ^ 64) < spot ∧ spot < 2 ^ 64) := by omega
      have fin : ∀ Γ, Γ = [some (.ref a), some (.int size), some (.int spot), some (.int c), none, none] → Sf (tSeq (tAsg (tOp rMod (tOp rMul (tOp rAdd (tOp rMod (tVar 3) (tC (.int 999953))) (tC (.int 37))) (tOp rAdd (tOp rAdd (tOp rMul (tVar 2) (tVar 2)) (tOp rMul (tC (.int 79)) (tVar 2))) (tC (.int 4001)))) (tC (.int 1000003))) (gName 4))
  (tSeq (tAsg (tOp rMod (tOp rPow (tVar 4) (tC (.int 3))) (tC (.int 998244353))) (gName 4))
  (tRet (tOp rMod (tOp rFdiv (tOp rMod (tOp rAdd (tVar 4) (tOp rMul (tC (.int 7109)) (tVar 2))) (tC (.int 1000033))) (tC (.int 2))) (tVar 1))))) Γ (O.set j (a, .lst [.lst (ns.map .int), .int (spot + 1), .int more, .int rest])) { nx := fun _ _ => False, rt := fun d O1 => ∃ O2, Wk O1 O2 ∧ Kd d O2 } := by
        intro Γ hΓ
        subst hΓ
        refine sf_seq (sf_asg (ef_I (ef_I (ef_I0i (ef_I (ef_var rfl (ef_int ⟨_, _, rfl, rfl, by decide, ?_⟩)))))))
        refine ef_int ⟨_, _, rfl, rfl, ef_I0i (ef_I0i (ef_I (ef_var rfl (ef_var rfl ⟨_, _, rfl, rfl, .inl hs64, ?_⟩))))⟩
        refine ef_I (ef_int (ef_var rfl ⟨_, _, rfl, rfl, .inl (by decide), _, _, rfl, rfl, ef_int ⟨_, _, rfl, rfl, _, _, rfl, rfl, ?_, ?_⟩⟩))
        · have e1 := Int.emod_nonneg c (show (999953 : Int) ≠ 0 by decide)
          have e2 := Int.emod_lt_of_pos c (show (0 : Int) < 999953 by decide)
          exact .inl (by omega)
        refine ef_int ⟨_, _, rfl, rfl, by decide, gf_name ?_⟩
        refine sf_seq (sf_asg (ef_I (ef_I (ef_var rfl (ef_int ⟨_, _, rfl, rfl, ?_, ef_int ⟨_, _, rfl, rfl, by decide, gf_name ?_⟩⟩)))))
        · refine ⟨by decide, by decide, ?_⟩
          have e1 := Int.emod_nonneg ((c % 999953 + 37) * (spot * spot + 79 * spot + 4001)) (show (1000003 : Int) ≠ 0 by decide)
          have e2 := Int.emod_lt_of_pos ((c % 999953 + 37) * (spot * spot + 79 * spot + 4001)) (show (0 : Int) < 1000003 by decide)
          omega
        refine sf_ret (ef_I (ef_I (ef_I (ef_I0i (ef_var rfl (ef_I (ef_int (ef_var rfl ⟨_, _, rfl, rfl, .inl (by decide), _, _, rfl, rfl, ef_int ⟨_, _, rfl, rfl, by decide, ef_int ⟨_, _, rfl, rfl, ⟨by decide, by decide⟩, ef_var rfl ⟨_, _, rfl, rfl, h0, tick 1 O, ?_, ?_⟩⟩⟩⟩)))))))) 
        · exact wk_close hj l (by omega) (by omega)
        · exact hk _ (Int.emod_nonneg _ (by omega)) (Int.emod_lt_of_pos _ h0)
      refine sf_if (tf_or (tf_test (ef_I0b (ef_var rfl (ef_len (step rfl rfl rfl rfl ⟨ns.map .int, .inl (.im _), _, _, rfl, rfl, _, rfl, fun hm => ?_, fun hm => ?_⟩))))))
      · refine tf_test (ef_I0b (ef_var rfl (ef_I (ef_int (ef_int ⟨_, _, rfl, rfl, ⟨by decide, by decide, by decide⟩, _, _, rfl, rfl, _, rfl, fun hm => ?_, fun hm => ?_⟩)))))
        · exact (fin _ rfl).mono (fun _ _ z => z.elim) (fun _ _ z => z) (fun _ _ z => z.elim) (fun _ _ z => z.elim)
        · walk_at "ow"
          walk_at "ow"
          refine stepW (k := 2) rfl rfl rfl rfl (ef_int ⟨rfl, rfl⟩) ?_
          refine stepW (k := 3) rfl rfl rfl rfl (ef_I0i (ef_var rfl (ef_I (ef_int (ef_int ⟨_, _, rfl, rfl, ⟨by decide, by decide, by decide⟩, _, _, rfl, rfl, rfl, rfl⟩))))) ?_
          exact last _ _ _ ⟨_, _, _, _, rfl⟩ (by omega) (by omega) _
      · exact ⟨fun _ => (fin _ rfl).mono (fun _ _ z => z.elim) (fun _ _ z => z) (fun _ _ z => z.elim) (fun _ _ z => z.elim), fun z => by cases z⟩
  · walk_at "ow"
    exact last _ _ _ ⟨_, _, _, _, rfl⟩ (by omega) (by omega) _
end OW

/-! ledgers and plans: data, promises, the simple defs -/
namespace OW
open PySem PySem.Spec PyProof.Rows L2
local macro_rules | `(tactic| walk_at "ow") => `(tactic| first
  | with_reducible refine sf_seq ?_
  | with_reducible refine sf_asg ?_
  | with_reducible refine sf_drop ?_
  | with_reducible refine sf_ret ?_
  | with_reducible refine sf_next ?_
  | (with_reducible apply ef_var; rfl)
  | with_reducible refine ef_int ?_
  | with_reducible refine ef_bl ?_
  | with_reducible refine ef_non ?_
  | with_reducible refine gf_name ?_
  | with_reducible refine gfs_nil ?_
  | with_reducible refine gfs_cons ?_
  | (with_reducible refine gf_tup ?_ ?_; rfl)
  | with_reducible refine tf_test ?_
  | with_reducible refine tf_yes ?_
  | with_reducible refine tf_B ?_
  | with_reducible refine af_cons ?_
  | with_reducible refine af_nil ?_
  | with_reducible refine ef_call ?_
  | with_reducible refine ef_I0i ?_
  | with_reducible refine ef_I0b ?_
  | with_reducible refine ef_I ?_
  | with_reducible refine ef_neg ?_
  | with_reducible refine ef_ixL ?_
  | with_reducible refine ef_ixT ?_
  | with_reducible refine ef_len ?_
  | with_reducible refine ef_tup ?_)
abbrev Num := List Int
abbrev Deed := Nat × Int × List Num
abbrev Kn := Num × Int × List Num
structure Bk where
  deeds : List Deed
  known : List Kn
abbrev Pay := Num × Int
def deedD (d : Deed) : D := .tup [.int d.1, .int d.2.1, .lst (d.2.2.map num)]
def knD (k : Kn) : D := .tup [num k.1, .int k.2.1, .lst (k.2.2.map num)]
def bookD (b : Bk) : D := .tup [.lst (b.deeds.map deedD), .lst (b.known.map knD)]
def payD (p : Pay) : D := .tup [num p.1, .int p.2]
def planD (pl : List (List Pay)) : D := .lst (pl.map fun r => .lst (r.map payD))
structure WfB (b : Bk) : Prop where
  ver : ∀ i (h : i < b.deeds.length), b.deeds[i].1 ≤ i
  askD : ∀ d ∈ b.deeds, ∀ n ∈ d.2.2, n ∈ b.known.map (·.1)
  askK : ∀ d ∈ b.known, ∀ n ∈ d.2.2, n ∈ b.known.map (·.1)
  nd : (b.known.map (·.1)).Nodup
  ne : ∀ k ∈ b.known, k.1 ≠ []
  dl : b.deeds.length ≤ 64
  kl : b.known.length ≤ 2000
  al : ∀ d ∈ b.deeds, d.2.2.length ≤ 64
  bl : ∀ d ∈ b.known, d.2.2.length ≤ 64
/-! ### the past -/
def pastF (b : Bk) : Nat → Nat → List Nat
  | 0, _ => []
  | f + 1, k => if k = 0 then [] else pastF b f (b.deeds.getD (k - 1) (0, 0, [])).1 ++ [k]
def pastOf (b : Bk) (k : Nat) : List Nat := pastF b k k
theorem ver_lt {b : Bk} (W : WfB b) {k : Nat} (hk : k ≠ 0) (hl : k ≤ b.deeds.length) : (b.deeds.getD (k - 1) (0, 0, [])).1 < k := by
  have h : k - 1 < b.deeds.length := by omega
  have z := W.ver (k - 1) h
  rw [List.getD_eq_getElem?_getD, List.getElem?_eq_getElem h]
  show b.deeds[k - 1].1 < k
  omega
theorem pastF_ge {b : Bk} (W : WfB b) : ∀ (f g k : Nat), k ≤ f → k ≤ g → k ≤ b.deeds.length → pastF b f k = pastF b g k
  | 0, g, k, hf, hg, hl => by
    obtain rfl : k = 0 := by omega
    cases g <;> simp [pastF]
  | f + 1, 0, k, hf, hg, hl => by
    obtain rfl : k = 0 := by omega
    simp [pastF]
  | f + 1, g + 1, k, hf, hg, hl => by
    unfold pastF
    by_cases hk : k = 0
    · rw [if_pos hk, if_pos hk]
    · rw [if_neg hk, if_neg hk]
      have z := ver_lt W hk hl
      rw [pastF_ge W f g _ (by omega) (by omega) (by omega)]
theorem past_step {b : Bk} (W : WfB b) {k : Nat} (hk : k ≠ 0) (hl : k ≤ b.deeds.length) : pastOf b k = pastOf b (b.deeds.getD (k - 1) (0, 0, [])).1 ++ [k] := by
  have z := ver_lt W hk hl
  unfold pastOf
  cases k with
  | zero => exact absurd rfl hk
  | succ k =>
    show pastF b (k + 1) (k + 1) = _
    rw [pastF, if_neg hk]
    rw [pastF_ge W k _ _ (by omega) (Nat.le_refl _) (by omega)]
theorem past_zero (b : Bk) : pastOf b 0 = [] := rfl
theorem past_le {b : Bk} (W : WfB b) : ∀ (k : Nat), k ≤ b.deeds.length → ∀ j ∈ pastOf b k, 0 < j ∧ j ≤ k := by
  intro k
  induction k using Nat.strongRecOn with
  | ind k ih =>
    intro hl j hj
    by_cases hk : k = 0
    · subst hk; cases hj
    · rw [past_step W hk hl] at hj
      have z := ver_lt W hk hl
      rcases List.mem_append.mp hj with m | m
      · have := ih _ z (by omega) j m
        omega
      · obtain rfl := List.mem_singleton.mp m
        omega
theorem past_len {b : Bk} (W : WfB b) : ∀ (k : Nat), k ≤ b.deeds.length → (pastOf b k).length ≤ k := by
  intro k
  induction k using Nat.strongRecOn with
  | ind k ih =>
    intro hl
    by_cases hk : k = 0
    · subst hk; exact Nat.le_refl _
    · rw [past_step W hk hl, List.length_append]
      have z := ver_lt W hk hl
      have := ih _ z (by omega)
      show _ + 1 ≤ _
      omega
abbrev natD (l : List Nat) : List D := l.map fun (j : Nat) => D.int (j : Int)
def pPast : Pre := fun ds O Kd => ∃ (b : Bk) (k : Nat), ds = [bookD b, .int k] ∧ WfB b ∧ k ≤ b.deeds.length ∧ Kd (.lst (natD (pastOf b k))) O
/-- book[0][k - 1] -/
theorem at_deed {b : Bk} {k : Nat} (hk : k ≠ 0) (hl : k ≤ b.deeds.length) : atI (b.deeds.map deedD) ((k : Int) - 1) = some (deedD (b.deeds.getD (k - 1) (0, 0, []))) := by
  have h : k - 1 < (b.deeds.map deedD).length := by rw [List.length_map]; omega
  rw [atI_at (by omega) (show ((k : Int) - 1).toNat = k - 1 by omega) h, List.getElem_map, List.getD_eq_getElem?_getD, List.getElem?_eq_getElem (by rw [List.length_map] at h; exact h)]
  rfl
section
variable {Kf : PySem.W.Frag} {P : Program} {w : World}
theorem ef_deed {Γ : Ctx} {O : Own} {K : KD} {i j : Nat} {b : Bk} {k : Nat} {c : Int} {d : D} (hi : Γ[i]? = some (some (bookD b))) (hj : Γ[j]? = some (some (.int k))) (hk : k ≠ 0) (hl : k ≤ b.deeds.length)
    (hd : atI [.int (b.deeds.getD (k - 1) (0, 0, [])).1, .int (b.deeds.getD (k - 1) (0, 0, [])).2.1, .lst ((b.deeds.getD (k - 1) (0, 0, [])).2.2.map num)] c = some d) (h : K d O) :
    Ef (tOp (rIxT Kf) (tOp (rIxL Kf) (tOp (rIxT Kf) (tVar i) (tC (.int 0))) (tOp rSub (tVar j) (tC (.int 1)))) (tC (.int c))) Γ O K :=
  ef_ixT (ef_ixL (ef_ixT (ef_var hi (ef_int ⟨_, _, _, rfl, rfl, rfl, ef_I0i (ef_var hj (ef_int ⟨_, _, rfl, rfl, _, _, _, .im _, rfl, at_deed hk hl, ef_int ⟨_, _, _, rfl, rfl, hd, h⟩⟩))⟩))))
theorem sf_past (ds : List D) (O : Own) (Kd : KD) (hl : ds.length = 2) (h : pPast ds O Kd) : Sf (tpast Kf P w) (args ds 3) O { nx := fun _ O' => Kd .non O', rt := Kd } := by
  obtain ⟨b, k, rfl, W, hk, hK⟩ := h
  show Sf _ [some (bookD b), some (.int k), none] O _
  unfold tpast
  refine sf_wk (sf_seq (sf_asg (ef_lstO (af_nil ⟨by decide, fun p => gf_name ?_⟩))))
  refine sf_cut (fun Γ' O' => Γ' = [some (bookD b), some (.int (0 : Nat)), some (.ref p)] ∧ O' = (p, .lst (natD (pastOf b k).reverse)) :: O) ?_ ?_
  · refine sf_while (fun m Γ' O' => ∃ acc, m ≤ b.deeds.length ∧ Γ' = [some (bookD b), some (.int m), some (.ref p)] ∧ O' = (p, .lst (natD acc)) :: O ∧ (pastOf b k).reverse = acc ++ (pastOf b m).reverse) k ⟨[], hk, rfl, rfl, rfl⟩ ?_
    rintro m Γ' O' ⟨acc, hm, rfl, rfl, e⟩
    refine tf_test (ef_I0b (ef_var rfl (ef_int ⟨_, _, rfl, rfl, _, rfl, fun ht => ?_, fun ht => ?_⟩)))
    · have h0 : m ≠ 0 := by have := of_decide_eq_true ht; omega
      have hz := ver_lt W h0 hm
      have e2 := past_step W h0 hm
      have hlen : acc.length < 1000000 := by
        have := congrArg List.length e
        rw [List.length_append, List.length_reverse] at this
        have := past_len W k hk
        have := W.dl
        omega
      refine sf_seq (sf_drop (ef_append (ef_var rfl ⟨p, rfl, ⟨0, _, rfl⟩, ef_var rfl ⟨0, _, rfl, by rw [List.length_map]; exact hlen, ?_⟩⟩)))
      refine sf_asg (ef_deed rfl rfl h0 hm rfl (gf_name ?_))
      refine ⟨_, hz, acc ++ [m], by omega, rfl, ?_, ?_⟩
      · show (p, C.lst (natD acc ++ natD [m])) :: O = _
        rw [← List.map_append]
      · rw [e, e2, List.reverse_append, List.append_assoc]
        rfl
    · have h0 : m = 0 := by have := of_decide_eq_false ht; omega
      subst h0
      refine ⟨rfl, ?_⟩
      rw [e, past_zero]
      simp
  · rintro Γ' O' ⟨rfl, rfl⟩
    refine sf_ret (ef_rev (ef_var rfl ⟨_, .own 0 rfl, .inl ?_⟩))
    rw [← List.map_reverse, List.reverse_reverse]
    exact ⟨O, wk_drop _ _, hK⟩
theorem sf_lpast (ds : List D) (O : Own) (Kd : KD) (hl : ds.length = 2) (h : pPast ds O Kd) : Sf (t_law_past Kf P w) (args ds 3) O { nx := fun _ O' => Kd .non O', rt := Kd } := by
  obtain ⟨b, k, rfl, W, hk, hK⟩ := h
  show Sf _ [some (bookD b), some (.int k), none] O _
  unfold t_law_past
  refine sf_seq (sf_asg (ef_lst (af_nil ⟨by decide, gf_name ?_⟩)))
  refine sf_cut (fun Γ' O' => Γ' = [some (bookD b), some (.int (0 : Nat)), some (.lst (natD (pastOf b k)))] ∧ O' = O) ?_ ?_
  · refine sf_while (fun m Γ' O' => ∃ acc, m ≤ b.deeds.length ∧ Γ' = [some (bookD b), some (.int m), some (.lst (natD acc))] ∧ O' = O ∧ pastOf b k = pastOf b m ++ acc) k ⟨[], hk, rfl, rfl, (List.append_nil _).symm⟩ ?_
    rintro m Γ' O' ⟨acc, hm, rfl, rfl, e⟩
    refine tf_test (ef_I0b (ef_var rfl (ef_int ⟨_, _, rfl, rfl, _, rfl, fun ht => ?_, fun ht => ?_⟩)))
    · have h0 : m ≠ 0 := by have := of_decide_eq_true ht; omega
      have hz := ver_lt W h0 hm
      have e2 := past_step W h0 hm
      have hlen : acc.length < 999999 := by
        have := congrArg List.length e
        rw [List.length_append] at this
        have := past_len W k hk
        have := W.dl
        omega
      refine sf_seq (sf_asg (ef_cat (ef_lst (af_cons (ef_var rfl (af_nil ⟨Nat.le_of_ble_eq_true rfl, ef_var rfl ⟨_, _, .im _, .im _, ?_, .inl (gf_name ?_)⟩⟩))))))
      · rw [List.length_map]
        show 1 + _ ≤ _
        omega
      refine sf_asg (ef_deed rfl rfl h0 hm rfl (gf_name ?_))
      refine ⟨_, hz, m :: acc, by omega, rfl, rfl, ?_⟩
      rw [e, e2, List.append_assoc]
      rfl
    · have h0 : m = 0 := by have := of_decide_eq_false ht; omega
      subst h0
      refine ⟨?_, rfl⟩
      rw [e, past_zero]
      rfl
  · rintro Γ' O' ⟨rfl, rfl⟩
    exact sf_ret (ef_var rfl hK)
end
end OW

/-! what a deed asks -/
namespace OW
open PySem PySem.Spec PyProof.Rows L2
local macro_rules | `(tactic| walk_at "ow") => `(tactic| first
  | with_reducible refine sf_seq ?_
  | with_reducible refine sf_asg ?_
  | with_reducible refine sf_drop ?_
  | with_reducible refine sf_ret ?_
  | with_reducible refine sf_next ?_
  | (with_reducible apply ef_var; rfl)
  | with_reducible refine ef_int ?_
  | with_reducible refine ef_bl ?_
  | with_reducible refine ef_non ?_
  | with_reducible refine gf_name ?_
  | with_reducible refine gfs_nil ?_
  | with_reducible refine gfs_cons ?_
  | (with_reducible refine gf_tup ?_ ?_; rfl)
  | with_reducible refine tf_test ?_
  | with_reducible refine tf_yes ?_
  | with_reducible refine tf_B ?_
  | with_reducible refine af_cons ?_
  | with_reducible refine af_nil ?_
  | with_reducible refine ef_call ?_
  | with_reducible refine ef_I0i ?_
  | with_reducible refine ef_I0b ?_
  | with_reducible refine ef_I ?_
  | with_reducible refine ef_neg ?_
  | with_reducible refine ef_ixL ?_
  | with_reducible refine ef_ixT ?_
  | with_reducible refine ef_len ?_
  | with_reducible refine ef_tup ?_)
/-! ### numbers as data -/
def pyNum (n : Num) : PyData := .tuple (n.map .int)
theorem pd_num {O : Own} (n : Num) : Pd O (num n) (pyNum n) := .tup (pdL_ints n)
theorem pdL_nums {O : Own} : ∀ ns : List Num, PdL O (ns.map num) (ns.map pyNum)
  | [] => .nil
  | n :: ns => .cons (pd_num n) (pdL_nums ns)
theorem eqvAll_ints : ∀ a b : List Int, PyData.eqvAll (a.map .int) (b.map .int) = decide (a = b)
  | [], [] => rfl
  | [], y :: ys => rfl
  | x :: xs, [] => rfl
  | x :: xs, y :: ys => by
    show (PyData.eqv (.int x) (.int y) && PyData.eqvAll (xs.map .int) (ys.map .int)) = _
    rw [eqvAll_ints xs ys]
    show ((x == y) && _) = _
    by_cases h : x = y
    · subst h
      by_cases h2 : xs = ys
      · subst h2; simp
      · simp [h2]
    · simp [h]
theorem eqv_num (a b : Num) : PyData.eqv (pyNum a) (pyNum b) = decide (a = b) := eqvAll_ints a b
theorem canLay_num (n : Num) : (pyNum n).canLay0 = true := canLay_ints n
theorem depth_num (n : Num) : (pyNum n).depth = 1 := by
  show PyData.depthAll (n.map .int) + 1 = 1
  rw [depth_ints]
theorem canLay_nums : ∀ ns : List Num, PyData.canLayAll0 (ns.map pyNum) = true
  | [] => rfl
  | n :: ns => by
    show ((pyNum n).canLay0 && PyData.canLayAll0 (ns.map pyNum)) = true
    rw [canLay_nums ns, canLay_num]
    rfl
theorem depth_nums : ∀ ns : List Num, PyData.depthAll (ns.map pyNum) ≤ 1
  | [] => by decide
  | n :: ns => by
    show max (pyNum n).depth (PyData.depthAll (ns.map pyNum)) ≤ 1
    rw [depth_num]
    have := depth_nums ns
    omega
theorem shaped_num (n : Num) : SeqAt.shaped (pyNum n) = true := by
  unfold SeqAt.shaped
  rw [canLay_num, depth_num]
  rfl
theorem shaped_nums (ns : List Num) : SeqAt.shaped (.list (ns.map pyNum)) = true := by
  unfold SeqAt.shaped
  rw [Bool.and_eq_true]
  refine ⟨canLay_nums ns, decide_eq_true ?_⟩
  show PyData.depthAll (ns.map pyNum) + 1 ≤ 64
  have := depth_nums ns
  omega
theorem any_num_in (ns : List Num) (n : Num) : ((ns.map pyNum).any fun z => PyData.eqv z (pyNum n)) = decide (n ∈ ns) := by
  induction ns with
  | nil => rfl
  | cons a ns ih =>
    rw [List.map_cons, List.any_cons, ih, eqv_num]
    by_cases h : a = n
    · subst h; simp
    · have h2 : ¬ n = a := fun z => h z.symm
      simp [h, h2]
/-! ### the walk -/
def heardN (b : Bk) : ND := b.known.map fun k => (k.1, .lst (k.2.2.map num))
def askedOf (b : Bk) (n : Num) : List Num := ((b.known.find? fun k => decide (k.1 = n)).map (·.2.2)).getD []
theorem find_known {b : Bk} {n : Num} (h : n ∈ b.known.map (·.1)) : ∃ k ∈ b.known, k.1 = n ∧ (b.known.find? fun k => decide (k.1 = n)) = some k := by
  cases e : b.known.find? fun k => decide (k.1 = n) with
  | none =>
    obtain ⟨k, hk, rfl⟩ := List.mem_map.mp h
    exact absurd (decide_eq_true rfl) (List.find?_eq_none.mp e k hk)
  | some k => exact ⟨k, List.mem_of_find?_eq_some e, by simpa using List.find?_some e, rfl⟩
theorem look_heard (b : Bk) (n : Num) (h : n ∈ b.known.map (·.1)) : lookN (heardN b) n = some (.lst ((askedOf b n).map num)) := by
  obtain ⟨k, hk, e, f⟩ := find_known h
  unfold lookN heardN askedOf
  rw [List.find?_map]
  show (((b.known.find? fun k => decide (k.1 = n)).map _).map _) = _
  rw [f]
  rfl
theorem isK_heard (b : Bk) (n : Num) (h : n ∈ b.known.map (·.1)) : IsK (num n) (dN (heardN b)) (some (.lst ((askedOf b n).map num))) := by
  rw [← look_heard b n h]
  exact isK_num _ _
theorem asked_known {b : Bk} (W : WfB b) (n : Num) : ∀ m ∈ askedOf b n, m ∈ b.known.map (·.1) := fun m hm => by
  unfold askedOf at hm
  cases e : b.known.find? fun k => decide (k.1 = n) with
  | none => rw [e] at hm; cases hm
  | some k =>
    rw [e] at hm
    exact W.askK k (List.mem_of_find?_eq_some e) m hm
theorem asked_len {b : Bk} (W : WfB b) (n : Num) : (askedOf b n).length ≤ 64 := by
  unfold askedOf
  cases e : b.known.find? fun k => decide (k.1 = n) with
  | none => exact Nat.zero_le _
  | some k => exact W.bl k (List.mem_of_find?_eq_some e)
def goAsk (b : Bk) : Nat → List Num → List Num → List Num
  | 0, _, found => found
  | f + 1, left, found => match left[left.length - 1]? with
    | none => found
    | some n => if n ∈ found then goAsk b f left.dropLast found else goAsk b f (left.dropLast ++ askedOf b n) (found ++ [n])
def unf (b : Bk) (found : List Num) : Nat := (b.known.filter fun k => !decide (k.1 ∈ found)).length
theorem unf_lt {b : Bk} {n : Num} {found : List Num} (h : n ∈ b.known.map (·.1)) (h2 : n ∉ found) : unf b (found ++ [n]) + 1 ≤ unf b found := by
  obtain ⟨k, hk, e⟩ := List.mem_map.mp h
  subst e
  unfold unf
  have : ∀ l : List Kn, k ∈ l → (l.filter fun q => !decide (q.1 ∈ found ++ [k.1])).length + 1 ≤ (l.filter fun q => !decide (q.1 ∈ found)).length := fun l => by
    have mono : ∀ l : List Kn, (l.filter fun q => !decide (q.1 ∈ found ++ [k.1])).length ≤ (l.filter fun q => !decide (q.1 ∈ found)).length := fun l => by
      induction l with
      | nil => exact Nat.le_refl _
      | cons q l ih =>
        rw [List.filter_cons, List.filter_cons]
        by_cases h1 : q.1 ∈ found
        · have h3 : q.1 ∈ found ++ [k.1] := List.mem_append_left _ h1
          rw [if_neg (by simp [h3]), if_neg (by simp [h1])]
          exact ih
        · rw [if_pos (show (!decide (q.1 ∈ found)) = true by simp [h1])]
          split
          · rw [List.length_cons, List.length_cons]; omega
          · rw [List.length_cons]; omega
    induction l with
    | nil => intro z; cases z
    | cons q l ih =>
      intro z
      rw [List.filter_cons, List.filter_cons]
      rcases List.mem_cons.mp z with e | m
      · subst e
        have h3 : k.1 ∈ found ++ [k.1] := List.mem_append_right _ List.mem_cons_self
        rw [if_neg (by simp [h3]), if_pos (by simp [h2]), List.length_cons]
        have := mono l
        omega
      · have i2 := ih m
        by_cases h1 : q.1 ∈ found
        · have h3 : q.1 ∈ found ++ [k.1] := List.mem_append_left _ h1
          rw [if_neg (by simp [h3]), if_neg (by simp [h1])]
          exact i2
        · rw [if_pos (show (!decide (q.1 ∈ found)) = true by simp [h1])]
          split
          · rw [List.length_cons, List.length_cons]; omega
          · rw [List.length_cons]; omega
  exact this _ hk
def fuelA (b : Bk) : Nat := 65 + 65 * b.known.length
def rawAsks (b : Bk) (k : Nat) : List Num := goAsk b (fuelA b) (b.deeds.getD (k - 1) (0, 0, [])).2.2 []
def asksOf (b : Bk) (k : Nat) : List Num := srt (rawAsks b k)
/-- the loops' state -/
structure AskSt (b : Bk) (R : List Num) (f : Nat) (left found : List Num) : Prop where
  go : goAsk b f left found = R
  mu : left.length + 65 * unf b found + 1 ≤ f
  fl : f ≤ fuelA b
  lk : ∀ n ∈ left, n ∈ b.known.map (·.1)
  fk : ∀ n ∈ found, n ∈ b.known.map (·.1)
  cnt : found.length + unf b found ≤ b.known.length
  nd : found.Nodup
theorem unf_nil (b : Bk) : unf b [] = b.known.length := by
  unfold unf
  rw [List.filter_eq_self.mpr fun k _ => by rfl]
theorem ask0 {b : Bk} (W : WfB b) {k : Nat} (hk : k ≠ 0) (hl : k ≤ b.deeds.length) : AskSt b (rawAsks b k) (fuelA b) (b.deeds.getD (k - 1) (0, 0, [])).2.2 [] := by
  have h : k - 1 < b.deeds.length := by omega
  have e : b.deeds.getD (k - 1) (0, 0, []) = b.deeds[k - 1] := by
    rw [List.getD_eq_getElem?_getD, List.getElem?_eq_getElem h]
    rfl
  have hm : b.deeds[k - 1] ∈ b.deeds := List.getElem_mem h
  refine ⟨rfl, ?_, Nat.le_refl _, ?_, fun n z => (by cases z), ?_, List.nodup_nil⟩
  · rw [unf_nil, e]
    have := W.al _ hm
    unfold fuelA
    omega
  · rw [e]
    exact W.askD _ hm
  · rw [unf_nil]
    exact Nat.le_of_eq (Nat.zero_add _)
theorem AskSt.pos {b : Bk} {R : List Num} {f : Nat} {left found : List Num} (S : AskSt b R f left found) : ∃ g, f = g + 1 := ⟨f - 1, by have := S.mu; omega⟩
theorem AskSt.done {b : Bk} {R : List Num} {f : Nat} {found : List Num} (S : AskSt b R f [] found) : found = R := by
  obtain ⟨g, rfl⟩ := S.pos
  exact S.go
theorem AskSt.seen {b : Bk} {R : List Num} {f : Nat} {left found : List Num} {n : Num} (S : AskSt b R (f + 1) left found) (hn : left[left.length - 1]? = some n) (h : n ∈ found) : AskSt b R f left.dropLast found := by
  have hg := S.go
  rw [goAsk, hn] at hg
  have hg2 : (if n ∈ found then goAsk b f left.dropLast found else goAsk b f (left.dropLast ++ askedOf b n) (found ++ [n])) = R := hg
  rw [if_pos h] at hg2
  have hp : 0 < left.length := by
    have := (List.getElem?_eq_some_iff.mp hn).1
    omega
  refine ⟨hg2, ?_, by have := S.fl; omega, fun m hm => S.lk m (List.dropLast_subset _ hm), S.fk, S.cnt, S.nd⟩
  have := S.mu
  rw [List.length_dropLast]
  omega
theorem AskSt.fresh {b : Bk} (W : WfB b) {R : List Num} {f : Nat} {left found : List Num} {n : Num} (S : AskSt b R (f + 1) left found) (hn : left[left.length - 1]? = some n) (h : n ∉ found) : AskSt b R f (left.dropLast ++ askedOf b n) (found ++ [n]) := by
  have hg := S.go
  rw [goAsk, hn] at hg
  have hg2 : (if n ∈ found then goAsk b f left.dropLast found else goAsk b f (left.dropLast ++ askedOf b n) (found ++ [n])) = R := hg
  rw [if_neg h] at hg2
  have hp : 0 < left.length := by
    have := (List.getElem?_eq_some_iff.mp hn).1
    omega
  have hk := S.lk n (List.mem_of_getElem? hn)
  have hu := unf_lt hk h
  have hal := asked_len W n
  refine ⟨hg2, ?_, by have := S.fl; omega, fun m hm => ?_, fun m hm => ?_, ?_, ?_⟩
  · have := S.mu
    rw [List.length_append, List.length_dropLast]
    omega
  · rcases List.mem_append.mp hm with z | z
    · exact S.lk m (List.dropLast_subset _ z)
    · exact asked_known W n m z
  · rcases List.mem_append.mp hm with z | z
    · exact S.fk m z
    · obtain rfl := List.mem_singleton.mp z
      exact hk
  · have := S.cnt
    rw [List.length_append]
    show found.length + 1 + _ ≤ _
    omega
  · exact List.nodup_append.mpr ⟨S.nd, List.nodup_cons.mpr ⟨fun z => (by cases z), List.nodup_nil⟩, fun a ha c hc e => h (by
      obtain rfl := List.mem_singleton.mp hc
      rw [← e]
      exact ha)⟩
theorem AskSt.small {b : Bk} (W : WfB b) {R : List Num} {f : Nat} {left found : List Num} (S : AskSt b R f left found) : left.length ≤ 200000 ∧ found.length ≤ 2000 := by
  have := S.mu
  have := S.fl
  have := S.cnt
  have := W.kl
  unfold fuelA at *
  omega
theorem known_ne {b : Bk} (W : WfB b) {n : Num} (h : n ∈ b.known.map (·.1)) : n ≠ [] := by
  obtain ⟨k, hk, rfl⟩ := List.mem_map.mp h
  exact W.ne k hk
theorem asks_known {b : Bk} (W : WfB b) {k : Nat} (hk : k ≠ 0) (hl : k ≤ b.deeds.length) : ∀ n ∈ asksOf b k, n ∈ b.known.map (·.1) := by
  have main : ∀ f left found, AskSt b (rawAsks b k) f left found → ∀ n ∈ rawAsks b k, n ∈ b.known.map (·.1) := by
    intro f
    induction f with
    | zero => intro left found S; have := S.mu; omega
    | succ f ih =>
      intro left found S
      cases e : left[left.length - 1]? with
      | none =>
        have hg := S.go
        rw [goAsk, e] at hg
        have hg2 : found = rawAsks b k := hg
        rw [← hg2]
        exact S.fk
      | some n =>
        by_cases h : n ∈ found
        · exact ih _ _ (S.seen e h)
        · exact ih _ _ (S.fresh W e h)
  intro n hn
  exact main _ _ _ (ask0 W hk hl) n ((srt_perm _).mem_iff.mp hn)
theorem asks_len {b : Bk} (W : WfB b) {k : Nat} (hk : k ≠ 0) (hl : k ≤ b.deeds.length) : (asksOf b k).length ≤ 2000 ∧ (asksOf b k).Nodup := by
  have main : ∀ f left found, AskSt b (rawAsks b k) f left found → (rawAsks b k).length ≤ 2000 ∧ (rawAsks b k).Nodup := by
    intro f
    induction f with
    | zero => intro left found S; have := S.mu; omega
    | succ f ih =>
      intro left found S
      cases e : left[left.length - 1]? with
      | none =>
        have hg := S.go
        rw [goAsk, e] at hg
        have hg2 : found = rawAsks b k := hg
        rw [← hg2]
        exact ⟨(S.small W).2, S.nd⟩
      | some n =>
        by_cases h : n ∈ found
        · exact ih _ _ (S.seen e h)
        · exact ih _ _ (S.fresh W e h)
  have z := main _ _ _ (ask0 W hk hl)
  exact ⟨Nat.le_trans (Nat.le_of_eq (srt_perm (rawAsks b k)).length_eq) z.1, (srt_perm _).nodup_iff.mpr z.2⟩
def pAsks : Pre := fun ds O Kd => ∃ (b : Bk) (k : Nat), ds = [bookD b, .int k] ∧ WfB b ∧ k ≠ 0 ∧ k ≤ b.deeds.length ∧ Kd (.lst ((asksOf b k).map num)) O
section
variable {Kf : PySem.W.Frag} {P : Program} {w : World}
theorem eqv_nil (ns : List Num) : PyData.eqv (.list (ns.map pyNum)) (.list []) = ns.isEmpty := by
  cases ns <;> rfl
theorem last_num {left : List Num} (h : left ≠ []) : ∃ n, left[left.length - 1]? = some n ∧ (left.map num)[(left.map num).length - 1]? = some (num n) := by
  have hp : left.length - 1 < left.length := by
    cases left with
    | nil => exact absurd rfl h
    | cons a l => rw [List.length_cons]; omega
  refine ⟨left[left.length - 1], List.getElem?_eq_getElem hp, ?_⟩
  rw [List.length_map, List.getElem?_map, List.getElem?_eq_getElem hp]
  rfl
theorem map_dropLast {α β : Type} (f : α → β) (l : List α) : (l.map f).dropLast = l.dropLast.map f := by
  rw [List.dropLast_eq_take, List.dropLast_eq_take, List.length_map, List.map_take]
def trues (found : List Num) : ND := found.map fun n => (n, .bl true)
theorem look_trues (found : List Num) (n : Num) : (lookN (trues found) n).isSome = decide (n ∈ found) := by
  unfold lookN trues
  induction found with
  | nil => rfl
  | cons a l ih =>
    rw [List.map_cons, List.find?_cons]
    by_cases h : a = n
    · subst h
      simp
    · have h2 : ¬ n = a := fun z => h z.symm
      simp only [decide_eq_false h]
      rw [ih]
      simp [h2]
theorem put_trues {found : List Num} {n : Num} (h : n ∉ found) : putN (trues found) n (.bl true) = trues (found ++ [n]) := by
  unfold putN trues
  rw [if_neg]
  · rw [List.map_append]; rfl
  · intro z
    obtain ⟨p, hp, e⟩ := List.any_eq_true.mp z
    obtain ⟨q, hq, rfl⟩ := List.mem_map.mp hp
    exact h (by rw [← of_decide_eq_true e]; exact hq)
/-- the three names of an entry -/
theorem gf_kn {Γ : Ctx} {i j l : Nat} {k : Kn} {K : Ctx → Prop} (h : K (((Γ.set i (some (num k.1))).set j (some (.int k.2.1))).set l (some (.lst (k.2.2.map num))))) : Gf (gTup Kf 3 (gCons (gName i) (gCons (gName j) (gCons (gName l) gNil)))) Γ (knD k) K :=
  gf_tup rfl (gfs_cons (gf_name (gfs_cons (gf_name (gfs_cons (gf_name (gfs_nil h)))))))
theorem ef_known {Γ : Ctx} {O : Own} {K : KD} {i : Nat} {b : Bk} (hi : Γ[i]? = some (some (bookD b))) (h : K (.lst (b.known.map knD)) O) : Ef (tOp (rIxT Kf) (tVar i) (tC (.int 1))) Γ O K :=
  ef_ixT (ef_var hi (ef_int ⟨_, _, _, rfl, rfl, rfl, h⟩))
theorem ef_deeds {Γ : Ctx} {O : Own} {K : KD} {i : Nat} {b : Bk} (hi : Γ[i]? = some (some (bookD b))) (h : K (.lst (b.deeds.map deedD)) O) : Ef (tOp (rIxT Kf) (tVar i) (tC (.int 0))) Γ O K :=
  ef_ixT (ef_var hi (ef_int ⟨_, _, _, rfl, rfl, rfl, h⟩))
theorem kl_lt {b : Bk} (W : WfB b) : b.known.length < 1000000 := by have := W.kl; omega
theorem sf_asks (ds : List D) (O : Own) (Kd : KD) (hl : ds.length = 2) (h : pAsks ds O Kd) : Sf (tasks Kf P w) (args ds 8) O { nx := fun _ O' => Kd .non O', rt := Kd } := by
  obtain ⟨b, k, rfl, W, hk0, hk, hK⟩ := h
  show Sf _ [some (bookD b), some (.int k), none, none, none, none, none, none] O _
  unfold tasks
  refine sf_wk (sf_seq (sf_asg (ef_dcTt gok3 (ef_known rfl ⟨Kn, b.known, knD, (·.1), fun k => .lst (k.2.2.map num), .im _, kl_lt W, W.nd, fun a ha c Dl => gf_kn (ef_var rfl ⟨rfl, rfl, ef_var rfl ⟨rfl, rfl⟩⟩), fun ph => gf_name ?_⟩))))
  refine sf_seq (sf_asg (ef_dnewT fun pf => gf_name ?_))
  refine sf_seq (sf_asg (ef_list (ef_deed rfl rfl hk0 hk rfl ⟨_, .inl (.im _), fun pl => gf_name ?_⟩)))
  refine sf_cut (fun Γ' O' => ∃ x, Γ' = [some (bookD b), some (.int k), some (.ref ph), x, none, none, some (.ref pf), some (.ref pl)] ∧ O' = (pl, .lst []) :: (pf, dN (trues (rawAsks b k))) :: (ph, dN (heardN b)) :: O ∧ ∀ n ∈ rawAsks b k, n ∈ b.known.map (·.1)) ?_ ?_
  · refine sf_while (fun m Γ' O' => ∃ x left found, AskSt b (rawAsks b k) m left found ∧ Γ' = [some (bookD b), some (.int k), some (.ref ph), x, none, none, some (.ref pf), some (.ref pl)] ∧ O' = (pl, .lst (left.map num)) :: (pf, dN (trues found)) :: (ph, dN (heardN b)) :: O) (fuelA b) ⟨none, _, [], ask0 W hk0 hk, rfl, rfl⟩ ?_
    rintro m Γ' O' ⟨x, left, found, S, rfl, rfl⟩
    obtain ⟨m, rfl⟩ := S.pos
    refine tf_test (ef_neP (ef_var rfl (ef_lst (af_nil ⟨by decide, _, _, .own 0 rfl (pdL_nums left), .lst .nil, shaped_nums left, rfl, _, rfl, fun ht => ?_, fun ht => ?_⟩))))
    · have hne : left ≠ [] := fun z => by subst z; cases ht
      obtain ⟨n, e1, e2⟩ := last_num hne
      refine sf_seq (sf_asg (ef_pop (ef_var rfl ⟨pl, 0, _, _, rfl, rfl, e2, gf_name ?_⟩)))
      refine sf_if (tf_B (ef_dnotin (ef_var rfl (ef_var rfl ⟨pf, 1, _, _, rfl, rfl, isK_num _ n, _, rfl, fun ht => ?_, fun ht => ?_⟩))))
      · rw [look_trues] at ht
        have hn : n ∉ found := fun z => by rw [decide_eq_true z] at ht; cases ht
        have S2 := S.fresh W e1 hn
        have hsm := S.small W
        refine sf_seq (sf_dput (ef_bl (ef_var rfl (ef_var rfl ⟨pf, 1, _, _, rfl, rfl, putC_num (by unfold trues; rw [List.length_map]; omega), ?_⟩))))
        refine sf_drop (ef_extend (ef_var rfl ⟨pl, rfl, ⟨0, _, rfl⟩, ef_dget (ef_var rfl (ef_var rfl ⟨ph, 2, _, _, rfl, rfl, isK_heard b n (S.lk n (List.mem_of_getElem? e1)), 0, _, _, rfl, .im _, ?_, ?_⟩))⟩))
        · rw [map_dropLast, List.length_map, List.length_map]
          have := asked_len W n
          rw [List.length_dropLast]
          omega
        · refine ⟨m, Nat.lt_succ_self _, _, _, _, S2, rfl, ?_⟩
          show (pl, C.lst ((left.map num).dropLast ++ (askedOf b n).map num)) :: (pf, dN (putN (trues found) n (.bl true))) :: _ = _
          rw [map_dropLast, put_trues hn, List.map_append]
      · rw [look_trues] at ht
        have hn : n ∈ found := by
          by_cases z : n ∈ found
          · exact z
          · rw [decide_eq_false z] at ht; cases ht
        refine sf_next ⟨m, Nat.lt_succ_self _, _, _, _, S.seen e1 hn, rfl, ?_⟩
        show (pl, C.lst ((left.map num).dropLast)) :: _ = _
        rw [map_dropLast]
    · have he : left = [] := by
        cases left with
        | nil => rfl
        | cons a l => cases ht
      subst he
      have z := S.done
      subst z
      exact ⟨x, rfl, rfl, S.fk⟩
  · rintro Γ' O' ⟨x, rfl, rfl, hkn⟩
    refine sf_ret (ef_sortD (ef_var rfl ⟨pf, 1, _, rawAsks b k, rfl, rfl, ?_, fun n hn => known_ne W (hkn n hn), sortFin_srt (.inl ⟨O, wk_app [_, _, _] O, hK⟩)⟩))
    unfold trues
    rw [List.map_map, List.map_map]
    rfl
end
end OW

/-! what a deed asks by the law's own look; own steps; what is paid -/
namespace OW
open PySem PySem.Spec PyProof.Rows L2
local macro_rules | `(tactic| walk_at "ow") => `(tactic| first
  | with_reducible refine sf_seq ?_
  | with_reducible refine sf_asg ?_
  | with_reducible refine sf_drop ?_
  | with_reducible refine sf_ret ?_
  | with_reducible refine sf_next ?_
  | (with_reducible apply ef_var; rfl)
  | with_reducible refine ef_int ?_
  | with_reducible refine ef_bl ?_
  | with_reducible refine ef_non ?_
  | with_reducible refine gf_name ?_
  | with_reducible refine gfs_nil ?_
  | with_reducible refine gfs_cons ?_
  | (with_reducible refine gf_tup ?_ ?_; rfl)
  | with_reducible refine tf_test ?_
  | with_reducible refine tf_yes ?_
  | with_reducible refine tf_B ?_
  | with_reducible refine af_cons ?_
  | with_reducible refine af_nil ?_
  | with_reducible refine ef_call ?_
  | with_reducible refine ef_I0i ?_
  | with_reducible refine ef_I0b ?_
  | with_reducible refine ef_I ?_
  | with_reducible refine ef_neg ?_
  | with_reducible refine ef_ixL ?_
  | with_reducible refine ef_ixT ?_
  | with_reducible refine ef_len ?_
  | with_reducible refine ef_tup ?_)
section
variable {Kf : PySem.W.Frag} {P : Program} {w : World}
/-- dict([(number, v) ..]) -/
theorem ef_dictN {Γ : Ctx} {O : Own} {K : KD} {te : TE} (h : Ef te Γ O fun d O1 => ∃ m : ND, IsL O1 d (m.map fun p => .tup [num p.1, p.2]) ∧ (m.map (·.1)).Nodup ∧ ∀ p, K (.ref p) ((p, dN m) :: O1)) : Ef (tCB rDictT (tCons te tNil)) Γ O K :=
  ef_dictT (h.mono fun d O1 ⟨m, hl, hn, hk⟩ => ⟨m.map fun p => (intKs p.1, p.2), by
    rw [List.map_map]
    have e : (fun p : List Key × D => D.tup [.tup (p.1.map kD), p.2]) ∘ (fun p : List Int × D => (intKs p.1, p.2)) = fun p => .tup [num p.1, p.2] := by
      funext p
      show D.tup [.tup ((intKs p.1).map kD), p.2] = _
      rw [← num_eq]
    rw [e]
    exact hl, fun p => by
    rw [mergeD_num m hn]
    exact hk p⟩)
theorem sf_lasks (ds : List D) (O : Own) (Kd : KD) (hl : ds.length = 2) (h : pAsks ds O Kd) : Sf (t_law_asks Kf P w) (args ds 9) O { nx := fun _ O' => Kd .non O', rt := Kd } := by
  obtain ⟨b, k, rfl, W, hk0, hk, hK⟩ := h
  show Sf _ [some (bookD b), some (.int k), none, none, none, none, none, none, none] O _
  unfold t_law_asks
  refine sf_wk (sf_seq (sf_asg (ef_dictN (ef_lcLt gok3 (ef_known rfl ⟨Kn, b.known, knD, fun _ => true, fun k => .tup [num k.1, .lst (k.2.2.map num)], .im _, kl_lt W, fun a ha acc Dl => gf_kn (tf_yes ⟨rfl, rfl, fun _ => ef_tup (af_cons (ef_var rfl (af_cons (ef_var rfl (af_nil ⟨Nat.le_of_ble_eq_true rfl, rfl, rfl⟩)))))⟩), .inl ⟨heardN b, ?_, ?_, fun ph => gf_name ?_⟩⟩)))))
  · rw [List.filter_eq_self.mpr fun _ _ => rfl]
    unfold heardN
    rw [List.map_map]
    exact .im _
  · unfold heardN
    rw [List.map_map]
    exact W.nd
  refine sf_seq (sf_asg (ef_lstO (af_nil ⟨by decide, fun pf => gf_name ?_⟩)))
  refine sf_seq (sf_asg (ef_list (ef_deed rfl rfl hk0 hk rfl ⟨_, .inl (.im _), fun pl => gf_name ?_⟩)))
  refine sf_cut (fun Γ' O' => ∃ x pl, Γ' = [some (bookD b), some (.int k), some (.ref ph), none, none, none, some (.ref pf), some (.ref pl), x] ∧ O' = (pl, .lst []) :: (pf, .lst ((rawAsks b k).map num)) :: (ph, dN (heardN b)) :: O ∧ ∀ n ∈ rawAsks b k, n ∈ b.known.map (·.1)) ?_ ?_
  · refine sf_while (fun m Γ' O' => ∃ x pl left found, AskSt b (rawAsks b k) m left found ∧ Γ' = [some (bookD b), some (.int k), some (.ref ph), none, none, none, some (.ref pf), some (.ref pl), x] ∧ O' = (pl, .lst (left.map num)) :: (pf, .lst (found.map num)) :: (ph, dN (heardN b)) :: O) (fuelA b) ⟨none, pl, _, [], ask0 W hk0 hk, rfl, rfl⟩ ?_
    rintro m Γ' O' ⟨x, pl, left, found, S, rfl, rfl⟩
    obtain ⟨m, rfl⟩ := S.pos
    refine tf_test (ef_neP (ef_var rfl (ef_lst (af_nil ⟨by decide, _, _, .own 0 rfl (pdL_nums left), .lst .nil, shaped_nums left, rfl, _, rfl, fun ht => ?_, fun ht => ?_⟩))))
    · have hne : left ≠ [] := fun z => by subst z; cases ht
      obtain ⟨n, e1, e2⟩ := last_num hne
      refine sf_wk (sf_seq (sf_asg (ef_pop (ef_var rfl ⟨pl, 0, _, _, rfl, rfl, e2, gf_name ?_⟩))))
      refine sf_if (tf_test (ef_notinP (ef_var rfl (ef_var rfl ⟨_, _, pd_num n, .own 1 rfl (pdL_nums found), shaped_num n, shaped_nums found, _, rfl, fun ht => ?_, fun ht => ?_⟩))))
      · rw [any_num_in] at ht
        have hn : n ∉ found := fun z => by rw [decide_eq_true z] at ht; cases ht
        have S2 := S.fresh W e1 hn
        have hsm := S.small W
        refine sf_seq (sf_drop (ef_append (ef_var rfl ⟨pf, rfl, ⟨1, _, rfl⟩, ef_var rfl ⟨1, _, rfl, by rw [List.length_map]; omega, ?_⟩⟩)))
        refine sf_asg (ef_cat (ef_var rfl (ef_dget (ef_var rfl (ef_var rfl ⟨ph, 2, _, _, rfl, rfl, isK_heard b n (S.lk n (List.mem_of_getElem? e1)), _, _, .own 0 rfl, .im _, ?_, .inr fun p2 => gf_name ?_⟩)))))
        · rw [map_dropLast, List.length_map, List.length_map]
          have := asked_len W n
          rw [List.length_dropLast]
          omega
        · refine ⟨_, (wk_mid [_] _ (pl, .lst (left.map num).dropLast)), m, Nat.lt_succ_self _, _, p2, _, _, S2, rfl, ?_⟩
          show (p2, C.lst ((left.map num).dropLast ++ (askedOf b n).map num)) :: (pf, .lst (found.map num ++ [num n])) :: _ = _
          rw [map_dropLast, ← List.map_append, List.map_append (l₁ := found)]
          rfl
      · rw [any_num_in] at ht
        have hn : n ∈ found := by
          by_cases z : n ∈ found
          · exact z
          · rw [decide_eq_false z] at ht; cases ht
        refine sf_next ⟨_, Wk.refl _, m, Nat.lt_succ_self _, _, pl, _, _, S.seen e1 hn, rfl, ?_⟩
        show (pl, C.lst ((left.map num).dropLast)) :: _ = _
        rw [map_dropLast]
    · have he : left = [] := by
        cases left with
        | nil => rfl
        | cons a l => cases ht
      subst he
      have z := S.done
      subst z
      exact ⟨x, pl, rfl, rfl, S.fk⟩
  · rintro Γ' O' ⟨x, pl, rfl, rfl, hkn⟩
    exact sf_ret (ef_sortN (ef_var rfl ⟨rawAsks b k, .own 1 rfl, fun n hn => known_ne W (hkn n hn), sortFin_srt (.inl ⟨O, wk_app [_, _, _] O, hK⟩)⟩))
/-! ### own steps -/
def ownN (b : Bk) : ND := b.known.map fun k => (k.1, .int k.2.1)
def ownOf (b : Bk) (n : Num) : Int := ((b.known.find? fun k => decide (k.1 = n)).map (·.2.1)).getD 0
theorem look_own (b : Bk) (n : Num) (h : n ∈ b.known.map (·.1)) : lookN (ownN b) n = some (.int (ownOf b n)) := by
  obtain ⟨k, hk, e, f⟩ := find_known h
  unfold lookN ownN ownOf
  rw [List.find?_map]
  show (((b.known.find? fun k => decide (k.1 = n)).map _).map _) = _
  rw [f]
  rfl
theorem isK_own (b : Bk) (n : Num) (h : n ∈ b.known.map (·.1)) : IsK (num n) (dN (ownN b)) (some (.int (ownOf b n))) := by
  rw [← look_own b n h]
  exact isK_num _ _
def pOwns : Pre := fun ds O Kd => ∃ (b : Bk), ds = [bookD b] ∧ WfB b ∧ ∀ p, Kd (.ref p) ((p, dN (ownN b)) :: O)
theorem sf_own_steps (ds : List D) (O : Own) (Kd : KD) (hl : ds.length = 1) (h : pOwns ds O Kd) : Sf (town_steps Kf P w) (args ds 4) O { nx := fun _ O' => Kd .non O', rt := Kd } := by
  obtain ⟨b, rfl, W, hK⟩ := h
  show Sf _ [some (bookD b), none, none, none] O _
  exact sf_ret (ef_dcTt gok3 (ef_known rfl ⟨Kn, b.known, knD, (·.1), fun k => .int k.2.1, .im _, kl_lt W, W.nd, fun a ha c Dl => gf_kn (ef_var rfl ⟨rfl, rfl, ef_var rfl ⟨rfl, rfl⟩⟩), hK⟩))
theorem sf_lowns (ds : List D) (O : Own) (Kd : KD) (hl : ds.length = 1) (h : pOwns ds O Kd) : Sf (t_law_owns Kf P w) (args ds 4) O { nx := fun _ O' => Kd .non O', rt := Kd } := by
  obtain ⟨b, rfl, W, hK⟩ := h
  show Sf _ [some (bookD b), none, none, none] O _
  refine sf_ret (ef_dictN (ef_lcLt gok3 (ef_known rfl ⟨Kn, b.known, knD, fun _ => true, fun k => .tup [num k.1, .int k.2.1], .im _, kl_lt W, fun a ha acc Dl => gf_kn (tf_yes ⟨rfl, rfl, fun _ => ef_tup (af_cons (ef_var rfl (af_cons (ef_var rfl (af_nil ⟨Nat.le_of_ble_eq_true rfl, rfl, rfl⟩)))))⟩), .inl ⟨ownN b, ?_, ?_, hK⟩⟩)))
  · rw [List.filter_eq_self.mpr fun _ _ => rfl]
    unfold ownN
    rw [List.map_map]
    exact .im _
  · unfold ownN
    rw [List.map_map]
    exact W.nd
/-! ### what is paid -/
theorem IsL.swap {O : Own} {d : D} {xs : List D} {p : Addr} {c c' : C} (h : IsL ((p, c) :: O) d xs) (hc : ∀ xs, c ≠ .lst xs) : IsL ((p, c') :: O) d xs := by
  cases h with
  | im => exact .im _
  | own j e =>
    cases j with
    | zero => exact absurd (congrArg Prod.snd (Option.some.inj e)) (hc _)
    | succ j => exact .own (j + 1) e
/-- a plan, its rows known or owned -/
def PlanAt (O : Own) (d : D) (pl : List (List Pay)) : Prop := ∃ rows : List D, IsL O d rows ∧ rows.length = pl.length ∧ ∀ i (h : i < pl.length), IsL O (rows.getD i .non) (pl[i].map payD)
theorem planAt_pure (O : Own) (pl : List (List Pay)) : PlanAt O (planD pl) pl :=
  ⟨_, .im _, List.length_map _, fun i h => by rw [map_getD pl (fun r => .lst (r.map payD)) h]; exact .im _⟩
theorem PlanAt.cons {O : Own} {d : D} {pl : List (List Pay)} (h : PlanAt O d pl) (p : Addr × C) : PlanAt (p :: O) d pl :=
  let ⟨rows, a, b, c⟩ := h
  ⟨rows, a.cons p, b, fun i hi => (c i hi).cons p⟩
theorem PlanAt.app {O : Own} {d : D} {pl : List (List Pay)} (h : PlanAt O d pl) (X : Own) : PlanAt (X ++ O) d pl :=
  let ⟨rows, a, b, c⟩ := h
  ⟨rows, a.app X, b, fun i hi => (c i hi).app X⟩
theorem PlanAt.tick {O : Own} {d : D} {pl : List (List Pay)} {n : Nat} (h : PlanAt O d pl) : PlanAt (tick n O) d pl :=
  let ⟨rows, a, b, c⟩ := h
  ⟨rows, a.tick, b, fun i hi => (c i hi).tick⟩
abbrev NI := List (Num × Int)
def lookI (m : NI) (n : Num) : Int := ((m.find? fun p => decide (p.1 = n)).map (·.2)).getD 0
def ndI (m : NI) : ND := m.map fun p => (p.1, .int p.2)
def addI (m : NI) (p : Pay) : NI := if (m.any fun q => decide (q.1 = p.1)) = true then m.map (fun q => if q.1 = p.1 then (q.1, lookI m p.1 + p.2) else q) else m ++ [(p.1, lookI m p.1 + p.2)]
def addRow (m : NI) (r : List Pay) : NI := r.foldl addI m
def paidI (pl : List (List Pay)) (way : List Nat) : NI := way.foldl (fun m k => addRow m (pl.getD (k - 1) [])) []
theorem look_ndI (m : NI) (n : Num) : lookN (ndI m) n = (m.find? fun p => decide (p.1 = n)).map fun p => .int p.2 := by
  unfold lookN ndI
  rw [List.find?_map, Option.map_map]
  rfl
theorem getD_ndI (m : NI) (n : Num) : (lookN (ndI m) n).getD (.int 0) = .int (lookI m n) := by
  rw [look_ndI]
  unfold lookI
  cases m.find? fun p => decide (p.1 = n) <;> rfl
theorem put_ndI (m : NI) (p : Pay) : putN (ndI m) p.1 (.int (lookI m p.1 + p.2)) = ndI (addI m p) := by
  unfold putN addI
  have e : ((ndI m).any fun q => decide (q.1 = p.1)) = m.any fun q => decide (q.1 = p.1) := by
    unfold ndI
    rw [List.any_map]
    rfl
  rw [e]
  split
  · unfold ndI
    rw [List.map_map, List.map_map]
    congr 1
    funext q
    show (if q.1 = p.1 then (q.1, D.int (lookI m p.1 + p.2)) else (q.1, .int q.2)) = (((if q.1 = p.1 then (q.1, lookI m p.1 + p.2) else q) : Num × Int).1, D.int ((if q.1 = p.1 then (q.1, lookI m p.1 + p.2) else q) : Num × Int).2)
    split <;> rfl
  · unfold ndI
    rw [List.map_append]
    rfl
theorem addI_len (m : NI) (p : Pay) : (addI m p).length ≤ m.length + 1 := by
  unfold addI
  split
  · rw [List.length_map]; omega
  · rw [List.length_append]; exact Nat.le_refl _
theorem addRow_len : ∀ (r : List Pay) (m : NI), (addRow m r).length ≤ m.length + r.length
  | [], m => Nat.le_refl _
  | p :: r, m => by
    have := addRow_len r (addI m p)
    have := addI_len m p
    show (addRow (addI m p) r).length ≤ m.length + (r.length + 1)
    omega
def SmallP (pl : List (List Pay)) : Prop := ∀ r ∈ pl, r.length ≤ 10000
def pPaid : Pre := fun ds O Kd => ∃ (d : D) (pl : List (List Pay)) (way : List Nat), ds = [d, .lst (natD way)] ∧ PlanAt O d pl ∧ SmallP pl ∧ way.length ≤ 64 ∧ (∀ j ∈ way, 0 < j ∧ j ≤ pl.length) ∧ ∀ p, Kd (.ref p) ((p, dN (ndI (paidI pl way))) :: O)
theorem dN_write {O : Own} {p : Addr} {c c' : C} : ((p, c) :: O).set 0 (p, c') = (p, c') :: O := rfl
theorem paid_len {pl : List (List Pay)} (hs : SmallP pl) : ∀ (way : List Nat) (m : NI), (way.foldl (fun m k => addRow m (pl.getD (k - 1) [])) m).length ≤ m.length + 10000 * way.length
  | [], m => Nat.le_refl _
  | k :: way, m => by
    have h1 := paid_len hs way (addRow m (pl.getD (k - 1) []))
    have h2 := addRow_len (pl.getD (k - 1) []) m
    have h3 : (pl.getD (k - 1) []).length ≤ 10000 := by
      rw [List.getD_eq_getElem?_getD]
      cases e : pl[k - 1]? with
      | none => exact Nat.zero_le _
      | some r => exact hs r (List.mem_of_getElem? e)
    show (way.foldl _ (addRow m (pl.getD (k - 1) []))).length ≤ m.length + 10000 * (way.length + 1)
    omega
/-- the loops, as both texts have them -/
theorem sf_paidB (ds : List D) (O : Own) (Kd : KD) (h : pPaid ds O Kd) : Sf (tSeq (tAsg tDNewT (gName 2))
  (tSeq (tFor (iList Kf (tVar 1)) (gName 3) (tFor (iList Kf (tOp (rIxL Kf) (tVar 0) (tOp rSub (tVar 3) (tC (.int 1))))) (gTup Kf 2 (gCons (gName 4) (gCons (gName 5) gNil))) (sDPut (tVar 2) (tVar 4) (tOp rAdd (tDGet2 (tVar 2) (tVar 4) (tC (.int 0))) (tVar 5)))))
  (tRet (tVar 2)))) (args ds 6) O { nx := fun _ O' => Kd .non O', rt := Kd } := by
  obtain ⟨d, pl, way, rfl, hp, hs, hw, hb, hK⟩ := h
  show Sf _ [some d, some (.lst (natD way)), none, none, none, none] O _
  refine sf_seq (sf_asg (ef_dnewT fun pf => gf_name ?_))
  have hp1 := fun c => hp.cons (pf, c)
  refine sf_cut (fun Γ' O' => ∃ x y z, Γ' = [some d, some (.lst (natD way)), some (.ref pf), x, y, z] ∧ O' = (pf, dN (ndI (paidI pl way))) :: O) ?_ ?_
  · refine sf_forL (ef_var rfl ⟨_, fun i Γ' O' => ∃ x y z, Γ' = [some d, some (.lst (natD way)), some (.ref pf), x, y, z] ∧ O' = (pf, dN (ndI (paidI pl (way.take i)))) :: O, .im _, ⟨none, none, none, rfl, rfl⟩, fun _ _ _ _ _ => .im _, ?_, ?_⟩)
    · rintro i Γ' O' hi ⟨x, y, z, rfl, rfl⟩
      rw [List.length_map] at hi
      rw [map_getD way (fun (j : Nat) => D.int (j : Int)) hi]
      have hj := hb way[i] (List.getElem_mem hi)
      obtain ⟨rows, h1, h2, h3⟩ := hp1 (dN (ndI (paidI pl (way.take i))))
      have hix : way[i] - 1 < pl.length := by omega
      have hrow : pl.getD (way[i] - 1) [] = pl[way[i] - 1] := by rw [List.getD_eq_getElem?_getD, List.getElem?_eq_getElem hix]; rfl
      have hlen : pl[way[i] - 1].length ≤ 10000 := hs _ (List.getElem_mem hix)
      have e1 : paidI pl (way.take (i + 1)) = addRow (paidI pl (way.take i)) pl[way[i] - 1] := by
        unfold paidI
        rw [List.take_succ_eq_append_getElem hi, List.foldl_append, ← hrow]
        rfl
      have hm0 : (paidI pl (way.take i)).length ≤ 640000 := by
        have := paid_len hs (way.take i) []
        rw [List.length_take] at this
        unfold paidI
        have z3 : ([] : NI).length = 0 := rfl
        omega
      refine gf_name (sf_forL (ef_ixL (ef_var rfl (ef_I0i (ef_var rfl (ef_int ⟨_, _, rfl, rfl, rows, _, rows.getD (way[i] - 1) .non, h1, rfl, ?_, ?_⟩))))))
      · rw [atI_at (by omega) (show ((way[i] : Int) - 1).toNat = way[i] - 1 by omega) (by omega), getD_at (by omega)]
      · refine ⟨_, fun t Γ' O' => ∃ y z, Γ' = [some d, some (.lst (natD way)), some (.ref pf), some (.int (way[i] : Int)), y, z] ∧ O' = (pf, dN (ndI (addRow (paidI pl (way.take i)) (pl[way[i] - 1].take t)))) :: O, h3 _ hix, ⟨_, _, rfl, rfl⟩, ?_, ?_, ?_⟩
        · rintro t Γ' O' _ ⟨y, z, rfl, rfl⟩
          exact (h3 _ hix).swap (fun xs z => by cases z)
        · rintro t Γ' O' ht ⟨y, z, rfl, rfl⟩
          rw [List.length_map] at ht
          rw [map_getD _ payD ht]
          refine gf_tup rfl (gfs_cons (gf_name (gfs_cons (gf_name (gfs_nil ?_)))))
          refine sf_dput (ef_I0i (ef_dget2 (ef_var rfl ⟨pf, rfl, ⟨0, _, rfl, .inr ⟨_, rfl⟩⟩, ef_var rfl (ef_int ⟨0, _, _, rfl, isK_num _ _, ef_var rfl ⟨_, _, getD_ndI _ _, rfl, ef_var rfl (ef_var rfl ⟨pf, 0, _, _, rfl, rfl, putC_num ?_, ?_⟩)⟩⟩)⟩)))
          · unfold ndI
            rw [List.length_map]
            have := addRow_len (pl[way[i] - 1].take t) (paidI pl (way.take i))
            rw [List.length_take] at this
            omega
          · refine ⟨_, _, rfl, ?_⟩
            show (pf, dN (putN _ _ _)) :: O = _
            rw [put_ndI, List.take_succ_eq_append_getElem ht]
            unfold addRow
            rw [List.foldl_append]
            rfl
        · rintro Γ' O' ⟨y, z, rfl, rfl⟩
          rw [List.length_map, List.take_length, ← e1]
          exact ⟨_, _, _, rfl, rfl⟩
    · rintro Γ' O' ⟨x, y, z, rfl, rfl⟩
      rw [List.length_map, List.take_length]
      exact ⟨_, _, _, rfl, rfl⟩
  · rintro Γ' O' ⟨x, y, z, rfl, rfl⟩
    exact sf_ret (ef_var rfl (hK pf))
theorem sf_paid (ds : List D) (O : Own) (Kd : KD) (hl : ds.length = 2) (h : pPaid ds O Kd) : Sf (tpaid Kf P w) (args ds 6) O { nx := fun _ O' => Kd .non O', rt := Kd } := sf_paidB ds O Kd h
theorem sf_lpaid (ds : List D) (O : Own) (Kd : KD) (hl : ds.length = 2) (h : pPaid ds O Kd) : Sf (t_law_paid Kf P w) (args ds 6) O { nx := fun _ O' => Kd .non O', rt := Kd } := sf_paidB ds O Kd h
end
end OW

/-! what is lacking, late plans, prices -/
namespace OW
open PySem PySem.Spec PyProof.Rows L2
local macro_rules | `(tactic| walk_at "ow") => `(tactic| first
  | with_reducible refine sf_seq ?_
  | with_reducible refine sf_asg ?_
  | with_reducible refine sf_drop ?_
  | with_reducible refine sf_ret ?_
  | with_reducible refine sf_next ?_
  | (with_reducible apply ef_var; rfl)
  | with_reducible refine ef_int ?_
  | with_reducible refine ef_bl ?_
  | with_reducible refine ef_non ?_
  | with_reducible refine gf_name ?_
  | with_reducible refine gfs_nil ?_
  | with_reducible refine gfs_cons ?_
  | (with_reducible refine gf_tup ?_ ?_; rfl)
  | with_reducible refine tf_test ?_
  | with_reducible refine tf_yes ?_
  | with_reducible refine tf_B ?_
  | with_reducible refine af_cons ?_
  | with_reducible refine af_nil ?_
  | with_reducible refine ef_call ?_
  | with_reducible refine ef_I0i ?_
  | with_reducible refine ef_I0b ?_
  | with_reducible refine ef_I ?_
  | with_reducible refine ef_neg ?_
  | with_reducible refine ef_ixL ?_
  | with_reducible refine ef_ixT ?_
  | with_reducible refine ef_len ?_
  | with_reducible refine ef_tup ?_)
theorem cut_last (xs : List D) : cutD xs none (some (-1)) = xs.dropLast := by
  unfold cutD
  have h0 : HT.sIx xs.length 0 none = 0 := rfl
  have h1 : HT.sIx xs.length xs.length (some (-1)) = xs.length - 1 := by
    unfold HT.sIx
    simp
    omega
  rw [h0, h1, List.dropLast_eq_take]
  rfl
theorem set_mid (A B : Own) (x y : Addr × C) : (A ++ x :: B).set A.length y = A ++ y :: B := by
  induction A with
  | nil => rfl
  | cons a A ih => show a :: (A ++ x :: B).set A.length y = _; rw [ih]; rfl
theorem get_mid (A B : Own) (x : Addr × C) : (A ++ x :: B)[A.length]? = some x := by
  induction A with
  | nil => rfl
  | cons a A ih => exact ih
theorem frz_self (p : Addr) (xs : List D) : frzD p xs (.ref p) = .lst xs := by
  show (if p = p then D.lst xs else .ref p) = _
  rw [if_pos rfl]
abbrev Lk := Num × Int × Int
def lackD (r : Lk) : D := .tup [num r.1, .int r.2.1, .int r.2.2]
def lackAll (b : Bk) (pl : List (List Pay)) (k : Nat) (way : List Nat) : List Lk := (asksOf b k).map fun n => (n, lookI (paidI pl way) n, ownOf b n)
def lackOf (b : Bk) (pl : List (List Pay)) (k : Nat) (way : List Nat) : List Lk := (lackAll b pl k way).filter fun r => decide (r.2.1 < r.2.2)
def pLack : Pre := fun ds O Kd => ∃ (b : Bk) (d : D) (pl : List (List Pay)) (k : Nat) (way : List Nat), ds = [bookD b, d, .int k, .lst (natD way)] ∧ WfB b ∧ k ≠ 0 ∧ k ≤ b.deeds.length ∧ PlanAt O d pl ∧ SmallP pl ∧ way.length ≤ 64 ∧ (∀ j ∈ way, 0 < j ∧ j ≤ pl.length) ∧ Kd (.lst ((lackOf b pl k way).map lackD)) O
theorem filter_true {α : Type} (l : List α) : l.filter (fun _ => true) = l := List.filter_eq_self.mpr fun _ _ => rfl
section
variable {Kf : PySem.W.Frag} {P : Program} {w : World}
theorem sf_lacking_at (ds : List D) (O : Own) (Kd : KD) (hl : ds.length = 4) (h : pLack ds O Kd) : Sf (tlacking_at Kf P w pOwns pPaid pAsks) (args ds 9) O { nx := fun _ O' => Kd .non O', rt := Kd } := by
  obtain ⟨b, d, pl, k, way, rfl, W, hk0, hk, hp, hs, hw, hb, hK⟩ := h
  show Sf _ [some (bookD b), some d, some (.int k), some (.lst (natD way)), none, none, none, none, none] O _
  unfold tlacking_at
  refine sf_wk (sf_seq (sf_asg (ef_call (af_cons (ef_var rfl (af_nil ⟨rfl, b, rfl, W, fun po => gf_name ?_⟩))))))
  refine sf_seq (sf_asg (ef_call (af_cons (ef_var rfl (af_cons (ef_var rfl (af_nil ⟨rfl, d, pl, way, rfl, hp.cons _, hs, hw, hb, fun pt => gf_name ?_⟩)))))))
  refine sf_seq (sf_asg (ef_lcLt gok_name (ef_call (af_cons (ef_var rfl (af_cons (ef_var rfl (af_nil ⟨rfl, b, k, rfl, W, hk0, hk, Num, asksOf b k, num, fun _ => true, fun n => lackD (n, lookI (paidI pl way) n, ownOf b n), .im _, ?_, fun n hn acc Dl => ?_, .inl (gf_name ?_)⟩))))))))
  · have := (asks_len W hk0 hk).1
    omega
  · refine gf_name (tf_yes ⟨rfl, rfl, fun _ => ef_tup (af_cons (ef_var rfl (af_cons (ef_dget2 (ef_var rfl ⟨pt, rfl, ⟨1, _, rfl, .inr ⟨_, rfl⟩⟩, ef_var rfl (ef_int ⟨1, _, _, rfl, isK_num _ n, ?_⟩)⟩)))))⟩)
    rw [getD_ndI]
    exact af_cons (ef_dget (ef_var rfl (ef_var rfl ⟨po, 2, _, _, rfl, rfl, isK_own b n (asks_known W hk0 hk n hn), af_nil ⟨Nat.le_of_ble_eq_true rfl, rfl, rfl⟩⟩)))
  rw [filter_true]
  refine sf_ret (ef_lcLt gok_name (ef_var rfl ⟨Lk, lackAll b pl k way, lackD, fun r => decide (r.2.1 < r.2.2), lackD, ?_, ?_, fun r hr acc Dl => ?_, .inl ⟨O, wk_app [_, _] O, hK⟩⟩))
  · unfold lackAll
    rw [List.map_map]
    exact .im _
  · have := (asks_len W hk0 hk).1
    unfold lackAll
    rw [List.length_map]
    omega
  · exact gf_name (tf_test (ef_I0b (ef_ixT (ef_var rfl (ef_int ⟨_, _, _, rfl, rfl, rfl, ef_ixT (ef_var rfl (ef_int ⟨_, _, _, rfl, rfl, rfl, _, _, rfl, rfl, _, rfl, rfl, rfl, fun _ => ef_var rfl ⟨rfl, rfl⟩⟩))⟩)))))
/-! ### late plans -/
def rowOf (b : Bk) (pl : List (List Pay)) (k : Nat) : List Pay := (lackOf b pl k (pastOf b k).dropLast).map fun r => (r.1, r.2.2 - r.2.1)
def lateF (b : Bk) : Nat → List (List Pay)
  | 0 => []
  | i + 1 => lateF b i ++ [rowOf b (lateF b i) (i + 1)]
def lateOf (b : Bk) : List (List Pay) := lateF b b.deeds.length
theorem lateF_len (b : Bk) : ∀ i, (lateF b i).length = i
  | 0 => rfl
  | i + 1 => by
    show (lateF b i ++ [_]).length = _
    rw [List.length_append, lateF_len b i]
    rfl
theorem lackAll_len {b : Bk} (W : WfB b) {pl : List (List Pay)} {k : Nat} {way : List Nat} (hk0 : k ≠ 0) (hk : k ≤ b.deeds.length) : (lackAll b pl k way).length ≤ 2000 := by
  unfold lackAll
  rw [List.length_map]
  exact (asks_len W hk0 hk).1
theorem rowOf_len {b : Bk} (W : WfB b) {pl : List (List Pay)} {k : Nat} (hk0 : k ≠ 0) (hk : k ≤ b.deeds.length) : (rowOf b pl k).length ≤ 2000 := by
  unfold rowOf
  rw [List.length_map]
  have h1 := lackAll_len W (pl := pl) (way := (pastOf b k).dropLast) hk0 hk
  have h2 := List.length_filter_le (fun r : Lk => decide (r.2.1 < r.2.2)) (lackAll b pl k (pastOf b k).dropLast)
  unfold lackOf
  omega
theorem lateF_small {b : Bk} (W : WfB b) : ∀ i, i ≤ b.deeds.length → SmallP (lateF b i)
  | 0, _ => fun r hr => by cases hr
  | i + 1, h => fun r hr => by
    rcases List.mem_append.mp hr with m | m
    · exact lateF_small W i (by omega) r m
    · obtain rfl := List.mem_singleton.mp m
      have := rowOf_len W (pl := lateF b i) (k := i + 1) (by omega) h
      omega
theorem way_ok {b : Bk} (W : WfB b) {k : Nat} (hk0 : k ≠ 0) (hk : k ≤ b.deeds.length) : (pastOf b k).dropLast.length ≤ 64 ∧ ∀ j ∈ (pastOf b k).dropLast, 0 < j ∧ j ≤ k - 1 := by
  have hz := ver_lt W hk0 hk
  have e : (pastOf b k).dropLast = pastOf b (b.deeds.getD (k - 1) (0, 0, [])).1 := by
    rw [past_step W hk0 hk, List.dropLast_concat]
  rw [e]
  refine ⟨?_, fun j hj => ?_⟩
  · have := past_len W _ (Nat.le_trans (Nat.le_of_lt hz) hk)
    have := W.dl
    omega
  · have := past_le W _ (Nat.le_trans (Nat.le_of_lt hz) hk) j hj
    omega
def rowsO (rs : List (Addr × List Pay)) : Own := rs.map fun r => (r.1, .lst (r.2.map payD))
def refsO (rs : List (Addr × List Pay)) : List D := (rs.map fun r => D.ref r.1).reverse
def planO (rs : List (Addr × List Pay)) (p : Addr) (O : Own) : Own := rowsO rs ++ (p, .lst (refsO rs)) :: O
def plOf (rs : List (Addr × List Pay)) : List (List Pay) := (rs.map (·.2)).reverse
theorem rowsO_len (rs : List (Addr × List Pay)) : (rowsO rs).length = rs.length := List.length_map _
theorem plan_get (rs : List (Addr × List Pay)) (p : Addr) (O : Own) : (planO rs p O)[rs.length]? = some (p, .lst (refsO rs)) := by
  have := get_mid (rowsO rs) O (p, .lst (refsO rs))
  rwa [rowsO_len] at this
theorem plan_set (rs : List (Addr × List Pay)) (p : Addr) (O : Own) (c : C) : (planO rs p O).set rs.length (p, c) = rowsO rs ++ (p, c) :: O := by
  have := set_mid (rowsO rs) O (p, .lst (refsO rs)) (p, c)
  rwa [rowsO_len] at this
theorem refsO_len (rs : List (Addr × List Pay)) : (refsO rs).length = rs.length := by
  unfold refsO
  rw [List.length_reverse, List.length_map]
theorem plOf_len (rs : List (Addr × List Pay)) : (plOf rs).length = rs.length := by
  unfold plOf
  rw [List.length_reverse, List.length_map]
theorem refs_get (rs : List (Addr × List Pay)) (i : Nat) (h : i < rs.length) : (refsO rs).getD i .non = .ref (rs[rs.length - 1 - i]'(by omega)).1 := by
  rw [getD_at (by rw [refsO_len]; exact h)]
  unfold refsO
  rw [List.getElem_reverse, List.getElem_map]
  congr 2
  simp
theorem plOf_get (rs : List (Addr × List Pay)) (i : Nat) (h : i < rs.length) : (plOf rs)[i]'(by rw [plOf_len]; exact h) = (rs[rs.length - 1 - i]'(by omega)).2 := by
  unfold plOf
  rw [List.getElem_reverse, List.getElem_map]
  congr 2
  simp
theorem rows_at (rs : List (Addr × List Pay)) (R : Own) (i : Nat) (h : i < rs.length) : (rowsO rs ++ R)[i]? = some (rs[i].1, .lst (rs[i].2.map payD)) := by
  rw [List.getElem?_append_left (by rw [rowsO_len]; exact h)]
  unfold rowsO
  rw [List.getElem?_map, List.getElem?_eq_getElem h]
  rfl
theorem planAt_own (rs : List (Addr × List Pay)) (p : Addr) (O : Own) : PlanAt (planO rs p O) (.ref p) (plOf rs) := by
  refine ⟨refsO rs, .own rs.length (plan_get rs p O), by rw [refsO_len, plOf_len], fun i hi => ?_⟩
  rw [plOf_len] at hi
  rw [refs_get rs i hi, plOf_get rs i hi]
  exact .own (rs.length - 1 - i) (rows_at rs _ _ (by omega))
def pLate : Pre := fun ds O Kd => ∃ (b : Bk), ds = [bookD b] ∧ WfB b ∧ ∀ p rs, plOf rs = lateOf b → Kd (.ref p) (planO rs p O)
theorem late_ok {b : Bk} (W : WfB b) {i : Nat} (hi : i < b.deeds.length) : (pastOf b (i + 1)).dropLast.length ≤ 64 ∧ ∀ j ∈ (pastOf b (i + 1)).dropLast, 0 < j ∧ j ≤ (lateF b i).length := by
  have z := way_ok W (k := i + 1) (by omega) (by omega)
  rw [lateF_len]
  exact z
theorem natD_dropLast (l : List Nat) : (natD l).dropLast = natD l.dropLast := map_dropLast _ _
theorem sf_late_plan (ds : List D) (O : Own) (Kd : KD) (hl : ds.length = 1) (h : pLate ds O Kd) : Sf (tlate_plan Kf P w pPast pLack) (args ds 7) O { nx := fun _ O' => Kd .non O', rt := Kd } := by
  obtain ⟨b, rfl, W, hK⟩ := h
  show Sf _ [some (bookD b), none, none, none, none, none, none] O _
  unfold tlate_plan
  refine sf_seq (sf_asg (ef_lstO (af_nil ⟨by decide, fun p => gf_name ?_⟩)))
  refine sf_cut (fun Γ' O' => ∃ x y z u v rs, Γ' = [some (bookD b), some (.ref p), x, y, z, u, v] ∧ O' = planO rs p O ∧ plOf rs = lateOf b) ?_ ?_
  · refine sf_forR2 (ef_int (ef_I0i (ef_len (ef_deeds rfl ⟨_, .inl (.im _), ef_int ⟨_, _, rfl, rfl, 1, _, fun i Γ' O' => ∃ x y z u v rs, Γ' = [some (bookD b), some (.ref p), x, y, z, u, v] ∧ O' = planO rs p O ∧ plOf rs = lateF b i, rfl, rfl, ?_, ⟨_, _, _, _, _, [], rfl, rfl, rfl⟩, ?_, ?_⟩⟩))))
    · rw [List.length_map]
      have := W.dl
      omega
    · rintro i Γ' O' hi ⟨x, y, z, u, v, rs, rfl, rfl, e⟩
      rw [List.length_map] at hi
      have hi : i < b.deeds.length := by omega
      have hz := late_ok W hi
      have e1 : (1 + (i : Int)) = ((i + 1 : Nat) : Int) := by omega
      rw [e1]
      have hpl : PlanAt (planO rs p O) (.ref p) (lateF b i) := e ▸ planAt_own rs p O
      refine gf_name (sf_seq (sf_asg (ef_call (af_cons (ef_var rfl (af_cons (ef_var rfl (af_cons (ef_var rfl (af_cons (ef_slL (ef_call (af_cons (ef_var rfl (af_cons (ef_var rfl (af_nil ⟨rfl, b, i + 1, rfl, W, by omega, of_none (of_some (ef_neg (ef_int ⟨_, rfl, _, rfl, _, .im _, .inl ?_⟩)))⟩)))))))))))))))))
      rw [cut_last, natD_dropLast]
      refine af_nil ⟨rfl, b, _, _, i + 1, _, rfl, W, by omega, by omega, hpl, lateF_small W i (by omega), hz.1, hz.2, gf_name ?_⟩
      refine sf_drop (ef_append (ef_var rfl ⟨p, rfl, ⟨rs.length, _, plan_get rs p O⟩, ef_lcLt gok3 (ef_var rfl ⟨Lk, lackOf b (lateF b i) (i + 1) (pastOf b (i + 1)).dropLast, lackD, fun _ => true, fun r => payD (r.1, r.2.2 - r.2.1), .im _, ?_, fun r hr acc Dl => ?_, .inr fun q => ⟨rs.length + 1, _, plan_get rs p O, ?_, ?_⟩⟩)⟩))
      · have := rowOf_len W (pl := lateF b i) (k := i + 1) (by omega) (by omega)
        unfold rowOf at this
        rw [List.length_map] at this
        omega
      · exact gf_tup rfl (gfs_cons (gf_name (gfs_cons (gf_name (gfs_cons (gf_name (gfs_nil (tf_yes ⟨rfl, rfl, fun _ => ef_tup (af_cons (ef_var rfl (af_cons (ef_I0i (ef_var rfl (ef_var rfl ⟨_, _, rfl, rfl, af_nil ⟨Nat.le_of_ble_eq_true rfl, rfl, rfl⟩⟩))))))⟩))))))))
      · rw [refsO_len, ← plOf_len, e, lateF_len]
        have := W.dl
        omega
      · refine ⟨_, _, _, _, _, (q, rowOf b (lateF b i) (i + 1)) :: rs, rfl, ?_, ?_⟩
        · show (q, _) :: (planO rs p O).set rs.length _ = _
          rw [plan_set, filter_true]
          unfold planO rowsO refsO rowOf
          simp only [List.map_cons, List.map_map, List.reverse_cons, List.cons_append]
          rfl
        · show (((q, _) :: rs).map (·.2)).reverse = _
          rw [List.map_cons, List.reverse_cons]
          show plOf rs ++ _ = _
          rw [e]
          rfl
    · rintro Γ' O' ⟨x, y, z, u, v, rs, rfl, rfl, e⟩
      refine ⟨_, _, _, _, _, rs, rfl, rfl, ?_⟩
      rw [e, List.length_map]
      show lateF b _ = lateF b _
      congr 1
      omega
  · rintro Γ' O' ⟨x, y, z, u, v, rs, rfl, rfl, e⟩
    exact sf_ret (ef_var rfl (hK p rs e))
/-- the law's own -/
def pLLate : Pre := fun ds O Kd => ∃ (b : Bk), ds = [bookD b] ∧ WfB b ∧ Kd (planD (lateOf b)) O
theorem row_short (b : Bk) (pl : List (List Pay)) (k : Nat) (way : List Nat) : (((asksOf b k).map fun n => (n, ownOf b n - lookI (paidI pl way) n)).filter fun p : Pay => decide (0 < p.2)) = (lackOf b pl k way).map fun r => (r.1, r.2.2 - r.2.1) := by
  unfold lackOf lackAll
  induction asksOf b k with
  | nil => rfl
  | cons n ns ih =>
    rw [List.map_cons, List.map_cons, List.filter_cons, List.filter_cons]
    have e : decide (0 < ownOf b n - lookI (paidI pl way) n) = decide (lookI (paidI pl way) n < ownOf b n) := by
      congr 1
      exact propext ⟨fun z => by omega, fun z => by omega⟩
    show (if decide (0 < ownOf b n - lookI (paidI pl way) n) = true then _ else _) = List.map _ (if decide (lookI (paidI pl way) n < ownOf b n) = true then _ else _)
    rw [e]
    split
    · rw [List.map_cons, ih]
    · exact ih
theorem sf_llate (ds : List D) (O : Own) (Kd : KD) (hl : ds.length = 1) (h : pLLate ds O Kd) : Sf (t_law_late Kf P w pOwns pPast pPaid pAsks) (args ds 8) O { nx := fun _ O' => Kd .non O', rt := Kd } := by
  obtain ⟨b, rfl, W, hK⟩ := h
  show Sf _ [some (bookD b), none, none, none, none, none, none, none] O _
  unfold t_law_late
  refine sf_wk (sf_seq (sf_asg (ef_call (af_cons (ef_var rfl (af_nil ⟨rfl, b, rfl, W, fun po => gf_name ?_⟩))))))
  refine sf_seq (sf_asg (ef_lstO (af_nil ⟨by decide, fun p => gf_name ?_⟩)))
  refine sf_cut (fun Γ' O' => ∃ x y z u v, Γ' = [some (bookD b), some (.ref po), some (.ref p), x, y, z, u, v] ∧ O' = (p, .lst ((lateOf b).map fun r => .lst (r.map payD))) :: (po, dN (ownN b)) :: O) ?_ ?_
  · refine sf_forR2 (ef_int (ef_I0i (ef_len (ef_deeds rfl ⟨_, .inl (.im _), ef_int ⟨_, _, rfl, rfl, 1, _, fun i Γ' O' => ∃ x y z u v, Γ' = [some (bookD b), some (.ref po), some (.ref p), x, y, z, u, v] ∧ O' = (p, .lst ((lateF b i).map fun r => .lst (r.map payD))) :: (po, dN (ownN b)) :: O, rfl, rfl, ?_, ⟨_, _, _, _, _, rfl, rfl⟩, ?_, ?_⟩⟩))))
    · rw [List.length_map]
      have := W.dl
      omega
    · rintro i Γ' O' hi ⟨x, y, z, u, v, rfl, rfl⟩
      rw [List.length_map] at hi
      have hi : i < b.deeds.length := by omega
      have hz := late_ok W hi
      have e1 : (1 + (i : Int)) = ((i + 1 : Nat) : Int) := by omega
      rw [e1]
      have hpl : ∀ R : Own, PlanAt ((p, C.lst ((lateF b i).map fun r => D.lst (r.map payD))) :: R) (.ref p) (lateF b i) := fun R => ⟨_, .own 0 rfl, List.length_map _, fun j hj => by
        rw [map_getD (lateF b i) (fun r => D.lst (r.map payD)) hj]
        exact .im _⟩
      refine gf_name (sf_wk (sf_seq (sf_asg (ef_call (af_cons (ef_var rfl (af_cons (ef_slL (ef_call (af_cons (ef_var rfl (af_cons (ef_var rfl (af_nil ⟨rfl, b, i + 1, rfl, W, by omega, of_none (of_some (ef_neg (ef_int ⟨_, rfl, _, rfl, _, .im _, .inl ?_⟩)))⟩))))))))))))))
      rw [cut_last, natD_dropLast]
      refine af_nil ⟨rfl, _, _, _, rfl, hpl _, lateF_small W i (by omega), hz.1, hz.2, fun pt => gf_name ?_⟩
      refine sf_seq (sf_asg (ef_lcLt gok_name (ef_call (af_cons (ef_var rfl (af_cons (ef_var rfl (af_nil ⟨rfl, b, i + 1, rfl, W, by omega, by omega, Num, asksOf b (i + 1), num, fun _ => true, fun n => payD (n, ownOf b n - lookI (paidI (lateF b i) (pastOf b (i + 1)).dropLast) n), .im _, ?_, fun n hn acc Dl => ?_, .inl (gf_name ?_)⟩))))))))
      · have := (asks_len W (k := i + 1) (by omega) (by omega)).1
        omega
      · refine gf_name (tf_yes ⟨rfl, rfl, fun _ => ef_tup (af_cons (ef_var rfl (af_cons (ef_I0i (ef_dget (ef_var rfl (ef_var rfl ⟨po, 3, _, _, rfl, rfl, isK_own b n (asks_known W (by omega) (by omega) n hn), ef_dget2 (ef_var rfl ⟨pt, rfl, ⟨1, _, rfl, .inr ⟨_, rfl⟩⟩, ef_var rfl (ef_int ⟨1, _, _, rfl, isK_num _ n, ?_⟩)⟩)⟩)))))))⟩)
        rw [getD_ndI]
        exact ⟨_, _, rfl, rfl, af_nil ⟨Nat.le_of_ble_eq_true rfl, rfl, rfl⟩⟩
      rw [filter_true]
      refine sf_drop (ef_append (ef_var rfl ⟨p, rfl, ⟨1, _, rfl⟩, ef_lcLt gok_name (ef_var rfl ⟨Pay, (asksOf b (i + 1)).map fun n => (n, ownOf b n - lookI (paidI (lateF b i) (pastOf b (i + 1)).dropLast) n), payD, fun r => decide (0 < r.2), payD, ?_, ?_, fun r hr acc Dl => ?_, .inl ⟨1, _, rfl, ?_, _, wk_drop _ _, ?_⟩⟩)⟩))
      · rw [List.map_map]
        exact .im _
      · rw [List.length_map]
        have := (asks_len W (k := i + 1) (by omega) (by omega)).1
        omega
      · exact gf_name (tf_test (ef_I0b (ef_ixT (ef_var rfl (ef_int ⟨_, _, _, rfl, rfl, rfl, ef_int ⟨_, _, rfl, rfl, _, rfl, rfl, rfl, fun _ => ef_var rfl ⟨rfl, rfl⟩⟩⟩)))))
      · rw [List.length_map, lateF_len]
        have := W.dl
        omega
      · refine ⟨_, _, _, _, _, rfl, ?_⟩
        rw [row_short]
        show (p, C.lst (_ ++ [_])) :: _ = (p, C.lst ((lateF b i ++ [rowOf b (lateF b i) (i + 1)]).map _)) :: _
        rw [List.map_append]
        rfl
    · rintro Γ' O' ⟨x, y, z, u, v, rfl, rfl⟩
      refine ⟨_, _, _, _, _, rfl, ?_⟩
      rw [List.length_map]
      have e : ((b.deeds.length : Int) + 1 - 1).toNat = b.deeds.length := by omega
      rw [e]
      rfl
  · rintro Γ' O' ⟨x, y, z, u, v, rfl, rfl⟩
    refine sf_ret_frz (ef_var rfl (.inr ⟨p, _, _, rfl, ?_⟩))
    rw [frz_self]
    exact ⟨O, wk_drop _ _, hK⟩
/-! ### prices -/
def priceOf (d : Deed) (r : List Pay) : Int := d.2.1 + (r.map (·.2)).sum
def pricesOf (b : Bk) (pl : List (List Pay)) : List Int := (b.deeds.zip pl).map fun q => priceOf q.1 q.2
def pPrices : Pre := fun ds O Kd => ∃ (b : Bk) (d : D) (pl : List (List Pay)), ds = [bookD b, d] ∧ WfB b ∧ PlanAt O d pl ∧ SmallP pl ∧ Kd (.lst ((pricesOf b pl).map .int)) O
theorem ef_sumRow {Γ : Ctx} {O : Own} {K : KD} {i j l : Nat} {x : D} {r : List Pay} (hg : GOk (gTup Kf 2 (gCons (gName i) (gCons (gName j) gNil))) [i, j]) (hx : Γ[l]? = some (some x)) (hr : IsL O x (r.map payD)) (hn : r.length ≤ 10000)
    (hj : ∀ v u, ((((wipeC Γ [i, j]).set i (some v)).set j (some u))[j]?) = some (some u)) (h : K (.int (r.map (·.2)).sum) O) :
    Ef (tCB (rSum Kf) (tCons (tLc (iList Kf (tVar l)) (gTup Kf 2 (gCons (gName i) (gCons (gName j) gNil))) tYes (tVar j) [i, j]) tNil)) Γ O K := by
  refine ef_sum (ef_lcLt hg (ef_var hx ⟨Pay, r, payD, fun _ => true, fun p => .int p.2, hr, by omega, fun p hp acc Dl => gf_tup rfl (gfs_cons (gf_name (gfs_cons (gf_name (gfs_nil (tf_yes ⟨rfl, rfl, fun _ => ef_var (hj _ _) ⟨rfl, rfl⟩⟩)))))), .inl ⟨r.map (·.2), ?_, h⟩⟩))
  rw [filter_true, List.map_map]
  exact .im _
theorem sf_prices (ds : List D) (O : Own) (Kd : KD) (hl : ds.length = 2) (h : pPrices ds O Kd) : Sf (tprices Kf P w) (args ds 6) O { nx := fun _ O' => Kd .non O', rt := Kd } := by
  obtain ⟨b, d, pl, rfl, W, ⟨rows, h1, h2, h3⟩, hs, hK⟩ := h
  show Sf _ [some (bookD b), some d, none, none, none, none] O _
  have hdl := W.dl
  refine sf_ret (ef_lcZ gok2 (ef_deeds rfl (ef_var rfl ⟨_, rows, .im _, h1, turns_typed (b.deeds.zip pl) (by rw [List.length_zip, List.length_map, h2]) (by rw [List.length_map]; omega) (fun _ => true) (fun q => .int (priceOf q.1 q.2)) ⟨.im _, h1⟩ (fun i hi acc Dl => ?_) (.inl ?_)⟩)))
  · rw [List.length_zip] at hi
    have hi1 : i < b.deeds.length := by omega
    have hi2 : i < pl.length := by omega
    rw [map_getD b.deeds deedD hi1, List.getElem_zip]
    refine gf_tup rfl (gfs_cons (gf_name (gfs_cons (gf_name (gfs_nil (tf_yes ⟨rfl, rfl, fun _ => ef_I0i (ef_ixT (ef_var rfl (ef_int ⟨_, _, _, rfl, rfl, rfl, ef_sumRow gok2 rfl ((h3 i hi2).cons _) (hs _ (List.getElem_mem hi2)) (fun _ _ => rfl) ⟨_, _, rfl, rfl, rfl, rfl⟩⟩)))⟩))))))
  · rw [filter_true]
    unfold pricesOf at hK
    rw [List.map_map] at hK
    exact hK
end
end OW

/-! what the law draws -/
namespace OW
open PySem PySem.Spec PyProof.Rows L2
local macro_rules | `(tactic| walk_at "ow") => `(tactic| first
  | with_reducible refine sf_seq ?_
  | with_reducible refine sf_asg ?_
  | with_reducible refine sf_drop ?_
  | with_reducible refine sf_ret ?_
  | with_reducible refine sf_next ?_
  | (with_reducible apply ef_var; rfl)
  | with_reducible refine ef_int ?_
  | with_reducible refine ef_bl ?_
  | with_reducible refine ef_non ?_
  | with_reducible refine gf_name ?_
  | with_reducible refine gfs_nil ?_
  | with_reducible refine gfs_cons ?_
  | (with_reducible refine gf_tup ?_ ?_; rfl)
  | with_reducible refine tf_test ?_
  | with_reducible refine tf_yes ?_
  | with_reducible refine tf_B ?_
  | with_reducible refine af_cons ?_
  | with_reducible refine af_nil ?_
  | with_reducible refine ef_call ?_
  | with_reducible refine ef_I0i ?_
  | with_reducible refine ef_I0b ?_
  | with_reducible refine ef_I ?_
  | with_reducible refine ef_neg ?_
  | with_reducible refine ef_ixL ?_
  | with_reducible refine ef_ixT ?_
  | with_reducible refine ef_len ?_
  | with_reducible refine ef_tup ?_)
def pPick : Pre := fun ds O Kd => ∃ (a : Addr) (s : D) (xs : List D), ds = [.ref a, s] ∧ IsL O s xs ∧ xs ≠ [] ∧ xs.length ≤ 1000000 ∧ HasDice O a 1 ∧ ∀ x ∈ xs, Kd x (tick 1 O)
structure NumOk (t : Nat) (n : Num) : Prop where
  ne : n ≠ []
  len : n.length ≤ t
  small : ∀ x ∈ n, x.natAbs ≤ 100
def pSome : Pre := fun ds O Kd => ∃ (a : Addr) (s : D) (ns : List Num) (m : Nat), ds = [.ref a, s, .int m] ∧ IsL O s (ns.map num) ∧ ns.length ≤ 10000 ∧ (∀ n ∈ ns, n ≠ []) ∧ 0 < m ∧ m ≤ 60 ∧ HasDice O a 100 ∧
  ∀ ms : List Num, ms.length ≤ m → (∀ x ∈ ms, x ∈ ns) → SortedN ms → Kd (.lst (ms.map num)) (tick 100 O)
def pOwn : Pre := fun ds O Kd => ∃ (a : Addr), ds = [.ref a] ∧ HasDice O a 3 ∧ ∀ v : Int, 0 ≤ v → v ≤ 1000000000000000 → Kd (.int v) (tick 3 O)
theorem nodup_sub_len {α : Type} [DecidableEq α] : ∀ {ms ns : List α}, ms.Nodup → (∀ m ∈ ms, m ∈ ns) → ms.length ≤ ns.length
  | [], _, _, _ => Nat.zero_le _
  | m :: ms, ns, hn, hs => by
    have hm := hs m List.mem_cons_self
    have h := List.nodup_cons.mp hn
    have := nodup_sub_len (ms := ms) (ns := ns.erase m) h.2 fun x hx => (List.mem_erase_of_ne (fun e => h.1 (by rw [← e]; exact hx))).mpr (hs x (List.mem_cons_of_mem _ hx))
    have l := List.length_erase_of_mem hm
    have := List.length_pos_of_mem hm
    rw [List.length_cons]
    omega
section
variable {Kf : PySem.W.Frag} {P : Program} {w : World}
theorem sf_pick (ds : List D) (O : Own) (Kd : KD) (hl : ds.length = 2) (h : pPick ds O Kd) : Sf (t_law_pick Kf P w pRoll) (args ds 2) O { nx := fun _ O' => Kd .non O', rt := Kd } := by
  obtain ⟨a, s, xs, rfl, hs, hne, hlen, hd, hK⟩ := h
  show Sf _ [some (.ref a), some s] O _
  have hp : 0 < xs.length := List.length_pos_iff.mpr hne
  refine sf_ret (ef_ixL (ef_var rfl (ef_call (af_cons (ef_var rfl (af_cons (ef_len (ef_var rfl ⟨xs, .inl hs, af_nil ⟨rfl, a, _, rfl, hd, by omega, by omega, fun r h0 h1 => ?_⟩⟩))))))) )
  have hr : r.toNat < xs.length := by omega
  exact ⟨xs, r, xs[r.toNat], hs.tick, rfl, atI_at h0 rfl hr, hK _ (List.getElem_mem _)⟩
theorem wk_hd {O O' : Own} (h : Wk O O') {c d : Nat} : True := trivial
theorem sf_some (ds : List D) (O : Own) (Kd : KD) (hl : ds.length = 3) (h : pSome ds O Kd) : Sf (t_law_some Kf P w pRoll pPick) (args ds 4) O { nx := fun _ O' => Kd .non O', rt := Kd } := by
  obtain ⟨a, s, ns, m, rfl, hs, hnl, hne, hm, hm2, hd, hK⟩ := h
  show Sf _ [some (.ref a), some s, some (.int m), none] O _
  unfold t_law_some
  obtain ⟨hpd⟩ : Nonempty (Pd O s (.list (ns.map pyNum))) := by
    cases hs with
    | im => exact ⟨.lst (pdL_nums ns)⟩
    | own j e => exact ⟨.own j e (pdL_nums ns)⟩
  refine sf_wk (sf_cut (fun Γ' O' => Γ' = [some (.ref a), some s, some (.int m), none] ∧ O' = O ∧ ns ≠ []) ?_ ?_)
  · refine sf_if (tf_test (ef_eqP (ef_var rfl (ef_lst (af_nil ⟨by decide, _, _, hpd, .lst .nil, shaped_nums ns, rfl, _, rfl, fun ht => ?_, fun ht => ?_⟩)))))
    · exact sf_ret (ef_lst (af_nil ⟨by decide, _, wk_tick 100 O, hK [] (Nat.zero_le _) (fun x hx => by cases hx) .nil⟩))
    · refine sf_next ⟨rfl, rfl, fun z => ?_⟩
      subst z
      cases ht
  · rintro Γ' O ⟨rfl, rfl, hn⟩
    refine sf_ret (ef_sortSet (ef_lcR gok_name (ef_call (af_cons (ef_var rfl (af_cons (ef_var rfl (af_nil ⟨rfl, a, _, rfl, hd.less (by decide), by omega, by omega, fun r h0 h1 => ?_⟩))))))))
    refine ⟨r, rfl, by omega, fun i acc O' => O' = tick (1 + i) O ∧ ∃ ps : List Num, acc = ps.map num ∧ ps.length = i ∧ ∀ x ∈ ps, x ∈ ns, ⟨rfl, [], rfl, rfl, fun x hx => by cases hx⟩, ?_, ?_, ?_⟩
    · rintro i acc O' hi ⟨rfl, ps, rfl, rfl, hp⟩
      refine ⟨trivial, ?_⟩
      rw [List.length_map]
      omega
    · rintro i acc O' Dl hi ⟨rfl, ps, rfl, rfl, hp⟩
      refine gf_name (tf_yes ?_)
      rw [if_pos rfl]
      refine ef_call (af_cons (ef_var rfl (af_cons (ef_var rfl (af_nil ⟨rfl, a, s, _, rfl, (hs.tick).cons _, ?_, ?_, (HasDice.tick (hd.less ?_)).cons _, fun x hx => ?_⟩))))) 
      · intro z
        rw [List.map_eq_nil_iff] at z
        exact hn z
      · rw [List.length_map]
        omega
      · omega
      · obtain ⟨n, hn2, rfl⟩ := List.mem_map.mp hx
        refine ⟨_, rfl, ?_, ps ++ [n], ?_, ?_, ?_⟩
        · show tick 1 (tick (1 + ps.length) O) = _
          rw [tick_tick]
          rfl
        · rw [List.map_append]
          rfl
        · rw [List.length_append]
          rfl
        · intro x hx
          rcases List.mem_append.mp hx with z | z
          · exact hp x z
          · obtain rfl := List.mem_singleton.mp z
            exact hn2
    · rintro acc O' ⟨rfl, ps, rfl, hpl, hp⟩
      refine .inl ⟨ps, .im _, by omega, fun n hn => hne n (hp n hn), fun ms hnd hsub _ => ?_⟩
      have hlen := nodup_sub_len hnd hsub
      intro ys hys hso
      exact .inl ⟨_, wk_ticks (by omega) O, hK ys (by rw [hys.length_eq]; omega) (fun x hx => hp x (hsub x (hys.mem_iff.mp hx))) hso⟩
theorem sf_own (ds : List D) (O : Own) (Kd : KD) (hl : ds.length = 1) (h : pOwn ds O Kd) : Sf (t_law_own Kf P w pRoll) (args ds 1) O { nx := fun _ O' => Kd .non O', rt := Kd } := by
  obtain ⟨a, rfl, hd, hK⟩ := h
  show Sf _ [some (.ref a)] O _
  refine sf_ret (ef_ixL (ef_lst (af_cons (ef_int (af_cons (ef_int (af_cons (ef_int (af_cons (ef_call (af_cons (ef_var rfl (af_cons (ef_int (af_nil ⟨rfl, a, 6, rfl, hd.less (by decide), by decide, by decide, fun r1 p0 p1 => ?_⟩)))))))))))))))
  refine af_cons (ef_call (af_cons (ef_var rfl (af_cons (ef_I (ef_int (ef_int ⟨_, _, rfl, rfl, ⟨by decide, by decide, by decide⟩, af_nil ⟨rfl, a, _, rfl, HasDice.tick (hd.less (by decide)), by decide, by decide, fun r2 q0 q1 => ?_⟩⟩)))))))
  refine af_cons (ef_I (ef_int (ef_int ⟨_, _, rfl, rfl, ⟨by decide, by decide, by decide⟩, af_nil ⟨Nat.le_of_ble_eq_true rfl, ?_⟩⟩)))
  refine ef_call (af_cons (ef_var rfl (af_cons (ef_int (af_nil ⟨rfl, a, 6, rfl, ?_, by decide, by decide, fun r3 s0 s1 => ?_⟩)))))
  · rw [tick_tick]
    exact HasDice.tick hd
  · rw [tick_tick, tick_tick]
    have q1' : r2 < 1000000000 := q1
    have e : ((10 : Int) ^ (15 : Int).toNat) = 1000000000000000 := by decide
    obtain rfl | rfl | rfl | rfl | rfl | rfl : r3 = 0 ∨ r3 = 1 ∨ r3 = 2 ∨ r3 = 3 ∨ r3 = 4 ∨ r3 = 5 := by omega
    · exact ⟨_, _, _, .im _, rfl, rfl, hK _ (by decide) (by decide)⟩
    · exact ⟨_, _, _, .im _, rfl, rfl, hK _ (by decide) (by decide)⟩
    · exact ⟨_, _, _, .im _, rfl, rfl, hK _ (by decide) (by decide)⟩
    · exact ⟨_, _, _, .im _, rfl, rfl, hK _ (by omega) (by omega)⟩
    · exact ⟨_, _, _, .im _, rfl, rfl, hK _ (by omega) (by omega)⟩
    · exact ⟨_, _, _, .im _, rfl, rfl, hK _ (by decide) (by decide)⟩
end
end OW

/-! the drawn ledger -/
namespace OW
open PySem PySem.Spec PyProof.Rows L2
local macro_rules | `(tactic| walk_at "ow") => `(tactic| first
  | with_reducible refine sf_seq ?_
  | with_reducible refine sf_asg ?_
  | with_reducible refine sf_drop ?_
  | with_reducible refine sf_ret ?_
  | with_reducible refine sf_next ?_
  | (with_reducible apply ef_var; rfl)
  | with_reducible refine ef_int ?_
  | with_reducible refine ef_bl ?_
  | with_reducible refine ef_non ?_
  | with_reducible refine gf_name ?_
  | with_reducible refine gfs_nil ?_
  | with_reducible refine gfs_cons ?_
  | (with_reducible refine gf_tup ?_ ?_; rfl)
  | with_reducible refine tf_test ?_
  | with_reducible refine tf_yes ?_
  | with_reducible refine tf_B ?_
  | with_reducible refine af_cons ?_
  | with_reducible refine af_nil ?_
  | with_reducible refine ef_call ?_
  | with_reducible refine ef_I0i ?_
  | with_reducible refine ef_I0b ?_
  | with_reducible refine ef_I ?_
  | with_reducible refine ef_neg ?_
  | with_reducible refine ef_ixL ?_
  | with_reducible refine ef_ixT ?_
  | with_reducible refine ef_len ?_
  | with_reducible refine ef_tup ?_)
/-- a drawn ledger is small -/
structure SmB (b : Bk) : Prop where
  dl : b.deeds.length ≤ 8
  kl : b.known.length ≤ 10
  num : ∀ k ∈ b.known, NumOk 4 k.1
  dOwn : ∀ d ∈ b.deeds, 0 ≤ d.2.1 ∧ d.2.1 ≤ 1000000000000000
  kOwn : ∀ k ∈ b.known, 0 ≤ k.2.1 ∧ k.2.1 ≤ 1000000000000000
  dAsk : ∀ d ∈ b.deeds, d.2.2.length ≤ 4
  kAsk : ∀ k ∈ b.known, k.2.2.length ≤ 4
def pLedger : Pre := fun ds O Kd => ∃ (a : Addr), ds = [.ref a] ∧ HasDice O a 10000 ∧ ∀ b, WfB b → SmB b → Kd (bookD b) (tick 10000 O)
theorem frzDs_map {α : Type} {p : Addr} {xs : List D} {f : α → D} (h : ∀ a, frzD p xs (f a) = f a) : ∀ l : List α, frzDs p xs (l.map f) = l.map f
  | [] => rfl
  | a :: l => by
    show frzD p xs (f a) :: frzDs p xs (l.map f) = _
    rw [h, frzDs_map h l]
    rfl
theorem frz_num (p : Addr) (xs : List D) (n : Num) : frzD p xs (num n) = num n := by
  show D.tup (frzDs p xs (n.map .int)) = _
  rw [frzDs_map (fun _ => rfl)]
  rfl
theorem frz_kn (p : Addr) (xs : List D) (k : Kn) : frzD p xs (knD k) = knD k := by
  show D.tup [frzD p xs (num k.1), .int k.2.1, .lst (frzDs p xs (k.2.2.map num))] = _
  rw [frz_num, frzDs_map (frz_num p xs)]
  rfl
theorem srt_len (ns : List Num) : (srt ns).length = ns.length := (srt_perm ns).length_eq
theorem wk_tail {A B : Own} (x : Addr × C) (h : Wk A B) (hd : dom A = dom B) : Wk (x :: A) (x :: B) := Wk.app (X := [x]) h hd
theorem wk_tick_tail {c d : Nat} (h : c ≤ d) (x : Addr × C) (O : Own) : Wk (x :: tick c O) (x :: tick d O) := wk_tail x (wk_ticks h O) (by rw [tick_dom, tick_dom])
section
variable {Kf : PySem.W.Frag} {P : Program} {w : World}
/-- a drawn number -/
theorem ef_number {O : Own} {K : KD} {a : Addr} {m : Int} {x y z u v q r : Option D} {s : D} (hd : HasDice O a 5) (hm : m = 3 ∨ m = 12)
    (hK : ∀ n, NumOk 4 n → ∀ c, c ≤ 5 → K (num n) (tick c O)) :
    Ef (tOp (rCatA Kf) (tTup (tCons (tCall (Fsp 2 pRoll) [] E0 (tCons (tVar 0) (tCons (tC (.int 13)) tNil))) tNil)) (tCB (fun xs H Q => ∃ p ys, xs = [.ref p] ∧ ((SqL Kf H p ys ∧ ∀ l, H l = none → Q (.ref l) (upd H l (.tup ys))) ∨ (SqT Kf H p ys ∧ Q (.ref p) H))) (tCons (tLc (iRng1 (tCons (tOp rAdd (tC (.int 1)) (tCall (Fsp 2 pRoll) [] E0 (tCons (tVar 0) (tCons (tC (.int 3)) tNil)))) tNil)) (gName 5) tYes (tOp rAdd (tC (.int 1)) (tCall (Fsp 2 pRoll) [] E0 (tCons (tVar 0) (tCons (tVar 3) tNil)))) [5]) tNil)))
      [some (.ref a), some s, x, some (.int m), y, z, u, v, q] O K := by
  refine ef_catT (ef_tup (af_cons (ef_call (af_cons (ef_var rfl (af_cons (ef_int (af_nil ⟨rfl, a, 13, rfl, hd.less (by decide), by decide, by decide, fun r0 a0 a1 => af_nil ⟨Nat.le_of_ble_eq_true rfl, ?_⟩⟩))))))))
  refine ef_tuple (ef_lcR gok_name (ef_I0i (ef_int (ef_call (af_cons (ef_var rfl (af_cons (ef_int (af_nil ⟨rfl, a, 3, rfl, (HasDice.tick (hd.less (by decide))), by decide, by decide, fun r1 b0 b1 => ?_⟩)))))))))
  rw [tick_tick]
  refine ⟨_, _, rfl, rfl, _, rfl, by omega, fun i acc O' => O' = tick (2 + i) O ∧ ∃ ps : List Int, acc = ps.map .int ∧ ps.length = i ∧ ∀ x ∈ ps, x.natAbs ≤ 100, ⟨rfl, [], rfl, rfl, fun x hx => by cases hx⟩, ?_, ?_, ?_⟩
  · rintro i acc O' hi ⟨rfl, ps, rfl, rfl, hp⟩
    refine ⟨trivial, ?_⟩
    rw [List.length_map]
    omega
  · rintro i acc O' Dl hi ⟨rfl, ps, rfl, rfl, hp⟩
    refine gf_name (tf_yes ?_)
    rw [if_pos rfl]
    refine ef_I0i (ef_int (ef_call (af_cons (ef_var rfl (af_cons (ef_var rfl (af_nil ⟨rfl, a, m, rfl, (HasDice.tick (hd.less ?_)).cons _, ?_, ?_, fun r2 c0 c1 => ?_⟩)))))))
    · omega
    · omega
    · omega
    · refine ⟨_, _, rfl, rfl, _, rfl, ?_, ps ++ [1 + r2], ?_, ?_, ?_⟩
      · show tick 1 (tick (2 + ps.length) O) = _
        rw [tick_tick]
        rfl
      · rw [List.map_append]
        rfl
      · rw [List.length_append]
        rfl
      · intro x hx
        rcases List.mem_append.mp hx with z | z
        · exact hp x z
        · obtain rfl := List.mem_singleton.mp z
          omega
  · rintro acc O' ⟨rfl, ps, rfl, hpl, hp⟩
    refine .inl ⟨_, .im _, _, _, rfl, rfl, ?_, ?_⟩
    · rw [List.length_map]
      show 1 + _ ≤ _
      omega
    · have e : ([D.int r0] ++ ps.map .int) = (r0 :: ps).map .int := rfl
      rw [e]
      refine hK (r0 :: ps) ⟨fun z => (by cases z), ?_, fun x hx => ?_⟩ _ (by omega)
      · rw [List.length_cons]
        omega
      · rcases List.mem_cons.mp hx with rfl | m
        · omega
        · exact hp x m
theorem sf_ledger (ds : List D) (O : Own) (Kd : KD) (hl : ds.length = 1) (h : pLedger ds O Kd) : Sf (t_law_ledger Kf P w pRoll pSome pOwn pPick) (args ds 9) O { nx := fun _ O' => Kd .non O', rt := Kd } := by
  obtain ⟨a, rfl, hd, hK⟩ := h
  show Sf _ [some (.ref a), none, none, none, none, none, none, none, none] O _
  unfold t_law_ledger
  refine sf_wk (sf_seq (sf_asg (ef_lstO (af_nil ⟨by decide, fun pn => gf_name ?_⟩))))
  refine sf_cut (fun Γ' O' => ∃ x y z c, ∃ ns : List Num, c ≤ 100 ∧ Γ' = [some (.ref a), some (.ref pn), x, y, z, none, none, none, none] ∧ O' = (pn, .lst (ns.map num)) :: tick c O ∧ (∀ n ∈ ns, NumOk 4 n) ∧ ns.Nodup ∧ ns.length ≤ 10) ?_ ?_
  · refine sf_forR1 (ef_call (af_cons (ef_var rfl (af_cons (ef_int (af_nil ⟨rfl, a, 10, rfl, (hd.less (by decide)).cons _, by decide, by decide, fun r h0 h1 => ?_⟩))))))
    refine ⟨r, fun i Γ' O' => ∃ x y z, ∃ ns : List Num, Γ' = [some (.ref a), some (.ref pn), x, y, z, none, none, none, none] ∧ O' = (pn, .lst (ns.map num)) :: tick (1 + 10 * i) O ∧ (∀ n ∈ ns, NumOk 4 n) ∧ ns.Nodup ∧ ns.length ≤ i, rfl, by omega, ⟨none, none, none, [], rfl, rfl, fun n hn => (by cases hn), .nil, Nat.le_refl _⟩, ?_, ?_⟩
    · rintro i Γ' O' hi ⟨x, y, z, ns, rfl, rfl, hok, hnd, hlen⟩
      refine gf_name (sf_wk (sf_seq (sf_asg (ef_ixL (ef_lst (af_cons (ef_int (af_cons (ef_int (af_nil ⟨by decide, ef_call (af_cons (ef_var rfl (af_cons (ef_int (af_nil ⟨rfl, a, 2, rfl, (HasDice.tick (hd.less ?_)).cons _, by decide, by decide, fun r1 a0 a1 => ?_⟩)))))⟩))))))))))
      · omega
      have hm : ∃ m : Int, (m = 3 ∨ m = 12) ∧ atI [D.int 3, D.int 12] r1 = some (.int m) := by
        obtain rfl | rfl : r1 = 0 ∨ r1 = 1 := by omega
        · exact ⟨3, .inl rfl, rfl⟩
        · exact ⟨12, .inr rfl, rfl⟩
      obtain ⟨m, hm, em⟩ := hm
      refine ⟨_, _, _, .im _, rfl, em, gf_name ?_⟩
      have e2 : tick 1 ((pn, C.lst (ns.map num)) :: tick (1 + 10 * i) O) = (pn, C.lst (ns.map num)) :: tick (1 + 10 * i + 1) O := by
        rw [tick_cons, tick_tick]
        rfl
      rw [e2]
      refine sf_seq (sf_asg (ef_number (r := none) ((HasDice.tick (hd.less ?_)).cons _) hm fun n hn c hc => gf_name ?_))
      · omega
      have e3 : tick c ((pn, C.lst (ns.map num)) :: tick (1 + 10 * i + 1) O) = (pn, C.lst (ns.map num)) :: tick (1 + 10 * i + 1 + c) O := by
        rw [tick_cons, tick_tick]
        rfl
      rw [e3]
      refine sf_if (tf_test (ef_notinP (ef_var rfl (ef_var rfl ⟨_, _, pd_num n, .own 0 rfl (pdL_nums ns), shaped_num n, shaped_nums ns, _, rfl, fun ht => ?_, fun ht => ?_⟩))))
      · rw [any_num_in] at ht
        have hn2 : n ∉ ns := fun z => by rw [decide_eq_true z] at ht; cases ht
        refine sf_drop (ef_append (ef_var rfl ⟨pn, rfl, ⟨0, _, rfl⟩, ef_var rfl ⟨0, _, rfl, by rw [List.length_map]; omega, ?_⟩⟩))
        refine ⟨_, wk_tick_tail (show 1 + 10 * i + 1 + c ≤ 1 + 10 * (i + 1) by omega) _ _, _, _, _, ns ++ [n], rfl, ?_, ?_, ?_, ?_⟩
        · rw [List.map_append]
          rfl
        · intro x hx
          rcases List.mem_append.mp hx with z | z
          · exact hok x z
          · obtain rfl := List.mem_singleton.mp z
            exact hn
        · exact List.nodup_append.mpr ⟨hnd, List.nodup_cons.mpr ⟨fun z => (by cases z), List.nodup_nil⟩, fun a ha c hc e => hn2 (by
            obtain rfl := List.mem_singleton.mp hc
            rw [← e]
            exact ha)⟩
        · rw [List.length_append]
          show ns.length + 1 ≤ _
          omega
      · exact sf_next ⟨_, wk_tick_tail (show 1 + 10 * i + 1 + c ≤ 1 + 10 * (i + 1) by omega) _ _, _, _, _, ns, rfl, rfl, hok, hnd, by omega⟩
    · rintro Γ' O' ⟨x, y, z, ns, rfl, rfl, hok, hnd, hlen⟩
      exact ⟨_, _, _, _, ns, by omega, rfl, rfl, hok, hnd, by omega⟩
  · rintro Γ' O' ⟨x, y, z, c, ns, hc, rfl, rfl, hok, hnd, hlen⟩
    refine sf_seq (sf_asg (ef_sortN (ef_var rfl ⟨ns, .own 0 rfl, fun n hn => (hok n hn).ne, sortFin_srt (.inl (gf_name ?_))⟩)))
    have sl := srt_len ns
    have sm : ∀ n, n ∈ srt ns → n ∈ ns := fun n h => (srt_perm ns).mem_iff.mp h
    refine sf_seq (sf_asg (ef_lcL gok_name (ef_var rfl ⟨(srt ns).map num, .im _, fun i acc O' => O' = (pn, .lst (ns.map num)) :: tick (c + 103 * i) O ∧ ∃ kn : List Kn, acc = kn.map knD ∧ kn.map (·.1) = (srt ns).take i ∧ ∀ k ∈ kn, (0 ≤ k.2.1 ∧ k.2.1 ≤ 1000000000000000) ∧ k.2.2.length ≤ 4 ∧ ∀ n ∈ k.2.2, n ∈ srt ns, ⟨rfl, [], rfl, rfl, fun k hk => (by cases hk)⟩, ?_, ?_, ?_⟩)))
    · rintro i acc O' hi ⟨rfl, kn, rfl, hk, _⟩
      refine ⟨.im _, ?_⟩
      rw [List.length_map] at hi ⊢
      have := congrArg List.length hk
      rw [List.length_map, List.length_take] at this
      omega
    · rintro i acc O' Dl hi ⟨rfl, kn, rfl, hk, hkn⟩
      rw [List.length_map] at hi
      dsimp only
      rw [map_getD _ num hi]
      refine gf_name (tf_yes ?_)
      rw [if_pos rfl]
      refine ef_tup (af_cons (ef_var rfl (af_cons (ef_call (af_cons (ef_var rfl (af_nil ⟨rfl, a, rfl, ((HasDice.tick (hd.less ?_)).cons _).cons _, fun v v0 v1 => ?_⟩)))))))
      · omega
      refine af_cons (ef_call (af_cons (ef_var rfl (af_cons (ef_var rfl (af_cons (ef_int (af_nil ⟨rfl, a, _, srt ns, 4, rfl, .im _, by omega, fun n hn => (hok n (sm n hn)).ne, by decide, by decide, ?_, fun ms ml msub mso => af_nil ⟨Nat.le_of_ble_eq_true rfl, ?_⟩⟩))))))))
      · exact HasDice.tick (((HasDice.tick (hd.less (by omega))).cons _).cons _)
      · refine ⟨(pn, .lst (ns.map num)) :: tick 100 (tick 3 (tick (c + 103 * i) O)), rfl, ?_, kn ++ [((srt ns)[i], v, ms)], ?_, ?_, ?_⟩
        · rw [tick_tick, tick_tick]
          rfl
        · rw [List.map_append]
          rfl
        · rw [List.map_append, hk, List.take_succ_eq_append_getElem hi]
          rfl
        · intro k hk
          rcases List.mem_append.mp hk with z | z
          · exact hkn k z
          · obtain rfl := List.mem_singleton.mp z
            exact ⟨⟨v0, v1⟩, ml, msub⟩
    · rintro acc O' ⟨rfl, kn, rfl, hk, hkn⟩
      rw [List.length_map, List.take_length] at *
      refine .inl (gf_name ?_)
      refine sf_seq (sf_asg (ef_lstO (af_nil ⟨by decide, fun pd => gf_name ?_⟩)))
      refine sf_cut (fun Γ' O' => ∃ x y, ∃ dl : List Deed, ∃ c2, Γ' = [some (.ref a), some (.lst ((srt ns).map num)), x, y, z, none, some (.lst (kn.map knD)), some (.ref pd), Γ'.getD 8 none] ∧ c2 ≤ 10000 ∧ O' = (pd, .lst (dl.map deedD)) :: (pn, .lst (ns.map num)) :: tick c2 O ∧ dl.length ≤ 8 ∧ (∀ j (h : j < dl.length), dl[j].1 ≤ j) ∧ ∀ d ∈ dl, (0 ≤ d.2.1 ∧ d.2.1 ≤ 1000000000000000) ∧ d.2.2.length ≤ 4 ∧ ∀ n ∈ d.2.2, n ∈ srt ns) ?_ ?_
      · refine sf_forR1 (ef_call (af_cons (ef_var rfl (af_cons (ef_int (af_nil ⟨rfl, a, 9, rfl, ((HasDice.tick (hd.less (by omega))).cons _).cons _, by decide, by decide, fun r h0 h1 => ?_⟩))))))
        refine ⟨r, fun i Γ' O' => ∃ x y u, ∃ dl : List Deed, Γ' = [some (.ref a), some (.lst ((srt ns).map num)), x, y, z, none, some (.lst (kn.map knD)), some (.ref pd), u] ∧ O' = (pd, .lst (dl.map deedD)) :: (pn, .lst (ns.map num)) :: tick (c + 103 * (srt ns).length + 1 + 105 * i) O ∧ dl.length = i ∧ (∀ j (h : j < dl.length), dl[j].1 ≤ j) ∧ ∀ d ∈ dl, (0 ≤ d.2.1 ∧ d.2.1 ≤ 1000000000000000) ∧ d.2.2.length ≤ 4 ∧ ∀ n ∈ d.2.2, n ∈ srt ns, rfl, by omega, ⟨_, _, _, [], rfl, ?_, rfl, fun j h => (by cases h), fun d hd => (by cases hd)⟩, ?_, ?_⟩
        · show (pd, C.lst []) :: (pn, _) :: tick 1 (tick (c + 103 * (srt ns).length) O) = _
          rw [tick_tick]
          rfl
        · rintro i Γ' O' hi ⟨x, y, u, dl, rfl, rfl, rfl, hv, hdl⟩
          refine gf_name (sf_seq (sf_asg (ef_call (af_cons (ef_var rfl (af_cons (ef_lst (af_cons (ef_var rfl (af_cons (ef_var rfl (af_cons (ef_call (af_cons (ef_var rfl (af_cons (ef_I0i (ef_var rfl (ef_int ⟨_, _, rfl, rfl, af_nil ⟨rfl, a, _, rfl, ((HasDice.tick (hd.less ?_)).cons _).cons _, ?_, ?_, fun r2 a0 a1 => ?_⟩⟩)))))))))))))))))))
          · omega
          · omega
          · omega
          refine af_nil ⟨Nat.le_of_ble_eq_true rfl, af_nil ⟨rfl, a, _, _, rfl, .im _, fun z => (by cases z), Nat.le_of_ble_eq_true rfl, ?_, fun v hv2 => gf_name ?_⟩⟩
          · exact HasDice.tick (((HasDice.tick (hd.less (by omega))).cons _).cons _)
          have hver : ∃ n : Nat, v = .int n ∧ n ≤ dl.length := by
            rcases List.mem_cons.mp hv2 with rfl | hv2
            · exact ⟨dl.length, rfl, Nat.le_refl _⟩
            · rcases List.mem_cons.mp hv2 with rfl | hv2
              · exact ⟨dl.length, rfl, Nat.le_refl _⟩
              · obtain rfl := List.mem_singleton.mp hv2
                exact ⟨r2.toNat, congrArg D.int (by omega), by omega⟩
          obtain ⟨ver, rfl, hver⟩ := hver
          refine sf_drop (ef_append (ef_var rfl ⟨pd, rfl, ⟨0, _, rfl⟩, ef_tup (af_cons (ef_var rfl (af_cons (ef_call (af_cons (ef_var rfl (af_nil ⟨rfl, a, rfl, ?_, fun v v0 v1 => ?_⟩)))))))⟩))
          · exact HasDice.tick (HasDice.tick (((HasDice.tick (hd.less (by omega))).cons _).cons _))
          refine af_cons (ef_call (af_cons (ef_var rfl (af_cons (ef_var rfl (af_cons (ef_int (af_nil ⟨rfl, a, _, srt ns, 4, rfl, .im _, by omega, fun n hn => (hok n (sm n hn)).ne, by decide, by decide, ?_, fun ms ml msub mso => af_nil ⟨Nat.le_of_ble_eq_true rfl, ?_⟩⟩))))))))
          · exact HasDice.tick (HasDice.tick (HasDice.tick (((HasDice.tick (hd.less (by omega))).cons _).cons _)))
          refine ⟨0, _, rfl, ?_, _, _, _, dl ++ [(ver, v, ms)], rfl, ?_, ?_, ?_, ?_⟩
          · rw [List.length_map]
            omega
          · show (pd, C.lst (_ ++ [_])) :: (pn, _) :: tick 100 (tick 3 (tick 1 (tick 1 (tick _ O)))) = _
            rw [tick_tick, tick_tick, tick_tick, tick_tick, List.map_append]
            congr 2
          · rw [List.length_append]
            rfl
          · intro j hj
            rw [List.length_append] at hj
            have hj : j < dl.length + 1 := hj
            by_cases hj2 : j < dl.length
            · rw [List.getElem_append_left hj2]
              exact hv j hj2
            · have ej : j = dl.length := by omega
              subst ej
              rw [List.getElem_append_right (Nat.le_refl _)]
              simpa using hver
          · intro d hd
            rcases List.mem_append.mp hd with z | z
            · exact hdl d z
            · obtain rfl := List.mem_singleton.mp z
              exact ⟨⟨v0, v1⟩, ml, msub⟩
        · rintro Γ' O' ⟨x, y, u, dl, rfl, rfl, hdlen, hv, hdl⟩
          exact ⟨_, _, dl, _, rfl, by omega, rfl, by omega, hv, hdl⟩
      · rintro Γ' O' ⟨x, y, dl, c2, hΓ, hc2, rfl, hdlen, hv, hdl⟩
        rw [hΓ]
        refine sf_ret_frz (ef_tup (af_cons (ef_var rfl (af_cons (ef_var rfl (af_nil ⟨Nat.le_of_ble_eq_true rfl, .inr ⟨pd, _, _, rfl, ?_⟩⟩))))))
        have e : frzD pd (dl.map deedD) (.tup [.ref pd, .lst (kn.map knD)]) = bookD ⟨dl, kn⟩ := by
          show D.tup [frzD pd _ (.ref pd), .lst (frzDs pd _ (kn.map knD))] = _
          rw [frz_self, frzDs_map (frz_kn _ _)]
          rfl
        rw [e]
        have kl : kn.length = ns.length := by
          have := congrArg List.length hk
          rw [List.length_map, srt_len] at this
          exact this
        have kmem : ∀ k ∈ kn, k.1 ∈ ns := fun k hk2 => sm _ (by rw [← hk]; exact List.mem_map.mpr ⟨k, hk2, rfl⟩)
        refine ⟨tick 10000 O, (wk_drop _ _).trans (wk_ticks hc2 O), hK ⟨dl, kn⟩ ⟨hv, fun d hd n hn => ?_, fun k hk2 n hn => ?_, ?_, fun k hk2 => (hok _ (kmem k hk2)).ne, by show dl.length ≤ _; omega, by show kn.length ≤ _; omega, fun d hd => ?_, fun k hk2 => ?_⟩ ⟨hdlen, by show kn.length ≤ _; omega, fun k hk2 => hok _ (kmem k hk2), fun d hd => (hdl d hd).1, fun k hk2 => (hkn k hk2).1, fun d hd => (hdl d hd).2.1, fun k hk2 => (hkn k hk2).2.1⟩⟩
        · show n ∈ kn.map (·.1)
          rw [hk]
          exact (hdl d hd).2.2 n hn
        · show n ∈ kn.map (·.1)
          rw [hk]
          exact (hkn k hk2).2.2 n hn
        · show (kn.map (·.1)).Nodup
          rw [hk]
          exact (srt_perm ns).nodup_iff.mpr hnd
        · have := (hdl d hd).2.1
          omega
        · have := (hkn k hk2).2.1
          omega
end
end OW

/-! plans bent -/
namespace OW
open PySem PySem.Spec PyProof.Rows L2
local macro_rules | `(tactic| walk_at "ow") => `(tactic| first
  | with_reducible refine sf_seq ?_
  | with_reducible refine sf_asg ?_
  | with_reducible refine sf_drop ?_
  | with_reducible refine sf_ret ?_
  | with_reducible refine sf_next ?_
  | (with_reducible apply ef_var; rfl)
  | with_reducible refine ef_int ?_
  | with_reducible refine ef_bl ?_
  | with_reducible refine ef_non ?_
  | with_reducible refine gf_name ?_
  | with_reducible refine gfs_nil ?_
  | with_reducible refine gfs_cons ?_
  | (with_reducible refine gf_tup ?_ ?_; rfl)
  | with_reducible refine tf_test ?_
  | with_reducible refine tf_yes ?_
  | with_reducible refine tf_B ?_
  | with_reducible refine af_cons ?_
  | with_reducible refine af_nil ?_
  | with_reducible refine ef_call ?_
  | with_reducible refine ef_I0i ?_
  | with_reducible refine ef_I0b ?_
  | with_reducible refine ef_I ?_
  | with_reducible refine ef_neg ?_
  | with_reducible refine ef_ixL ?_
  | with_reducible refine ef_ixT ?_
  | with_reducible refine ef_len ?_
  | with_reducible refine ef_tup ?_)
structure PayOk (t : Nat) (q : Pay) : Prop where
  num : NumOk (4 + t) q.1
  lo : 0 ≤ q.2
  hi : q.2 ≤ 1000000000000000 + t * 100000000000000000
structure RowOk (t : Nat) (r : List Pay) : Prop where
  len : r.length ≤ 20 + t
  pay : ∀ q ∈ r, PayOk t q
def PlOk (t : Nat) (pl : List (List Pay)) : Prop := ∀ r ∈ pl, RowOk t r
theorem NumOk.up {s t : Nat} {n : Num} (h : NumOk s n) (l : s ≤ t) : NumOk t n := ⟨h.ne, Nat.le_trans h.len l, h.small⟩
theorem PayOk.up {t : Nat} {q : Pay} (h : PayOk t q) : PayOk (t + 1) q := ⟨h.num.up (by omega), h.lo, by have := h.hi; omega⟩
theorem RowOk.up {t : Nat} {r : List Pay} (h : RowOk t r) : RowOk (t + 1) r := ⟨by have := h.len; omega, fun q hq => (h.pay q hq).up⟩
theorem PlOk.set {t : Nat} {pl : List (List Pay)} (h : PlOk t pl) {i : Nat} {r : List Pay} (hr : RowOk (t + 1) r) : PlOk (t + 1) (pl.set i r) := fun x hx => by
  rcases List.mem_or_eq_of_mem_set hx with m | e
  · exact (h x m).up
  · rw [e]; exact hr
theorem RowOk.snoc {t : Nat} {r : List Pay} (h : RowOk t r) {q : Pay} (hq : PayOk (t + 1) q) : RowOk (t + 1) (r ++ [q]) := by
  refine ⟨?_, fun x hx => ?_⟩
  · rw [List.length_append]
    have := h.len
    show _ + 1 ≤ _
    omega
  · rcases List.mem_append.mp hx with m | m
    · exact (h.pay x m).up
    · obtain rfl := List.mem_singleton.mp m
      exact hq
theorem RowOk.erase {t : Nat} {r : List Pay} (h : RowOk t r) (i : Nat) : RowOk t (r.eraseIdx i) :=
  ⟨Nat.le_trans (List.length_eraseIdx_le r i) h.len, fun q hq => h.pay q (List.mem_of_mem_eraseIdx hq)⟩
theorem RowOk.ins {t : Nat} {r : List Pay} (h : RowOk t r) {q : Pay} (hq : PayOk (t + 1) q) (i : Nat) : RowOk (t + 1) (r.take i ++ [q] ++ r.drop i) := by
  refine ⟨?_, fun x hx => ?_⟩
  · have e := congrArg List.length (List.take_append_drop i r)
    rw [List.length_append] at e
    rw [List.length_append, List.length_append]
    have := h.len
    show _ + 1 + _ ≤ _
    omega
  · rcases List.mem_append.mp hx with m | m
    · rcases List.mem_append.mp m with m | m
      · exact (h.pay x (List.mem_of_mem_take m)).up
      · obtain rfl := List.mem_singleton.mp m
        exact hq
    · exact (h.pay x (List.mem_of_mem_drop m)).up
/-! ### a plan whose rows are owned, in their order -/
def refs (rs : List (Addr × List Pay)) : List D := rs.map fun r => .ref r.1
def bO (rs : List (Addr × List Pay)) (p : Addr) (O : Own) : Own := (p, .lst (refs rs)) :: (rowsO rs ++ O)
def bP (rs : List (Addr × List Pay)) : List (List Pay) := rs.map (·.2)
theorem map_eraseIdx {α β : Type} (f : α → β) : ∀ (l : List α) (i : Nat), (l.map f).eraseIdx i = (l.eraseIdx i).map f
  | [], _ => rfl
  | _ :: _, 0 => rfl
  | a :: l, i + 1 => by
    show f a :: (l.map f).eraseIdx i = f a :: (l.eraseIdx i).map f
    rw [map_eraseIdx f l i]
theorem sf_ifB {c : TT} {t u : TS} {K : Ks} {Γ : Ctx} {O : Own} (b : Bool) (h : Tf c Γ O fun x O1 => x = b ∧ O1 = O) (ht : b = true → Sf t Γ O K) (hu : b = false → Sf u Γ O K) : Sf (tIfS c t u) Γ O K :=
  sf_if (h.mono fun x O1 ⟨e1, e2⟩ => by
    subst e1 e2
    exact ⟨ht, hu⟩)
theorem ins_map (r : List Pay) (n : Nat) (q : Pay) : (r.map payD).take n ++ [payD q] ++ (r.map payD).drop n = (r.take n ++ [q] ++ r.drop n).map payD := by
  rw [List.map_append, List.map_append, List.map_take, List.map_drop]
  rfl
theorem tick_zero (O : Own) : tick 0 O = O := by
  unfold tick
  refine (List.map_congr_left (g := id) fun p _ => ?_).trans (List.map_id _)
  obtain ⟨p, x⟩ := p
  cases x <;> rfl
theorem tick_rowsO (c : Nat) (rs : List (Addr × List Pay)) (O : Own) : tick c (rowsO rs ++ O) = rowsO rs ++ tick c O := by
  rw [tick_app]
  congr 1
  unfold rowsO tick
  rw [List.map_map]
  rfl
theorem tick_bO (c : Nat) (rs : List (Addr × List Pay)) (p : Addr) (O : Own) : tick c (bO rs p O) = bO rs p (tick c O) := by
  unfold bO
  rw [tick_cons, tick_rowsO]
  rfl
theorem refs_getD (rs : List (Addr × List Pay)) (i : Nat) (h : i < rs.length) : (refs rs).getD i .non = .ref rs[i].1 := map_getD rs (fun r => D.ref r.1) h
theorem bO_get (rs : List (Addr × List Pay)) (p : Addr) (O : Own) (i : Nat) (h : i < rs.length) : (bO rs p O)[i + 1]? = some (rs[i].1, .lst (rs[i].2.map payD)) := rows_at rs O i h
theorem bO_set (rs : List (Addr × List Pay)) (p : Addr) (O : Own) (i : Nat) (h : i < rs.length) (r : List Pay) : (bO rs p O).set (i + 1) (rs[i].1, .lst (r.map payD)) = bO (rs.set i (rs[i].1, r)) p O := by
  show (p, C.lst (refs rs)) :: (rowsO rs ++ O).set i (rs[i].1, .lst (r.map payD)) = (p, C.lst (refs (rs.set i (rs[i].1, r)))) :: (rowsO (rs.set i (rs[i].1, r)) ++ O)
  have e1 : refs (rs.set i (rs[i].1, r)) = refs rs := by
    unfold refs
    rw [List.map_set]
    have : (D.ref (rs[i].1, r).1) = (rs.map fun r => D.ref r.1)[i]'(by rw [List.length_map]; exact h) := by rw [List.getElem_map]
    rw [this, List.set_getElem_self]
  have e2 : rowsO (rs.set i (rs[i].1, r)) = (rowsO rs).set i (rs[i].1, .lst (r.map payD)) := by
    unfold rowsO
    rw [List.map_set]
  rw [e1, e2, List.set_append_left _ _ (by rw [rowsO_len]; exact h)]
theorem bP_set (rs : List (Addr × List Pay)) (i : Nat) (a : Addr) (r : List Pay) : bP (rs.set i (a, r)) = (bP rs).set i r := by
  unfold bP
  rw [List.map_set]
theorem planAt_bO (rs : List (Addr × List Pay)) (p : Addr) (O : Own) : PlanAt (bO rs p O) (.ref p) (bP rs) := by
  refine ⟨refs rs, .own 0 rfl, by unfold refs bP; rw [List.length_map, List.length_map], fun i hi => ?_⟩
  have hi2 : i < rs.length := by unfold bP at hi; rw [List.length_map] at hi; exact hi
  rw [refs_getD rs i hi2]
  have e : (bP rs)[i] = rs[i].2 := List.getElem_map _
  rw [e]
  exact .own (i + 1) (bO_get rs p O i hi2)
theorem wk_perm {A B : Own} (h : A.Perm B) : Wk A B := by
  have hd : (dom A).Perm (dom B) := h.map _
  exact ⟨fun a m => hd.mem_iff.mpr m, fun F H σ Γ S => ⟨S.sub, S.len, S.slot, fun p hp => S.own p (h.mem_iff.mpr hp), hd.nodup_iff.mp S.nd, S.tups⟩⟩
/-! ### payments as data -/
def pyPay (p : Pay) : PyData := .tuple [pyNum p.1, .int p.2]
theorem pdL_pays {O : Own} : ∀ r : List Pay, PdL O (r.map payD) (r.map pyPay)
  | [] => .nil
  | p :: r => .cons (.tup (.cons (pd_num p.1) (.cons (.int p.2) .nil))) (pdL_pays r)
theorem pd_row {O : Own} {d : D} {r : List Pay} (h : IsL O d (r.map payD)) : Pd O d (.list (r.map pyPay)) := by
  cases h with
  | im => exact .lst (pdL_pays r)
  | own j e => exact .own j e (pdL_pays r)
theorem canLay_pays : ∀ r : List Pay, PyData.canLayAll0 (r.map pyPay) = true
  | [] => rfl
  | p :: r => by
    show ((pyNum p.1).canLay0 && true && PyData.canLayAll0 (r.map pyPay)) = true
    rw [canLay_pays r, canLay_num]
    rfl
theorem depth_pays : ∀ r : List Pay, PyData.depthAll (r.map pyPay) ≤ 2
  | [] => by decide
  | p :: r => by
    show max (max (pyNum p.1).depth (max 0 0) + 1) (PyData.depthAll (r.map pyPay)) ≤ 2
    rw [depth_num]
    have := depth_pays r
    omega
theorem shaped_pays (r : List Pay) : SeqAt.shaped (.list (r.map pyPay)) = true := by
  unfold SeqAt.shaped
  rw [Bool.and_eq_true]
  refine ⟨canLay_pays r, decide_eq_true ?_⟩
  show PyData.depthAll (r.map pyPay) + 1 ≤ 64
  have := depth_pays r
  omega
theorem eqv_nilP (r : List Pay) : PyData.eqv (.list (r.map pyPay)) (.list []) = r.isEmpty := by
  cases r <;> rfl
def pBent : Pre := fun ds O Kd => ∃ (a : Addr) (d : D) (pl : List (List Pay)) (t : Nat) (ns : List Num), ds = [.ref a, d, .lst (ns.map num)] ∧ PlanAt O d pl ∧ pl ≠ [] ∧ pl.length ≤ 64 ∧ PlOk t pl ∧ t ≤ 10 ∧ ns.length ≤ 100 ∧ (∀ n ∈ ns, NumOk 4 n) ∧ HasDice O a 100 ∧
  ∀ d' X pl', PlanAt (X ++ tick 100 O) d' pl' → pl'.length = pl.length → PlOk (t + 1) pl' → Kd d' (X ++ tick 100 O)
section
variable {Kf : PySem.W.Frag} {P : Program} {w : World}
theorem ints_nil (ns : List Nat) : PyData.eqv (.list ((ns.map fun (j : Nat) => (j : Int)).map .int)) (.list []) = ns.isEmpty := by
  cases ns <;> rfl
theorem natD_ints (ns : List Nat) : natD ns = (ns.map fun (j : Nat) => (j : Int)).map .int := by
  unfold natD
  rw [List.map_map]
  rfl
theorem sf_bent (ds : List D) (O : Own) (Kd : KD) (hl : ds.length = 3) (h : pBent ds O Kd) : Sf (t_law_bent Kf P w pRoll pPick) (args ds 11) O { nx := fun _ O' => Kd .non O', rt := Kd } := by
  obtain ⟨a, d, pl, t, ns, rfl, ⟨rows, h1, h2, h3⟩, hne, hlen, hok, ht10, hns, hnok, hd, hK⟩ := h
  show Sf _ [some (.ref a), some d, some (.lst (ns.map num)), none, none, none, none, none, none, none, none] O _
  unfold t_law_bent
  refine sf_wk (sf_seq (sf_asg (ef_wk (ef_lcL gok_name (ef_var rfl ⟨rows, h1, fun i acc O' => ∃ rs, rs.length = i ∧ acc = refs rs ∧ O' = rowsO rs ++ O ∧ bP rs = pl.take i, ⟨[], rfl, rfl, rfl, rfl⟩, ?_, ?_, ?_⟩)))))
  · rintro i acc O' hi ⟨rs, rfl, rfl, rfl, e⟩
    refine ⟨h1.app _, ?_⟩
    unfold refs
    rw [List.length_map]
    omega
  · rintro i acc O' Dl hi ⟨rs, rfl, rfl, rfl, e⟩
    have hi2 : rs.length < pl.length := by omega
    refine gf_name (tf_yes ?_)
    rw [if_pos rfl]
    refine ef_wk (ef_list (ef_var rfl ⟨_, .inl (((h3 _ hi2).app _).cons _), fun q => ?_⟩))
    refine ⟨(Dl, .lst (refs rs)) :: (rowsO (rs ++ [(q, pl[rs.length])]) ++ O), wk_perm ?_, _, rfl, rs ++ [(q, pl[rs.length])], ?_, ?_, rfl, ?_⟩
    · refine (List.Perm.swap _ _ _).trans (List.Perm.cons _ ?_)
      have e : rowsO (rs ++ [(q, pl[rs.length])]) = rowsO rs ++ [(q, .lst (pl[rs.length].map payD))] := by
        unfold rowsO
        rw [List.map_append]
        rfl
      rw [e, List.append_assoc]
      exact (List.perm_middle).symm
    · rw [List.length_append]
      rfl
    · unfold refs
      rw [List.map_append]
      rfl
    · rw [List.take_succ_eq_append_getElem hi2, ← e]
      unfold bP
      rw [List.map_append]
      rfl
  rintro acc O' ⟨rs, hrl, rfl, rfl, e⟩
  rw [show rows.length = pl.length from h2, List.take_length] at e
  have hpl : pl = bP rs := e.symm
  subst hpl
  have hrl : rs.length = (bP rs).length := by omega
  refine .inr fun p => ⟨bO rs p O, Wk.refl _, gf_name ?_⟩
  have hbl : ∀ i (h : i < rs.length), (bP rs)[i]'(by omega) = rs[i].2 := fun i h => List.getElem_map _
  have hrow : ∀ i (h : i < rs.length), RowOk t rs[i].2 := fun i h => by rw [← hbl i h]; exact hok _ (List.getElem_mem _)
  -- the end
  have fin : ∀ (c : Nat) (rs' : List (Addr × List Pay)), c ≤ 100 → rs'.length = rs.length → PlOk (t + 1) (bP rs') → (Ks.wk { nx := fun _ O' => Kd .non O', rt := Kd }).rt (.ref p) (bO rs' p (tick c O)) := fun c rs' hc hl' hp => by
    refine ⟨bO rs' p (tick 100 O), Wk.app (X := (p, .lst (refs rs')) :: rowsO rs') (wk_ticks hc O) (by rw [tick_dom, tick_dom]), ?_⟩
    refine hK _ ((p, .lst (refs rs')) :: rowsO rs') (bP rs') (planAt_bO rs' p (tick 100 O)) ?_ hp
    unfold bP
    rw [List.length_map, List.length_map]
    exact hl'
  let fl : List Nat := (List.range rs.length).filter fun i => !((bP rs).getD i []).isEmpty
  have hfl : ∀ i ∈ fl, ∃ h : i < rs.length, rs[i].2 ≠ [] := fun i hi => by
    obtain ⟨m1, m2⟩ := List.mem_filter.mp hi
    have h := List.mem_range.mp m1
    refine ⟨h, fun z => ?_⟩
    have : (bP rs).getD i [] = rs[i].2 := by
      rw [List.getD_eq_getElem?_getD, List.getElem?_eq_getElem (by omega)]
      exact hbl i h
    rw [this, z] at m2
    cases m2
  have hfll : fl.length ≤ 64 := by
    have : fl.length ≤ (List.range rs.length).length := List.length_filter_le (fun i => !((bP rs).getD i []).isEmpty) (List.range rs.length)
    rw [List.length_range] at this
    omega
  refine sf_seq (sf_asg (ef_lcE gok2 (ef_var rfl ⟨refs rs, .own 0 rfl, turns_typed (List.range rs.length) (by unfold refs; rw [List.length_range, List.length_map]) (by unfold refs; rw [List.length_map]; omega) (fun i => !((bP rs).getD i []).isEmpty) (fun (i : Nat) => .int (i : Int)) (.own 0 rfl) (fun i hi acc Dl => ?_) (.inl (gf_name ?_))⟩)))
  · rw [List.length_range] at hi
    rw [refs_getD rs i hi, List.getElem_range]
    refine gf_tup rfl (gfs_cons (gf_name (gfs_cons (gf_name (gfs_nil (tf_test (ef_neP (ef_var rfl (ef_lst (af_nil ⟨by decide, _, _, pd_row ((IsL.own (i + 1) (bO_get rs p O i hi)).cons _), .lst .nil, shaped_pays _, rfl, _, rfl, rfl, ?_, fun _ => ef_var rfl ⟨rfl, rfl⟩⟩))))))))))
    rw [eqv_nilP]
    have : (bP rs).getD i [] = rs[i].2 := by
      rw [List.getD_eq_getElem?_getD, List.getElem?_eq_getElem (by omega)]
      exact hbl i hi
    rw [this]
  show Sf _ [some (.ref a), some d, some (.lst (ns.map num)), some (.ref p), none, some (.lst (natD fl)), none, none, none, none, none] (bO rs p O) _
  have hb1 : ∀ c, (tick c O) = tick c O := fun _ => rfl
  have hdb : ∀ (rs' : List (Addr × List Pay)) c k, c + k ≤ 100 → HasDice (bO rs' p (tick c O)) a k := fun rs' c k hck => (((HasDice.tick (hd.less (by omega)) : HasDice (tick c O) a k).app (rowsO rs')).cons _)
  have hdb0 : ∀ (rs' : List (Addr × List Pay)) k, k ≤ 100 → HasDice (bO rs' p O) a k := fun rs' k hck => ((hd.less hck).app (rowsO rs')).cons _
  have hrp : 0 < rs.length := by
    have := List.length_pos_iff.mpr hne
    omega
  have hrefl : (refs rs).length = rs.length := by unfold refs; rw [List.length_map]
  have hat : ∀ (j : Int), 0 ≤ j → j < rs.length → atI (refs rs) j = some ((refs rs).getD j.toNat .non) := fun j a b => by
    rw [atI_at a rfl (by omega), getD_at (by omega)]
  have hnum1 : ∀ (n : Num) (xs : List Num), (∀ x ∈ xs, NumOk (4 + (t + 1)) x) → n ∈ ns ++ xs → NumOk (4 + (t + 1)) n := fun n xs hx hn => by
    rcases List.mem_append.mp hn with m | m
    · exact (hnok n m).up (by omega)
    · exact hx n m
  refine sf_cut (fun Γ' O' => fl ≠ [] ∧ ∃ c, c ≤ 2 ∧ Γ' = [some (.ref a), some d, some (.lst (ns.map num)), some (.ref p), none, some (.lst (natD fl)), none, none, none, none, none] ∧ O' = bO rs p (tick c O)) ?_ ?_
  · have brA : ∀ c, c ≤ 2 → Sf (tSeq (tDrop (tBM Kf "list" rAppend (tOp (rIxL Kf) (tVar 3) (tCall (Fsp 2 pRoll) [] E0 (tCons (tVar 0) (tCons (tCB (fun xs H Q => ∃ p ys, xs = [.ref p] ∧ (SqL Kf H p ys ∨ SqT Kf H p ys) ∧ Q (.int ys.length) H) (tCons (tVar 3) tNil)) tNil)))) (tCons (tTup (tCons (tCall (Fsp 2 pPick) [] E0 (tCons (tVar 0) (tCons (tOp rCat (tVar 2) (tLst (tCons (tTup (tCons (tC (.int 1)) tNil)) tNil))) tNil))) (tCons (tCall (Fsp 2 pRoll) [] E0 (tCons (tVar 0) (tCons (tC (.int 4)) tNil))) tNil))) tNil)))
  (tRet (tVar 3))) [some (.ref a), some d, some (.lst (ns.map num)), some (.ref p), none, some (.lst (natD fl)), none, none, none, none, none] (bO rs p (tick c O)) { nx := fun _ _ => False, rt := (Ks.wk { nx := fun _ O' => Kd .non O', rt := Kd }).rt } := fun c hc => by
      refine sf_seq (sf_drop (ef_append (ef_ixL (ef_var rfl (ef_call (af_cons (ef_var rfl (af_cons (ef_len (ef_var rfl ⟨_, .inl (.own 0 rfl), af_nil ⟨rfl, a, _, rfl, hdb _ _ _ (by omega), by omega, by omega, fun j a0 a1 => ?_⟩⟩))))))))))
      rw [tick_bO, tick_tick]
      rw [hrefl] at a1
      refine ⟨_, _, _, .own 0 rfl, rfl, hat j a0 a1, ?_⟩
      have hj : j.toNat < rs.length := by omega
      rw [refs_getD rs _ hj]
      refine ⟨_, rfl, ⟨j.toNat + 1, _, bO_get rs p _ _ hj⟩, ef_tup (af_cons (ef_call (af_cons (ef_var rfl (af_cons (ef_cat (ef_var rfl (ef_lst (af_cons (ef_tup (af_cons (ef_int (af_nil ⟨Nat.le_of_ble_eq_true rfl, af_nil ⟨Nat.le_of_ble_eq_true rfl, _, [num [1]], .im _, .im _, ?_, .inl (af_nil ⟨rfl, a, _, _, rfl, .im _, ?_, ?_, hdb _ _ _ (by omega), fun x hx => ?_⟩)⟩⟩)))))))))))))⟩
      · rw [List.length_map]
        show _ + 1 ≤ _
        omega
      · intro z
        have := congrArg List.length z
        rw [List.length_append] at this
        cases this
      · rw [List.length_append, List.length_map]
        show _ + 1 ≤ _
        omega
      rw [tick_bO, tick_tick]
      refine af_cons (ef_call (af_cons (ef_var rfl (af_cons (ef_int (af_nil ⟨rfl, a, 4, rfl, hdb _ _ _ (by omega), by decide, by decide, fun v v0 v1 => af_nil ⟨Nat.le_of_ble_eq_true rfl, ?_⟩⟩))))))
      rw [tick_bO, tick_tick]
      have hx2 : x ∈ (ns ++ [[1]]).map num := by rw [List.map_append]; exact hx
      obtain ⟨n, hn, rfl⟩ := List.mem_map.mp hx2
      refine ⟨j.toNat + 1, _, bO_get rs p _ _ hj, ?_, sf_ret (ef_var rfl ?_)⟩
      · rw [List.length_map]
        have := (hrow _ hj).len
        omega
      · have e : rs[j.toNat].2.map payD ++ [.tup [num n, .int v]] = (rs[j.toNat].2 ++ [(n, v)]).map payD := by
          rw [List.map_append]
          rfl
        rw [e, bO_set rs p _ _ hj]
        refine fin _ _ (by omega) (by rw [List.length_set]) ?_
        rw [bP_set]
        refine hok.set ((hrow _ hj).snoc ⟨hnum1 n [[1]] (fun x hx => ?_) hn, v0, by show v ≤ _; omega⟩)
        obtain rfl := List.mem_singleton.mp hx
        exact ⟨by decide, by show 1 ≤ _; omega, by decide⟩
    refine sf_if (tf_or (tf_test (ef_eqP (ef_var rfl (ef_lst (af_nil ⟨by decide, .list ((fl.map fun (j : Nat) => (j : Int)).map .int), .list [], ?_, .lst .nil, shaped_ints _, rfl, _, rfl, fun ht => ?_, fun ht => ?_⟩))))))
    · rw [natD_ints]
      exact .lst (pdL_ints _)
    · rw [ints_nil] at ht
      have hf : fl ≠ [] := fun z => by rw [z] at ht; cases ht
      refine tf_test (ef_eqS (ef_call (af_cons (ef_var rfl (af_cons (ef_int (af_nil ⟨rfl, a, 8, rfl, hdb0 _ _ (by omega), by decide, by decide, fun v v0 v1 => ef_int ⟨rfl, _, rfl, fun _ => ?_, fun _ => ?_⟩⟩)))))))
      · rw [tick_bO]
        exact (brA 1 (by omega)).mono (fun _ _ z => z.elim) (fun _ _ z => z) (fun _ _ z => z.elim) (fun _ _ z => z.elim)
      · rw [tick_bO]
        exact sf_next ⟨hf, 1, by omega, rfl, rfl⟩
    · refine ⟨fun _ => ?_, fun z => by cases z⟩
      have z := brA 0 (by omega)
      rw [tick_zero] at z
      exact z.mono (fun _ _ z => z.elim) (fun _ _ z => z) (fun _ _ z => z.elim) (fun _ _ z => z.elim)
  · rintro Γ' O' ⟨hf, c, hc, rfl, rfl⟩
    have hflp : 0 < fl.length := List.length_pos_iff.mpr hf
    refine sf_seq (sf_asg (ef_call (af_cons (ef_var rfl (af_cons (ef_var rfl (af_nil ⟨rfl, a, _, _, rfl, .im _, ?_, ?_, hdb _ _ _ (by omega), fun x hx => ?_⟩)))))))
    · intro z
      rw [List.map_eq_nil_iff] at z
      exact hf z
    · rw [List.length_map]
      omega
    obtain ⟨k, hk, rfl⟩ := List.mem_map.mp hx
    obtain ⟨hkl, hke⟩ := hfl k hk
    rw [tick_bO, tick_tick]
    have hkp : 0 < rs[k].2.length := List.length_pos_iff.mpr hke
    have hkr := hrow k hkl
    have hkat : atI (refs rs) (k : Int) = some (.ref rs[k].1) := by
      rw [hat k (by omega) (by omega)]
      exact congrArg some (refs_getD rs k hkl)
    refine gf_name (sf_seq (sf_asg (ef_call (af_cons (ef_var rfl (af_cons (ef_len (ef_ixL (ef_var rfl (ef_var rfl ⟨_, _, _, .own 0 rfl, rfl, hkat, _, .inl (.own (k + 1) (bO_get rs p _ k hkl)), af_nil ⟨rfl, a, _, rfl, hdb _ _ _ (by omega), ?_, ?_, fun at_ b0 b1 => gf_name ?_⟩⟩))))))))))
    · rw [List.length_map]
      omega
    · rw [List.length_map]
      have := hkr.len
      omega
    rw [tick_bO, tick_tick]
    rw [List.length_map] at b1
    have hal : at_.toNat < rs[k].2.length := by omega
    have hnat : at_ = (at_.toNat : Int) := by omega
    generalize hq : rs[k].2[at_.toNat] = q
    have hqm : q ∈ rs[k].2 := hq ▸ List.getElem_mem hal
    have hqok := hkr.pay q hqm
    refine sf_seq (sf_asg (ef_popAt (ef_ixL (ef_var rfl (ef_var rfl ⟨_, _, _, .own 0 rfl, rfl, hkat, _, rfl, ⟨k + 1, _, bO_get rs p _ k hkl⟩, ef_var rfl ⟨k + 1, _, at_.toNat, payD q, bO_get rs p _ k hkl, ?_, ?_, ?_, ?_⟩⟩)))))
    · exact congrArg D.int hnat
    · have := hkr.len
      omega
    · rw [List.getElem?_map, List.getElem?_eq_getElem hal, hq]
      rfl
    have eer : (rs[k].2.map payD).eraseIdx at_.toNat = (rs[k].2.eraseIdx at_.toNat).map payD := by
      exact map_eraseIdx _ _ _
    rw [eer, bO_set rs p _ k hkl]
    generalize hrs2 : rs.set k (rs[k].1, rs[k].2.eraseIdx at_.toNat) = rs2
    have hl2 : rs2.length = rs.length := by rw [← hrs2, List.length_set]
    have hk2 : k < rs2.length := by omega
    have hg2 : rs2[k] = (rs[k].1, rs[k].2.eraseIdx at_.toNat) := by
      subst hrs2
      rw [List.getElem_set_self]
    have href2 : refs rs2 = refs rs := by
      subst hrs2
      unfold refs
      rw [List.map_set]
      have : (D.ref (rs[k].1, rs[k].2.eraseIdx at_.toNat).1) = (rs.map fun r => D.ref r.1)[k]'(by rw [List.length_map]; exact hkl) := by rw [List.getElem_map]
      rw [this, List.set_getElem_self]
    have hb2 : bP rs2 = (bP rs).set k (rs[k].2.eraseIdx at_.toNat) := by
      subst hrs2
      exact bP_set _ _ _ _
    have hok2 : PlOk t (bP rs2) := fun x hx => by
      rw [hb2] at hx
      rcases List.mem_or_eq_of_mem_set hx with m | e
      · exact hok x m
      · rw [e]; exact hkr.erase _
    have hrow2 : ∀ i (h : i < rs2.length), RowOk t rs2[i].2 := fun i h => hok2 _ (List.mem_map.mpr ⟨_, List.getElem_mem h, rfl⟩)
    have hkat2 : ∀ O' : Own, ∃ xs, IsL (bO rs2 p O') (.ref p) xs ∧ atI xs (k : Int) = some (.ref rs2[k].1) := fun O' => ⟨refs rs2, .own 0 rfl, by rw [href2, hkat, hg2]⟩
    refine gf_tup rfl (gfs_cons (gf_name (gfs_cons (gf_name (gfs_nil ?_)))))
    refine sf_seq (sf_asg (ef_call (af_cons (ef_var rfl (af_cons (ef_int (af_nil ⟨rfl, a, 6, rfl, hdb _ _ _ (by omega), by decide, by decide, fun way w0 w1 => gf_name ?_⟩)))))))
    rw [tick_bO, tick_tick]
    have hk3 : atI (refs rs2) (k : Int) = some (.ref rs2[k].1) := by rw [href2, hkat, hg2]
    have hr2 := hrow2 k hk2
    have hnq : NumOk (4 + (t + 1)) q.1 := hqok.num.up (by omega)
    refine sf_cut (fun Γ' O' => Γ'[3]? = some (some (.ref p)) ∧ (Ks.wk { nx := fun _ O' => Kd .non O', rt := Kd }).rt (.ref p) O') ?_ ?_
    · have finR : ∀ c, c ≤ 100 → ∀ j (hj : j < rs2.length) r, RowOk (t + 1) r → (Ks.wk { nx := fun _ O' => Kd .non O', rt := Kd }).rt (.ref p) ((bO rs2 p (tick c O)).set (j + 1) (rs2[j].1, .lst (r.map payD))) := fun c hc j hj r hr => by
        rw [bO_set rs2 p _ j hj]
        refine fin _ _ hc (by rw [List.length_set, hl2]) ?_
        rw [bP_set]
        exact hok2.set hr
      have insK : ∀ c, c ≤ 100 → ∀ q', PayOk (t + 1) q' → (Ks.wk { nx := fun _ O' => Kd .non O', rt := Kd }).rt (.ref p) ((bO rs2 p (tick c O)).set (k + 1) (rs2[k].1, .lst ((rs2[k].2.map payD).take at_.toNat ++ [payD q'] ++ (rs2[k].2.map payD).drop at_.toNat))) := fun c hc q' hq' => by
        rw [ins_map]
        exact finR c hc k hk2 _ (hr2.ins hq' _)
      have hll : (rs2[k].2.map payD).length < 1000000 := by
        rw [List.length_map]
        have := hr2.len
        omega
      have hatl : at_.toNat < 1000000000 := by
        have := hkr.len
        omega
      refine sf_ifB (decide (way = 0) && decide (0 < q.2)) (tf_and (tf_test (ef_eqS (ef_var rfl (ef_int ⟨rfl, _, rfl, fun h => tf_test (ef_I0b (ef_var rfl (ef_int ⟨_, _, rfl, rfl, _, rfl, ?_, rfl⟩))), fun h => ⟨?_, rfl⟩⟩))))) (fun hw => ?_) (fun hw => ?_)
      · have h' : decide (way = 0) = true := h
        rw [h']
        rfl
      · have h' : decide (way = 0) = false := h
        rw [h']
        rfl
      · have hq2 : 0 < q.2 := of_decide_eq_true (Bool.and_eq_true_iff.mp hw).2
        exact sf_drop (ef_insert (ef_ixL (ef_var rfl (ef_var rfl ⟨_, _, _, .own 0 rfl, rfl, hk3, _, rfl, ⟨k + 1, _, bO_get rs2 p _ k hk2⟩, ef_var rfl (ef_tup (af_cons (ef_var rfl (af_cons (ef_I0i (ef_var rfl (ef_int ⟨_, _, rfl, rfl, af_nil ⟨Nat.le_of_ble_eq_true rfl, k + 1, _, at_.toNat, bO_get rs2 p _ k hk2, congrArg D.int hnat, hatl, hll, rfl, insK _ (by omega) (q.1, q.2 - 1) ⟨hnq, by show 0 ≤ q.2 - 1; omega, by show q.2 - 1 ≤ _; have := hqok.hi; omega⟩⟩⟩)))))))⟩))))
      refine sf_ifB (decide (way = 1)) (tf_test (ef_eqS (ef_var rfl (ef_int ⟨rfl, _, rfl, rfl, rfl⟩)))) (fun hw => ?_) (fun hw => ?_)
      · refine sf_drop (ef_insert (ef_ixL (ef_var rfl (ef_var rfl ⟨_, _, _, .own 0 rfl, rfl, hk3, _, rfl, ⟨k + 1, _, bO_get rs2 p _ k hk2⟩, ef_var rfl (ef_tup (af_cons (ef_var rfl (af_cons (ef_I0i (ef_var rfl (ef_call (af_cons (ef_var rfl (af_cons (ef_lst (af_cons (ef_int (af_cons (ef_I (ef_int (ef_int ⟨_, _, rfl, rfl, ⟨by decide, by decide, by decide⟩, af_nil ⟨Nat.le_of_ble_eq_true rfl, af_nil ⟨rfl, a, _, _, rfl, .im _, fun z => (by cases z), Nat.le_of_ble_eq_true rfl, hdb _ _ _ (by omega), fun x hx => ?_⟩⟩⟩)))))))))))))))))⟩))))
        rw [tick_bO, tick_tick]
        have hv : ∃ v : Int, x = .int v ∧ 1 ≤ v ∧ v ≤ 100000000000000000 := by
          rcases List.mem_cons.mp hx with rfl | hx
          · exact ⟨1, rfl, by decide, by decide⟩
          · obtain rfl := List.mem_singleton.mp hx
            exact ⟨_, rfl, by decide, by decide⟩
        obtain ⟨v, rfl, v0, v1⟩ := hv
        refine ⟨_, _, rfl, rfl, af_nil ⟨Nat.le_of_ble_eq_true rfl, k + 1, _, at_.toNat, bO_get rs2 p _ k hk2, congrArg D.int hnat, hatl, hll, rfl, insK _ (by omega) (q.1, q.2 + v) ⟨hnq, ?_, ?_⟩⟩⟩
        · show 0 ≤ q.2 + v
          have := hqok.lo
          omega
        · show q.2 + v ≤ _
          have := hqok.hi
          omega
      refine sf_ifB (decide (way = 2)) (tf_test (ef_eqS (ef_var rfl (ef_int ⟨rfl, _, rfl, rfl, rfl⟩)))) (fun hw => ?_) (fun hw => ?_)
      · refine sf_drop (ef_insert (ef_ixL (ef_var rfl (ef_var rfl ⟨_, _, _, .own 0 rfl, rfl, hk3, _, rfl, ⟨k + 1, _, bO_get rs2 p _ k hk2⟩, ef_var rfl (ef_tup (af_cons (ef_call (af_cons (ef_var rfl (af_cons (ef_cat (ef_var rfl (ef_lst (af_cons (ef_catT (ef_var rfl (ef_tup (af_cons (ef_int (af_nil ⟨Nat.le_of_ble_eq_true rfl, _, _, rfl, rfl, ?_, ?_⟩))))) )))))))))))⟩))))
        · rw [List.length_map]
          have := hqok.num.len
          show _ + 1 ≤ _
          omega
        · refine af_cons (ef_tup (af_cons (ef_int (af_nil ⟨Nat.le_of_ble_eq_true rfl, af_nil ⟨Nat.le_of_ble_eq_true rfl, _, _, .im _, .im _, ?_, .inl (af_nil ⟨rfl, a, _, _, rfl, .im _, ?_, ?_, hdb _ _ _ (by omega), fun x hx => ?_⟩)⟩⟩))))
          · rw [List.length_map]
            show _ + 2 ≤ _
            omega
          · intro z
            have := congrArg List.length z
            rw [List.length_append] at this
            cases this
          · rw [List.length_append, List.length_map]
            show _ + 2 ≤ _
            omega
          rw [tick_bO, tick_tick]
          have hx2 : x ∈ (ns ++ [q.1 ++ [1], [99]]).map num := by
            rw [List.map_append]
            have e : D.tup (q.1.map .int ++ [.int 1]) = num (q.1 ++ [1]) := by
              show _ = D.tup ((q.1 ++ [1]).map .int)
              rw [List.map_append]
              rfl
            rw [e] at hx
            exact hx
          obtain ⟨n, hn, rfl⟩ := List.mem_map.mp hx2
          refine af_cons (ef_var rfl (af_nil ⟨Nat.le_of_ble_eq_true rfl, k + 1, _, at_.toNat, bO_get rs2 p _ k hk2, congrArg D.int hnat, hatl, hll, rfl, insK _ (by omega) (n, q.2) ⟨hnum1 n _ (fun y hy => ?_) hn, hqok.lo, hqok.up.hi⟩⟩))
          rcases List.mem_cons.mp hy with rfl | hy
          · refine ⟨fun z => ?_, ?_, fun i hi => ?_⟩
            · have := congrArg List.length z
              rw [List.length_append] at this
              cases this
            · rw [List.length_append]
              have := hqok.num.len
              show _ + 1 ≤ _
              omega
            · rcases List.mem_append.mp hi with m | m
              · exact hqok.num.small i m
              · obtain rfl := List.mem_singleton.mp m
                decide
          · obtain rfl := List.mem_singleton.mp hy
            exact ⟨by decide, by show 1 ≤ _; omega, by decide⟩
      refine sf_ifB (decide (way < 5)) (tf_test (ef_I0b (ef_var rfl (ef_int ⟨_, _, rfl, rfl, _, rfl, rfl, rfl⟩)))) (fun hw => ?_) (fun hw => ?_)
      · refine sf_drop (ef_append (ef_ixL (ef_var rfl (ef_call (af_cons (ef_var rfl (af_cons (ef_len (ef_var rfl ⟨_, .inl (.own 0 rfl), af_nil ⟨rfl, a, _, rfl, hdb _ _ _ (by omega), ?_, ?_, fun j a0 a1 => ?_⟩⟩)))))))))
        · rw [href2, hrefl]
          omega
        · rw [href2, hrefl]
          omega
        rw [tick_bO, tick_tick]
        rw [href2, hrefl] at a1
        have hj : j.toNat < rs2.length := by omega
        refine ⟨_, _, .ref rs2[j.toNat].1, .own 0 rfl, rfl, ?_, ?_⟩
        · rw [href2, hat j a0 a1, ← href2, refs_getD rs2 _ hj]
        refine ⟨_, rfl, ⟨j.toNat + 1, _, bO_get rs2 p _ _ hj⟩, ef_tup (af_cons (ef_var rfl (af_cons (ef_var rfl (af_nil ⟨Nat.le_of_ble_eq_true rfl, j.toNat + 1, _, bO_get rs2 p _ _ hj, ?_, rfl, ?_⟩)))))⟩
        · rw [List.length_map]
          have := (hrow2 _ hj).len
          omega
        · have e : rs2[j.toNat].2.map payD ++ [.tup [num q.1, .int q.2]] = (rs2[j.toNat].2 ++ [q]).map payD := by
            rw [List.map_append]
            rfl
          rw [e]
          exact finR _ (by omega) _ hj _ ((hrow2 _ hj).snoc hqok.up)
      · refine sf_setL (ef_cat (ef_cat (ef_lst (af_cons (ef_tup (af_cons (ef_var rfl (af_cons (ef_I0i (ef_var rfl (ef_I (ef_var rfl (ef_int ⟨_, _, rfl, rfl, ⟨by decide, by decide⟩, _, _, rfl, rfl, af_nil ⟨Nat.le_of_ble_eq_true rfl, af_nil ⟨Nat.le_of_ble_eq_true rfl, ef_ixL (ef_var rfl (ef_var rfl ⟨_, _, _, .own 0 rfl, rfl, hk3, [payD (q.1, q.2 - q.2 / 2)], _, .im _, .own (k + 1) (bO_get rs2 p _ k hk2), ?_, .inl ?_⟩))⟩⟩⟩)))))))))))))
        · rw [List.length_map]
          have := hr2.len
          show 1 + _ ≤ _
          omega
        refine ef_lst (af_cons (ef_tup (af_cons (ef_var rfl (af_cons (ef_I (ef_var rfl (ef_int ⟨_, _, rfl, rfl, ⟨by decide, by decide⟩, af_nil ⟨Nat.le_of_ble_eq_true rfl, af_nil ⟨Nat.le_of_ble_eq_true rfl, _, [payD (q.1, q.2 / 2)], .im _, .im _, ?_, .inl ?_⟩⟩⟩))))))))
        · rw [List.length_append, List.length_map]
          have := hr2.len
          show 1 + _ + 1 ≤ _
          omega
        have enr : [payD (q.1, q.2 - q.2 / 2)] ++ rs2[k].2.map payD ++ [payD (q.1, q.2 / 2)] = ([(q.1, q.2 - q.2 / 2)] ++ rs2[k].2 ++ [(q.1, q.2 / 2)]).map payD := by
          rw [List.map_append, List.map_append]
          rfl
        rw [enr]
        generalize hnr : [(q.1, q.2 - q.2 / 2)] ++ rs2[k].2 ++ [(q.1, q.2 / 2)] = nr
        have hq0 := hqok.lo
        have hqh := hqok.hi
        have hnrok : RowOk (t + 1) nr := by
          subst hnr
          refine ⟨?_, fun x hx => ?_⟩
          · rw [List.length_append, List.length_append]
            have h1 : rs2[k].2.length + 1 = rs[k].2.length := by
              rw [hg2]
              have := List.length_eraseIdx_of_lt hal
              show (rs[k].2.eraseIdx at_.toNat).length + 1 = _
              omega
            have h2 := hkr.len
            show 1 + _ + 1 ≤ _
            omega
          · rcases List.mem_append.mp hx with m | m
            · rcases List.mem_append.mp m with m | m
              · obtain rfl := List.mem_singleton.mp m
                exact ⟨hnq, by show 0 ≤ q.2 - q.2 / 2; omega, by show q.2 - q.2 / 2 ≤ _; omega⟩
              · exact (hr2.pay x m).up
            · obtain rfl := List.mem_singleton.mp m
              exact ⟨hnq, by show 0 ≤ q.2 / 2; omega, by show q.2 / 2 ≤ _; omega⟩
        have hrl2 : (refs rs2).length = rs2.length := by rw [href2, hrefl, hl2]
        refine ef_var rfl (ef_var rfl ⟨p, 0, refs rs2, k, k, rfl, rfl, rfl, ?_, rfl, ?_⟩)
        · unfold ixN
          rw [if_pos (by omega), if_pos (by omega)]
          rfl
        · refine ⟨(p, .lst ((refs rs2).set k (.lst (nr.map payD)))) :: (rowsO rs2 ++ tick 100 O), Wk.app (X := (p, .lst ((refs rs2).set k (.lst (nr.map payD)))) :: rowsO rs2) (wk_ticks (by omega) O) (by rw [tick_dom, tick_dom]), ?_⟩
          refine hK _ ((p, .lst ((refs rs2).set k (.lst (nr.map payD)))) :: rowsO rs2) ((bP rs2).set k nr) ⟨_, .own 0 rfl, ?_, fun i hi => ?_⟩ ?_ (hok2.set hnrok)
          · rw [List.length_set, List.length_set, hrl2]
            exact (List.length_map _).symm
          · rw [List.length_set] at hi
            have hi2 : i < rs2.length := by unfold bP at hi; rw [List.length_map] at hi; exact hi
            rw [getD_at (by rw [List.length_set]; omega), List.getElem_set, List.getElem_set]
            by_cases e : k = i
            · rw [if_pos e, if_pos e]
              exact .im _
            · rw [if_neg e, if_neg e]
              have e1 : (refs rs2)[i]'(by omega) = .ref rs2[i].1 := List.getElem_map _
              have e2 : (bP rs2)[i] = rs2[i].2 := List.getElem_map _
              rw [e1, e2]
              exact .own (i + 1) (rows_at rs2 _ i hi2)
          · rw [List.length_set]
            unfold bP
            rw [List.length_map, List.length_map]
            exact hl2
    · rintro Γ' O' ⟨e1, e2⟩
      exact sf_ret (ef_var e1 e2)
end
end OW

/-! data as shown; equality of data -/
namespace OW
open PySem PySem.Spec PyProof.Rows L2
local macro_rules | `(tactic| walk_at "ow") => `(tactic| first
  | with_reducible refine sf_seq ?_
  | with_reducible refine sf_asg ?_
  | with_reducible refine sf_drop ?_
  | with_reducible refine sf_ret ?_
  | with_reducible refine sf_next ?_
  | (with_reducible apply ef_var; rfl)
  | with_reducible refine ef_int ?_
  | with_reducible refine ef_bl ?_
  | with_reducible refine ef_non ?_
  | with_reducible refine gf_name ?_
  | with_reducible refine gfs_nil ?_
  | with_reducible refine gfs_cons ?_
  | (with_reducible refine gf_tup ?_ ?_; rfl)
  | with_reducible refine tf_test ?_
  | with_reducible refine tf_yes ?_
  | with_reducible refine tf_B ?_
  | with_reducible refine af_cons ?_
  | with_reducible refine af_nil ?_
  | with_reducible refine ef_call ?_
  | with_reducible refine ef_I0i ?_
  | with_reducible refine ef_I0b ?_
  | with_reducible refine ef_I ?_
  | with_reducible refine ef_neg ?_
  | with_reducible refine ef_ixL ?_
  | with_reducible refine ef_ixT ?_
  | with_reducible refine ef_len ?_
  | with_reducible refine ef_tup ?_)
/-! ### what is shown is short -/
structure Sh (x : PyData) (n k : Nat) : Prop where
  s : x.showable = true
  d : x.hasDict = false
  k : x.depth ≤ k
  l : x.shown.length ≤ n
  c : x.canLay0 = true
structure Shs (xs : List PyData) (n k : Nat) : Prop where
  s : PyData.showableAll xs = true
  d : PyData.hasDictAll xs = false
  k : PyData.depthAll xs ≤ k
  l : ∀ t ∈ PyData.shownAll xs, t.length ≤ n
  c : PyData.canLayAll0 xs = true
  e : (PyData.shownAll xs).length = xs.length
theorem sh_int {i : Int} (h : i.natAbs < 2 ^ 64) : Sh (.int i) 70 0 := by
  have hl : i.natAbs.log2 < 64 := by
    by_cases h0 : i.natAbs = 0
    · rw [h0]
      decide
    · exact (Nat.log2_lt h0).mpr h
  refine ⟨?_, rfl, Nat.le_refl _, ?_, rfl⟩
  · show decide (i.natAbs.log2 < 1920) = true
    exact decide_eq_true (by omega)
  · show (PySem.Str.ofString (toString i)).length ≤ 70
    rw [PySem.ofString_length]
    have : (toString i).length ≤ 64 + 1 := PySem.int_text_length_le (k := 64) (by decide) hl
    omega
theorem shs_of {xs : List PyData} {n k : Nat} (h : ∀ x ∈ xs, Sh x n k) : Shs xs n k := by
  induction xs with
  | nil => exact ⟨rfl, rfl, Nat.zero_le _, fun t ht => (by cases ht), rfl, rfl⟩
  | cons x xs ih =>
    have h1 := h x List.mem_cons_self
    have h2 := ih fun y hy => h y (List.mem_cons_of_mem _ hy)
    refine ⟨?_, ?_, ?_, ?_, ?_, ?_⟩
    · show (x.showable && PyData.showableAll xs) = true
      rw [h1.s, h2.s]
      rfl
    · show (x.hasDict || PyData.hasDictAll xs) = false
      rw [h1.d, h2.d]
      rfl
    · show max x.depth (PyData.depthAll xs) ≤ k
      have := h1.k
      have := h2.k
      omega
    · intro t ht
      rcases List.mem_cons.mp ht with rfl | m
      · exact h1.l
      · exact h2.l t m
    · show (x.canLay0 && PyData.canLayAll0 xs) = true
      rw [h1.c, h2.c]
      rfl
    · show (PyData.shownAll xs).length + 1 = xs.length + 1
      rw [h2.e]
theorem piled_le {ts : List PySem.Str} {n : Nat} (h : ∀ t ∈ ts, t.length ≤ n) : piled ts ≤ ts.length * (n + 2) := by
  induction ts with
  | nil => exact Nat.zero_le _
  | cons t ts ih =>
    rw [piled_cons, List.length_cons, Nat.succ_mul]
    have := h t List.mem_cons_self
    have := ih fun u hu => h u (List.mem_cons_of_mem _ hu)
    omega
theorem textFrom_le : ∀ (ts : List PySem.Str) (k : Nat) (acc : PySem.Str), (textFrom k acc ts).length ≤ acc.length + piled ts
  | [], k, acc => Nat.le_refl _
  | t :: r, k, acc => by
    have h := textFrom_le r (k + 1) (acc ++ (if k > 0 then ", " else "" : String) ++ t)
    have e : (acc ++ (if k > 0 then ", " else "" : String) ++ t).length = acc.length + (if k > 0 then 2 else 0) + t.length := by
      rw [strLen_append, strLen_append]
      split <;> rfl
    rw [e] at h
    rw [piled_cons]
    show (textFrom (k + 1) _ r).length ≤ _
    have : (if k > 0 then 2 else 0) ≤ 2 := by split <;> omega
    omega
theorem sh_list {xs : List PyData} {n k m : Nat} (h : ∀ x ∈ xs, Sh x n k) (hm : xs.length ≤ m) : Sh (.list xs) (m * (n + 2) + 4) (k + 1) := by
  have h := shs_of h
  refine ⟨h.s, h.d, Nat.succ_le_succ h.k, ?_, h.c⟩
  show (textFrom 0 "[" (PyData.shownAll xs) ++ ("]" : PySem.Str)).length ≤ _
  rw [strLen_append]
  have h1 := textFrom_le (PyData.shownAll xs) 0 "["
  have h2 := piled_le h.l
  rw [h.e] at h2
  have h3 : xs.length * (n + 2) ≤ m * (n + 2) := Nat.mul_le_mul_right _ hm
  have e1 : (("[" : String) : PySem.Str).length = 1 := rfl
  have e2 : (("]" : String) : PySem.Str).length = 1 := rfl
  rw [e1] at h1
  rw [e2]
  omega
theorem sh_tuple {xs : List PyData} {n k m : Nat} (h : ∀ x ∈ xs, Sh x n k) (hm : xs.length ≤ m) : Sh (.tuple xs) (m * (n + 2) + 4) (k + 1) := by
  have h := shs_of h
  refine ⟨h.s, h.d, Nat.succ_le_succ h.k, ?_, h.c⟩
  show (("(" : PySem.Str) ++ PySem.Str.join ", " (PyData.shownAll xs) ++ (if (PyData.shownAll xs).length == 1 then ",)" else ")" : String)).length ≤ _
  rw [strLen_append, strLen_append]
  have h2 := piled_le h.l
  rw [h.e] at h2
  have h3 : xs.length * (n + 2) ≤ m * (n + 2) := Nat.mul_le_mul_right _ hm
  have e1 : (("(" : String) : PySem.Str).length = 1 := rfl
  have e3 : (((if (PyData.shownAll xs).length == 1 then ",)" else ")" : String) : PySem.Str)).length ≤ 2 := by split <;> decide
  rw [e1]
  by_cases hn : PyData.shownAll xs = []
  · rw [hn] at e3 ⊢
    have : (PySem.Str.join ", " []).length = 0 := rfl
    omega
  · have := join_length_add _ hn
    omega
theorem Sh.up {x : PyData} {n k n' k' : Nat} (h : Sh x n k) (hn : n ≤ n') (hk : k ≤ k') : Sh x n' k' := ⟨h.s, h.d, Nat.le_trans h.k hk, Nat.le_trans h.l hn, h.c⟩
theorem Sh.shaped {x : PyData} {n k : Nat} (h : Sh x n k) (hk : k ≤ 60) : SeqAt.shaped x = true := by
  unfold SeqAt.shaped
  rw [Bool.and_eq_true]
  exact ⟨h.c, decide_eq_true (by have := h.k; omega)⟩
theorem sh_num {t : Nat} {n : Num} (h : NumOk t n) (ht : t ≤ 20) : Sh (pyNum n) 1444 1 := by
  refine (sh_tuple (m := 20) (n := 70) (k := 0) (fun x hx => ?_) ?_).up (by decide) (by decide)
  · obtain ⟨i, hi, rfl⟩ := List.mem_map.mp hx
    have := h.small i hi
    exact sh_int (by omega)
  · rw [List.length_map]
    have := h.len
    omega
theorem sh_pay {t : Nat} {q : Pay} (h : PayOk t q) (ht : t ≤ 10) : Sh (pyPay q) 2896 2 := by
  refine (sh_tuple (m := 2) (n := 1444) (k := 1) (fun x hx => ?_) (Nat.le_refl _)).up (by decide) (by decide)
  rcases List.mem_cons.mp hx with rfl | hx
  · exact sh_num h.num (by omega)
  · obtain rfl := List.mem_singleton.mp hx
    refine (sh_int ?_).up (by decide) (by decide)
    have := h.lo
    have := h.hi
    omega
def pyPlan (pl : List (List Pay)) : PyData := .list (pl.map fun r => .list (r.map pyPay))
theorem sh_plan {t : Nat} {pl : List (List Pay)} (h : PlOk t pl) (ht : t ≤ 10) (hl : pl.length ≤ 64) : Sh (pyPlan pl) 16000000 4 := by
  refine (sh_list (m := 64) (n := 86944) (k := 3) (fun x hx => ?_) ?_).up (by decide) (by decide)
  · obtain ⟨r, hr, rfl⟩ := List.mem_map.mp hx
    refine (sh_list (m := 30) (n := 2896) (k := 2) (fun x hx => ?_) ?_).up (by decide) (by decide)
    · obtain ⟨q, hq, rfl⟩ := List.mem_map.mp hx
      exact sh_pay ((h r hr).pay q hq) ht
    · rw [List.length_map]
      have := (h r hr).len
      omega
  · rw [List.length_map]
    exact hl
def pyDeed (d : Deed) : PyData := .tuple [.int d.1, .int d.2.1, .list (d.2.2.map pyNum)]
def pyKn (k : Kn) : PyData := .tuple [pyNum k.1, .int k.2.1, .list (k.2.2.map pyNum)]
def pyBook (b : Bk) : PyData := .tuple [.list (b.deeds.map pyDeed), .list (b.known.map pyKn)]
theorem pd_book (O : Own) (b : Bk) : Pd O (bookD b) (pyBook b) := by
  refine .tup (.cons (.lst ?_) (.cons (.lst ?_) .nil))
  · induction b.deeds with
    | nil => exact .nil
    | cons d l ih => exact .cons (.tup (.cons (.int _) (.cons (.int _) (.cons (.lst (pdL_nums _)) .nil)))) ih
  · induction b.known with
    | nil => exact .nil
    | cons d l ih => exact .cons (.tup (.cons (pd_num _) (.cons (.int _) (.cons (.lst (pdL_nums _)) .nil)))) ih
theorem sh_asked {l : List Num} (h : ∀ n ∈ l, NumOk 4 n) (hl : l.length ≤ 4) : Sh (.list (l.map pyNum)) 5788 2 := by
  refine (sh_list (m := 4) (n := 1444) (k := 1) (fun x hx => ?_) ?_).up (by decide) (by decide)
  · obtain ⟨n, hn, rfl⟩ := List.mem_map.mp hx
    exact sh_num (h n hn) (by decide)
  · rw [List.length_map]
    exact hl
theorem known_ok {b : Bk} (S : SmB b) {n : Num} (h : n ∈ b.known.map (·.1)) : NumOk 4 n := by
  obtain ⟨k, hk, rfl⟩ := List.mem_map.mp h
  exact S.num k hk
theorem sh_book {b : Bk} (W : WfB b) (S : SmB b) : Sh (pyBook b) 1000000 5 := by
  have hD : ∀ x ∈ b.deeds.map pyDeed, Sh x 17374 3 := fun x hx => by
    obtain ⟨d, hd, rfl⟩ := List.mem_map.mp hx
    refine (sh_tuple (m := 3) (n := 5788) (k := 2) (fun x hx => ?_) (Nat.le_refl _)).up (by decide) (by decide)
    rcases List.mem_cons.mp hx with rfl | hx
    · obtain ⟨i, hi, rfl⟩ := List.getElem_of_mem hd
      have := W.ver i hi
      have := S.dl
      exact (sh_int (by omega)).up (by decide) (by decide)
    · rcases List.mem_cons.mp hx with rfl | hx
      · have := S.dOwn d hd
        exact (sh_int (by omega)).up (by decide) (by decide)
      · obtain rfl := List.mem_singleton.mp hx
        exact sh_asked (fun n hn => known_ok S (W.askD d hd n hn)) (S.dAsk d hd)
  have hK : ∀ x ∈ b.known.map pyKn, Sh x 17374 3 := fun x hx => by
    obtain ⟨k, hk, rfl⟩ := List.mem_map.mp hx
    refine (sh_tuple (m := 3) (n := 5788) (k := 2) (fun x hx => ?_) (Nat.le_refl _)).up (by decide) (by decide)
    rcases List.mem_cons.mp hx with rfl | hx
    · exact (sh_num (S.num k hk) (by decide)).up (by decide) (by decide)
    · rcases List.mem_cons.mp hx with rfl | hx
      · have := S.kOwn k hk
        exact (sh_int (by omega)).up (by decide) (by decide)
      · obtain rfl := List.mem_singleton.mp hx
        exact sh_asked (fun n hn => known_ok S (W.askK k hk n hn)) (S.kAsk k hk)
  have hb1 := S.dl
  have hb2 := S.kl
  refine (sh_tuple (m := 2) (n := 173764) (k := 4) (fun x hx => ?_) (Nat.le_refl _)).up (by decide) (Nat.le_refl _)
  rcases List.mem_cons.mp hx with rfl | hx
  · exact (sh_list (m := 10) (n := 17374) (k := 3) hD (by rw [List.length_map]; omega)).up (by decide) (by decide)
  · obtain rfl := List.mem_singleton.mp hx
    exact (sh_list (m := 10) (n := 17374) (k := 3) hK (by rw [List.length_map]; omega)).up (by decide) (by decide)
/-! ### a late plan is small -/
theorem look_nonneg {m : NI} (h : ∀ p ∈ m, 0 ≤ p.2) (n : Num) : 0 ≤ lookI m n := by
  unfold lookI
  cases e : m.find? fun p => decide (p.1 = n) with
  | none => exact Int.le_refl _
  | some p => exact h p (List.mem_of_find?_eq_some e)
theorem addI_nonneg {m : NI} (h : ∀ p ∈ m, 0 ≤ p.2) {q : Pay} (hq : 0 ≤ q.2) : ∀ p ∈ addI m q, 0 ≤ p.2 := fun p hp => by
  have hl := look_nonneg h q.1
  unfold addI at hp
  split at hp
  · obtain ⟨x, hx, rfl⟩ := List.mem_map.mp hp
    have := h x hx
    split
    · show 0 ≤ lookI m q.1 + q.2
      omega
    · exact this
  · rcases List.mem_append.mp hp with m1 | m1
    · exact h p m1
    · obtain rfl := List.mem_singleton.mp m1
      show 0 ≤ lookI m q.1 + q.2
      omega
theorem addRow_nonneg : ∀ (r : List Pay) (m : NI), (∀ p ∈ m, 0 ≤ p.2) → (∀ q ∈ r, 0 ≤ q.2) → ∀ p ∈ addRow m r, 0 ≤ p.2
  | [], m, h, _ => h
  | q :: r, m, h, hr => addRow_nonneg r (addI m q) (addI_nonneg h (hr q List.mem_cons_self)) fun x hx => hr x (List.mem_cons_of_mem _ hx)
theorem paid_nonneg {pl : List (List Pay)} (h : ∀ r ∈ pl, ∀ q ∈ r, 0 ≤ q.2) (way : List Nat) : ∀ p ∈ paidI pl way, 0 ≤ p.2 := by
  have main : ∀ (way : List Nat) (m : NI), (∀ p ∈ m, 0 ≤ p.2) → ∀ p ∈ way.foldl (fun m k => addRow m (pl.getD (k - 1) [])) m, 0 ≤ p.2 := by
    intro way
    induction way with
    | nil => intro m h; exact h
    | cons k way ih =>
      intro m hm
      refine ih _ (addRow_nonneg _ _ hm fun q hq => ?_)
      rw [List.getD_eq_getElem?_getD] at hq
      cases e : pl[k - 1]? with
      | none => rw [e] at hq; cases hq
      | some r => rw [e] at hq; exact h r (List.mem_of_getElem? e) q hq
  exact main way [] fun p hp => by cases hp
theorem own_le {b : Bk} (S : SmB b) (n : Num) : ownOf b n ≤ 1000000000000000 := by
  unfold ownOf
  cases e : b.known.find? fun k => decide (k.1 = n) with
  | none => decide
  | some k => exact (S.kOwn k (List.mem_of_find?_eq_some e)).2
theorem late_plok {b : Bk} (W : WfB b) (S : SmB b) : ∀ i, i ≤ b.deeds.length → PlOk 0 (lateF b i)
  | 0, _ => fun r hr => by cases hr
  | i + 1, h => fun r hr => by
    have ih := late_plok W S i (by omega)
    rcases List.mem_append.mp hr with m | m
    · exact ih r m
    · obtain rfl := List.mem_singleton.mp m
      have ha := asks_len W (k := i + 1) (by omega) h
      have hal : (asksOf b (i + 1)).length ≤ b.known.length := by
        have := nodup_sub_len ha.2 (asks_known W (k := i + 1) (by omega) h)
        rw [List.length_map] at this
        exact this
      have := S.kl
      refine ⟨?_, fun q hq => ?_⟩
      · unfold rowOf lackOf
        rw [List.length_map]
        have h2 := List.length_filter_le (fun r : Lk => decide (r.2.1 < r.2.2)) (lackAll b (lateF b i) (i + 1) (pastOf b (i + 1)).dropLast)
        unfold lackAll at h2
        rw [List.length_map] at h2
        unfold lackAll
        omega
      · obtain ⟨r, hr2, rfl⟩ := List.mem_map.mp hq
        obtain ⟨m1, m2⟩ := List.mem_filter.mp hr2
        obtain ⟨n, hn, rfl⟩ := List.mem_map.mp m1
        have hlt : lookI (paidI (lateF b i) (pastOf b (i + 1)).dropLast) n < ownOf b n := of_decide_eq_true m2
        have h0 := look_nonneg (paid_nonneg (fun r hr q hq => ((ih r hr).pay q hq).lo) (pastOf b (i + 1)).dropLast) n
        have h1 := own_le S n
        refine ⟨known_ok S (asks_known W (by omega) h n hn), ?_, ?_⟩
        · show 0 ≤ ownOf b n - lookI _ n
          omega
        · show ownOf b n - lookI _ n ≤ _
          omega
end OW

/-! the law -/
namespace OW
open PySem PySem.Spec PyProof.Rows L2
local macro_rules | `(tactic| walk_at "ow") => `(tactic| first
  | with_reducible refine sf_seq ?_
  | with_reducible refine sf_asg ?_
  | with_reducible refine sf_drop ?_
  | with_reducible refine sf_ret ?_
  | with_reducible refine sf_next ?_
  | (with_reducible apply ef_var; rfl)
  | with_reducible refine ef_int ?_
  | with_reducible refine ef_bl ?_
  | with_reducible refine ef_non ?_
  | with_reducible refine gf_name ?_
  | with_reducible refine gfs_nil ?_
  | with_reducible refine gfs_cons ?_
  | (with_reducible refine gf_tup ?_ ?_; rfl)
  | with_reducible refine tf_test ?_
  | with_reducible refine tf_yes ?_
  | with_reducible refine tf_B ?_
  | with_reducible refine af_cons ?_
  | with_reducible refine af_nil ?_
  | with_reducible refine ef_call ?_
  | with_reducible refine ef_I0i ?_
  | with_reducible refine ef_I0b ?_
  | with_reducible refine ef_I ?_
  | with_reducible refine ef_neg ?_
  | with_reducible refine ef_ixL ?_
  | with_reducible refine ef_ixT ?_
  | with_reducible refine ef_len ?_
  | with_reducible refine ef_tup ?_)
theorem sf_forZ {Γ : Ctx} {O : Own} {Kf : PySem.W.Frag} {tl tm : TE} {g : TG} {tb : TS} {K : Ks} (h : Ef tl Γ O fun d O1 => Ef tm Γ O1 fun e O2 => ∃ xs ys, ∃ I : Nat → Ctx → Own → Prop, IsL O2 d xs ∧ IsL O2 e ys ∧ I 0 Γ O2 ∧ (∀ i Γ' O', i ≤ min xs.length ys.length → I i Γ' O' → IsL O' d xs ∧ IsL O' e ys) ∧
    (∀ (i : Nat) Γ' O', i < min xs.length ys.length → I i Γ' O' → Gf g Γ' (.tup [xs.getD i .non, ys.getD i .non]) fun Γ2 => Sf tb Γ2 O' { K with nx := I (i + 1), ct := I (i + 1), bk := K.nx }) ∧ ∀ Γ' O', I (min xs.length ys.length) Γ' O' → K.nx Γ' O') : Sf (tFor (iZip Kf (tCons tl (tCons tm tNil))) g tb) Γ O K := fun F H σ E S e =>
  h F H σ _ S fun d O1 h1 v F1 H1 s1 S1 r1 => h1 F1 H1 σ _ S1 fun d2 O2 ⟨xs, ys, I, hl, hl2, h0, hk, hs, hd⟩ v2 F2 H2 s2 S2 r2 => by
    have r1' : Rel F2 d v := r1.mono s2.f
    obtain ⟨a, vs, rfl, hq, rl⟩ := hl.sq (Kf := Kf) S2 r1'
    obtain ⟨b, ws, rfl, hq2, rl2⟩ := hl2.sq (Kf := Kf) S2 r2
    exact ⟨a, b, vs, ws, rfl, hq, hq2, for_core yields_zip (s1.trans s2) S2 ⟨r1', r2⟩ e I h0 hk hs hd⟩
theorem cut_from (xs : List D) (i : Nat) : cutD xs (some (i : Int)) none = xs.drop i := by
  unfold cutD
  have h1 : HT.sIx xs.length xs.length none = xs.length := rfl
  rw [h1, HT.sIx_nat]
  by_cases h : i ≤ xs.length
  · rw [Nat.min_eq_left h, List.take_of_length_le (by rw [List.length_drop]; exact Nat.le_refl _)]
  · rw [Nat.min_eq_right (by omega), List.drop_of_length_le (Nat.le_refl _), List.drop_of_length_le (by omega)]
    exact List.take_nil
theorem pdL_refs : ∀ (rs : List (Addr × List Pay)) (X R : Own), PdL (X ++ (rowsO rs ++ R)) (refs rs) (rs.map fun r => .list (r.2.map pyPay))
  | [], _, _ => .nil
  | r :: rs, X, R => by
    refine .cons (.own X.length ?_ (pdL_pays r.2)) ?_
    · exact get_mid X (rowsO rs ++ R) (r.1, .lst (r.2.map payD))
    · have := pdL_refs rs (X ++ [(r.1, .lst (r.2.map payD))]) R
      rw [List.append_assoc] at this
      exact this
theorem pd_plan {O : Own} {d : D} {pl : List (List Pay)} (h : PlanAt O d pl) : Pd O d (pyPlan pl) := by
  obtain ⟨rows, h1, h2, h3⟩ := h
  have hL : ∀ (rows : List D) (pl : List (List Pay)), rows.length = pl.length → (∀ i (h : i < pl.length), IsL O (rows.getD i .non) (pl[i].map payD)) → PdL O rows (pl.map fun r => .list (r.map pyPay)) := by
    intro rows
    induction rows with
    | nil =>
      intro pl h _
      cases pl with
      | nil => exact .nil
      | cons r pl => cases h
    | cons x rows ih =>
      intro pl h h3
      cases pl with
      | nil => cases h
      | cons r pl =>
        refine .cons (pd_row (h3 0 (Nat.succ_pos _))) (ih pl (Nat.succ.inj h) fun i hi => h3 (i + 1) (Nat.succ_lt_succ hi))
  have := hL rows pl h2 h3
  cases h1 with
  | im => exact .lst this
  | own j e => exact .own j e this
theorem eqv_refl0 {x : PyData} {n k : Nat} (h : Sh x n k) : PyData.eqv x x = true := SeqAt.eqv_refl x h.c
section
variable {Kf : PySem.W.Frag} {P : Program} {w : World} {Γ : Ctx} {O : Own}
/-- [list(row) for row in a plan] -/
theorem ef_copyRows {K : KD} {te : TE} {i : Nat} (hi : ∀ v, ((wipeC Γ [i]).set i (some v))[i]? = some (some v)) (h : Ef te Γ O fun d O1 => ∃ pl, PlanAt O1 d pl ∧ pl.length ≤ 64 ∧ ∀ p rs, bP rs = pl → K (.ref p) (bO rs p O1)) :
    Ef (tLc (iList Kf te) (gName i) tYes (tCB (fun xs H Q => ∃ p ys, xs = [.ref p] ∧ (SqL Kf H p ys ∨ SqT Kf H p ys) ∧ ∀ l, H l = none → Q (.ref l) (upd H l (.lst ys))) (tCons (tVar i) tNil)) [i]) Γ O K := by
  refine ef_lcL (gok_name List.mem_cons_self) (h.mono fun d O1 ⟨pl, ⟨rows, h1, h2, h3⟩, hlen, hK⟩ => ⟨rows, h1, fun i acc O' => ∃ rs, rs.length = i ∧ acc = refs rs ∧ O' = rowsO rs ++ O1 ∧ bP rs = pl.take i, ⟨[], rfl, rfl, rfl, rfl⟩, ?_, ?_, ?_⟩)
  · rintro i acc O' hi ⟨rs, rfl, rfl, rfl, e⟩
    refine ⟨h1.app _, ?_⟩
    unfold refs
    rw [List.length_map]
    omega
  · rintro j acc O' Dl hj ⟨rs, rfl, rfl, rfl, e⟩
    have hi2 : rs.length < pl.length := by omega
    refine gf_name (tf_yes ?_)
    rw [if_pos rfl]
    refine ef_wk (ef_list (ef_var (hi _) ⟨_, .inl (((h3 _ hi2).app _).cons _), fun q => ?_⟩))
    refine ⟨(Dl, .lst (refs rs)) :: (rowsO (rs ++ [(q, pl[rs.length])]) ++ O1), wk_perm ?_, _, rfl, rs ++ [(q, pl[rs.length])], ?_, ?_, rfl, ?_⟩
    · refine (List.Perm.swap _ _ _).trans (List.Perm.cons _ ?_)
      have e : rowsO (rs ++ [(q, pl[rs.length])]) = rowsO rs ++ [(q, .lst (pl[rs.length].map payD))] := by
        unfold rowsO
        rw [List.map_append]
        rfl
      rw [e, List.append_assoc]
      exact (List.perm_middle).symm
    · rw [List.length_append]
      rfl
    · unfold refs
      rw [List.map_append]
      rfl
    · rw [List.take_succ_eq_append_getElem hi2, ← e]
      unfold bP
      rw [List.map_append]
      rfl
  · rintro acc O' ⟨rs, hrl, rfl, rfl, e⟩
    rw [show rows.length = pl.length from h2, List.take_length] at e
    exact .inr fun p => hK p rs e
theorem sf_pre {ts : TS} {K : Ks} {O1 : Own} (hw : Wk O O1) (h : Sf ts Γ O1 K) : Sf ts Γ O K := fun F H σ E S e => by
  have st : ∀ {A : List Addr} {F' H' : Hp}, Step (dom O1) A F H F' H' → Step (dom O) A F H F' H' := fun s =>
    ⟨s.f, fun b o hb e => s.h b o (fun z => hb (hw.1 b z)) e, s.there, fun b o e => (s.new b o e).imp_right fun z => z.imp_right fun z => hw.1 b z, fun x hx => (s.own x hx).imp_left fun z => hw.1 x z⟩
  exact h F H σ E (hw.2 _ _ _ _ S) ⟨fun Γ' O' k σ' F' H' s => e.nx Γ' O' k σ' F' H' (st s), fun d O' k v σ' Γ' F' H' s => e.rt d O' k v σ' Γ' F' H' (st s), fun Γ' O' k σ' F' H' s => e.bk Γ' O' k σ' F' H' (st s), fun Γ' O' k σ' F' H' s => e.ct Γ' O' k σ' F' H' (st s)⟩
theorem pdL_deeds {O : Own} : ∀ l : List Deed, PdL O (l.map deedD) (l.map pyDeed)
  | [] => .nil
  | d :: l => .cons (.tup (.cons (.int _) (.cons (.int _) (.cons (.lst (pdL_nums _)) .nil)))) (pdL_deeds l)
theorem sh_deeds {b : Bk} (W : WfB b) (S : SmB b) : Sh (.list (b.deeds.map pyDeed)) 1000000 5 := by
  have h := sh_book W S
  have hs := h.s
  have hc := h.c
  have hD : ∀ x ∈ b.deeds.map pyDeed, Sh x 17374 3 := fun x hx => by
    obtain ⟨d, hd, rfl⟩ := List.mem_map.mp hx
    refine (sh_tuple (m := 3) (n := 5788) (k := 2) (fun x hx => ?_) (Nat.le_refl _)).up (by decide) (by decide)
    rcases List.mem_cons.mp hx with rfl | hx
    · obtain ⟨i, hi, rfl⟩ := List.getElem_of_mem hd
      have := W.ver i hi
      have := S.dl
      exact (sh_int (by omega)).up (by decide) (by decide)
    · rcases List.mem_cons.mp hx with rfl | hx
      · have := S.dOwn d hd
        exact (sh_int (by omega)).up (by decide) (by decide)
      · obtain rfl := List.mem_singleton.mp hx
        exact sh_asked (fun n hn => known_ok S (W.askD d hd n hn)) (S.dAsk d hd)
  have := S.dl
  exact (sh_list (m := 10) (n := 17374) (k := 3) hD (by rw [List.length_map]; omega)).up (by decide) (by decide)

theorem tick_dice (c n : Nat) (a : Addr) : tick c [(a, .dice n)] = [(a, .dice (n + c))] := rfl
theorem hd1 {a : Addr} {n m : Nat} (h : n + m ≤ 1000000) : HasDice [(a, .dice n)] a m := ⟨0, n, rfl, h⟩
theorem ef_reprP {te : TE} {K : KD} (h : Ef te Γ O fun d O1 => ∃ (x : PyData) (n k : Nat), Pd O1 d x ∧ (∃ xs, x = .list xs ∨ x = .tuple xs) ∧ Sh x n k ∧ n ≤ 16000000 ∧ k ≤ 60 ∧ K (.str x.shown) O1) : Ef (tCB (rRepr Kf) (tCons te tNil)) Γ O K :=
  ef_repr (h.mono fun d O1 ⟨x, n, k, hp, hx, hs, hn, hk, q⟩ => ⟨x, hp, hx, hs.s, hs.d, Nat.le_trans hs.k hk, Nat.le_trans hs.l (Nat.le_trans hn (by decide)), q⟩)
theorem prices_take (b : Bk) (pl : List (List Pay)) (i : Nat) (h1 : i < b.deeds.length) (h2 : i < pl.length) : ((b.deeds.zip pl).take (i + 1)).map (fun q => priceOf q.1 q.2) = ((b.deeds.zip pl).take i).map (fun q => priceOf q.1 q.2) ++ [priceOf b.deeds[i] pl[i]] := by
  rw [List.take_succ_eq_append_getElem (by rw [List.length_zip]; omega), List.map_append, List.getElem_zip]
  rfl
/-- what is asked three times -/
theorem sf_turns (a : Addr) (x0 : Option D) : Sf (tSeq (tFor (iRng1 (tCons (tC (.int 3)) tNil)) (gName 2) (tSeq (tAsg (tCall (Fsp 1 pLedger) [] E0 (tCons (tVar 1) tNil)) (gName 3))
  (tSeq (tAsg (tCall (Fsp 1 pLLate) [] E0 (tCons (tVar 3) tNil)) (gName 4))
  (tSeq (tAsg (tCB (rRepr Kf) (tCons (tVar 3) tNil)) (gName 5))
  (tSeq (tFor (iRng1 (tCons (tC (.int 2)) tNil)) (gName 6) (tSeq (tAsg (tCall (Fsp 1 pLate) [] E0 (tCons (tVar 3) tNil)) (gName 7))
  (tSeq (tIfS (tTest (tOp (rNeD Kf) (tVar 7) (tVar 4))) (tRet (tC (.bl false))) tNext)
  (tSeq (tFor (iEnum Kf (tCons (tVar 7) tNil)) (gTup Kf 2 (gCons (gName 8) (gCons (gName 9) gNil))) (tSeq (tDrop (tBM Kf "list" rAppend (tVar 9) (tCons (tC (.int 0)) tNil)))
  (tIfS (tTest (tOp (rNeD Kf) (tSl (rSlL Kf) (tVar 7) (tPart (tOp rAdd (tVar 8) (tC (.int 1)))) tNoPart) (tSl (rSlL Kf) (tVar 4) (tPart (tOp rAdd (tVar 8) (tC (.int 1)))) tNoPart))) (tRet (tC (.bl false))) tNext)))
  (tDrop (tBM Kf "list" rAppend (tVar 7) (tCons (tLst tNil) tNil)))))))
  (tSeq (tAsg (tLc (iList Kf (tVar 4)) (gName 9) tYes (tCB (fun xs H Q => ∃ p ys, xs = [.ref p] ∧ (SqL Kf H p ys ∨ SqT Kf H p ys) ∧ ∀ l, H l = none → Q (.ref l) (upd H l (.lst ys))) (tCons (tVar 9) tNil)) [9]) (gName 10))
  (tSeq (tFor (iRng1 (tCons (tOp rMul (tCall (Fsp 2 pRoll) [] E0 (tCons (tVar 1) (tCons (tC (.int 4)) tNil))) (tCB (fun xs H Q => (∃ i, xs = [.int i] ∧ Q (.int i) H) ∨ ∃ k, xs = [.bl k] ∧ Q (.int (if k then 1 else 0)) H) (tCons (tOp (rNeD Kf) (tOp (rIxT Kf) (tVar 3) (tC (.int 0))) (tLst tNil)) tNil))) tNil)) (gName 8) (tAsg (tCall (Fsp 3 pBent) [] E0 (tCons (tVar 1) (tCons (tVar 10) (tCons (tLc (iList Kf (tOp (rIxT Kf) (tVar 3) (tC (.int 1)))) (gTup Kf 3 (gCons (gName 11) (gCons (gName 12) (gCons (gName 13) gNil)))) tYes (tVar 11) [11, 12, 13]) tNil)))) (gName 10)))
  (tSeq (tAsg (tLst tNil) (gName 14))
  (tSeq (tFor (iZip Kf (tCons (tOp (rIxT Kf) (tVar 3) (tC (.int 0))) (tCons (tVar 10) tNil))) (gTup Kf 2 (gCons (gName 15) (gCons (gName 9) gNil))) (tDrop (tBM Kf "list" rAppend (tVar 14) (tCons (tOp rAdd (tOp (rIxT Kf) (tVar 15) (tC (.int 1))) (tCB (rSum Kf) (tCons (tLc (iList Kf (tVar 9)) (gTup Kf 2 (gCons (gName 11) (gCons (gName 16) gNil))) tYes (tVar 16) [11, 16]) tNil))) tNil))))
  (tSeq (tAsg (tCB (rRepr Kf) (tCons (tVar 10) tNil)) (gName 17))
  (tIfS (tOr (tTest (tOp (rNeD Kf) (tCall (Fsp 2 pPrices) [] E0 (tCons (tVar 3) (tCons (tVar 10) tNil))) (tVar 14))) (tOr (tTest (tOp rNe (tCB (rRepr Kf) (tCons (tVar 3) tNil)) (tVar 5))) (tTest (tOp rNe (tCB (rRepr Kf) (tCons (tVar 10) tNil)) (tVar 17))))) (tRet (tC (.bl false))) tNext)))))))))))
  (tRet (tC (.bl true)))) (none :: some (.ref a) :: List.replicate 16 none) [(a, .dice 0)] { nx := fun _ _ => False, rt := fun d _ => d = .bl true } := by
  refine sf_cut (fun Γ' O' => True) ?_ (fun _ _ _ => sf_ret (ef_bl rfl))
  refine sf_forR1 (ef_int ⟨3, fun i Γ' O' => ∃ x2 x3 x4 x5 x6 x7 x8 x9 x10 x11 x12 x13 x14 x15 x16 x17, ∃ n, Γ' = [none, some (.ref a), x2, x3, x4, x5, x6, x7, x8, x9, x10, x11, x12, x13, x14, x15, x16, x17] ∧ O' = [(a, .dice n)] ∧ n ≤ 20000 * i, rfl, by decide, ⟨_, _, _, _, _, _, _, _, _, _, _, _, _, _, _, _, 0, rfl, rfl, Nat.zero_le _⟩, ?_, fun _ _ _ => trivial⟩)
  rintro i Γ' O' hi ⟨x2, x3, x4, x5, x6, x7, x8, x9, x10, x11, x12, x13, x14, x15, x16, x17, n, rfl, rfl, hn⟩
  have hi : i < 3 := hi
  refine gf_name (sf_wk (sf_seq (sf_asg (ef_call (af_cons (ef_var rfl (af_nil ⟨rfl, a, rfl, hd1 (by omega), fun b W S => gf_name ?_⟩)))))))
  rw [tick_dice]
  refine sf_seq (sf_asg (ef_call (af_cons (ef_var rfl (af_nil ⟨rfl, b, rfl, W, gf_name ?_⟩)))))
  refine sf_seq (sf_asg (ef_reprP (ef_var rfl ⟨pyBook b, _, _, pd_book _ b, ⟨_, .inr rfl⟩, sh_book W S, by decide, by decide, gf_name ?_⟩)))
  have hdl := S.dl
  have hplok : PlOk 0 (lateOf b) := late_plok W S b.deeds.length (Nat.le_refl _)
  have hpll : (lateOf b).length = b.deeds.length := lateF_len b _
  have hsh := sh_plan hplok (by decide) (by show (lateOf b).length ≤ 64; omega)
  -- twice: the told plan
  refine sf_cut (fun Γ' O' => ∃ x2 x6 x7 x8 x9 x10 x11 x12 x13 x14 x15 x16 x17, Γ' = [none, some (.ref a), x2, some (bookD b), some (planD (lateOf b)), some (.str (pyBook b).shown), x6, x7, x8, x9, x10, x11, x12, x13, x14, x15, x16, x17] ∧ O' = [(a, .dice (n + 10000))]) ?_ ?_
  · refine sf_forR1 (ef_int ⟨2, fun j Γ' O' => ∃ x2 x6 x7 x8 x9 x10 x11 x12 x13 x14 x15 x16 x17, Γ' = [none, some (.ref a), x2, some (bookD b), some (planD (lateOf b)), some (.str (pyBook b).shown), x6, x7, x8, x9, x10, x11, x12, x13, x14, x15, x16, x17] ∧ O' = [(a, .dice (n + 10000))], rfl, by decide, ⟨_, _, _, _, _, _, _, _, _, _, _, _, _, rfl, rfl⟩, ?_, fun _ _ z => z⟩)
    rintro j Γ' O' hj ⟨x2, x6, x7, x8, x9, x10, x11, x12, x13, x14, x15, x16, x17, rfl, rfl⟩
    refine gf_name (sf_wk (sf_seq (sf_asg (ef_call (af_cons (ef_var rfl (af_nil ⟨rfl, b, rfl, W, fun p rs0 hrs0 => gf_name ?_⟩)))))))
    have hpl0 : PlanAt (planO rs0 p [(a, .dice (n + 10000))]) (.ref p) (lateOf b) := hrs0 ▸ planAt_own rs0 p _
    refine sf_seq (sf_if (tf_test (ef_neP (ef_var rfl (ef_var rfl ⟨_, _, pd_plan hpl0, pd_plan (planAt_pure _ _), hsh.shaped (by decide), hsh.shaped (by decide), _, rfl, fun ht => ?_, fun ht => ?_⟩)))))
    · rw [eqv_refl0 hsh] at ht
      cases ht
    refine sf_next ?_
    have hbr : bP rs0.reverse = lateOf b := by
      rw [← hrs0]
      unfold bP plOf
      rw [List.map_reverse]
    have hwk : Wk (planO rs0 p [(a, .dice (n + 10000))]) (bO rs0.reverse p [(a, .dice (n + 10000))]) := by
      refine wk_perm ?_
      unfold planO bO
      have e1 : refsO rs0 = refs rs0.reverse := by
        unfold refsO refs
        rw [List.map_reverse]
      have e2 : rowsO rs0.reverse = (rowsO rs0).reverse := by
        unfold rowsO
        rw [List.map_reverse]
      rw [e1, e2]
      exact List.perm_middle.trans (List.Perm.cons _ (List.Perm.append_right _ (List.reverse_perm _).symm))
    generalize rs0.reverse = rs at hbr hwk
    have hrl : rs.length = b.deeds.length := by
      rw [← hpll, ← hbr]
      exact (List.length_map _).symm
    have hrows : ∀ i (h : i < rs.length), RowOk 0 rs[i].2 := fun i h => hplok _ (by
      show _ ∈ lateOf b
      rw [← hbr]
      exact List.mem_map.mpr ⟨_, List.getElem_mem h, rfl⟩)
    refine sf_pre hwk ?_
    refine sf_cut (fun Γ' O' => ∃ x2 x6 x8 x9 x10 x11 x12 x13 x14 x15 x16 x17, Γ' = [none, some (.ref a), x2, some (bookD b), some (planD (lateOf b)), some (.str (pyBook b).shown), x6, some (.ref p), x8, x9, x10, x11, x12, x13, x14, x15, x16, x17] ∧ O' = [(p, .lst (refs rs)), (a, .dice (n + 10000))]) ?_ ?_
    · refine sf_forE (ef_var rfl ⟨refs rs, fun k Γ' O' => ∃ x2 x6 x8 x9 x10 x11 x12 x13 x14 x15 x16 x17, Γ' = [none, some (.ref a), x2, some (bookD b), some (planD (lateOf b)), some (.str (pyBook b).shown), x6, some (.ref p), x8, x9, x10, x11, x12, x13, x14, x15, x16, x17] ∧ O' = (p, .lst (refs rs)) :: (rowsO (rs.drop k) ++ [(a, .dice (n + 10000))]), .own 0 rfl, ⟨_, _, _, _, _, _, _, _, _, _, _, _, rfl, rfl⟩, ?_, ?_, ?_⟩)
      · rintro k Γ' O' _ ⟨x2, x6, x8, x9, x10, x11, x12, x13, x14, x15, x16, x17, rfl, rfl⟩
        exact .own 0 rfl
      · rintro k Γ' O' hk ⟨x2, x6, x8, x9, x10, x11, x12, x13, x14, x15, x16, x17, rfl, rfl⟩
        have hrl2 : (refs rs).length = rs.length := List.length_map _
        rw [hrl2] at hk
        rw [refs_getD rs k hk]
        have ed : rs.drop k = rs[k] :: rs.drop (k + 1) := List.drop_eq_getElem_cons hk
        rw [ed]
        refine gf_tup rfl (gfs_cons (gf_name (gfs_cons (gf_name (gfs_nil ?_)))))
        refine sf_wk (sf_seq (sf_drop (ef_append (ef_var rfl ⟨_, rfl, ⟨1, _, rfl⟩, ef_int ⟨1, _, rfl, by rw [List.length_map]; have := (hrows k hk).len; omega, ?_⟩⟩))))
        have hsh2 : Sh (.list ((rs.drop (k + 1)).map fun r => .list (r.2.map pyPay))) 16000000 4 := by
          have : (rs.drop (k + 1)).map (fun r => PyData.list (r.2.map pyPay)) = (bP (rs.drop (k + 1))).map fun r => .list (r.map pyPay) := by
            unfold bP
            rw [List.map_map]
            rfl
          rw [this]
          refine sh_plan (t := 0) (fun r hr => ?_) (by decide) ?_
          · obtain ⟨x, hx, rfl⟩ := List.mem_map.mp hr
            obtain ⟨i, hi, rfl⟩ := List.getElem_of_mem (List.mem_of_mem_drop hx)
            exact hrows i hi
          · unfold bP
            rw [List.length_map, List.length_drop]
            omega
        have edue : ((lateOf b).map fun r => D.lst (r.map payD)).drop (k + 1) = (bP (rs.drop (k + 1))).map fun r => D.lst (r.map payD) := by
          rw [← hbr]
          unfold bP
          rw [← List.map_drop, ← List.map_drop]
        refine sf_if (tf_test (ef_neP (ef_slL (ef_var rfl (of_some (ef_I0i (ef_var rfl (ef_int ⟨_, _, rfl, rfl, _, rfl, of_none ⟨refs rs, .own 0 rfl, .inl ?_⟩⟩))))))))
        refine ef_slL (ef_var rfl (of_some (ef_I0i (ef_var rfl (ef_int ⟨_, _, rfl, rfl, _, rfl, of_none ⟨_, .im _, .inl ?_⟩⟩)))))
        have ek : ((k : Int) + 1) = ((k + 1 : Nat) : Int) := by omega
        rw [ek, cut_from, cut_from, edue]
        have er : (refs rs).drop (k + 1) = refs (rs.drop (k + 1)) := by
          unfold refs
          rw [List.map_drop]
        rw [er]
        refine ⟨_, _, .lst (pdL_refs (rs.drop (k + 1)) [_, _] _), pd_plan (planAt_pure _ (bP (rs.drop (k + 1)))), hsh2.shaped (by decide), ?_, _, rfl, fun ht => ?_, fun ht => ?_⟩
        · have : pyPlan (bP (rs.drop (k + 1))) = .list ((rs.drop (k + 1)).map fun r => .list (r.2.map pyPay)) := by
            unfold pyPlan bP
            rw [List.map_map]
            rfl
          rw [this]
          exact hsh2.shaped (by decide)
        · have : pyPlan (bP (rs.drop (k + 1))) = .list ((rs.drop (k + 1)).map fun r => .list (r.2.map pyPay)) := by
            unfold pyPlan bP
            rw [List.map_map]
            rfl
          rw [this, eqv_refl0 hsh2] at ht
          cases ht
        · exact sf_next ⟨_, wk_mid [_] _ _, _, _, _, _, _, _, _, _, _, _, _, _, rfl, rfl⟩
      · rintro Γ' O' ⟨x2, x6, x8, x9, x10, x11, x12, x13, x14, x15, x16, x17, rfl, rfl⟩
        refine ⟨_, _, _, _, _, _, _, _, _, _, _, _, rfl, ?_⟩
        have hrl2 : (refs rs).length = rs.length := List.length_map _
        rw [hrl2, List.drop_length]
        rfl
    · rintro Γ' O' ⟨x2, x6, x8, x9, x10, x11, x12, x13, x14, x15, x16, x17, rfl, rfl⟩
      refine sf_drop (ef_append (ef_var rfl ⟨p, rfl, ⟨0, _, rfl⟩, ef_lst (af_nil ⟨by decide, 0, _, rfl, ?_, ⟨_, wk_drop _ _, _, _, _, _, _, _, _, _, _, _, _, _, _, rfl, rfl⟩⟩)⟩))
      have hrl2 : (refs rs).length = rs.length := List.length_map _
      omega
  rintro Γ' O' ⟨x2, x6, x7, x8, x9, x10, x11, x12, x13, x14, x15, x16, x17, rfl, rfl⟩
  -- the plan bent
  refine sf_seq (sf_asg (ef_copyRows (fun _ => rfl) (ef_var rfl ⟨lateOf b, planAt_pure _ _, by omega, fun p rs hrs => gf_name ?_⟩)))
  have hpl1 : PlanAt (bO rs p [(a, .dice (n + 10000))]) (.ref p) (lateOf b) := hrs ▸ planAt_bO rs p _
  refine sf_cut (fun Γ' O' => ∃ x2 x6 x7 x8 x9 x11 x12 x13 x14 x15 x16 x17, ∃ d pl X m, Γ' = [none, some (.ref a), x2, some (bookD b), some (planD (lateOf b)), some (.str (pyBook b).shown), x6, x7, x8, x9, some d, x11, x12, x13, x14, x15, x16, x17] ∧ O' = X ++ [(a, .dice m)] ∧ m ≤ n + 11000 ∧ PlanAt O' d pl ∧ pl.length = b.deeds.length ∧ PlOk 4 pl) ?_ ?_
  · refine sf_forR1 (ef_I (ef_call (af_cons (ef_var rfl (af_cons (ef_int (af_nil ⟨rfl, a, 4, rfl, ((hd1 (by omega)).app (rowsO rs)).cons _, by decide, by decide, fun r r0 r1 => ?_⟩)))))) )
    rw [tick_bO, tick_dice]
    refine ef_intB (ef_neP (ef_deeds rfl (ef_lst (af_nil ⟨by decide, _, _, .lst (pdL_deeds b.deeds), .lst .nil, ?_, rfl, .inr ⟨_, rfl, _, _, rfl, rfl, .inl ?_, ?_⟩⟩))))
    · exact (sh_deeds W S).shaped (by decide)
    · omega
    have ebl : PyData.eqv (.list (b.deeds.map pyDeed)) (.list []) = b.deeds.isEmpty := by cases b.deeds <;> rfl
    rw [ebl]
    refine ⟨_, fun i Γ' O' => ∃ x2 x6 x7 x8 x9 x11 x12 x13 x14 x15 x16 x17, ∃ d pl X m, Γ' = [none, some (.ref a), x2, some (bookD b), some (planD (lateOf b)), some (.str (pyBook b).shown), x6, x7, x8, x9, some d, x11, x12, x13, x14, x15, x16, x17] ∧ O' = X ++ [(a, .dice m)] ∧ m ≤ n + 10001 + 100 * i ∧ PlanAt O' d pl ∧ pl.length = b.deeds.length ∧ PlOk i pl, rfl, ?_, ⟨_, _, _, _, _, _, _, _, _, _, _, _, _, _, (p, .lst (refs rs)) :: rowsO rs, _, rfl, rfl, Nat.le_refl _, ?_, hpll, hplok⟩, ?_, ?_⟩
    · split <;> omega
    · exact hrs ▸ planAt_bO rs p _
    · rintro i Γ' O' hlt ⟨x2, x6, x7, x8, x9, x11, x12, x13, x14, x15, x16, x17, d, pl, X, m, rfl, rfl, hm, hpa, hpl, hpok⟩
      have hdn : b.deeds ≠ [] := fun z => by
        rw [z] at hlt
        simp at hlt
      have hlt3 : i < 3 := by
        revert hlt
        split
        · intro hlt; omega
        · intro hlt; omega
      have hdp := List.length_pos_iff.mpr hdn
      refine gf_name (sf_asg (ef_call (af_cons (ef_var rfl (af_cons (ef_var rfl (af_cons (ef_lcLt gok3 (ef_known rfl ⟨Kn, b.known, knD, fun _ => true, fun k => num k.1, .im _, kl_lt W, fun k hk acc Dl => gf_kn (tf_yes ⟨rfl, rfl, fun _ => ef_var rfl ⟨rfl, rfl⟩⟩), .inl ?_⟩) ))))))))
      rw [filter_true]
      have ekn : b.known.map (fun k => num k.1) = (b.known.map (·.1)).map num := by
        rw [List.map_map]
        rfl
      rw [ekn]
      refine af_nil ⟨rfl, a, d, pl, i, _, rfl, hpa, fun z => ?_, by omega, hpok, by omega, ?_, fun n hn => known_ok S hn, (hd1 (by omega)).app X, fun d' X' pl' hp' hl' ho' => gf_name ?_⟩
      · rw [z] at hpl
        have : (0 : Nat) = b.deeds.length := hpl
        omega
      · rw [List.length_map]
        have := S.kl
        omega
      · have e : X' ++ tick 100 (X ++ [(a, C.dice m)]) = (X' ++ tick 100 X) ++ [(a, .dice (m + 100))] := by
          rw [tick_app, List.append_assoc]
          rfl
        rw [e] at hp' ⊢
        exact ⟨_, _, _, _, _, _, _, _, _, _, _, _, d', pl', _, _, rfl, rfl, by omega, hp', by omega, ho'⟩
    · rintro Γ' O' ⟨x2, x6, x7, x8, x9, x11, x12, x13, x14, x15, x16, x17, d, pl, X, m, rfl, rfl, hm, hpa, hpl, hpok⟩
      have hr4 : (r * (if (!b.deeds.isEmpty) = true then 1 else 0)).toNat ≤ 3 := by
        split <;> omega
      refine ⟨_, _, _, _, _, _, _, _, _, _, _, _, d, pl, X, m, rfl, rfl, by omega, hpa, hpl, fun r hr => ?_⟩
      have hz := hpok r hr
      refine ⟨by have := hz.len; omega, fun q hq => ?_⟩
      have hq2 := hz.pay q hq
      exact ⟨hq2.num.up (by omega), hq2.lo, by have := hq2.hi; omega⟩
  rintro Γ' O' ⟨x2, x6, x7, x8, x9, x11, x12, x13, x14, x15, x16, x17, d, pl, X, m, rfl, rfl, hm, hpa, hpl, hpok⟩
  have hsp := sh_plan hpok (by decide) (by omega)
  have hsmall : SmallP pl := fun r hr => by
    have := (hpok r hr).len
    omega
  -- the costs
  refine sf_seq (sf_asg (ef_lstO (af_nil ⟨by decide, fun pc => gf_name ?_⟩)))
  have hpc : ∀ c, PlanAt ((pc, c) :: (X ++ [(a, .dice m)])) d pl := fun c => hpa.cons _
  refine sf_cut (fun Γ' O' => ∃ x2 x6 x7 x8 x9 x11 x12 x13 x15 x16 x17, Γ' = [none, some (.ref a), x2, some (bookD b), some (planD (lateOf b)), some (.str (pyBook b).shown), x6, x7, x8, x9, some d, x11, x12, x13, some (.ref pc), x15, x16, x17] ∧ O' = (pc, .lst ((pricesOf b pl).map .int)) :: (X ++ [(a, .dice m)])) ?_ ?_
  · obtain ⟨rows, q1, q2, q3⟩ := hpa
    refine sf_forZ (ef_deeds rfl (ef_var rfl ⟨_, rows, fun i Γ' O' => ∃ x2 x6 x7 x8 x9 x11 x12 x13 x15 x16 x17, Γ' = [none, some (.ref a), x2, some (bookD b), some (planD (lateOf b)), some (.str (pyBook b).shown), x6, x7, x8, x9, some d, x11, x12, x13, some (.ref pc), x15, x16, x17] ∧ O' = (pc, .lst ((((b.deeds.zip pl).take i).map fun q => priceOf q.1 q.2).map .int)) :: (X ++ [(a, .dice m)]), .im _, q1.cons _, ⟨_, _, _, _, _, _, _, _, _, _, _, rfl, rfl⟩, ?_, ?_, ?_⟩))
    · rintro i Γ' O' _ ⟨x2, x6, x7, x8, x9, x11, x12, x13, x15, x16, x17, rfl, rfl⟩
      exact ⟨.im _, q1.cons _⟩
    · rintro i Γ' O' hi ⟨x2, x6, x7, x8, x9, x11, x12, x13, x15, x16, x17, rfl, rfl⟩
      rw [List.length_map] at hi
      have hi1 : i < b.deeds.length := by omega
      have hi2 : i < pl.length := by omega
      rw [map_getD b.deeds deedD hi1]
      refine gf_tup rfl (gfs_cons (gf_name (gfs_cons (gf_name (gfs_nil ?_)))))
      refine sf_drop (ef_append (ef_var rfl ⟨pc, rfl, ⟨0, _, rfl⟩, ef_I0i (ef_ixT (ef_var rfl (ef_int ⟨_, _, _, rfl, rfl, rfl, ef_sumRow gok2 rfl ((q3 i hi2).cons _) (hsmall _ (List.getElem_mem hi2)) (fun _ _ => rfl) ⟨_, _, rfl, rfl, 0, _, rfl, ?_, _, _, _, _, _, _, _, _, _, _, _, rfl, ?_⟩⟩)))⟩))
      · rw [List.length_map, List.length_map, List.length_take]
        omega
      · rw [prices_take b pl i hi1 hi2, List.map_append]
        rfl
    · rintro Γ' O' ⟨x2, x6, x7, x8, x9, x11, x12, x13, x15, x16, x17, rfl, rfl⟩
      refine ⟨_, _, _, _, _, _, _, _, _, _, _, rfl, ?_⟩
      rw [List.length_map, q2, ← List.length_zip, List.take_length]
      rfl
  rintro Γ' O' ⟨x2, x6, x7, x8, x9, x11, x12, x13, x15, x16, x17, rfl, rfl⟩
  refine sf_seq (sf_asg (ef_reprP (ef_var rfl ⟨pyPlan pl, _, _, pd_plan (hpc _), ⟨_, .inl rfl⟩, hsp, by decide, by decide, gf_name ?_⟩)))
  refine sf_if (tf_or (tf_test (ef_neP (ef_call (af_cons (ef_var rfl (af_cons (ef_var rfl (af_nil ⟨rfl, b, d, pl, rfl, W, hpc _, hsmall, ef_var rfl ⟨_, _, .lst (pdL_ints _), .own 0 rfl (pdL_ints _), shaped_ints _, shaped_ints _, _, rfl, fun _ => ?_, fun ht => ?_⟩⟩)))))))))
  · refine tf_or (tf_test (ef_neS (ef_reprP (ef_var rfl ⟨pyBook b, _, _, pd_book _ b, ⟨_, .inr rfl⟩, sh_book W S, by decide, by decide, ef_var rfl ⟨rfl, _, rfl, fun _ => ?_, fun ht => ?_⟩⟩))))
    · refine tf_test (ef_neS (ef_reprP (ef_var rfl ⟨pyPlan pl, _, _, pd_plan (hpc _), ⟨_, .inl rfl⟩, hsp, by decide, by decide, ef_var rfl ⟨rfl, _, rfl, fun ht => ?_, fun ht => ?_⟩⟩)))
      · have e : eqD (.str (pyPlan pl).shown) (.str (pyPlan pl).shown) = true := decide_eq_true rfl
        rw [e] at ht
        cases ht
      · exact sf_next ⟨_, (wk_drop _ _).trans (wk_app X _), _, _, _, _, _, _, _, _, _, _, _, _, _, _, _, _, m, rfl, rfl, by omega⟩
    · have e : eqD (.str (pyBook b).shown) (.str (pyBook b).shown) = true := decide_eq_true rfl
      rw [e] at ht
      cases ht
  · rw [SeqAt.eqv_refl (.list ((pricesOf b pl).map .int)) (canLay_ints _)] at ht
    cases ht
end
end OW

/-! the law's own first line, its promise -/
namespace OW
open PySem PySem.Spec PyProof.Rows L2
def spLaw (K : PySem.W.Frag) : Sp := fun vs H Q _ => ∃ (a : Addr) (ns : List Int), vs = [.ref a] ∧ SqL K H a (ns.map V.int) ∧ ns.length ≤ 63 ∧ Only H ∧ Q = fun v _ => v = .bl true
theorem sf_run {ts : TS} {Γ : Ctx} {O : Own} {K : Ks} {F H : Hp} {σ : L2.St} {E : Ends} (S : Sat F H σ Γ O) (e : SfEnds O F H K E) (h : Sf ts Γ O K) : ts E σ H := h F H σ E S e
/-- the dice made of the script, then what follows -/
theorem dice_first {Kf : PySem.W.Frag} {N : List Str} {ts : TS} {r : Nat} (hN : N.length = r + 2) (hts : ∀ a : Addr, Sf ts (none :: some (.ref a) :: List.replicate r none) [(a, .dice 0)] { nx := fun _ _ => False, rt := fun d _ => d = .bl true })
    (v : V) (H : Hp) (Q : VK) (E : XK) (h : spLaw Kf [v] H Q E) :
    tSeq (tAsg (tLst (tCons (tCB (fun xs H Q => ∃ p ys, xs = [.ref p] ∧ (SqL Kf H p ys ∨ SqT Kf H p ys) ∧ ∀ l, H l = none → Q (.ref l) (upd H l (.lst ys))) (tCons (tSl (rSlL Kf) (tVar 0) tNoPart (tPart (tC (.int 63)))) tNil)) (tCons (tC (.int 0)) (tCons (tC (.int 0)) (tCons (tC (.int 0)) tNil))))) (gName 1)) ts { nx := fun _ H' => Q .non H', rt := Q } (L2.start N [v]) H := by
  obtain ⟨a, ns, e, hS, hl, hO, rfl⟩ := h
  obtain rfl := List.head_eq_of_cons_eq e
  have hst : L2.start N [V.ref a] = some (V.ref a) :: none :: List.replicate r none := by
    show [some (V.ref a)] ++ List.replicate (N.length - 1) none = _
    rw [hN]
    rfl
  rw [hst]
  have hc : cutV (ns.map V.int) none (some 63) = ns.map V.int := by
    show ((ns.map V.int).drop 0).take (HT.sIx (ns.map V.int).length (ns.map V.int).length (some ((63 : Nat) : Int)) - 0) = _
    rw [HT.sIx_nat, List.drop_zero, List.take_of_length_le]
    rw [List.length_map]
    omega
  refine ⟨_, rfl, _, rfl, a, _, rfl, hS, fun p1 h1 => ⟨p1, _, rfl, .inl (SqL.of upd_same), fun p2 h2 => ⟨sz (Nat.le_of_ble_eq_true rfl), fun p3 h3 => ?_⟩⟩⟩
  rw [hc] at h3 h2 ⊢
  have h32 : p3 ≠ p2 := fun z => by
    subst z
    rw [upd_same] at h3
    cases h3
  refine sf_run (K := { nx := fun _ _ => False, rt := fun d _ => d = .bl true }) (F := fun b => if b = p2 then some (.lst (ns.map V.int)) else none) (O := [(p3, .dice 0)]) (Γ := none :: some (.ref p3) :: List.replicate r none) ⟨?_, ?_, ?_, ?_, ?_, ?_⟩ ⟨fun _ _ z => z.elim, ?_, fun _ _ z => z.elim, fun _ _ z => z.elim⟩ (hts p3)
  · intro b x hb
    have hb2 : (if b = p2 then some (HO.lst (ns.map V.int)) else none) = some x := hb
    by_cases e : b = p2
    · subst e
      rw [if_pos rfl] at hb2
      rw [upd_ne (fun z => h32 z.symm), upd_same]
      exact hb2
    · rw [if_neg e] at hb2
      cases hb2
  · simp
  · intro i d hd
    match i, hd with
    | 0, hd => cases hd
    | 1, hd =>
      cases hd
      exact ⟨.ref p3, rfl, .ref _⟩
    | i + 2, hd =>
      have hd2 : (List.replicate r (none : Option D))[i]? = some (some d) := hd
      rw [List.getElem?_replicate] at hd2
      split at hd2 <;> cases hd2
  · intro p hp
    obtain rfl := List.mem_singleton.mp hp
    refine ⟨if_neg h32, _, upd_same, ?_⟩
    exact .dice (ns := ns) (if_pos rfl) hl (Int.le_refl _) (Int.le_refl _)
  · exact List.nodup_cons.mpr ⟨fun z => (by cases z), List.nodup_nil⟩
  · intro b vs hb
    exfalso
    by_cases e3 : b = p3
    · subst e3
      rw [upd_same] at hb
      cases hb
    · rw [upd_ne e3] at hb
      by_cases e2 : b = p2
      · subst e2
        rw [upd_same] at hb
        cases hb
      · rw [upd_ne e2] at hb
        by_cases e1 : b = p1
        · subst e1
          rw [upd_same] at hb
          cases hb
        · rw [upd_ne e1] at hb
          rcases hO b with z | ⟨o, xs, z⟩
          · rw [z] at hb; cases hb
          · rw [z] at hb; cases hb
  · intro d O' hd v σ' Γ' F' H' _ _ r
    subst hd
    cases r
    rfl
end OW

/-! what is lacking; plans let by -/
namespace OW
open PySem PySem.Spec PyProof.Rows L2
local macro_rules | `(tactic| walk_at "ow") => `(tactic| first
  | with_reducible refine sf_seq ?_
  | with_reducible refine sf_asg ?_
  | with_reducible refine sf_drop ?_
  | with_reducible refine sf_ret ?_
  | with_reducible refine sf_next ?_
  | (with_reducible apply ef_var; rfl)
  | with_reducible refine ef_int ?_
  | with_reducible refine ef_bl ?_
  | with_reducible refine ef_non ?_
  | with_reducible refine gf_name ?_
  | with_reducible refine gfs_nil ?_
  | with_reducible refine gfs_cons ?_
  | (with_reducible refine gf_tup ?_ ?_; rfl)
  | with_reducible refine tf_test ?_
  | with_reducible refine tf_yes ?_
  | with_reducible refine tf_B ?_
  | with_reducible refine af_cons ?_
  | with_reducible refine af_nil ?_
  | with_reducible refine ef_call ?_
  | with_reducible refine ef_I0i ?_
  | with_reducible refine ef_I0b ?_
  | with_reducible refine ef_I ?_
  | with_reducible refine ef_neg ?_
  | with_reducible refine ef_ixL ?_
  | with_reducible refine ef_ixT ?_
  | with_reducible refine ef_len ?_
  | with_reducible refine ef_tup ?_)
theorem ef_frame {te : TE} {Γ : Ctx} {O : Own} {K : KD} (x : Addr × C) (h : Ef te Γ O fun d O' => K d (x :: O')) : Ef te Γ (x :: O) K := fun F H σ Q S hk => by
  have hw := (wk_drop x O).2 F H σ Γ S
  obtain ⟨hf, o, ho, rc⟩ := S.own x List.mem_cons_self
  have hx : x.1 ∉ dom O := (List.nodup_cons.mp S.nd).1
  refine h F H σ Q hw fun d O' k v F' H' s S' r => hk d (x :: O') k v F' H' ?_ ?_ r
  · refine ⟨s.f, fun b o hb e => s.h b o (fun z => hb (List.mem_cons_of_mem _ z)) e, s.there, fun b o e => (s.new b o e).imp_right fun z => z.imp_right fun z => List.mem_cons_of_mem _ z, fun a m => ?_⟩
    rcases List.mem_cons.mp m with e | m
    · exact .inl (e ▸ List.mem_cons_self)
    · exact (s.own a m).imp_left fun z => List.mem_cons_of_mem _ z
  · refine ⟨S'.sub, S'.len, S'.slot, fun p hp => ?_, List.nodup_cons.mpr ⟨fun z => ?_, S'.nd⟩, S'.tups⟩
    · rcases List.mem_cons.mp hp with e | hp
      · subst e
        refine ⟨?_, o, s.h _ _ hx ho, rc.mono s.f⟩
        rcases none_or (H := F') p.1 with q | ⟨o', q⟩
        · exact q
        · rcases s.new _ _ q with z | z | z
          · rw [hf] at z; cases z
          · rw [ho] at z; cases z
          · exact absurd z hx
      · exact S'.own p hp
    · rcases s.own _ z with q | q
      · exact hx q
      · rw [ho] at q; cases q
abbrev LK := Nat × Lk
def lkD (r : LK) : D := .tup [.int r.1, num r.2.1, .int r.2.2.1, .int r.2.2.2]
def lackK (b : Bk) (pl : List (List Pay)) (k : Nat) : List LK := (lackOf b pl k (pastOf b k)).map fun r => (k, r)
def lacksF (b : Bk) (pl : List (List Pay)) : Nat → List LK
  | 0 => []
  | i + 1 => lacksF b pl i ++ lackK b pl (i + 1)
def lacksOf (b : Bk) (pl : List (List Pay)) : List LK := lacksF b pl pl.length
theorem lackOf_len {b : Bk} (W : WfB b) {pl : List (List Pay)} {k : Nat} {way : List Nat} (hk0 : k ≠ 0) (hk : k ≤ b.deeds.length) : (lackOf b pl k way).length ≤ 2000 := by
  have h1 := lackAll_len W (pl := pl) (way := way) hk0 hk
  have h2 := List.length_filter_le (fun r : Lk => decide (r.2.1 < r.2.2)) (lackAll b pl k way)
  unfold lackOf
  omega
theorem lacksF_len {b : Bk} (W : WfB b) {pl : List (List Pay)} : ∀ i, i ≤ b.deeds.length → (lacksF b pl i).length ≤ 2000 * i
  | 0, _ => Nat.le_refl _
  | i + 1, h => by
    have := lacksF_len W (pl := pl) i (by omega)
    have h2 := lackOf_len W (pl := pl) (k := i + 1) (way := pastOf b (i + 1)) (by omega) h
    show (lacksF b pl i ++ lackK b pl (i + 1)).length ≤ _
    unfold lackK
    rw [List.length_append, List.length_map]
    omega
def pLacking : Pre := fun ds O Kd => ∃ (b : Bk) (d : D) (pl : List (List Pay)), ds = [bookD b, d] ∧ WfB b ∧ PlanAt O d pl ∧ SmallP pl ∧ pl.length = b.deeds.length ∧ ∀ p, Kd (.ref p) ((p, .lst ((lacksOf b pl).map lkD)) :: O)
theorem pastW {b : Bk} (W : WfB b) {k : Nat} (hk : k ≤ b.deeds.length) : (pastOf b k).length ≤ 64 ∧ ∀ j ∈ pastOf b k, 0 < j ∧ j ≤ b.deeds.length := by
  refine ⟨?_, fun j hj => ?_⟩
  · have := past_len W k hk
    have := W.dl
    omega
  · have := past_le W k hk j hj
    omega
section
variable {Kf : PySem.W.Frag} {P : Program} {w : World}
theorem sf_lacking (ds : List D) (O : Own) (Kd : KD) (hl : ds.length = 2) (h : pLacking ds O Kd) : Sf (tlacking Kf P w pPast pLack) (args ds 7) O { nx := fun _ O' => Kd .non O', rt := Kd } := by
  obtain ⟨b, d, pl, rfl, W, hp, hs, hpl, hK⟩ := h
  show Sf _ [some (bookD b), some d, none, none, none, none, none] O _
  unfold tlacking
  refine sf_seq (sf_asg (ef_lstO (af_nil ⟨by decide, fun p => gf_name ?_⟩)))
  have hdl := W.dl
  have hp1 : ∀ c, PlanAt ((p, c) :: O) d pl := fun c => hp.cons _
  refine sf_cut (fun Γ' O' => ∃ x y z u, Γ' = [some (bookD b), some d, some (.ref p), x, y, z, u] ∧ O' = (p, .lst ((lacksOf b pl).map lkD)) :: O) ?_ ?_
  · obtain ⟨rows, q1, q2, q3⟩ := hp
    refine sf_forR2 (ef_int (ef_I0i (ef_len (ef_var rfl ⟨rows, .inl (q1.cons _), ef_int ⟨_, _, rfl, rfl, 1, _, fun i Γ' O' => ∃ x y z u, Γ' = [some (bookD b), some d, some (.ref p), x, y, z, u] ∧ O' = (p, .lst ((lacksF b pl i).map lkD)) :: O, rfl, rfl, by omega, ⟨_, _, _, _, rfl, rfl⟩, ?_, ?_⟩⟩))))
    · rintro i Γ' O' hi ⟨x, y, z, u, rfl, rfl⟩
      have hi : i < b.deeds.length := by omega
      have e1 : (1 + (i : Int)) = ((i + 1 : Nat) : Int) := by omega
      rw [e1]
      have hz := pastW W (k := i + 1) (by omega)
      refine gf_name (sf_drop (ef_extend (ef_var rfl ⟨p, rfl, ⟨0, _, rfl⟩, ef_lcLt gok3 (ef_call (af_cons (ef_var rfl (af_cons (ef_var rfl (af_cons (ef_var rfl (af_cons (ef_call (af_cons (ef_var rfl (af_cons (ef_var rfl (af_nil ⟨rfl, b, i + 1, rfl, W, by omega, af_nil ⟨rfl, b, d, pl, i + 1, _, rfl, W, by omega, by omega, hp1 _, hs, hz.1, fun j hj => ?_, Lk, lackOf b pl (i + 1) (pastOf b (i + 1)), lackD, fun _ => true, fun r => lkD (i + 1, r), .im _, ?_, fun r hr acc Dl => ?_, .inl ⟨0, _, _, rfl, .im _, ?_, ⟨_, _, _, _, rfl, ?_⟩⟩⟩⟩))))))))))))))⟩))) 
      · have := hz.2 j hj
        omega
      · have := lackOf_len W (pl := pl) (k := i + 1) (way := pastOf b (i + 1)) (by omega) (by omega)
        omega
      · exact gf_tup rfl (gfs_cons (gf_name (gfs_cons (gf_name (gfs_cons (gf_name (gfs_nil (tf_yes ⟨rfl, rfl, fun _ => ef_tup (af_cons (ef_var rfl (af_cons (ef_var rfl (af_cons (ef_var rfl (af_cons (ef_var rfl (af_nil ⟨Nat.le_of_ble_eq_true rfl, rfl, rfl⟩)))))))))⟩))))))))
      · rw [filter_true, List.length_map, List.length_map]
        have := lackOf_len W (pl := pl) (k := i + 1) (way := pastOf b (i + 1)) (by omega) (by omega)
        have := lacksF_len W (pl := pl) i (by omega)
        omega
      · rw [filter_true]
        show (p, C.lst (_ ++ _)) :: O = (p, C.lst ((lacksF b pl i ++ lackK b pl (i + 1)).map lkD)) :: O
        unfold lackK
        rw [List.map_append, List.map_map]
        rfl
    · rintro Γ' O' ⟨x, y, z, u, rfl, rfl⟩
      refine ⟨_, _, _, _, rfl, ?_⟩
      have e : ((rows.length : Int) + 1 - 1).toNat = pl.length := by omega
      rw [e]
      rfl
  · rintro Γ' O' ⟨x, y, z, u, rfl, rfl⟩
    exact sf_ret (ef_var rfl (hK p))
def pLLacks : Pre := fun ds O Kd => ∃ (b : Bk) (d : D) (pl : List (List Pay)), ds = [bookD b, d] ∧ WfB b ∧ PlanAt O d pl ∧ SmallP pl ∧ pl.length = b.deeds.length ∧ Kd (.lst ((lacksOf b pl).map lkD)) O
theorem sf_llacks (ds : List D) (O : Own) (Kd : KD) (hl : ds.length = 2) (h : pLLacks ds O Kd) : Sf (t_law_lacks Kf P w pOwns pPast pPaid pAsks) (args ds 7) O { nx := fun _ O' => Kd .non O', rt := Kd } := by
  obtain ⟨b, d, pl, rfl, W, hp, hs, hpl, hK⟩ := h
  show Sf _ [some (bookD b), some d, none, none, none, none, none] O _
  unfold t_law_lacks
  refine sf_wk (sf_seq (sf_asg (ef_call (af_cons (ef_var rfl (af_nil ⟨rfl, b, rfl, W, fun po => gf_name ?_⟩))))))
  refine sf_seq (sf_asg (ef_lstO (af_nil ⟨by decide, fun p => gf_name ?_⟩)))
  have hdl := W.dl
  have hp1 : ∀ c, PlanAt ((p, c) :: (po, dN (ownN b)) :: O) d pl := fun c => (hp.cons _).cons _
  refine sf_cut (fun Γ' O' => ∃ x y z, Γ' = [some (bookD b), some d, some (.ref po), some (.ref p), x, y, z] ∧ O' = (p, .lst ((lacksOf b pl).map lkD)) :: (po, dN (ownN b)) :: O) ?_ ?_
  · obtain ⟨rows, q1, q2, q3⟩ := hp
    refine sf_forR2 (ef_int (ef_I0i (ef_len (ef_var rfl ⟨rows, .inl ((q1.cons _).cons _), ef_int ⟨_, _, rfl, rfl, 1, _, fun i Γ' O' => ∃ x y z, Γ' = [some (bookD b), some d, some (.ref po), some (.ref p), x, y, z] ∧ O' = (p, .lst ((lacksF b pl i).map lkD)) :: (po, dN (ownN b)) :: O, rfl, rfl, by omega, ⟨_, _, _, rfl, rfl⟩, ?_, ?_⟩⟩))))
    · rintro i Γ' O' hi ⟨x, y, z, rfl, rfl⟩
      have hi : i < b.deeds.length := by omega
      have e1 : (1 + (i : Int)) = ((i + 1 : Nat) : Int) := by omega
      rw [e1]
      have hz := pastW W (k := i + 1) (by omega)
      refine gf_name (sf_wk (sf_seq (sf_asg (ef_call (af_cons (ef_var rfl (af_cons (ef_call (af_cons (ef_var rfl (af_cons (ef_var rfl (af_nil ⟨rfl, b, i + 1, rfl, W, by omega, af_nil ⟨rfl, d, pl, _, rfl, hp1 _, hs, hz.1, fun j hj => ?_, fun pt => gf_name ?_⟩⟩)))))))))))))
      · have := hz.2 j hj
        omega
      have hal := asks_len W (k := i + 1) (by omega) (by omega)
      have hll := lacksF_len W (pl := pl) i (by omega)
      let part : Nat → List LK := fun j => ((((asksOf b (i + 1)).take j).map fun n => (n, lookI (paidI pl (pastOf b (i + 1))) n, ownOf b n)).filter fun r : Lk => decide (r.2.1 < r.2.2)).map fun r => (i + 1, r)
      have hpl2 : ∀ j, (part j).length ≤ j := fun j => by
        show (List.map _ _).length ≤ j
        rw [List.length_map]
        refine Nat.le_trans (List.length_filter_le _ _) ?_
        rw [List.length_map, List.length_take]
        omega
      have hall : part (asksOf b (i + 1)).length = lackK b pl (i + 1) := by
        show ((((asksOf b (i + 1)).take (asksOf b (i + 1)).length).map _).filter _).map _ = _
        rw [List.take_length]
        rfl
      refine sf_forL (ef_call (af_cons (ef_var rfl (af_cons (ef_var rfl (af_nil ⟨rfl, b, i + 1, rfl, W, by omega, by omega, _, fun j Γ' O' => ∃ z, Γ' = [some (bookD b), some d, some (.ref po), some (.ref p), some (.int ((i + 1 : Nat) : Int)), some (.ref pt), z] ∧ O' = (pt, dN (ndI (paidI pl (pastOf b (i + 1))))) :: (p, .lst ((lacksF b pl i ++ part j).map lkD)) :: (po, dN (ownN b)) :: O, .im _, ⟨_, rfl, ?_⟩, fun _ _ _ _ _ => .im _, ?_, ?_⟩))))))
      · have : part 0 = [] := rfl
        rw [this, List.append_nil]
      · rintro j Γ' O' hj ⟨z, rfl, rfl⟩
        rw [List.length_map] at hj
        rw [map_getD _ num hj]
        generalize hn : (asksOf b (i + 1))[j] = n
        have hnk : n ∈ b.known.map (·.1) := asks_known W (by omega) (by omega) n (hn ▸ List.getElem_mem hj)
        have estep : part (j + 1) = part j ++ (if lookI (paidI pl (pastOf b (i + 1))) n < ownOf b n then [(i + 1, n, lookI (paidI pl (pastOf b (i + 1))) n, ownOf b n)] else []) := by
          show ((((asksOf b (i + 1)).take (j + 1)).map _).filter _).map _ = _
          rw [List.take_succ_eq_append_getElem hj, List.map_append, List.filter_append, List.map_append, hn]
          congr 1
          by_cases hlt : lookI (paidI pl (pastOf b (i + 1))) n < ownOf b n
          · rw [if_pos hlt]
            show List.map _ (List.filter _ [(n, lookI (paidI pl (pastOf b (i + 1))) n, ownOf b n)]) = _
            rw [List.filter_cons, if_pos (decide_eq_true hlt)]
            rfl
          · rw [if_neg hlt]
            show List.map _ (List.filter _ [(n, lookI (paidI pl (pastOf b (i + 1))) n, ownOf b n)]) = _
            rw [List.filter_cons, if_neg (by simpa using hlt)]
            rfl
        have rdG : ∀ {Γ : Ctx} {K : KD} {R : Own}, Γ[5]? = some (some (.ref pt)) → Γ[6]? = some (some (num n)) → K (.int (lookI (paidI pl (pastOf b (i + 1))) n)) ((pt, dN (ndI (paidI pl (pastOf b (i + 1))))) :: R) → Ef (tDGet2 (tVar 5) (tVar 6) (tC (.int 0))) Γ ((pt, dN (ndI (paidI pl (pastOf b (i + 1))))) :: R) K := fun h5 h6 hk => by
          refine ef_dget2 (ef_var h5 ⟨pt, rfl, ⟨0, _, rfl, .inr ⟨_, rfl⟩⟩, ef_var h6 (ef_int ⟨0, _, _, rfl, isK_num _ n, ?_⟩)⟩)
          rw [getD_ndI]
          exact hk
        refine gf_name (sf_if (tf_test (ef_I0b (rdG rfl rfl (ef_dget (ef_var rfl (ef_var rfl ⟨po, 2, _, _, rfl, rfl, isK_own b n hnk, _, _, rfl, rfl, _, rfl, fun ht => ?_, fun ht => ?_⟩)))))))
        · have hlt := of_decide_eq_true ht
          rw [if_pos hlt] at estep
          refine sf_drop (ef_append (ef_var rfl ⟨p, rfl, ⟨1, _, rfl⟩, ef_tup (af_cons (ef_var rfl (af_cons (ef_var rfl (af_cons (rdG rfl rfl (af_cons (ef_dget (ef_var rfl (ef_var rfl ⟨po, 2, _, _, rfl, rfl, isK_own b n hnk, af_nil ⟨Nat.le_of_ble_eq_true rfl, 1, _, rfl, ?_, ⟨_, rfl, ?_⟩⟩⟩))))))))))⟩))
          · rw [List.length_map, List.length_append]
            have := hpl2 j
            omega
          · show (pt, _) :: (p, C.lst (_ ++ [_])) :: _ = _
            rw [estep, ← List.append_assoc, List.map_append (l₁ := lacksF b pl i ++ part j)]
            rfl
        · have hlt := of_decide_eq_false ht
          rw [if_neg hlt, List.append_nil] at estep
          exact sf_next ⟨_, rfl, by rw [estep]⟩
      · rintro Γ' O' ⟨z, rfl, rfl⟩
        refine ⟨_, wk_drop _ _, _, _, _, rfl, ?_⟩
        rw [List.length_map, hall]
        rfl
    · rintro Γ' O' ⟨x, y, z, rfl, rfl⟩
      refine ⟨_, _, _, rfl, ?_⟩
      have e : ((rows.length : Int) + 1 - 1).toNat = pl.length := by omega
      rw [e]
      rfl
  · rintro Γ' O' ⟨x, y, z, rfl, rfl⟩
    refine sf_ret_frz (ef_var rfl (.inr ⟨p, _, _, rfl, ?_⟩))
    rw [frz_self]
    exact ⟨O, wk_drop _ _, hK⟩
/-! ### plans let by -/
def pNumT : Pre := fun ds O Kd => ∃ (n : Num), ds = [num n] ∧ n ≠ [] ∧ n.length ≤ 100 ∧ Kd (.bl true) O
def pWholeT : Pre := fun ds O Kd => ∃ (v m : Int), ds = [.int v, .int m] ∧ 0 ≤ v ∧ v ≤ m ∧ Kd (.bl true) O
def PayW (q : Pay) : Prop := q.1 ≠ [] ∧ q.1.length ≤ 100 ∧ 0 ≤ q.2 ∧ q.2 ≤ 1000000000000000000
def pRowT : Pre := fun ds O Kd => ∃ (d : D) (r : List Pay), ds = [d] ∧ IsL O d (r.map payD) ∧ r.length ≤ 100000 ∧ (∀ q ∈ r, PayW q) ∧ Kd (.bl true) O
def PlW (pl : List (List Pay)) : Prop := ∀ r ∈ pl, r.length ≤ 10000 ∧ ∀ q ∈ r, PayW q
def pPlanT : Pre := fun ds O Kd => ∃ (b : Bk) (d : D) (pl : List (List Pay)), ds = [bookD b, d] ∧ PlanAt O d pl ∧ pl.length = b.deeds.length ∧ pl.length ≤ 64 ∧ PlW pl ∧ Kd (.bl true) O
def pLetBy : Pre := fun ds O Kd => ∃ (b : Bk) (d : D) (pl : List (List Pay)), ds = [bookD b, d] ∧ WfB b ∧ PlanAt O d pl ∧ pl.length = b.deeds.length ∧ PlW pl ∧ Kd (.bl (lacksOf b pl).isEmpty) O
theorem sf_is_whole (ds : List D) (O : Own) (Kd : KD) (hl : ds.length = 2) (h : pWholeT ds O Kd) : Sf (tis_whole Kf P w) (args ds 2) O { nx := fun _ O' => Kd .non O', rt := Kd } := by
  obtain ⟨v, m, rfl, h0, h1, hK⟩ := h
  show Sf _ [some (.int v), some (.int m)] O _
  refine sf_ret (ef_andV (ef_isi (ef_var rfl ⟨_, true, .int v, by decide +kernel, _, rfl, fun _ => ef_andV (ef_notV (ef_isi (ef_var rfl ⟨_, false, .int v, by decide +kernel, _, rfl, _, rfl, fun _ => ef_chain (ef_int (ef_var rfl ⟨_, _, rfl, rfl, fun _ => ef_var rfl ⟨_, rfl, ?_⟩, fun z => ?_⟩)), fun z => ?_⟩))), fun z => ?_⟩)))
  · rw [decide_eq_true h1]
    exact hK
  · rw [decide_eq_true h0] at z
    cases z
  · cases z
  · cases z
theorem sf_is_num (ds : List D) (O : Own) (Kd : KD) (hl : ds.length = 1) (h : pNumT ds O Kd) : Sf (tis_own_number Kf P w) (args ds 2) O { nx := fun _ O' => Kd .non O', rt := Kd } := by
  obtain ⟨n, rfl, hn, hlen, hK⟩ := h
  show Sf _ [some (num n), none] O _
  have hp := List.length_pos_iff.mpr hn
  refine sf_cut (fun Γ' O' => Γ' = [some (num n), none] ∧ O' = O) ?_ ?_
  · refine sf_ifB false (tf_or (tf_not (tf_B (ef_isi (ef_var rfl ⟨_, true, .tup _, by decide +kernel, _, rfl, fun _ => tf_not (tf_test (ef_chain (ef_int (ef_len (ef_var rfl ⟨_, .inr rfl, _, _, rfl, rfl, fun _ => ef_int ⟨_, rfl, _, rfl, ?_, rfl⟩, fun z => ?_⟩))))), fun z => ?_⟩))))) (fun z => by cases z) (fun _ => sf_next ⟨rfl, rfl⟩)
    · rw [List.length_map]
      have : decide ((n.length : Int) ≤ 100) = true := decide_eq_true (by omega)
      rw [this]
      rfl
    · rw [List.length_map] at z
      have : decide ((1 : Int) ≤ (n.length : Int)) = true := decide_eq_true (by omega)
      rw [this] at z
      cases z
    · cases z
  · rintro Γ' O ⟨rfl, rfl⟩
    refine sf_ret (ef_all (ef_lcT gok_name (ef_var rfl ⟨_, rfl, turns_typed n (List.length_map _).symm (by rw [List.length_map]; omega) (fun _ => true) (fun _ => .bl true) trivial (fun i hi acc Dl => ?_) (.inl ⟨n.map fun _ => true, ?_, ?_⟩)⟩)))
    · rw [map_getD n D.int hi]
      exact gf_name (tf_yes ⟨rfl, rfl, fun _ => ef_andV (ef_isi (ef_var rfl ⟨_, true, .int _, by decide +kernel, _, rfl, fun _ => ef_notV (ef_isi (ef_var rfl ⟨_, false, .int _, by decide +kernel, _, rfl, rfl, rfl⟩)), fun z => (by cases z)⟩))⟩)
    · rw [filter_true, List.map_map]
      exact .im _
    · have : (n.map fun _ => true).all id = true := by rw [List.all_map]; exact List.all_eq_true.mpr fun _ _ => rfl
      rw [this]
      exact hK
theorem sf_is_row (ds : List D) (O : Own) (Kd : KD) (hl : ds.length = 1) (h : pRowT ds O Kd) : Sf (tis_row Kf P w pNumT pWholeT) (args ds 4) O { nx := fun _ O' => Kd .non O', rt := Kd } := by
  obtain ⟨d, r, rfl, hr, hlen, hq, hK⟩ := h
  show Sf _ [some d, none, none, none] O _
  have hall : ∀ {α : Type} (l : List α), (l.map fun _ => true).all id = true := fun l => by rw [List.all_map]; exact List.all_eq_true.mpr fun _ _ => rfl
  refine sf_cut (fun Γ' O' => Γ' = [some d, none, none, none] ∧ O' = O) ?_ ?_
  · refine sf_ifB false (tf_or (tf_not (tf_B (ef_isi (ef_var rfl ⟨_, true, hr.ty, by decide +kernel, _, rfl, fun _ => tf_test (ef_I0b (ef_len (ef_var rfl ⟨_, .inl hr, ef_int ⟨_, _, rfl, rfl, _, rfl, ?_, rfl⟩⟩))), fun z => ?_⟩))))) (fun z => by cases z) (fun _ => sf_next ⟨rfl, rfl⟩)
    · rw [List.length_map]
      exact decide_eq_false (by omega)
    · cases z
  · rintro Γ' O ⟨rfl, rfl⟩
    refine sf_cut (fun Γ' O' => Γ' = [some d, none, none, none] ∧ O' = O) ?_ ?_
    · refine sf_ifB false (tf_not (tf_B (ef_all (ef_lcLt gok_name (ef_var rfl ⟨Pay, r, payD, fun _ => true, fun _ => .bl true, hr, by omega, fun q hq acc Dl => gf_name (tf_yes ⟨rfl, rfl, fun _ => ef_andV (ef_isi (ef_var rfl ⟨_, true, .tup _, by decide +kernel, _, rfl, fun _ => ef_eqS (ef_len (ef_var rfl ⟨_, .inr rfl, ef_int ⟨rfl, rfl, rfl⟩⟩)), fun z => (by cases z)⟩))⟩), .inl ⟨r.map fun _ => true, ?_, _, rfl, ?_, rfl⟩⟩))))) (fun z => by cases z) (fun _ => sf_next ⟨rfl, rfl⟩)
      · rw [filter_true, List.map_map]
        exact .im _
      · rw [hall]
        rfl
    · rintro Γ' O ⟨rfl, rfl⟩
      refine sf_ret (ef_all (ef_lcLt gok2 (ef_var rfl ⟨Pay, r, payD, fun _ => true, fun _ => .bl true, hr, by omega, fun q hq2 acc Dl => gf_tup rfl (gfs_cons (gf_name (gfs_cons (gf_name (gfs_nil (tf_yes ⟨rfl, rfl, fun _ => ef_andV (ef_call (af_cons (ef_var rfl (af_nil ⟨rfl, q.1, rfl, (hq q hq2).1, (hq q hq2).2.1, _, rfl, fun _ => ef_call (af_cons (ef_var rfl (af_cons (ef_int (af_nil ⟨rfl, q.2, _, rfl, (hq q hq2).2.2.1, (hq q hq2).2.2.2, rfl, rfl⟩))))), fun z => (by cases z)⟩))))⟩)))))), .inl ⟨r.map fun _ => true, ?_, ?_⟩⟩)))
      · rw [filter_true, List.map_map]
        exact .im _
      · rw [hall]
        exact hK
theorem sf_is_plan (ds : List D) (O : Own) (Kd : KD) (hl : ds.length = 2) (h : pPlanT ds O Kd) : Sf (tis_plan Kf P w pRowT) (args ds 3) O { nx := fun _ O' => Kd .non O', rt := Kd } := by
  obtain ⟨b, d, pl, rfl, ⟨rows, q1, q2, q3⟩, hpl, hlen, hw, hK⟩ := h
  show Sf _ [some (bookD b), some d, none] O _
  refine sf_ret (ef_andV (ef_isi (ef_var rfl ⟨_, true, q1.ty, by decide +kernel, _, rfl, fun _ => ef_andV (ef_eqS (ef_len (ef_var rfl ⟨_, .inl q1, ef_len (ef_deeds rfl ⟨_, .inl (.im _), rfl, _, rfl, fun _ => ef_all (ef_lcL gok_name (ef_var rfl ⟨rows, q1, turns_typed pl q2.symm (by omega) (fun _ => true) (fun _ => .bl true) q1 (fun i hi acc Dl => ?_) (.inl ⟨pl.map fun _ => true, ?_, ?_⟩)⟩)), fun z => ?_⟩)⟩))), fun z => ?_⟩)))
  · exact gf_name (tf_yes ⟨rfl, rfl, fun _ => ef_call (af_cons (ef_var rfl (af_nil ⟨rfl, _, _, rfl, (q3 i hi).cons _, by have := (hw _ (List.getElem_mem hi)).1; omega, (hw _ (List.getElem_mem hi)).2, rfl, rfl⟩)))⟩)
  · rw [filter_true, List.map_map]
    exact .im _
  · have : (pl.map fun _ => true).all id = true := by rw [List.all_map]; exact List.all_eq_true.mpr fun _ _ => rfl
    rw [this]
    exact hK
  · have e : eqD (.int (rows.length : Int)) (.int ((b.deeds.map deedD).length : Int)) = true := decide_eq_true (by rw [List.length_map]; omega)
    rw [e] at z
    cases z
  · cases z
theorem pdL_lks {O : Own} : ∀ l : List LK, PdL O (l.map lkD) (l.map fun r => .tuple [.int r.1, pyNum r.2.1, .int r.2.2.1, .int r.2.2.2])
  | [] => .nil
  | r :: l => .cons (.tup (.cons (.int _) (.cons (pd_num _) (.cons (.int _) (.cons (.int _) .nil))))) (pdL_lks l)
def pyLks (l : List LK) : PyData := .list (l.map fun r => .tuple [.int r.1, pyNum r.2.1, .int r.2.2.1, .int r.2.2.2])
theorem shaped_lks (l : List LK) : SeqAt.shaped (pyLks l) = true ∧ (pyLks l).canLay0 = true := by
  have h : ∀ l : List LK, PyData.canLayAll0 (l.map fun r => .tuple [.int r.1, pyNum r.2.1, .int r.2.2.1, .int r.2.2.2]) = true ∧ PyData.depthAll (l.map fun r => .tuple [.int r.1, pyNum r.2.1, .int r.2.2.1, .int r.2.2.2]) ≤ 2 := by
    intro l
    induction l with
    | nil => exact ⟨rfl, by decide⟩
    | cons r l ih =>
      refine ⟨?_, ?_⟩
      · show ((true && ((pyNum r.2.1).canLay0 && (true && (true && true)))) && PyData.canLayAll0 _) = true
        rw [ih.1, canLay_num]
        rfl
      · show max (max 0 (max (pyNum r.2.1).depth (max 0 (max 0 0))) + 1) (PyData.depthAll _) ≤ 2
        rw [depth_num]
        have := ih.2
        omega
  have hc : (pyLks l).canLay0 = true := (h l).1
  refine ⟨?_, hc⟩
  unfold SeqAt.shaped
  rw [Bool.and_eq_true]
  refine ⟨hc, decide_eq_true ?_⟩
  show PyData.depthAll _ + 1 ≤ 64
  have := (h l).2
  omega
theorem eqv_lks_nil (l : List LK) : PyData.eqv (pyLks l) (.list []) = l.isEmpty := by
  cases l <;> rfl
theorem sf_is_let_by (ds : List D) (O : Own) (Kd : KD) (hl : ds.length = 2) (h : pLetBy ds O Kd) : Sf (tis_let_by Kf P w pPlanT pLacking) (args ds 2) O { nx := fun _ O' => Kd .non O', rt := Kd } := by
  obtain ⟨b, d, pl, rfl, W, hp, hpl, hw, hK⟩ := h
  show Sf _ [some (bookD b), some d] O _
  have hdl := W.dl
  refine sf_wk (sf_ret (ef_andV (ef_call (af_cons (ef_var rfl (af_cons (ef_var rfl (af_nil ⟨rfl, b, d, pl, rfl, hp, hpl, by omega, hw, _, rfl, fun _ => ef_eqP (ef_call (af_cons (ef_var rfl (af_cons (ef_var rfl (af_nil ⟨rfl, b, d, pl, rfl, W, hp, fun r hr => (hw r hr).1, hpl, fun p => ef_lst (af_nil ⟨by decide, pyLks (lacksOf b pl), _, .own 0 rfl (pdL_lks _), .lst .nil, (shaped_lks _).1, rfl, ?_⟩)⟩)))))), fun z => ?_⟩))))))))
  · rw [eqv_lks_nil]
    exact ⟨O, wk_drop _ _, hK⟩
  · cases z
end
end OW

/-! the law on what is lacking -/
namespace OW
open PySem PySem.Spec PyProof.Rows L2
local macro_rules | `(tactic| walk_at "ow") => `(tactic| first
  | with_reducible refine sf_seq ?_
  | with_reducible refine sf_asg ?_
  | with_reducible refine sf_drop ?_
  | with_reducible refine sf_ret ?_
  | with_reducible refine sf_next ?_
  | (with_reducible apply ef_var; rfl)
  | with_reducible refine ef_int ?_
  | with_reducible refine ef_bl ?_
  | with_reducible refine ef_non ?_
  | with_reducible refine gf_name ?_
  | with_reducible refine gfs_nil ?_
  | with_reducible refine gfs_cons ?_
  | (with_reducible refine gf_tup ?_ ?_; rfl)
  | with_reducible refine tf_test ?_
  | with_reducible refine tf_yes ?_
  | with_reducible refine tf_B ?_
  | with_reducible refine af_cons ?_
  | with_reducible refine af_nil ?_
  | with_reducible refine ef_call ?_
  | with_reducible refine ef_I0i ?_
  | with_reducible refine ef_I0b ?_
  | with_reducible refine ef_I ?_
  | with_reducible refine ef_neg ?_
  | with_reducible refine ef_ixL ?_
  | with_reducible refine ef_ixT ?_
  | with_reducible refine ef_len ?_
  | with_reducible refine ef_tup ?_)
def pDrawn : Pre := fun ds O Kd => ∃ (a : Addr) (b : Bk), ds = [.ref a, bookD b] ∧ WfB b ∧ SmB b ∧ HasDice O a 2000 ∧ ∀ pl, pl.length = b.deeds.length → PlOk 0 pl → Kd (planD pl) (tick 2000 O)
/-- plans, each known or with owned rows -/
def PlansAt (O : Own) (ds : List D) (pls : List (List (List Pay))) : Prop := ds.length = pls.length ∧ ∀ i (h : i < pls.length), PlanAt O (ds.getD i .non) pls[i]
theorem PlansAt.cons {O : Own} {ds : List D} {pls : List (List (List Pay))} (h : PlansAt O ds pls) (p : Addr × C) : PlansAt (p :: O) ds pls := ⟨h.1, fun i hi => (h.2 i hi).cons p⟩
theorem PlansAt.app {O : Own} {ds : List D} {pls : List (List (List Pay))} (h : PlansAt O ds pls) (X : Own) : PlansAt (X ++ O) ds pls := ⟨h.1, fun i hi => (h.2 i hi).app X⟩
theorem PlansAt.tick {O : Own} {ds : List D} {pls : List (List (List Pay))} {n : Nat} (h : PlansAt O ds pls) : PlansAt (tick n O) ds pls := ⟨h.1, fun i hi => (h.2 i hi).tick⟩
theorem PlansAt.snoc {O : Own} {ds : List D} {pls : List (List (List Pay))} (h : PlansAt O ds pls) {d : D} {pl : List (List Pay)} (hp : PlanAt O d pl) : PlansAt O (ds ++ [d]) (pls ++ [pl]) := by
  refine ⟨by rw [List.length_append, List.length_append, h.1]; rfl, fun i hi => ?_⟩
  rw [List.length_append] at hi
  have hi : i < pls.length + 1 := hi
  have h1 := h.1
  by_cases e : i < pls.length
  · rw [List.getElem_append_left e, List.getD_eq_getElem?_getD, List.getElem?_append_left (by omega), ← List.getD_eq_getElem?_getD]
    exact h.2 i e
  · obtain rfl : i = pls.length := by omega
    rw [List.getElem_append_right (Nat.le_refl _), List.getD_eq_getElem?_getD, List.getElem?_append_right (by omega)]
    have e2 : pls.length - ds.length = 0 := by omega
    rw [e2]
    simpa using hp
theorem pd_plans {O : Own} : ∀ {ds : List D} {pls : List (List (List Pay))}, PlansAt O ds pls → PdL O ds (pls.map pyPlan)
  | [], [], _ => .nil
  | [], _ :: _, h => by cases h.1
  | _ :: _, [], h => by cases h.1
  | d :: ds, pl :: pls, h => .cons (pd_plan (h.2 0 (Nat.succ_pos _))) (pd_plans ⟨Nat.succ.inj h.1, fun i hi => h.2 (i + 1) (Nat.succ_lt_succ hi)⟩)
def pyBP (b : Bk) (pls : List (List (List Pay))) : PyData := .list [pyBook b, .list (pls.map pyPlan)]
theorem sh_plan8 {t : Nat} {pl : List (List Pay)} (h : PlOk t pl) (ht : t ≤ 10) (hl : pl.length ≤ 8) : Sh (pyPlan pl) 700000 4 := by
  refine (sh_list (m := 8) (n := 86944) (k := 3) (fun x hx => ?_) ?_).up (by decide) (by decide)
  · obtain ⟨r, hr, rfl⟩ := List.mem_map.mp hx
    refine (sh_list (m := 30) (n := 2896) (k := 2) (fun x hx => ?_) ?_).up (by decide) (by decide)
    · obtain ⟨q, hq, rfl⟩ := List.mem_map.mp hx
      exact sh_pay ((h r hr).pay q hq) ht
    · rw [List.length_map]
      have := (h r hr).len
      omega
  · rw [List.length_map]
    exact hl
theorem sh_bp {b : Bk} (W : WfB b) (S : SmB b) {pls : List (List (List Pay))} (hl : pls.length ≤ 9) (h : ∀ pl ∈ pls, pl.length = b.deeds.length ∧ PlOk 8 pl) : Sh (pyBP b pls) 16000000 7 := by
  refine (sh_list (m := 2) (n := 6300022) (k := 6) (fun x hx => ?_) (Nat.le_refl _)).up (by decide) (by decide)
  have hdl := S.dl
  rcases List.mem_cons.mp hx with rfl | hx
  · exact (sh_book W S).up (by decide) (by decide)
  · obtain rfl := List.mem_singleton.mp hx
    refine (sh_list (m := 9) (n := 700000) (k := 4) (fun x hx => ?_) (by rw [List.length_map]; exact hl)).up (by decide) (by decide)
    obtain ⟨pl, hpl, rfl⟩ := List.mem_map.mp hx
    exact sh_plan8 (h pl hpl).2 (by decide) (by have := (h pl hpl).1; omega)
theorem PlOk.mono {s t : Nat} {pl : List (List Pay)} (h : PlOk s pl) (hst : s ≤ t) : PlOk t pl := fun r hr => by
  have hz := h r hr
  refine ⟨by have := hz.len; omega, fun q hq => ?_⟩
  have hq2 := hz.pay q hq
  exact ⟨hq2.num.up (by omega), hq2.lo, by have := hq2.hi; omega⟩
theorem PlOk.w {pl : List (List Pay)} (h : PlOk 8 pl) : PlW pl := fun r hr => ⟨by have := (h r hr).len; omega, fun q hq => by
  have hz := (h r hr).pay q hq
  refine ⟨hz.num.ne, by have := hz.num.len; omega, hz.lo, by have := hz.hi; omega⟩⟩
section
variable {Kf : PySem.W.Frag} {P : Program} {w : World}
theorem sf_drawn (ds : List D) (O : Own) (Kd : KD) (hl : ds.length = 2) (h : pDrawn ds O Kd) : Sf (t_law_drawn_plan Kf P w pRoll pOwn pPick) (args ds 9) O { nx := fun _ O' => Kd .non O', rt := Kd } := by
  obtain ⟨a, b, rfl, W, S, hd, hK⟩ := h
  show Sf _ [some (.ref a), some (bookD b), none, none, none, none, none, none, none] O _
  unfold t_law_drawn_plan
  have hkl := S.kl
  have hdl := S.dl
  refine sf_wk (sf_seq (sf_asg (ef_cat (ef_lcLt gok3 (ef_known rfl ⟨Kn, b.known, knD, fun _ => true, fun k => num k.1, .im _, kl_lt W, fun k hk acc Dl => gf_kn (tf_yes ⟨rfl, rfl, fun _ => ef_var rfl ⟨rfl, rfl⟩⟩), .inl (ef_lst (af_cons (ef_tup (af_cons (ef_int (af_cons (ef_int (af_nil ⟨Nat.le_of_ble_eq_true rfl, af_nil ⟨Nat.le_of_ble_eq_true rfl, _, [num [5, 5]], .im _, .im _, ?_, .inl (gf_name ?_)⟩⟩))))))))⟩)))))
  · rw [filter_true, List.length_map]
    show _ + 1 ≤ _
    omega
  have en : (b.known.filter fun _ => true).map (fun k => num k.1) ++ [num [5, 5]] = ((b.known.map fun k => k.1) ++ ([[5, 5]] : List Num)).map num := by
    rw [filter_true, List.map_append, List.map_map]
    rfl
  rw [en]
  generalize hns : (b.known.map fun k => k.1) ++ ([[5, 5]] : List Num) = ns
  have hns1 : ns.length ≤ 11 := by
    rw [← hns, List.length_append, List.length_map]
    show _ + 1 ≤ _
    omega
  have hns0 : ns ≠ [] := fun z => by
    have := congrArg List.length z
    rw [← hns, List.length_append] at this
    cases this
  have hok : ∀ n ∈ ns, NumOk 4 n := fun n hn => by
    rw [← hns] at hn
    rcases List.mem_append.mp hn with m | m
    · exact known_ok S m
    · obtain rfl := List.mem_singleton.mp m
      exact ⟨by decide, by decide, by decide⟩
  refine sf_seq (sf_asg (ef_lstO (af_nil ⟨by decide, fun pf => gf_name ?_⟩)))
  refine sf_cut (fun Γ' O' => ∃ x8 x7 pl, Γ' = [some (.ref a), some (bookD b), some (.lst (ns.map num)), none, none, none, some (.ref pf), x7, x8] ∧ O' = (pf, .lst (pl.map fun r : List Pay => D.lst (r.map payD))) :: tick (100 * b.deeds.length) O ∧ pl.length = b.deeds.length ∧ PlOk 0 pl) ?_ ?_
  · refine sf_forL (ef_deeds rfl ⟨_, fun i Γ' O' => ∃ x8 x7 pl, Γ' = [some (.ref a), some (bookD b), some (.lst (ns.map num)), none, none, none, some (.ref pf), x7, x8] ∧ O' = (pf, .lst (pl.map fun r : List Pay => D.lst (r.map payD))) :: tick (100 * i) O ∧ pl.length = i ∧ PlOk 0 pl, .im _, ⟨_, _, [], rfl, by rw [Nat.mul_zero, tick_zero]; rfl, rfl, fun r hr => by cases hr⟩, fun _ _ _ _ _ => .im _, ?_, ?_⟩)
    · rintro i Γ' O' hi ⟨x8, x7, pl, rfl, rfl, rfl, hpo⟩
      rw [List.length_map] at hi
      refine gf_name (sf_wk (sf_drop (ef_append (ef_var rfl ⟨pf, rfl, ⟨0, _, rfl⟩, ef_lcR gok_name (ef_call (af_cons (ef_var rfl (af_cons (ef_int (af_nil ⟨rfl, a, 5, rfl, (HasDice.tick (hd.less ?_)).cons _, by decide, by decide, fun r r0 r1 => ?_⟩))))))⟩))))
      · omega
      have et : tick 1 ((pf, C.lst (pl.map fun r : List Pay => D.lst (r.map payD))) :: tick (100 * pl.length) O) = (pf, C.lst (pl.map fun r : List Pay => D.lst (r.map payD))) :: tick (100 * pl.length + 1) O := by
        rw [tick_cons, tick_tick]
        rfl
      rw [et]
      refine ⟨r, rfl, by omega, fun j acc O' => ∃ row : List Pay, acc = row.map payD ∧ row.length = j ∧ (∀ q ∈ row, PayOk 0 q) ∧ O' = (pf, C.lst (pl.map fun r : List Pay => D.lst (r.map payD))) :: tick (100 * pl.length + 1 + 4 * j) O, ⟨[], rfl, rfl, fun q hq => (by cases hq), rfl⟩, ?_, ?_, ?_⟩
      · rintro j acc O' hj ⟨row, rfl, rfl, _, rfl⟩
        refine ⟨trivial, ?_⟩
        rw [List.length_map]
        omega
      · rintro j acc O' Dl hj ⟨row, rfl, rfl, hrow, rfl⟩
        refine gf_name (tf_yes ?_)
        rw [if_pos rfl]
        refine ef_tup (af_cons (ef_call (af_cons (ef_var rfl (af_cons (ef_var rfl (af_nil ⟨rfl, a, _, _, rfl, .im _, ?_, ?_, ((HasDice.tick (hd.less ?_)).cons _).cons _, fun x hx => ?_⟩)))))))
        · intro z
          rw [List.map_eq_nil_iff] at z
          exact hns0 z
        · rw [List.length_map]
          omega
        · omega
        obtain ⟨n, hn, rfl⟩ := List.mem_map.mp hx
        refine af_cons (ef_call (af_cons (ef_var rfl (af_nil ⟨rfl, a, rfl, ?_, fun v v0 v1 => af_nil ⟨Nat.le_of_ble_eq_true rfl, ?_⟩⟩))))
        · exact HasDice.tick (((HasDice.tick (hd.less (by omega))).cons _).cons _)
        · refine ⟨(pf, C.lst (pl.map fun r : List Pay => D.lst (r.map payD))) :: tick 3 (tick 1 (tick (100 * pl.length + 1 + 4 * row.length) O)), rfl, row ++ [(n, v)], ?_, ?_, fun q hq => ?_, ?_⟩
          · rw [List.map_append]
            rfl
          · rw [List.length_append]
            rfl
          · rcases List.mem_append.mp hq with m | m
            · exact hrow q m
            · obtain rfl := List.mem_singleton.mp m
              exact ⟨hok n hn, v0, by show v ≤ _; omega⟩
          · rw [tick_tick, tick_tick]
            congr 2
      · rintro acc O' ⟨row, rfl, hrl, hrow, rfl⟩
        refine .inl ⟨0, _, rfl, ?_, (pf, C.lst ((pl ++ [row]).map fun r : List Pay => D.lst (r.map payD))) :: tick (100 * (pl.length + 1)) O, ?_, _, _, pl ++ [row], rfl, rfl, ?_, ?_⟩
        · rw [List.length_map]
          omega
        · show Wk ((pf, C.lst (_ ++ [_])) :: tick _ O) _
          rw [List.map_append]
          exact wk_tick_tail (by omega) _ _
        · rw [List.length_append]
          rfl
        · intro r hr
          rcases List.mem_append.mp hr with m | m
          · exact hpo r m
          · obtain rfl := List.mem_singleton.mp m
            exact ⟨by omega, hrow⟩
    · rintro Γ' O' ⟨x8, x7, pl, rfl, rfl, hpl, hpo⟩
      rw [List.length_map] at hpl ⊢
      exact ⟨_, _, pl, rfl, rfl, hpl, hpo⟩
  · rintro Γ' O' ⟨x8, x7, pl, rfl, rfl, hpl, hpo⟩
    refine sf_ret_frz (ef_var rfl (.inr ⟨pf, _, _, rfl, ?_⟩))
    rw [frz_self]
    exact ⟨tick 2000 O, wk_ticks (by omega) O, hK pl hpl hpo⟩
theorem sf_turns61 (a : Addr) : Sf (tSeq (tFor (iRng1 (tCons (tC (.int 2)) tNil)) (gName 2) (tSeq (tAsg (tCall (Fsp 1 pLedger) [] E0 (tCons (tVar 1) tNil)) (gName 3))
  (tSeq (tAsg (tLst (tCons (tCall (Fsp 1 pLLate) [] E0 (tCons (tVar 3) tNil)) (tCons (tLc (iList Kf (tOp (rIxT Kf) (tVar 3) (tC (.int 0)))) (gName 5) tYes (tLst tNil) [5]) (tCons (tCall (Fsp 2 pDrawn) [] E0 (tCons (tVar 1) (tCons (tVar 3) tNil))) tNil)))) (gName 4))
  (tSeq (tFor (iRng1 (tCons (tOp rMul (tC (.int 6)) (tCB (fun xs H Q => (∃ i, xs = [.int i] ∧ Q (.int i) H) ∨ ∃ k, xs = [.bl k] ∧ Q (.int (if k then 1 else 0)) H) (tCons (tOp (rNeD Kf) (tOp (rIxT Kf) (tVar 3) (tC (.int 0))) (tLst tNil)) tNil))) tNil)) (gName 6) (tSeq (tAsg (tCall (Fsp 2 pPick) [] E0 (tCons (tVar 1) (tCons (tLst (tCons (tOp (rIxL Kf) (tVar 4) (tC (.int 0))) (tCons (tOp (rIxL Kf) (tVar 4) (tC (.int 0))) (tCons (tOp (rIxL Kf) (tVar 4) (tUn (rU fun i => .int (-i)) (tC (.int 1)))) tNil)))) tNil))) (gName 7))
  (tDrop (tBM Kf "list" rAppend (tVar 4) (tCons (tCall (Fsp 3 pBent) [] E0 (tCons (tVar 1) (tCons (tVar 7) (tCons (tLc (iList Kf (tOp (rIxT Kf) (tVar 3) (tC (.int 1)))) (gTup Kf 3 (gCons (gName 8) (gCons (gName 9) (gCons (gName 10) gNil)))) tYes (tVar 8) [8, 9, 10]) tNil)))) tNil)))))
  (tSeq (tAsg (tCB (rRepr Kf) (tCons (tLst (tCons (tVar 3) (tCons (tVar 4) tNil))) tNil)) (gName 11))
  (tSeq (tFor (iList Kf (tVar 4)) (gName 12) (tSeq (tAsg (tCall (Fsp 2 pLLacks) [] E0 (tCons (tVar 3) (tCons (tVar 12) tNil))) (gName 13))
  (tSeq (tAsg (tCall (Fsp 2 pLacking) [] E0 (tCons (tVar 3) (tCons (tVar 12) tNil))) (gName 14))
  (tSeq (tIfS (tOr (tNot (tB (tCB (rIsi Kf) (tCons (tVar 14) (tCons (tC (.ty "list")) tNil))))) (tOr (tTest (tOp (rNeD Kf) (tVar 14) (tVar 13))) (tTest (tOp rNe (tCall (Fsp 2 pLetBy) [] E0 (tCons (tVar 3) (tCons (tVar 12) tNil))) (tOp (rEqD Kf) (tVar 13) (tLst tNil)))))) (tRet (tC (.bl false))) tNext)
  (tSeq (tDrop (tBM Kf "list" rAppend (tVar 14) (tCons (tC (.int 0)) tNil)))
  (tIfS (tTest (tOp (rNeD Kf) (tCall (Fsp 2 pLacking) [] E0 (tCons (tVar 3) (tCons (tVar 12) tNil))) (tVar 13))) (tRet (tC (.bl false))) tNext))))))
  (tIfS (tTest (tOp rNe (tCB (rRepr Kf) (tCons (tLst (tCons (tVar 3) (tCons (tVar 4) tNil))) tNil)) (tVar 11))) (tRet (tC (.bl false))) tNext)))))))
  (tRet (tC (.bl true)))) (none :: some (.ref a) :: List.replicate 13 none) [(a, .dice 0)] { nx := fun _ _ => False, rt := fun d _ => d = .bl true } := by
  refine sf_cut (fun Γ' O' => True) ?_ (fun _ _ _ => sf_ret (ef_bl rfl))
  refine sf_forR1 (ef_int ⟨2, fun i Γ' O' => ∃ x2 x3 x4 x5 x6 x7 x8 x9 x10 x11 x12 x13 x14, ∃ n, Γ' = [none, some (.ref a), x2, x3, x4, x5, x6, x7, x8, x9, x10, x11, x12, x13, x14] ∧ O' = [(a, .dice n)] ∧ n ≤ 20000 * i, rfl, by decide, ⟨_, _, _, _, _, _, _, _, _, _, _, _, _, 0, rfl, rfl, Nat.zero_le _⟩, ?_, fun _ _ _ => trivial⟩)
  rintro i Γ' O' hi ⟨x2, x3, x4, x5, x6, x7, x8, x9, x10, x11, x12, x13, x14, n, rfl, rfl, hn⟩
  have hi : i < 2 := hi
  refine gf_name (sf_wk (sf_seq (sf_asg (ef_call (af_cons (ef_var rfl (af_nil ⟨rfl, a, rfl, hd1 (by omega), fun b W S => gf_name ?_⟩)))))))
  rw [tick_dice]
  have hdl := S.dl
  have hplok : PlOk 0 (lateOf b) := late_plok W S b.deeds.length (Nat.le_refl _)
  have hpll : (lateOf b).length = b.deeds.length := lateF_len b _
  refine sf_seq (sf_asg (ef_lstO (af_cons (ef_call (af_cons (ef_var rfl (af_nil ⟨rfl, b, rfl, W, ?_⟩)))))))
  refine af_cons (ef_lcLt gok_name (ef_deeds rfl ⟨Deed, b.deeds, deedD, fun _ => true, fun _ => .lst [], .im _, by omega, fun q hq acc Dl => gf_name (tf_yes ⟨rfl, rfl, fun _ => ef_lst (af_nil ⟨by decide, rfl, rfl⟩)⟩), .inl ?_⟩))
  refine af_cons (ef_call (af_cons (ef_var rfl (af_cons (ef_var rfl (af_nil ⟨rfl, a, b, rfl, W, S, hd1 (by omega), fun pd hpd hpdo => af_nil ⟨Nat.le_of_ble_eq_true rfl, fun pp => gf_name ?_⟩⟩))))))
  rw [tick_dice, filter_true]
  let emp : List (List Pay) := b.deeds.map fun _ => []
  have hemp : D.lst (b.deeds.map fun _ => .lst []) = planD emp := by
    show _ = D.lst ((b.deeds.map fun _ => ([] : List Pay)).map fun r => D.lst (r.map payD))
    rw [List.map_map]
    rfl
  rw [hemp]
  have hempok : PlOk 0 emp := fun r hr => by
    obtain ⟨x, _, rfl⟩ := List.mem_map.mp hr
    exact ⟨Nat.zero_le _, fun q hq => by cases hq⟩
  -- the plans
  refine sf_cut (fun Γ' O' => ∃ x2 x5 x6 x7 x8 x9 x10 x11 x12 x13 x14, ∃ A m ds pls, Γ' = [none, some (.ref a), x2, some (bookD b), some (.ref pp), x5, x6, x7, x8, x9, x10, x11, x12, x13, x14] ∧ O' = (pp, .lst ds) :: (A ++ [(a, .dice m)]) ∧ m ≤ n + 13000 ∧ PlansAt (A ++ [(a, .dice m)]) ds pls ∧ pls.length ≤ 9 ∧ ∀ pl ∈ pls, pl.length = b.deeds.length ∧ PlOk 8 pl) ?_ ?_
  · refine sf_forR1 (ef_I (ef_int (ef_intB (ef_neP (ef_deeds rfl (ef_lst (af_nil ⟨by decide, _, _, .lst (pdL_deeds b.deeds), .lst .nil, ?_, rfl, .inr ⟨_, rfl, _, _, rfl, rfl, .inl (by decide), ?_⟩⟩)))))))
    · exact (sh_deeds W S).shaped (by decide)
    have ebl : PyData.eqv (.list (b.deeds.map pyDeed)) (.list []) = b.deeds.isEmpty := by cases b.deeds <;> rfl
    rw [ebl]
    refine ⟨_, fun i Γ' O' => ∃ x2 x5 x6 x7 x8 x9 x10 x11 x12 x13 x14, ∃ A m ds pls, Γ' = [none, some (.ref a), x2, some (bookD b), some (.ref pp), x5, x6, x7, x8, x9, x10, x11, x12, x13, x14] ∧ O' = (pp, .lst ds) :: (A ++ [(a, .dice m)]) ∧ m ≤ n + 12000 + 101 * i ∧ PlansAt (A ++ [(a, .dice m)]) ds pls ∧ pls.length = 3 + i ∧ ∀ pl ∈ pls, pl.length = b.deeds.length ∧ PlOk i pl, rfl, ?_, ⟨_, _, _, _, _, _, _, _, _, _, _, [], _, _, [lateOf b, emp, pd], rfl, rfl, Nat.le_refl _, ⟨rfl, fun i hi => ?_⟩, rfl, fun pl hpl => ?_⟩, ?_, ?_⟩
    · split <;> omega
    · match i, hi with
      | 0, _ => exact planAt_pure _ _
      | 1, _ => exact planAt_pure _ _
      | 2, _ => exact planAt_pure _ _
    · rcases List.mem_cons.mp hpl with rfl | hpl
      · exact ⟨hpll, hplok⟩
      · rcases List.mem_cons.mp hpl with rfl | hpl
        · exact ⟨List.length_map _, hempok⟩
        · obtain rfl := List.mem_singleton.mp hpl
          exact ⟨hpd, hpdo⟩
    · rintro i Γ' O' hlt ⟨x2, x5, x6, x7, x8, x9, x10, x11, x12, x13, x14, A, m, ds, pls, rfl, rfl, hm, hpa, hpl, hpok⟩
      have hdn : b.deeds ≠ [] := fun z => by
        rw [z] at hlt
        simp at hlt
      have hlt6 : i < 6 := by
        revert hlt
        split
        · intro hlt; omega
        · intro hlt; omega
      have hdp := List.length_pos_iff.mpr hdn
      have hdsl := hpa.1
      have h0 : atI ds 0 = some (ds.getD 0 .non) := by
        rw [atI_at (Int.le_refl _) rfl (by omega), getD_at (by omega)]
        rfl
      have hm1 : atI ds (-1) = some (ds.getD (ds.length - 1) .non) := by
        have e : ixN ds.length (-1) = some (ds.length - 1) := by
          unfold ixN
          rw [if_neg (by decide), if_pos (by omega)]
          congr 1
          omega
        show (ixN ds.length (-1)).bind (fun j => ds[j]?) = _
        rw [e]
        show ds[ds.length - 1]? = _
        rw [List.getElem?_eq_getElem (by omega), getD_at (by omega)]
      refine gf_name (sf_seq (sf_asg (ef_call (af_cons (ef_var rfl (af_cons (ef_lst (af_cons (ef_ixL (ef_var rfl (ef_int ⟨_, _, _, .own 0 rfl, rfl, h0, af_cons (ef_ixL (ef_var rfl (ef_int ⟨_, _, _, .own 0 rfl, rfl, h0, af_cons (ef_ixL (ef_var rfl (ef_neg (ef_int ⟨_, rfl, _, _, _, .own 0 rfl, rfl, hm1, af_nil ⟨Nat.le_of_ble_eq_true rfl, af_nil ⟨rfl, a, _, _, rfl, .im _, fun z => (by cases z), Nat.le_of_ble_eq_true rfl, ((hd1 (by omega)).app A).cons _, fun x hx => gf_name ?_⟩⟩⟩))))⟩)))⟩)))))))))))
      have et : tick 1 ((pp, C.lst ds) :: (A ++ [(a, C.dice m)])) = (pp, C.lst ds) :: (tick 1 A ++ [(a, C.dice (m + 1))]) := by
        rw [tick_cons, tick_app]
        rfl
      rw [et]
      have hpa1 : PlansAt (tick 1 A ++ [(a, C.dice (m + 1))]) ds pls := by
        have := hpa.tick (n := 1)
        rw [tick_app] at this
        exact this
      have hx2 : ∃ j, ∃ hj : j < pls.length, x = ds.getD j .non := by
        rcases List.mem_cons.mp hx with rfl | hx
        · exact ⟨0, by omega, rfl⟩
        · rcases List.mem_cons.mp hx with rfl | hx
          · exact ⟨0, by omega, rfl⟩
          · obtain rfl := List.mem_singleton.mp hx
            exact ⟨ds.length - 1, by omega, rfl⟩
      obtain ⟨j, hj, rfl⟩ := hx2
      have hplj := hpok _ (List.getElem_mem hj)
      refine sf_drop (ef_append (ef_var rfl ⟨pp, rfl, ⟨0, _, rfl⟩, ef_frame _ (ef_call (af_cons (ef_var rfl (af_cons (ef_var rfl (af_cons (ef_lcLt gok3 (ef_known rfl ⟨Kn, b.known, knD, fun _ => true, fun k => num k.1, .im _, kl_lt W, fun k hk acc Dl => gf_kn (tf_yes ⟨rfl, rfl, fun _ => ef_var rfl ⟨rfl, rfl⟩⟩), .inl ?_⟩))))))))⟩))
      rw [filter_true]
      have ekn : b.known.map (fun k => num k.1) = (b.known.map (·.1)).map num := by
        rw [List.map_map]
        rfl
      rw [ekn]
      have hkl := S.kl
      refine af_nil ⟨rfl, a, _, _, i, _, rfl, hpa1.2 j hj, fun z => ?_, by have := hplj.1; omega, hplj.2, by omega, by rw [List.length_map]; omega, fun n hn => known_ok S hn, (hd1 (by omega)).app _, fun d' X' pl' hp' hl' ho' => ?_⟩
      · have := hplj.1
        rw [z] at this
        have : (0 : Nat) = b.deeds.length := this
        omega
      have e : X' ++ tick 100 (tick 1 A ++ [(a, C.dice (m + 1))]) = (X' ++ tick 100 (tick 1 A)) ++ [(a, .dice (m + 1 + 100))] := by
        rw [tick_app, List.append_assoc]
        rfl
      have hpa2 : PlansAt (X' ++ tick 100 (tick 1 A ++ [(a, C.dice (m + 1))])) ds pls := (hpa1.tick).app X'
      rw [e] at hp' hpa2 ⊢
      refine ⟨0, _, rfl, by omega, _, _, _, _, _, _, _, _, _, _, _, _, _, ds ++ [d'], pls ++ [pl'], rfl, rfl, by omega, hpa2.snoc hp', by rw [List.length_append, hpl]; rfl, fun pl hpl => ?_⟩
      rcases List.mem_append.mp hpl with z | z
      · exact ⟨(hpok pl z).1, (hpok pl z).2.mono (by omega)⟩
      · obtain rfl := List.mem_singleton.mp z
        exact ⟨by rw [hl']; exact hplj.1, ho'⟩
    · rintro Γ' O' ⟨x2, x5, x6, x7, x8, x9, x10, x11, x12, x13, x14, A, m, ds, pls, rfl, rfl, hm, hpa, hpl, hpok⟩
      have hr6 : ((6 : Int) * (if (!b.deeds.isEmpty) = true then 1 else 0)).toNat ≤ 6 := by
        split <;> omega
      exact ⟨_, _, _, _, _, _, _, _, _, _, _, A, m, ds, pls, rfl, rfl, by omega, hpa, by omega, fun pl hpl => ⟨(hpok pl hpl).1, (hpok pl hpl).2.mono (by omega)⟩⟩
  rintro Γ' O' ⟨x2, x5, x6, x7, x8, x9, x10, x11, x12, x13, x14, A, m, ds, pls, rfl, rfl, hm, hpa, hpl, hpok⟩
  have hshb := sh_bp W S hpl hpok
  have hpdb : Pd ((pp, C.lst ds) :: (A ++ [(a, C.dice m)])) (.lst [bookD b, .ref pp]) (pyBP b pls) := .lst (.cons (pd_book _ b) (.cons (.own 0 rfl (pd_plans (hpa.cons _))) .nil))
  refine sf_seq (sf_asg (ef_reprP (ef_lst (af_cons (ef_var rfl (af_cons (ef_var rfl (af_nil ⟨Nat.le_of_ble_eq_true rfl, pyBP b pls, _, _, hpdb, ⟨_, .inl rfl⟩, hshb, by decide, by decide, gf_name ?_⟩))))))))
  refine sf_cut (fun Γ' O' => ∃ x2 x5 x6 x7 x8 x9 x10 x12 x13 x14, Γ' = [none, some (.ref a), x2, some (bookD b), some (.ref pp), x5, x6, x7, x8, x9, x10, some (.str (pyBP b pls).shown), x12, x13, x14] ∧ O' = (pp, .lst ds) :: (A ++ [(a, .dice m)])) ?_ ?_
  · refine sf_forL (ef_var rfl ⟨ds, fun i Γ' O' => ∃ x2 x5 x6 x7 x8 x9 x10 x12 x13 x14, Γ' = [none, some (.ref a), x2, some (bookD b), some (.ref pp), x5, x6, x7, x8, x9, x10, some (.str (pyBP b pls).shown), x12, x13, x14] ∧ O' = (pp, .lst ds) :: (A ++ [(a, .dice m)]), .own 0 rfl, ⟨_, _, _, _, _, _, _, _, _, _, rfl, rfl⟩, ?_, ?_, fun _ _ z => z⟩)
    · rintro i Γ' O' _ ⟨x2, x5, x6, x7, x8, x9, x10, x12, x13, x14, rfl, rfl⟩
      exact .own 0 rfl
    · rintro i Γ' O' hi ⟨x2, x5, x6, x7, x8, x9, x10, x12, x13, x14, rfl, rfl⟩
      have hi2 : i < pls.length := by rw [← hpa.1]; exact hi
      have hpi := hpok _ (List.getElem_mem hi2)
      have hat := (hpa.2 i hi2).cons (pp, .lst ds)
      generalize ds.getD i .non = d at hat ⊢
      generalize pls[i] = pl at hat hpi
      have hw := hpi.2.w
      have hsm : SmallP pl := fun r hr => (hw r hr).1
      refine gf_name (sf_wk (sf_seq (sf_asg (ef_call (af_cons (ef_var rfl (af_cons (ef_var rfl (af_nil ⟨rfl, b, d, pl, rfl, W, hat, hsm, hpi.1, gf_name ?_⟩)))))))))
      refine sf_seq (sf_asg (ef_call (af_cons (ef_var rfl (af_cons (ef_var rfl (af_nil ⟨rfl, b, d, pl, rfl, W, hat, hsm, hpi.1, fun ps => gf_name ?_⟩)))))))
      refine sf_cut (fun Γ' O' => ∃ x2 x5 x6 x7 x8 x9 x10, Γ' = [none, some (.ref a), x2, some (bookD b), some (.ref pp), x5, x6, x7, x8, x9, x10, some (.str (pyBP b pls).shown), some d, some (.lst ((lacksOf b pl).map lkD)), some (.ref ps)] ∧ O' = (ps, .lst ((lacksOf b pl).map lkD)) :: (pp, .lst ds) :: (A ++ [(a, .dice m)])) ?_ ?_
      · refine sf_ifB false (tf_or (tf_not (tf_B (ef_isi (ef_var rfl ⟨_, true, .own 0 rfl, by decide +kernel, _, rfl, fun _ => ?_, fun z => ?_⟩))))) (fun z => by cases z) (fun _ => sf_next ⟨_, _, _, _, _, _, _, rfl, rfl⟩)
        · refine tf_or (tf_test (ef_neP (ef_var rfl (ef_var rfl ⟨pyLks (lacksOf b pl), pyLks (lacksOf b pl), .own 0 rfl (pdL_lks _), .lst (pdL_lks _), (shaped_lks _).1, (shaped_lks _).1, _, rfl, fun _ => ?_, fun z => ?_⟩))))
          · refine tf_test (ef_neS (ef_call (af_cons (ef_var rfl (af_cons (ef_var rfl (af_nil ⟨rfl, b, d, pl, rfl, W, hat.cons _, hpi.1, hw, ef_eqP (ef_var rfl (ef_lst (af_nil ⟨by decide, pyLks (lacksOf b pl), _, .lst (pdL_lks _), .lst .nil, (shaped_lks _).1, rfl, rfl, _, rfl, ?_, rfl⟩)))⟩)))))))
            rw [eqv_lks_nil]
            show (!decide ((lacksOf b pl).isEmpty = (lacksOf b pl).isEmpty)) = false
            rw [decide_eq_true rfl]
            rfl
          · rw [SeqAt.eqv_refl _ (shaped_lks _).2] at z
            cases z
        · cases z
      · rintro Γ' O' ⟨y2, y5, y6, y7, y8, y9, y10, rfl, rfl⟩
        have hll := lacksF_len W (pl := pl) b.deeds.length (Nat.le_refl _)
        have hll2 : (lacksOf b pl).length ≤ 2000 * b.deeds.length := by
          unfold lacksOf
          rw [hpi.1]
          exact hll
        refine sf_seq (sf_drop (ef_append (ef_var rfl ⟨ps, rfl, ⟨0, _, rfl⟩, ef_int ⟨0, _, rfl, by rw [List.length_map]; omega, ?_⟩⟩)))
        refine sf_if (tf_test (ef_neP (ef_call (af_cons (ef_var rfl (af_cons (ef_var rfl (af_nil ⟨rfl, b, d, pl, rfl, W, hat.cons _, hsm, hpi.1, fun p2 => ef_var rfl ⟨pyLks (lacksOf b pl), pyLks (lacksOf b pl), .own 0 rfl (pdL_lks _), .lst (pdL_lks _), (shaped_lks _).1, (shaped_lks _).1, _, rfl, fun z => ?_, fun z => ?_⟩⟩))))))) )
        · rw [SeqAt.eqv_refl _ (shaped_lks _).2] at z
          cases z
        · exact sf_next ⟨_, wk_app [_, _] _, _, _, _, _, _, _, _, _, _, _, rfl, rfl⟩
  · rintro Γ' O' ⟨x2, x5, x6, x7, x8, x9, x10, x12, x13, x14, rfl, rfl⟩
    refine sf_if (tf_test (ef_neS (ef_reprP (ef_lst (af_cons (ef_var rfl (af_cons (ef_var rfl (af_nil ⟨Nat.le_of_ble_eq_true rfl, pyBP b pls, _, _, hpdb, ⟨_, .inl rfl⟩, hshb, by decide, by decide, ef_var rfl ⟨rfl, _, rfl, fun ht => ?_, fun ht => ?_⟩⟩)))))))))
    · have e : eqD (.str (pyBP b pls).shown) (.str (pyBP b pls).shown) = true := decide_eq_true rfl
      rw [e] at ht
      cases ht
    · exact sf_next ⟨_, (wk_drop _ _).trans (wk_app A _), _, _, _, _, _, _, _, _, _, _, _, _, _, m, rfl, rfl, by omega⟩
theorem law_pure {Kf : PySem.W.Frag} {P : Program} {w : World} (v : V) (H : Hp) (Q : VK) (E : XK) (h : spLaw Kf [v] H Q E) : tlaw Kf P w pLedger pDrawn pLLate pPick pBent pLLacks pLacking pLetBy { nx := fun _ H' => Q .non H', rt := Q } (L2.start Nlaw [v]) H :=
  dice_first (r := 13) rfl (fun a => sf_turns61 a) v H Q E h
end
end OW

/-! the walks of the defs (printed by gen.py) -/
namespace OW
open PySem PySem.Spec PyProof.Rows L2
def topS (i : Nat) : Stmt := PySem.Challenge.pw_owedonce_k61_what_is_lacking.main.body.getD i (.Pass ⟨0, 0, 0, 0⟩)
abbrev FnP (K : PySem.W.Frag) (x : Str) (st : Stmt) (f : Addr) (fd : FuncData) : Prop := FunD K x x (defArgs st) (defBody st) (defScope st) [] [] f fd
section
variable {P : Program} {w : World} {K : PySem.W.Frag} {mg : Str → Option Value} {base : Heap}
abbrev spast : Stmt := topS 4
theorem scpast : FnScope Npast ["ledger", "k"] (defScope spast) := ⟨rfl, rfl, rfl, by decide +kernel, rfl, by decide +kernel, by decide +kernel⟩
theorem okpast {f : Addr} {fd : FuncData} (F : FnP K "past" spast f fd) (hm : mg "past" = some (.ref f)) (bu : Bu mg) {Pr : Pre}
    (hsf : ∀ ds O Kd, ds.length = 2 → Pr ds O Kd → Sf (tpast K P w) (args ds 3) O { nx := fun _ O' => Kd .non O', rt := Kd }) : Cal P w K mg base 1 "past" ["ledger", "k"] 2 Pr :=
  mk_ok F scpast rfl hm (F.bindsN fun _ _ _ _ _ _ us hl => match us, hl with | [_, _], _ => rfl) (fun cdv A outer s H E hr =>
  (pss_cons (ps_set (i := 2) scpast.nd rfl (.inl rfl) (pe_lst pa_nil))
  (pss_cons (ps_while PassesOwn.never (pt_cmpR op_gt (pv 1) pe_int (nomark _)) (pss_cons (ps_expr (pe_bm PySem.F.plainAttrs_list PySem.F.slot_list_append PySem.F.type_list_append mt_append (pv 2) (pa_cons (pv 1) pa_nil)))
  (pss_one (ps_set (i := 1) scpast.nd rfl (.inl rfl) (pe_ix ix_tup (pe_ix ix_list (pe_ix ix_tup (pv 0) pe_int (fun _ _ => rfl)) (pe_op op_sub (pv 1) pe_int) (fun _ _ => rfl)) pe_int (fun _ _ => rfl))))))
  (pss_one (ps_ret (pe_revL (pv 2))))))) hsf
abbrev sasks : Stmt := topS 5
theorem scasks : FnScope Nasks ["ledger", "k"] (defScope sasks) := ⟨rfl, rfl, rfl, by decide +kernel, rfl, by decide +kernel, by decide +kernel⟩
theorem okasks {f : Addr} {fd : FuncData} (F : FnP K "asks" sasks f fd) (hm : mg "asks" = some (.ref f)) (bu : Bu mg) {Pr : Pre}
    (hsf : ∀ ds O Kd, ds.length = 2 → Pr ds O Kd → Sf (tasks K P w) (args ds 8) O { nx := fun _ O' => Kd .non O', rt := Kd }) : Cal P w K mg base 1 "asks" ["ledger", "k"] 2 Pr :=
  mk_ok F scasks rfl hm (F.bindsN fun _ _ _ _ _ _ us hl => match us, hl with | [_, _], _ => rfl) (fun cdv A outer s H E hr =>
  (pss_cons (ps_setDcT (i := 2) (own := [("number", 3), ("own", 4), ("asked", 5)]) (g := (gTup K 3 (gCons (gName 3) (gCons (gName 4) (gCons (gName 5) gNil))))) (tt := tYes) (by rfl) (hu0 hr) scasks.nd rfl rfl (sw_trueD rfl rfl rfl (by decide +kernel)) (pi_list (pe_ix ix_tup (pv 0) pe_int (fun _ _ => rfl))) (blkOk_by (N := Nasks) (sc := defScope sasks) (own := [("number", 3), ("own", 4), ("asked", 5)]) (by decide +kernel)) (fun _ _ _ _ _ => (pg_tup rfl (pgs_cons (pg_name (i := 3) scasks.nd rfl (.inl rfl)) (pgs_cons (pg_name (i := 4) scasks.nd rfl (.inl rfl)) (pgs_cons (pg_name (i := 5) scasks.nd rfl (.inl rfl)) pgs_nil))))) (fun _ _ _ _ _ => pts_nil) (fun _ _ _ _ _ => (pv 3)) (fun _ _ _ _ _ => (pv 5)))
  (pss_cons (ps_set (i := 6) scasks.nd rfl (.inl rfl) pe_dnewT)
  (pss_cons (ps_set (i := 7) scasks.nd rfl (.inl rfl) (pe_callTy call_list_of (by rfl) bu.list_ b_list (pa_cons (pe_ix ix_tup (pe_ix ix_list (pe_ix ix_tup (pv 0) pe_int (fun _ _ => rfl)) (pe_op op_sub (pv 1) pe_int) (fun _ _ => rfl)) pe_int (fun _ _ => rfl)) pa_nil)))
  (pss_cons (ps_while PassesOwn.never (pt_cmpR (op_neD hr.units) (pv 7) (pe_lst pa_nil) (nomark _)) (pss_cons (ps_set (i := 3) scasks.nd rfl (.inl rfl) (pe_bm0 PySem.F.plainAttrs_list PySem.F.slot_list_pop PySem.F.type_list_pop mt_pop (pv 7)))
  (pss_one (ps_if (pt_cmp (pc_dnotin (hu_of hr) (pv 3) (pv 6))) (pss_cons (ps_dput (hu_of hr) (pv 6) (pv 3) pe_bl rfl)
  (pss_one (ps_expr (pe_bm PySem.F.plainAttrs_list PySem.F.slot_list_extend PySem.F.type_list_extend mt_extend (pv 7) (pa_cons (pe_dget (hu_of hr) (pv 2) (pv 3) (fun _ _ => rfl)) pa_nil))))) pss_nil))))
  (pss_one (ps_ret (pe_callB (cr_sortD (by rfl)) (by rfl) bu.sorted_ b_sorted (pa_cons (pv 6) pa_nil))))))))) hsf
abbrev sown_steps : Stmt := topS 6
theorem scown_steps : FnScope Nown_steps ["ledger"] (defScope sown_steps) := ⟨rfl, rfl, rfl, by decide +kernel, rfl, by decide +kernel, by decide +kernel⟩
theorem okown_steps {f : Addr} {fd : FuncData} (F : FnP K "own_steps" sown_steps f fd) (hm : mg "own_steps" = some (.ref f)) (bu : Bu mg) {Pr : Pre}
    (hsf : ∀ ds O Kd, ds.length = 1 → Pr ds O Kd → Sf (town_steps K P w) (args ds 4) O { nx := fun _ O' => Kd .non O', rt := Kd }) : Cal P w K mg base 1 "own_steps" ["ledger"] 1 Pr :=
  mk_ok F scown_steps rfl hm (F.bindsN fun _ _ _ _ _ _ us hl => match us, hl with | [_], _ => rfl) (fun cdv A outer s H E hr =>
  (pss_one (ps_ret (pe_dcT (own := [("number", 1), ("own", 2), ("asked", 3)]) (g := (gTup K 3 (gCons (gName 1) (gCons (gName 2) (gCons (gName 3) gNil))))) (tt := tYes) (by rfl) (hu0 hr) scown_steps.nd (pi_list (pe_ix ix_tup (pv 0) pe_int (fun _ _ => rfl))) (blkOk_by (N := Nown_steps) (sc := defScope sown_steps) (own := [("number", 1), ("own", 2), ("asked", 3)]) (by decide +kernel)) (fun _ _ _ _ _ => (pg_tup rfl (pgs_cons (pg_name (i := 1) scown_steps.nd rfl (.inl rfl)) (pgs_cons (pg_name (i := 2) scown_steps.nd rfl (.inl rfl)) (pgs_cons (pg_name (i := 3) scown_steps.nd rfl (.inl rfl)) pgs_nil))))) (fun _ _ _ _ _ => pts_nil) (fun _ _ _ _ _ => (pv 1)) (fun _ _ _ _ _ => (pv 2)))))) hsf
abbrev sis_whole : Stmt := topS 7
theorem scis_whole : FnScope Nis_whole ["thing", "most"] (defScope sis_whole) := ⟨rfl, rfl, rfl, by decide +kernel, rfl, by decide +kernel, by decide +kernel⟩
theorem okis_whole {f : Addr} {fd : FuncData} (F : FnP K "is_whole" sis_whole f fd) (hm : mg "is_whole" = some (.ref f)) (bu : Bu mg) {Pr : Pre}
    (hsf : ∀ ds O Kd, ds.length = 2 → Pr ds O Kd → Sf (tis_whole K P w) (args ds 2) O { nx := fun _ O' => Kd .non O', rt := Kd }) : Cal P w K mg base 1 "is_whole" ["thing", "most"] 2 Pr :=
  mk_ok F scis_whole rfl hm (F.bindsN fun _ _ _ _ _ _ us hl => match us, hl with | [_, _], _ => rfl) (fun cdv A outer s H E hr =>
  (pss_one (ps_ret (pe_and (pe_callB call_isi (by rfl) bu.isinstance_ b_isinstance (pa_cons (pv 0) (pa_cons (pe_bltn (v := .ty "int") (by rfl) bu.int_ b_int rfl) pa_nil))) (pe_and (pe_not (pe_callB call_isi (by rfl) bu.isinstance_ b_isinstance (pa_cons (pv 0) (pa_cons (pe_bltn (v := .ty "bool") (by rfl) bu.bool_ b_bool rfl) pa_nil)))) (pe_one (pe_chain op_le op_le pe_int (pv 0) (pv 1)))))))) hsf
abbrev sis_own_number : Stmt := topS 8
theorem scis_own_number : FnScope Nis_own_number ["thing"] (defScope sis_own_number) := ⟨rfl, rfl, rfl, by decide +kernel, rfl, by decide +kernel, by decide +kernel⟩
theorem okis_own_number {f : Addr} {fd : FuncData} (F : FnP K "is_own_number" sis_own_number f fd) (hm : mg "is_own_number" = some (.ref f)) (gMOST_PARTS : ∃ t, mg "MOST_PARTS" = some (.int 100 t)) (bu : Bu mg) {Pr : Pre}
    (hsf : ∀ ds O Kd, ds.length = 1 → Pr ds O Kd → Sf (tis_own_number K P w) (args ds 2) O { nx := fun _ O' => Kd .non O', rt := Kd }) : Cal P w K mg base 1 "is_own_number" ["thing"] 1 Pr :=
  mk_ok F scis_own_number rfl hm (F.bindsN fun _ _ _ _ _ _ us hl => match us, hl with | [_], _ => rfl) (fun cdv A outer s H E hr =>
  (pss_cons (ps_if (PW.pt (pw_or (pt_not (pt_val (pe_callB call_isi (by rfl) bu.isinstance_ b_isinstance (pa_cons (pv 0) (pa_cons (pe_bltn (v := .ty "tuple") (by rfl) bu.tuple_ b_tuple rfl) pa_nil))))) (pw_or1 (pt_not (pt_chain op_le op_le pe_int (pe_callB call_len_seq (by rfl) bu.len_ b_len (pa_cons (pv 0) pa_nil)) (pe_globI (by rfl) gMOST_PARTS)))))) (pss_one (ps_ret pe_bl)) pss_nil)
  (pss_one (ps_ret (pe_callB (cr_all (by rfl)) (by rfl) bu.all_ b_all (pa_cons (pe_lc (own := [("k", 1)]) (g := (gName 1)) (tt := tYes) (by rfl) scis_own_number.nd (pi_tup (pv 0)) (blkOk_by (N := Nis_own_number) (sc := defScope sis_own_number) (own := [("k", 1)]) (by decide +kernel)) (fun _ _ _ _ _ => (pg_name (i := 1) scis_own_number.nd rfl (.inl rfl))) (fun _ _ _ _ _ => pts_nil) (fun _ _ _ _ _ => (pe_and (pe_callB call_isi (by rfl) bu.isinstance_ b_isinstance (pa_cons (pv 1) (pa_cons (pe_bltn (v := .ty "int") (by rfl) bu.int_ b_int rfl) pa_nil))) (pe_one (pe_not (pe_callB call_isi (by rfl) bu.isinstance_ b_isinstance (pa_cons (pv 1) (pa_cons (pe_bltn (v := .ty "bool") (by rfl) bu.bool_ b_bool rfl) pa_nil)))))))) pa_nil)))))) hsf
abbrev sis_row : Stmt := topS 9
theorem scis_row : FnScope Nis_row ["thing"] (defScope sis_row) := ⟨rfl, rfl, rfl, by decide +kernel, rfl, by decide +kernel, by decide +kernel⟩
theorem okis_row {f : Addr} {fd : FuncData} (F : FnP K "is_row" sis_row f fd) (hm : mg "is_row" = some (.ref f)) {pis_own_number : Pre} (cis_own_number : Cal P w K mg base 1 "is_own_number" ["thing"] 1 pis_own_number) {pis_whole : Pre} (cis_whole : Cal P w K mg base 1 "is_whole" ["thing", "most"] 2 pis_whole) (gMOST_PAIRS : ∃ t, mg "MOST_PAIRS" = some (.int 100000 t)) (gMOST_AMOUNT : ∃ t, mg "MOST_AMOUNT" = some (.int 1000000000000000000 t)) (bu : Bu mg) {Pr : Pre}
    (hsf : ∀ ds O Kd, ds.length = 1 → Pr ds O Kd → Sf (tis_row K P w pis_own_number pis_whole) (args ds 4) O { nx := fun _ O' => Kd .non O', rt := Kd }) : Cal P w K mg base 2 "is_row" ["thing"] 1 Pr :=
  mk_ok F scis_row rfl hm (F.bindsN fun _ _ _ _ _ _ us hl => match us, hl with | [_], _ => rfl) (fun cdv A outer s H E hr =>
  (pss_cons (ps_if (PW.pt (pw_or (pt_not (pt_val (pe_callB call_isi (by rfl) bu.isinstance_ b_isinstance (pa_cons (pv 0) (pa_cons (pe_bltn (v := .ty "list") (by rfl) bu.list_ b_list rfl) pa_nil))))) (pw_or1 (pt_cmpR op_gt (pe_callB call_len_seq (by rfl) bu.len_ b_len (pa_cons (pv 0) pa_nil)) (pe_globI (by rfl) gMOST_PAIRS) (nomark _))))) (pss_one (ps_ret pe_bl)) pss_nil)
  (pss_cons (ps_if (pt_not (pt_val (pe_callB (cr_all (by rfl)) (by rfl) bu.all_ b_all (pa_cons (pe_lc (own := [("one", 1)]) (g := (gName 1)) (tt := tYes) (by rfl) scis_row.nd (pi_list (pv 0)) (blkOk_by (N := Nis_row) (sc := defScope sis_row) (own := [("one", 1)]) (by decide +kernel)) (fun _ _ _ _ _ => (pg_name (i := 1) scis_row.nd rfl (.inl rfl))) (fun _ _ _ _ _ => pts_nil) (fun _ _ _ _ _ => (pe_and (pe_callB call_isi (by rfl) bu.isinstance_ b_isinstance (pa_cons (pv 1) (pa_cons (pe_bltn (v := .ty "tuple") (by rfl) bu.tuple_ b_tuple rfl) pa_nil))) (pe_one (pe_cmpR op_eq (pe_callB call_len_seq (by rfl) bu.len_ b_len (pa_cons (pv 1) pa_nil)) pe_int (nomark _)))))) pa_nil)))) (pss_one (ps_ret pe_bl)) pss_nil)
  (pss_one (ps_ret (pe_callB (cr_all (by rfl)) (by rfl) bu.all_ b_all (pa_cons (pe_lc (own := [("number", 2), ("amount", 3)]) (g := (gTup K 2 (gCons (gName 2) (gCons (gName 3) gNil)))) (tt := tYes) (by rfl) scis_row.nd (pi_list (pv 0)) (blkOk_by (N := Nis_row) (sc := defScope sis_row) (own := [("number", 2), ("amount", 3)]) (by decide +kernel)) (fun _ _ _ _ _ => (pg_tup rfl (pgs_cons (pg_name (i := 2) scis_row.nd rfl (.inl rfl)) (pgs_cons (pg_name (i := 3) scis_row.nd rfl (.inl rfl)) pgs_nil)))) (fun _ _ _ _ _ => pts_nil) (fun _ _ _ _ _ => (pe_and (pe_callC cis_own_number hr (by rfl) (pa_cons (pv 2) pa_nil)) (pe_one (pe_callC cis_whole hr (by rfl) (pa_cons (pv 3) (pa_cons (pe_globI (by rfl) gMOST_AMOUNT) pa_nil))))))) pa_nil))))))) hsf
abbrev sis_plan : Stmt := topS 10
theorem scis_plan : FnScope Nis_plan ["ledger", "thing"] (defScope sis_plan) := ⟨rfl, rfl, rfl, by decide +kernel, rfl, by decide +kernel, by decide +kernel⟩
theorem okis_plan {f : Addr} {fd : FuncData} (F : FnP K "is_plan" sis_plan f fd) (hm : mg "is_plan" = some (.ref f)) {pis_row : Pre} (cis_row : Cal P w K mg base 2 "is_row" ["thing"] 1 pis_row) (bu : Bu mg) {Pr : Pre}
    (hsf : ∀ ds O Kd, ds.length = 2 → Pr ds O Kd → Sf (tis_plan K P w pis_row) (args ds 3) O { nx := fun _ O' => Kd .non O', rt := Kd }) : Cal P w K mg base 3 "is_plan" ["ledger", "thing"] 2 Pr :=
  mk_ok F scis_plan rfl hm (F.bindsN fun _ _ _ _ _ _ us hl => match us, hl with | [_, _], _ => rfl) (fun cdv A outer s H E hr =>
  (pss_one (ps_ret (pe_and (pe_callB call_isi (by rfl) bu.isinstance_ b_isinstance (pa_cons (pv 1) (pa_cons (pe_bltn (v := .ty "list") (by rfl) bu.list_ b_list rfl) pa_nil))) (pe_and (pe_cmpR op_eq (pe_callB call_len_seq (by rfl) bu.len_ b_len (pa_cons (pv 1) pa_nil)) (pe_callB call_len_seq (by rfl) bu.len_ b_len (pa_cons (pe_ix ix_tup (pv 0) pe_int (fun _ _ => rfl)) pa_nil)) (nomark _)) (pe_one (pe_callB (cr_all (by rfl)) (by rfl) bu.all_ b_all (pa_cons (pe_lc (own := [("one", 2)]) (g := (gName 2)) (tt := tYes) (by rfl) scis_plan.nd (pi_list (pv 1)) (blkOk_by (N := Nis_plan) (sc := defScope sis_plan) (own := [("one", 2)]) (by decide +kernel)) (fun _ _ _ _ _ => (pg_name (i := 2) scis_plan.nd rfl (.inl rfl))) (fun _ _ _ _ _ => pts_nil) (fun _ _ _ _ _ => (pe_callC cis_row hr (by rfl) (pa_cons (pv 2) pa_nil)))) pa_nil)))))))) hsf
abbrev spaid : Stmt := topS 11
theorem scpaid : FnScope Npaid ["plan", "deeds"] (defScope spaid) := ⟨rfl, rfl, rfl, by decide +kernel, rfl, by decide +kernel, by decide +kernel⟩
theorem okpaid {f : Addr} {fd : FuncData} (F : FnP K "paid" spaid f fd) (hm : mg "paid" = some (.ref f)) (bu : Bu mg) {Pr : Pre}
    (hsf : ∀ ds O Kd, ds.length = 2 → Pr ds O Kd → Sf (tpaid K P w) (args ds 6) O { nx := fun _ O' => Kd .non O', rt := Kd }) : Cal P w K mg base 1 "paid" ["plan", "deeds"] 2 Pr :=
  mk_ok F scpaid rfl hm (F.bindsN fun _ _ _ _ _ _ us hl => match us, hl with | [_, _], _ => rfl) (fun cdv A outer s H E hr =>
  (pss_cons (ps_set (i := 2) scpaid.nd rfl (.inl rfl) pe_dnewT)
  (pss_cons (ps_for PassesOwn.never rfl (pi_list (pv 1)) (pg_name (i := 3) scpaid.nd rfl (.inl rfl)) (pss_one (ps_for PassesOwn.never rfl (pi_list (pe_ix ix_list (pv 0) (pe_op op_sub (pv 3) pe_int) (fun _ _ => rfl))) (pg_tup rfl (pgs_cons (pg_name (i := 4) scpaid.nd rfl (.inl rfl)) (pgs_cons (pg_name (i := 5) scpaid.nd rfl (.inl rfl)) pgs_nil))) (pss_one (ps_dput (hu_of hr) (pv 2) (pv 4) (pe_op op_add (pe_dget2 (hu_of hr) (pv 2) (pv 4) pe_int ⟨by rfl, by rfl, by rfl, by rfl⟩) (pv 5)) rfl)))))
  (pss_one (ps_ret (pv 2)))))) hsf
abbrev slacking_at : Stmt := topS 12
theorem sclacking_at : FnScope Nlacking_at ["ledger", "plan", "k", "deeds"] (defScope slacking_at) := ⟨rfl, rfl, rfl, by decide +kernel, rfl, by decide +kernel, by decide +kernel⟩
theorem oklacking_at {f : Addr} {fd : FuncData} (F : FnP K "lacking_at" slacking_at f fd) (hm : mg "lacking_at" = some (.ref f)) {pown_steps : Pre} (cown_steps : Cal P w K mg base 1 "own_steps" ["ledger"] 1 pown_steps) {ppaid : Pre} (cpaid : Cal P w K mg base 1 "paid" ["plan", "deeds"] 2 ppaid) {pasks : Pre} (casks : Cal P w K mg base 1 "asks" ["ledger", "k"] 2 pasks) (bu : Bu mg) {Pr : Pre}
    (hsf : ∀ ds O Kd, ds.length = 4 → Pr ds O Kd → Sf (tlacking_at K P w pown_steps ppaid pasks) (args ds 9) O { nx := fun _ O' => Kd .non O', rt := Kd }) : Cal P w K mg base 2 "lacking_at" ["ledger", "plan", "k", "deeds"] 4 Pr :=
  mk_ok F sclacking_at rfl hm (F.bindsN fun _ _ _ _ _ _ us hl => match us, hl with | [_, _, _, _], _ => rfl) (fun cdv A outer s H E hr =>
  (pss_cons (ps_set (i := 4) sclacking_at.nd rfl (.inr rfl) (pe_callC cown_steps hr (by rfl) (pa_cons (pv 0) pa_nil)))
  (pss_cons (ps_set (i := 5) sclacking_at.nd rfl (.inr rfl) (pe_callC cpaid hr (by rfl) (pa_cons (pv 1) (pa_cons (pv 3) pa_nil))))
  (pss_cons (ps_setLc (i := 6) (own := [("number", 7)]) (g := (gName 7)) (tt := tYes) (by rfl) sclacking_at.nd rfl rfl (sw_true rfl rfl rfl (by decide +kernel)) (pi_list (pe_callC casks hr (by rfl) (pa_cons (pv 0) (pa_cons (pv 2) pa_nil)))) (blkOk_by (N := Nlacking_at) (sc := defScope slacking_at) (own := [("number", 7)]) (by decide +kernel)) (fun _ _ _ _ _ => (pg_name (i := 7) sclacking_at.nd rfl (.inl rfl))) (fun _ _ _ _ _ => pts_nil) (fun _ _ _ _ _ => (pe_tup (pa_cons (pv 7) (pa_cons (pe_dget2 (hu_of hr) (pv 5) (pv 7) pe_int ⟨by rfl, by rfl, by rfl, by rfl⟩) (pa_cons (pe_dget (hu_of hr) (pv 4) (pv 7) (fun _ _ => rfl)) pa_nil))))))
  (pss_one (ps_ret (pe_lc (own := [("row", 8)]) (g := (gName 8)) (tt := (tTest (tOp rLt (tOp (rIxT K) (tVar 8) (tC (.int 1))) (tOp (rIxT K) (tVar 8) (tC (.int 2)))))) (by rfl) sclacking_at.nd (pi_list (pv 6)) (blkOk_by (N := Nlacking_at) (sc := defScope slacking_at) (own := [("row", 8)]) (by decide +kernel)) (fun _ _ _ _ _ => (pg_name (i := 8) sclacking_at.nd rfl (.inl rfl))) (fun _ _ _ _ _ => (pts_one (pt_cmpR op_lt (pe_ix ix_tup (pv 8) pe_int (fun _ _ => rfl)) (pe_ix ix_tup (pv 8) pe_int (fun _ _ => rfl)) (nomark _)))) (fun _ _ _ _ _ => (pv 8))))))))) hsf
abbrev slacking : Stmt := topS 13
theorem sclacking : FnScope Nlacking ["ledger", "plan"] (defScope slacking) := ⟨rfl, rfl, rfl, by decide +kernel, rfl, by decide +kernel, by decide +kernel⟩
theorem oklacking {f : Addr} {fd : FuncData} (F : FnP K "lacking" slacking f fd) (hm : mg "lacking" = some (.ref f)) {ppast : Pre} (cpast : Cal P w K mg base 1 "past" ["ledger", "k"] 2 ppast) {placking_at : Pre} (clacking_at : Cal P w K mg base 2 "lacking_at" ["ledger", "plan", "k", "deeds"] 4 placking_at) (bu : Bu mg) {Pr : Pre}
    (hsf : ∀ ds O Kd, ds.length = 2 → Pr ds O Kd → Sf (tlacking K P w ppast placking_at) (args ds 7) O { nx := fun _ O' => Kd .non O', rt := Kd }) : Cal P w K mg base 3 "lacking" ["ledger", "plan"] 2 Pr :=
  mk_ok F sclacking rfl hm (F.bindsN fun _ _ _ _ _ _ us hl => match us, hl with | [_, _], _ => rfl) (fun cdv A outer s H E hr =>
  (pss_cons (ps_set (i := 2) sclacking.nd rfl (.inl rfl) (pe_lst pa_nil))
  (pss_cons (ps_for PassesOwn.never rfl (pi_range2 (by rfl) bu.range_ (pa_cons pe_int (pa_cons (pe_op op_add (pe_callB call_len_seq (by rfl) bu.len_ b_len (pa_cons (pv 1) pa_nil)) pe_int) pa_nil))) (pg_name (i := 3) sclacking.nd rfl (.inr rfl)) (pss_one (ps_expr (pe_bm PySem.F.plainAttrs_list PySem.F.slot_list_extend PySem.F.type_list_extend mt_extend (pv 2) (pa_cons (pe_lc (own := [("number", 4), ("there", 5), ("own", 6)]) (g := (gTup K 3 (gCons (gName 4) (gCons (gName 5) (gCons (gName 6) gNil))))) (tt := tYes) (by rfl) sclacking.nd (pi_list (pe_callC clacking_at hr (by rfl) (pa_cons (pv 0) (pa_cons (pv 1) (pa_cons (pv 3) (pa_cons (pe_callC cpast hr (by rfl) (pa_cons (pv 0) (pa_cons (pv 3) pa_nil))) pa_nil)))))) (blkOk_by (N := Nlacking) (sc := defScope slacking) (own := [("number", 4), ("there", 5), ("own", 6)]) (by decide +kernel)) (fun _ _ _ _ _ => (pg_tup rfl (pgs_cons (pg_name (i := 4) sclacking.nd rfl (.inl rfl)) (pgs_cons (pg_name (i := 5) sclacking.nd rfl (.inl rfl)) (pgs_cons (pg_name (i := 6) sclacking.nd rfl (.inl rfl)) pgs_nil))))) (fun _ _ _ _ _ => pts_nil) (fun _ _ _ _ _ => (pe_tup (pa_cons (pv 3) (pa_cons (pv 4) (pa_cons (pv 5) (pa_cons (pv 6) pa_nil))))))) pa_nil)))))
  (pss_one (ps_ret (pv 2)))))) hsf
abbrev sis_let_by : Stmt := topS 14
theorem scis_let_by : FnScope Nis_let_by ["ledger", "thing"] (defScope sis_let_by) := ⟨rfl, rfl, rfl, by decide +kernel, rfl, by decide +kernel, by decide +kernel⟩
theorem okis_let_by {f : Addr} {fd : FuncData} (F : FnP K "is_let_by" sis_let_by f fd) (hm : mg "is_let_by" = some (.ref f)) {pis_plan : Pre} (cis_plan : Cal P w K mg base 3 "is_plan" ["ledger", "thing"] 2 pis_plan) {placking : Pre} (clacking : Cal P w K mg base 3 "lacking" ["ledger", "plan"] 2 placking) (bu : Bu mg) {Pr : Pre}
    (hsf : ∀ ds O Kd, ds.length = 2 → Pr ds O Kd → Sf (tis_let_by K P w pis_plan placking) (args ds 2) O { nx := fun _ O' => Kd .non O', rt := Kd }) : Cal P w K mg base 4 "is_let_by" ["ledger", "thing"] 2 Pr :=
  mk_ok F scis_let_by rfl hm (F.bindsN fun _ _ _ _ _ _ us hl => match us, hl with | [_, _], _ => rfl) (fun cdv A outer s H E hr =>
  (pss_one (ps_ret (pe_and (pe_callC cis_plan hr (by rfl) (pa_cons (pv 0) (pa_cons (pv 1) pa_nil))) (pe_one (pe_cmpR (op_eqD hr.units) (pe_callC clacking hr (by rfl) (pa_cons (pv 0) (pa_cons (pv 1) pa_nil))) (pe_lst pa_nil) (nomark _))))))) hsf
abbrev s_law_roll : Stmt := topS 16
theorem sc_law_roll : FnScope N_law_roll ["dice", "size"] (defScope s_law_roll) := ⟨rfl, rfl, rfl, by decide +kernel, rfl, by decide +kernel, by decide +kernel⟩
theorem ok_law_roll {f : Addr} {fd : FuncData} (F : FnP K "_law_roll" s_law_roll f fd) (hm : mg "_law_roll" = some (.ref f)) (bu : Bu mg) {Pr : Pre}
    (hsf : ∀ ds O Kd, ds.length = 2 → Pr ds O Kd → Sf (t_law_roll K P w) (args ds 6) O { nx := fun _ O' => Kd .non O', rt := Kd }) : Cal P w K mg base 1 "_law_roll" ["dice", "size"] 2 Pr :=
  mk_ok F sc_law_roll rfl hm (F.bindsN fun _ _ _ _ _ _ us hl => match us, hl with | [_, _], _ => rfl) (fun cdv A outer s H E hr =>
  (pss_cons (ps_if (pt_cmpR op_eq (pe_ix ix_list (pv 0) pe_int (fun _ _ => rfl)) pe_int (nomark _)) (pss_cons (ps_set (i := 2) sc_law_roll.nd rfl (.inl rfl) (pe_ix ix_list (pv 0) pe_int (fun _ _ => rfl)))
  (pss_cons (ps_asg (pe_op op_add (pv 2) pe_int) (pg_sub (pv 0) pe_int set_list))
  (pss_cons (ps_set (i := 3) sc_law_roll.nd rfl (.inl rfl) pe_int)
  (pss_cons (ps_if (pt_cmpR (op_neD hr.units) (pe_ix ix_list (pv 0) pe_int (fun _ _ => rfl)) (pe_lst pa_nil) (nomark _)) (pss_one (ps_set (i := 3) sc_law_roll.nd rfl (.inl rfl) (pe_ix ix_list (pe_ix ix_list (pv 0) pe_int (fun _ _ => rfl)) (pe_op op_mod (pv 2) (pe_callB call_len_seq (by rfl) bu.len_ b_len (pa_cons (pe_ix ix_list (pv 0) pe_int (fun _ _ => rfl)) pa_nil))) (fun _ _ => rfl)))) pss_nil)
  (pss_cons (ps_if (PW.pt (pw_or (pt_cmpR op_ge (pv 2) (pe_callB call_len_seq (by rfl) bu.len_ b_len (pa_cons (pe_ix ix_list (pv 0) pe_int (fun _ _ => rfl)) pa_nil)) (nomark _)) (pw_or1 (pt_cmpR op_lt (pv 3) (pe_op op_pow pe_int pe_int) (nomark _))))) (pss_cons (ps_set (i := 4) sc_law_roll.nd rfl (.inl rfl) (pe_op op_mod (pe_op op_mul (pe_op op_add (pe_op op_mod (pv 3) pe_int) pe_int) (pe_op op_add (pe_op op_add (pe_op op_mul (pv 2) (pv 2)) (pe_op op_mul pe_int (pv 2))) pe_int)) pe_int))
  (pss_cons (ps_set (i := 4) sc_law_roll.nd rfl (.inl rfl) (pe_op op_mod (pe_op op_pow (pv 4) pe_int) pe_int))
  (pss_one (ps_ret (pe_op op_mod (pe_op op_fdiv (pe_op op_mod (pe_op op_add (pv 4) (pe_op op_mul pe_int (pv 2))) pe_int) pe_int) (pv 1)))))) pss_nil)
  (pss_cons (ps_asg pe_int (pg_sub (pv 0) pe_int set_list))
  (pss_one (ps_asg (pe_op op_sub (pv 3) (pe_op op_pow pe_int pe_int)) (pg_sub (pv 0) pe_int set_list))))))))) pss_nil)
  (pss_cons (ps_asg (pe_op op_sub (pe_ix ix_list (pv 0) pe_int (fun _ _ => rfl)) pe_int) (pg_sub (pv 0) pe_int set_list))
  (pss_cons (ps_set (i := 5) sc_law_roll.nd rfl (.inl rfl) (pe_ix ix_list (pv 0) pe_int (fun _ _ => rfl)))
  (pss_cons (ps_asg (pe_op op_fdiv (pv 5) (pv 1)) (pg_sub (pv 0) pe_int set_list))
  (pss_one (ps_ret (pe_op op_mod (pv 5) (pv 1))))))))) hsf
abbrev s_law_pick : Stmt := topS 17
theorem sc_law_pick : FnScope N_law_pick ["dice", "some"] (defScope s_law_pick) := ⟨rfl, rfl, rfl, by decide +kernel, rfl, by decide +kernel, by decide +kernel⟩
theorem ok_law_pick {f : Addr} {fd : FuncData} (F : FnP K "_law_pick" s_law_pick f fd) (hm : mg "_law_pick" = some (.ref f)) {p_law_roll : Pre} (c_law_roll : Cal P w K mg base 1 "_law_roll" ["dice", "size"] 2 p_law_roll) (bu : Bu mg) {Pr : Pre}
    (hsf : ∀ ds O Kd, ds.length = 2 → Pr ds O Kd → Sf (t_law_pick K P w p_law_roll) (args ds 2) O { nx := fun _ O' => Kd .non O', rt := Kd }) : Cal P w K mg base 2 "_law_pick" ["dice", "some"] 2 Pr :=
  mk_ok F sc_law_pick rfl hm (F.bindsN fun _ _ _ _ _ _ us hl => match us, hl with | [_, _], _ => rfl) (fun cdv A outer s H E hr =>
  (pss_one (ps_ret (pe_ix ix_list (pv 1) (pe_callC c_law_roll hr (by rfl) (pa_cons (pv 0) (pa_cons (pe_callB call_len_seq (by rfl) bu.len_ b_len (pa_cons (pv 1) pa_nil)) pa_nil))) (fun _ _ => rfl))))) hsf
abbrev s_law_some : Stmt := topS 18
theorem sc_law_some : FnScope N_law_some ["dice", "numbers", "most"] (defScope s_law_some) := ⟨rfl, rfl, rfl, by decide +kernel, rfl, by decide +kernel, by decide +kernel⟩
theorem ok_law_some {f : Addr} {fd : FuncData} (F : FnP K "_law_some" s_law_some f fd) (hm : mg "_law_some" = some (.ref f)) {p_law_roll : Pre} (c_law_roll : Cal P w K mg base 1 "_law_roll" ["dice", "size"] 2 p_law_roll) {p_law_pick : Pre} (c_law_pick : Cal P w K mg base 2 "_law_pick" ["dice", "some"] 2 p_law_pick) (bu : Bu mg) {Pr : Pre}
    (hsf : ∀ ds O Kd, ds.length = 3 → Pr ds O Kd → Sf (t_law_some K P w p_law_roll p_law_pick) (args ds 4) O { nx := fun _ O' => Kd .non O', rt := Kd }) : Cal P w K mg base 3 "_law_some" ["dice", "numbers", "most"] 3 Pr :=
  mk_ok F sc_law_some rfl hm (F.bindsN fun _ _ _ _ _ _ us hl => match us, hl with | [_, _, _], _ => rfl) (fun cdv A outer s H E hr =>
  (pss_cons (ps_if (pt_cmpR (op_eqD hr.units) (pv 1) (pe_lst pa_nil) (nomark _)) (pss_one (ps_ret (pe_lst pa_nil))) pss_nil)
  (pss_one (ps_ret (pe_callB (cr_sortS (by rfl)) (by rfl) bu.sorted_ b_sorted (pa_cons (pe_callTy (cr_setOfT (by rfl) hr.units) (by rfl) bu.set_ b_set (pa_cons (pe_lc (own := [("k", 3)]) (g := (gName 3)) (tt := tYes) (by rfl) sc_law_some.nd (pi_range1 (by rfl) bu.range_ (pa_cons (pe_callC c_law_roll hr (by rfl) (pa_cons (pv 0) (pa_cons (pv 2) pa_nil))) pa_nil)) (blkOk_by (N := N_law_some) (sc := defScope s_law_some) (own := [("k", 3)]) (by decide +kernel)) (fun _ _ _ _ _ => (pg_name (i := 3) sc_law_some.nd rfl (.inl rfl))) (fun _ _ _ _ _ => pts_nil) (fun _ _ _ _ _ => (pe_callC c_law_pick hr (by rfl) (pa_cons (pv 0) (pa_cons (pv 1) pa_nil))))) pa_nil)) pa_nil)))))) hsf
abbrev s_law_own : Stmt := topS 19
theorem sc_law_own : FnScope N_law_own ["dice"] (defScope s_law_own) := ⟨rfl, rfl, rfl, by decide +kernel, rfl, by decide +kernel, by decide +kernel⟩
theorem ok_law_own {f : Addr} {fd : FuncData} (F : FnP K "_law_own" s_law_own f fd) (hm : mg "_law_own" = some (.ref f)) {p_law_roll : Pre} (c_law_roll : Cal P w K mg base 1 "_law_roll" ["dice", "size"] 2 p_law_roll) (bu : Bu mg) {Pr : Pre}
    (hsf : ∀ ds O Kd, ds.length = 1 → Pr ds O Kd → Sf (t_law_own K P w p_law_roll) (args ds 1) O { nx := fun _ O' => Kd .non O', rt := Kd }) : Cal P w K mg base 2 "_law_own" ["dice"] 1 Pr :=
  mk_ok F sc_law_own rfl hm (F.bindsN fun _ _ _ _ _ _ us hl => match us, hl with | [_], _ => rfl) (fun cdv A outer s H E hr =>
  (pss_one (ps_ret (pe_ix ix_list (pe_lst (pa_cons pe_int (pa_cons pe_int (pa_cons pe_int (pa_cons (pe_callC c_law_roll hr (by rfl) (pa_cons (pv 0) (pa_cons pe_int pa_nil))) (pa_cons (pe_callC c_law_roll hr (by rfl) (pa_cons (pv 0) (pa_cons (pe_op op_pow pe_int pe_int) pa_nil))) (pa_cons (pe_op op_pow pe_int pe_int) pa_nil))))))) (pe_callC c_law_roll hr (by rfl) (pa_cons (pv 0) (pa_cons pe_int pa_nil))) (fun _ _ => rfl))))) hsf
abbrev s_law_ledger : Stmt := topS 20
theorem sc_law_ledger : FnScope N_law_ledger ["dice"] (defScope s_law_ledger) := ⟨rfl, rfl, rfl, by decide +kernel, rfl, by decide +kernel, by decide +kernel⟩
theorem ok_law_ledger {f : Addr} {fd : FuncData} (F : FnP K "_law_ledger" s_law_ledger f fd) (hm : mg "_law_ledger" = some (.ref f)) {p_law_roll : Pre} (c_law_roll : Cal P w K mg base 1 "_law_roll" ["dice", "size"] 2 p_law_roll) {p_law_some : Pre} (c_law_some : Cal P w K mg base 3 "_law_some" ["dice", "numbers", "most"] 3 p_law_some) {p_law_own : Pre} (c_law_own : Cal P w K mg base 2 "_law_own" ["dice"] 1 p_law_own) {p_law_pick : Pre} (c_law_pick : Cal P w K mg base 2 "_law_pick" ["dice", "some"] 2 p_law_pick) (bu : Bu mg) {Pr : Pre}
    (hsf : ∀ ds O Kd, ds.length = 1 → Pr ds O Kd → Sf (t_law_ledger K P w p_law_roll p_law_some p_law_own p_law_pick) (args ds 9) O { nx := fun _ O' => Kd .non O', rt := Kd }) : Cal P w K mg base 4 "_law_ledger" ["dice"] 1 Pr :=
  mk_ok F sc_law_ledger rfl hm (F.bindsN fun _ _ _ _ _ _ us hl => match us, hl with | [_], _ => rfl) (fun cdv A outer s H E hr =>
  (pss_cons (ps_set (i := 1) sc_law_ledger.nd rfl (.inr rfl) (pe_lst pa_nil))
  (pss_cons (ps_for PassesOwn.never rfl (pi_range1 (by rfl) bu.range_ (pa_cons (pe_callC c_law_roll hr (by rfl) (pa_cons (pv 0) (pa_cons pe_int pa_nil))) pa_nil)) (pg_name (i := 2) sc_law_ledger.nd rfl (.inl rfl)) (pss_cons (ps_set (i := 3) sc_law_ledger.nd rfl (.inr rfl) (pe_ix ix_list (pe_lst (pa_cons pe_int (pa_cons pe_int pa_nil))) (pe_callC c_law_roll hr (by rfl) (pa_cons (pv 0) (pa_cons pe_int pa_nil))) (fun _ _ => rfl)))
  (pss_cons (ps_set (i := 4) sc_law_ledger.nd rfl (.inl rfl) (pe_op op_catA (pe_tup (pa_cons (pe_callC c_law_roll hr (by rfl) (pa_cons (pv 0) (pa_cons pe_int pa_nil))) pa_nil)) (pe_callTy call_tuple_of (by rfl) bu.tuple_ b_tuple (pa_cons (pe_lc (own := [("turn", 5)]) (g := (gName 5)) (tt := tYes) (by rfl) sc_law_ledger.nd (pi_range1 (by rfl) bu.range_ (pa_cons (pe_op op_add pe_int (pe_callC c_law_roll hr (by rfl) (pa_cons (pv 0) (pa_cons pe_int pa_nil)))) pa_nil)) (blkOk_by (N := N_law_ledger) (sc := defScope s_law_ledger) (own := [("turn", 5)]) (by decide +kernel)) (fun _ _ _ _ _ => (pg_name (i := 5) sc_law_ledger.nd rfl (.inl rfl))) (fun _ _ _ _ _ => pts_nil) (fun _ _ _ _ _ => (pe_op op_add pe_int (pe_callC c_law_roll hr (by rfl) (pa_cons (pv 0) (pa_cons (pv 3) pa_nil)))))) pa_nil))))
  (pss_one (ps_if (pt_cmpR (op_notInD (hu65 hr)) (pv 4) (pv 1) (by rfl)) (pss_one (ps_expr (pe_bm PySem.F.plainAttrs_list PySem.F.slot_list_append PySem.F.type_list_append mt_append (pv 1) (pa_cons (pv 4) pa_nil)))) pss_nil)))))
  (pss_cons (ps_set (i := 1) sc_law_ledger.nd rfl (.inr rfl) (pe_callB cr_sortN (by rfl) bu.sorted_ b_sorted (pa_cons (pv 1) pa_nil)))
  (pss_cons (ps_setLc (i := 6) (own := [("number", 4)]) (g := (gName 4)) (tt := tYes) (by rfl) sc_law_ledger.nd rfl rfl (sw_true rfl rfl rfl (by decide +kernel)) (pi_list (pv 1)) (blkOk_by (N := N_law_ledger) (sc := defScope s_law_ledger) (own := [("number", 4)]) (by decide +kernel)) (fun _ _ _ _ _ => (pg_name (i := 4) sc_law_ledger.nd rfl (.inl rfl))) (fun _ _ _ _ _ => pts_nil) (fun _ _ _ _ _ => (pe_tup (pa_cons (pv 4) (pa_cons (pe_callC c_law_own hr (by rfl) (pa_cons (pv 0) pa_nil)) (pa_cons (pe_callC c_law_some hr (by rfl) (pa_cons (pv 0) (pa_cons (pv 1) (pa_cons pe_int pa_nil)))) pa_nil))))))
  (pss_cons (ps_set (i := 7) sc_law_ledger.nd rfl (.inl rfl) (pe_lst pa_nil))
  (pss_cons (ps_for PassesOwn.never rfl (pi_range1 (by rfl) bu.range_ (pa_cons (pe_callC c_law_roll hr (by rfl) (pa_cons (pv 0) (pa_cons pe_int pa_nil))) pa_nil)) (pg_name (i := 2) sc_law_ledger.nd rfl (.inl rfl)) (pss_cons (ps_set (i := 8) sc_law_ledger.nd rfl (.inl rfl) (pe_callC c_law_pick hr (by rfl) (pa_cons (pv 0) (pa_cons (pe_lst (pa_cons (pv 2) (pa_cons (pv 2) (pa_cons (pe_callC c_law_roll hr (by rfl) (pa_cons (pv 0) (pa_cons (pe_op op_add (pv 2) pe_int) pa_nil))) pa_nil)))) pa_nil))))
  (pss_one (ps_expr (pe_bm PySem.F.plainAttrs_list PySem.F.slot_list_append PySem.F.type_list_append mt_append (pv 7) (pa_cons (pe_tup (pa_cons (pv 8) (pa_cons (pe_callC c_law_own hr (by rfl) (pa_cons (pv 0) pa_nil)) (pa_cons (pe_callC c_law_some hr (by rfl) (pa_cons (pv 0) (pa_cons (pv 1) (pa_cons pe_int pa_nil)))) pa_nil)))) pa_nil))))))
  (pss_one (ps_ret (pe_tup (pa_cons (pv 7) (pa_cons (pv 6) pa_nil)))))))))))) hsf
abbrev s_law_past : Stmt := topS 21
theorem sc_law_past : FnScope N_law_past ["book", "k"] (defScope s_law_past) := ⟨rfl, rfl, rfl, by decide +kernel, rfl, by decide +kernel, by decide +kernel⟩
theorem ok_law_past {f : Addr} {fd : FuncData} (F : FnP K "_law_past" s_law_past f fd) (hm : mg "_law_past" = some (.ref f)) (bu : Bu mg) {Pr : Pre}
    (hsf : ∀ ds O Kd, ds.length = 2 → Pr ds O Kd → Sf (t_law_past K P w) (args ds 3) O { nx := fun _ O' => Kd .non O', rt := Kd }) : Cal P w K mg base 1 "_law_past" ["book", "k"] 2 Pr :=
  mk_ok F sc_law_past rfl hm (F.bindsN fun _ _ _ _ _ _ us hl => match us, hl with | [_, _], _ => rfl) (fun cdv A outer s H E hr =>
  (pss_cons (ps_set (i := 2) sc_law_past.nd rfl (.inl rfl) (pe_lst pa_nil))
  (pss_cons (ps_while PassesOwn.never (pt_cmpR op_gt (pv 1) pe_int (nomark _)) (pss_cons (ps_set (i := 2) sc_law_past.nd rfl (.inl rfl) (pe_op op_cat (pe_lst (pa_cons (pv 1) pa_nil)) (pv 2)))
  (pss_one (ps_set (i := 1) sc_law_past.nd rfl (.inl rfl) (pe_ix ix_tup (pe_ix ix_list (pe_ix ix_tup (pv 0) pe_int (fun _ _ => rfl)) (pe_op op_sub (pv 1) pe_int) (fun _ _ => rfl)) pe_int (fun _ _ => rfl))))))
  (pss_one (ps_ret (pv 2)))))) hsf
abbrev s_law_asks : Stmt := topS 22
theorem sc_law_asks : FnScope N_law_asks ["book", "k"] (defScope s_law_asks) := ⟨rfl, rfl, rfl, by decide +kernel, rfl, by decide +kernel, by decide +kernel⟩
theorem ok_law_asks {f : Addr} {fd : FuncData} (F : FnP K "_law_asks" s_law_asks f fd) (hm : mg "_law_asks" = some (.ref f)) (bu : Bu mg) {Pr : Pre}
    (hsf : ∀ ds O Kd, ds.length = 2 → Pr ds O Kd → Sf (t_law_asks K P w) (args ds 9) O { nx := fun _ O' => Kd .non O', rt := Kd }) : Cal P w K mg base 1 "_law_asks" ["book", "k"] 2 Pr :=
  mk_ok F sc_law_asks rfl hm (F.bindsN fun _ _ _ _ _ _ us hl => match us, hl with | [_, _], _ => rfl) (fun cdv A outer s H E hr =>
  (pss_cons (ps_set (i := 2) sc_law_asks.nd rfl (.inl rfl) (pe_callTy (cr_dictT (by rfl) (hu3 hr)) (by rfl) bu.dict_ b_dict (pa_cons (pe_lc (own := [("number", 3), ("own", 4), ("asked", 5)]) (g := (gTup K 3 (gCons (gName 3) (gCons (gName 4) (gCons (gName 5) gNil))))) (tt := tYes) (by rfl) sc_law_asks.nd (pi_list (pe_ix ix_tup (pv 0) pe_int (fun _ _ => rfl))) (blkOk_by (N := N_law_asks) (sc := defScope s_law_asks) (own := [("number", 3), ("own", 4), ("asked", 5)]) (by decide +kernel)) (fun _ _ _ _ _ => (pg_tup rfl (pgs_cons (pg_name (i := 3) sc_law_asks.nd rfl (.inl rfl)) (pgs_cons (pg_name (i := 4) sc_law_asks.nd rfl (.inl rfl)) (pgs_cons (pg_name (i := 5) sc_law_asks.nd rfl (.inl rfl)) pgs_nil))))) (fun _ _ _ _ _ => pts_nil) (fun _ _ _ _ _ => (pe_tup (pa_cons (pv 3) (pa_cons (pv 5) pa_nil))))) pa_nil)))
  (pss_cons (ps_set (i := 6) sc_law_asks.nd rfl (.inl rfl) (pe_lst pa_nil))
  (pss_cons (ps_set (i := 7) sc_law_asks.nd rfl (.inl rfl) (pe_callTy call_list_of (by rfl) bu.list_ b_list (pa_cons (pe_ix ix_tup (pe_ix ix_list (pe_ix ix_tup (pv 0) pe_int (fun _ _ => rfl)) (pe_op op_sub (pv 1) pe_int) (fun _ _ => rfl)) pe_int (fun _ _ => rfl)) pa_nil)))
  (pss_cons (ps_while PassesOwn.never (pt_cmpR (op_neD hr.units) (pv 7) (pe_lst pa_nil) (nomark _)) (pss_cons (ps_set (i := 8) sc_law_asks.nd rfl (.inl rfl) (pe_bm0 PySem.F.plainAttrs_list PySem.F.slot_list_pop PySem.F.type_list_pop mt_pop (pv 7)))
  (pss_one (ps_if (pt_cmpR (op_notInD (hu65 hr)) (pv 8) (pv 6) (by rfl)) (pss_cons (ps_expr (pe_bm PySem.F.plainAttrs_list PySem.F.slot_list_append PySem.F.type_list_append mt_append (pv 6) (pa_cons (pv 8) pa_nil)))
  (pss_one (ps_set (i := 7) sc_law_asks.nd rfl (.inl rfl) (pe_op op_cat (pv 7) (pe_dget (hu_of hr) (pv 2) (pv 8) (fun _ _ => rfl)))))) pss_nil))))
  (pss_one (ps_ret (pe_callB cr_sortN (by rfl) bu.sorted_ b_sorted (pa_cons (pv 6) pa_nil))))))))) hsf
abbrev s_law_owns : Stmt := topS 23
theorem sc_law_owns : FnScope N_law_owns ["book"] (defScope s_law_owns) := ⟨rfl, rfl, rfl, by decide +kernel, rfl, by decide +kernel, by decide +kernel⟩
theorem ok_law_owns {f : Addr} {fd : FuncData} (F : FnP K "_law_owns" s_law_owns f fd) (hm : mg "_law_owns" = some (.ref f)) (bu : Bu mg) {Pr : Pre}
    (hsf : ∀ ds O Kd, ds.length = 1 → Pr ds O Kd → Sf (t_law_owns K P w) (args ds 4) O { nx := fun _ O' => Kd .non O', rt := Kd }) : Cal P w K mg base 1 "_law_owns" ["book"] 1 Pr :=
  mk_ok F sc_law_owns rfl hm (F.bindsN fun _ _ _ _ _ _ us hl => match us, hl with | [_], _ => rfl) (fun cdv A outer s H E hr =>
  (pss_one (ps_ret (pe_callTy (cr_dictT (by rfl) (hu3 hr)) (by rfl) bu.dict_ b_dict (pa_cons (pe_lc (own := [("number", 1), ("own", 2), ("asked", 3)]) (g := (gTup K 3 (gCons (gName 1) (gCons (gName 2) (gCons (gName 3) gNil))))) (tt := tYes) (by rfl) sc_law_owns.nd (pi_list (pe_ix ix_tup (pv 0) pe_int (fun _ _ => rfl))) (blkOk_by (N := N_law_owns) (sc := defScope s_law_owns) (own := [("number", 1), ("own", 2), ("asked", 3)]) (by decide +kernel)) (fun _ _ _ _ _ => (pg_tup rfl (pgs_cons (pg_name (i := 1) sc_law_owns.nd rfl (.inl rfl)) (pgs_cons (pg_name (i := 2) sc_law_owns.nd rfl (.inl rfl)) (pgs_cons (pg_name (i := 3) sc_law_owns.nd rfl (.inl rfl)) pgs_nil))))) (fun _ _ _ _ _ => pts_nil) (fun _ _ _ _ _ => (pe_tup (pa_cons (pv 1) (pa_cons (pv 2) pa_nil))))) pa_nil))))) hsf
abbrev s_law_paid : Stmt := topS 24
theorem sc_law_paid : FnScope N_law_paid ["plan", "way"] (defScope s_law_paid) := ⟨rfl, rfl, rfl, by decide +kernel, rfl, by decide +kernel, by decide +kernel⟩
theorem ok_law_paid {f : Addr} {fd : FuncData} (F : FnP K "_law_paid" s_law_paid f fd) (hm : mg "_law_paid" = some (.ref f)) (bu : Bu mg) {Pr : Pre}
    (hsf : ∀ ds O Kd, ds.length = 2 → Pr ds O Kd → Sf (t_law_paid K P w) (args ds 6) O { nx := fun _ O' => Kd .non O', rt := Kd }) : Cal P w K mg base 1 "_law_paid" ["plan", "way"] 2 Pr :=
  mk_ok F sc_law_paid rfl hm (F.bindsN fun _ _ _ _ _ _ us hl => match us, hl with | [_, _], _ => rfl) (fun cdv A outer s H E hr =>
  (pss_cons (ps_set (i := 2) sc_law_paid.nd rfl (.inl rfl) pe_dnewT)
  (pss_cons (ps_for PassesOwn.never rfl (pi_list (pv 1)) (pg_name (i := 3) sc_law_paid.nd rfl (.inl rfl)) (pss_one (ps_for PassesOwn.never rfl (pi_list (pe_ix ix_list (pv 0) (pe_op op_sub (pv 3) pe_int) (fun _ _ => rfl))) (pg_tup rfl (pgs_cons (pg_name (i := 4) sc_law_paid.nd rfl (.inl rfl)) (pgs_cons (pg_name (i := 5) sc_law_paid.nd rfl (.inl rfl)) pgs_nil))) (pss_one (ps_dput (hu_of hr) (pv 2) (pv 4) (pe_op op_add (pe_dget2 (hu_of hr) (pv 2) (pv 4) pe_int ⟨by rfl, by rfl, by rfl, by rfl⟩) (pv 5)) rfl)))))
  (pss_one (ps_ret (pv 2)))))) hsf
abbrev s_law_lacks : Stmt := topS 25
theorem sc_law_lacks : FnScope N_law_lacks ["book", "plan"] (defScope s_law_lacks) := ⟨rfl, rfl, rfl, by decide +kernel, rfl, by decide +kernel, by decide +kernel⟩
theorem ok_law_lacks {f : Addr} {fd : FuncData} (F : FnP K "_law_lacks" s_law_lacks f fd) (hm : mg "_law_lacks" = some (.ref f)) {p_law_owns : Pre} (c_law_owns : Cal P w K mg base 1 "_law_owns" ["book"] 1 p_law_owns) {p_law_past : Pre} (c_law_past : Cal P w K mg base 1 "_law_past" ["book", "k"] 2 p_law_past) {p_law_paid : Pre} (c_law_paid : Cal P w K mg base 1 "_law_paid" ["plan", "way"] 2 p_law_paid) {p_law_asks : Pre} (c_law_asks : Cal P w K mg base 1 "_law_asks" ["book", "k"] 2 p_law_asks) (bu : Bu mg) {Pr : Pre}
    (hsf : ∀ ds O Kd, ds.length = 2 → Pr ds O Kd → Sf (t_law_lacks K P w p_law_owns p_law_past p_law_paid p_law_asks) (args ds 7) O { nx := fun _ O' => Kd .non O', rt := Kd }) : Cal P w K mg base 2 "_law_lacks" ["book", "plan"] 2 Pr :=
  mk_ok F sc_law_lacks rfl hm (F.bindsN fun _ _ _ _ _ _ us hl => match us, hl with | [_, _], _ => rfl) (fun cdv A outer s H E hr =>
  (pss_cons (ps_set (i := 2) sc_law_lacks.nd rfl (.inl rfl) (pe_callC c_law_owns hr (by rfl) (pa_cons (pv 0) pa_nil)))
  (pss_cons (ps_set (i := 3) sc_law_lacks.nd rfl (.inl rfl) (pe_lst pa_nil))
  (pss_cons (ps_for PassesOwn.never rfl (pi_range2 (by rfl) bu.range_ (pa_cons pe_int (pa_cons (pe_op op_add (pe_callB call_len_seq (by rfl) bu.len_ b_len (pa_cons (pv 1) pa_nil)) pe_int) pa_nil))) (pg_name (i := 4) sc_law_lacks.nd rfl (.inl rfl)) (pss_cons (ps_set (i := 5) sc_law_lacks.nd rfl (.inl rfl) (pe_callC c_law_paid hr (by rfl) (pa_cons (pv 1) (pa_cons (pe_callC c_law_past hr (by rfl) (pa_cons (pv 0) (pa_cons (pv 4) pa_nil))) pa_nil))))
  (pss_one (ps_for PassesOwn.never rfl (pi_list (pe_callC c_law_asks hr (by rfl) (pa_cons (pv 0) (pa_cons (pv 4) pa_nil)))) (pg_name (i := 6) sc_law_lacks.nd rfl (.inl rfl)) (pss_one (ps_if (pt_cmpR op_lt (pe_dget2 (hu_of hr) (pv 5) (pv 6) pe_int ⟨by rfl, by rfl, by rfl, by rfl⟩) (pe_dget (hu_of hr) (pv 2) (pv 6) (fun _ _ => rfl)) (nomark _)) (pss_one (ps_expr (pe_bm PySem.F.plainAttrs_list PySem.F.slot_list_append PySem.F.type_list_append mt_append (pv 3) (pa_cons (pe_tup (pa_cons (pv 4) (pa_cons (pv 6) (pa_cons (pe_dget2 (hu_of hr) (pv 5) (pv 6) pe_int ⟨by rfl, by rfl, by rfl, by rfl⟩) (pa_cons (pe_dget (hu_of hr) (pv 2) (pv 6) (fun _ _ => rfl)) pa_nil))))) pa_nil)))) pss_nil))))))
  (pss_one (ps_ret (pv 3))))))) hsf
abbrev s_law_late : Stmt := topS 26
theorem sc_law_late : FnScope N_law_late ["book"] (defScope s_law_late) := ⟨rfl, rfl, rfl, by decide +kernel, rfl, by decide +kernel, by decide +kernel⟩
theorem ok_law_late {f : Addr} {fd : FuncData} (F : FnP K "_law_late" s_law_late f fd) (hm : mg "_law_late" = some (.ref f)) {p_law_owns : Pre} (c_law_owns : Cal P w K mg base 1 "_law_owns" ["book"] 1 p_law_owns) {p_law_past : Pre} (c_law_past : Cal P w K mg base 1 "_law_past" ["book", "k"] 2 p_law_past) {p_law_paid : Pre} (c_law_paid : Cal P w K mg base 1 "_law_paid" ["plan", "way"] 2 p_law_paid) {p_law_asks : Pre} (c_law_asks : Cal P w K mg base 1 "_law_asks" ["book", "k"] 2 p_law_asks) (bu : Bu mg) {Pr : Pre}
    (hsf : ∀ ds O Kd, ds.length = 1 → Pr ds O Kd → Sf (t_law_late K P w p_law_owns p_law_past p_law_paid p_law_asks) (args ds 8) O { nx := fun _ O' => Kd .non O', rt := Kd }) : Cal P w K mg base 2 "_law_late" ["book"] 1 Pr :=
  mk_ok F sc_law_late rfl hm (F.bindsN fun _ _ _ _ _ _ us hl => match us, hl with | [_], _ => rfl) (fun cdv A outer s H E hr =>
  (pss_cons (ps_set (i := 1) sc_law_late.nd rfl (.inr rfl) (pe_callC c_law_owns hr (by rfl) (pa_cons (pv 0) pa_nil)))
  (pss_cons (ps_set (i := 2) sc_law_late.nd rfl (.inl rfl) (pe_lst pa_nil))
  (pss_cons (ps_for PassesOwn.never rfl (pi_range2 (by rfl) bu.range_ (pa_cons pe_int (pa_cons (pe_op op_add (pe_callB call_len_seq (by rfl) bu.len_ b_len (pa_cons (pe_ix ix_tup (pv 0) pe_int (fun _ _ => rfl)) pa_nil)) pe_int) pa_nil))) (pg_name (i := 3) sc_law_late.nd rfl (.inl rfl)) (pss_cons (ps_set (i := 4) sc_law_late.nd rfl (.inr rfl) (pe_callC c_law_paid hr (by rfl) (pa_cons (pv 2) (pa_cons (pe_slice sl_list (pe_callC c_law_past hr (by rfl) (pa_cons (pv 0) (pa_cons (pv 3) pa_nil))) po_none (po_some (pe_un un_neg pe_int))) pa_nil))))
  (pss_cons (ps_setLc (i := 5) (own := [("one", 6)]) (g := (gName 6)) (tt := tYes) (by rfl) sc_law_late.nd rfl rfl (sw_true rfl rfl rfl (by decide +kernel)) (pi_list (pe_callC c_law_asks hr (by rfl) (pa_cons (pv 0) (pa_cons (pv 3) pa_nil)))) (blkOk_by (N := N_law_late) (sc := defScope s_law_late) (own := [("one", 6)]) (by decide +kernel)) (fun _ _ _ _ _ => (pg_name (i := 6) sc_law_late.nd rfl (.inl rfl))) (fun _ _ _ _ _ => pts_nil) (fun _ _ _ _ _ => (pe_tup (pa_cons (pv 6) (pa_cons (pe_op op_sub (pe_dget (hu_of hr) (pv 1) (pv 6) (fun _ _ => rfl)) (pe_dget2 (hu_of hr) (pv 4) (pv 6) pe_int ⟨by rfl, by rfl, by rfl, by rfl⟩)) pa_nil)))))
  (pss_one (ps_expr (pe_bm PySem.F.plainAttrs_list PySem.F.slot_list_append PySem.F.type_list_append mt_append (pv 2) (pa_cons (pe_lc (own := [("pair", 7)]) (g := (gName 7)) (tt := (tTest (tOp rGt (tOp (rIxT K) (tVar 7) (tC (.int 1))) (tC (.int 0))))) (by rfl) sc_law_late.nd (pi_list (pv 5)) (blkOk_by (N := N_law_late) (sc := defScope s_law_late) (own := [("pair", 7)]) (by decide +kernel)) (fun _ _ _ _ _ => (pg_name (i := 7) sc_law_late.nd rfl (.inl rfl))) (fun _ _ _ _ _ => (pts_one (pt_cmpR op_gt (pe_ix ix_tup (pv 7) pe_int (fun _ _ => rfl)) pe_int (nomark _)))) (fun _ _ _ _ _ => (pv 7))) pa_nil)))))))
  (pss_one (ps_ret (pv 2))))))) hsf
abbrev s_law_bent : Stmt := topS 27
theorem sc_law_bent : FnScope N_law_bent ["dice", "plan", "numbers"] (defScope s_law_bent) := ⟨rfl, rfl, rfl, by decide +kernel, rfl, by decide +kernel, by decide +kernel⟩
theorem ok_law_bent {f : Addr} {fd : FuncData} (F : FnP K "_law_bent" s_law_bent f fd) (hm : mg "_law_bent" = some (.ref f)) {p_law_roll : Pre} (c_law_roll : Cal P w K mg base 1 "_law_roll" ["dice", "size"] 2 p_law_roll) {p_law_pick : Pre} (c_law_pick : Cal P w K mg base 2 "_law_pick" ["dice", "some"] 2 p_law_pick) (bu : Bu mg) {Pr : Pre}
    (hsf : ∀ ds O Kd, ds.length = 3 → Pr ds O Kd → Sf (t_law_bent K P w p_law_roll p_law_pick) (args ds 11) O { nx := fun _ O' => Kd .non O', rt := Kd }) : Cal P w K mg base 3 "_law_bent" ["dice", "plan", "numbers"] 3 Pr :=
  mk_ok F sc_law_bent rfl hm (F.bindsN fun _ _ _ _ _ _ us hl => match us, hl with | [_, _, _], _ => rfl) (fun cdv A outer s H E hr =>
  (pss_cons (ps_setLc (i := 3) (own := [("row", 4)]) (g := (gName 4)) (tt := tYes) (by rfl) sc_law_bent.nd rfl rfl (sw_true rfl rfl rfl (by decide +kernel)) (pi_list (pv 1)) (blkOk_by (N := N_law_bent) (sc := defScope s_law_bent) (own := [("row", 4)]) (by decide +kernel)) (fun _ _ _ _ _ => (pg_name (i := 4) sc_law_bent.nd rfl (.inl rfl))) (fun _ _ _ _ _ => pts_nil) (fun _ _ _ _ _ => (pe_callTy call_list_of (by rfl) bu.list_ b_list (pa_cons (pv 4) pa_nil))))
  (pss_cons (ps_setLc (i := 5) (own := [("k", 6), ("row", 4)]) (g := (gTup K 2 (gCons (gName 6) (gCons (gName 4) gNil)))) (tt := (tTest (tOp (rNeD K) (tVar 4) (tLst tNil)))) (by rfl) sc_law_bent.nd rfl rfl (sw_true rfl rfl rfl (by decide +kernel)) (pi_enum (by rfl) bu.enumerate_ (pa_cons (pv 3) pa_nil)) (blkOk_by (N := N_law_bent) (sc := defScope s_law_bent) (own := [("k", 6), ("row", 4)]) (by decide +kernel)) (fun _ _ _ _ _ => (pg_tup rfl (pgs_cons (pg_name (i := 6) sc_law_bent.nd rfl (.inl rfl)) (pgs_cons (pg_name (i := 4) sc_law_bent.nd rfl (.inl rfl)) pgs_nil)))) (fun _ _ _ _ _ => (pts_one (pt_cmpR (op_neD hr.units) (pv 4) (pe_lst pa_nil) (nomark _)))) (fun _ _ _ _ _ => (pv 6)))
  (pss_cons (ps_if (PW.pt (pw_or (pt_cmpR (op_eqD hr.units) (pv 5) (pe_lst pa_nil) (nomark _)) (pw_or1 (pt_cmpR op_eq (pe_callC c_law_roll hr (by rfl) (pa_cons (pv 0) (pa_cons pe_int pa_nil))) pe_int (nomark _))))) (pss_cons (ps_expr (pe_bm PySem.F.plainAttrs_list PySem.F.slot_list_append PySem.F.type_list_append mt_append (pe_ix ix_list (pv 3) (pe_callC c_law_roll hr (by rfl) (pa_cons (pv 0) (pa_cons (pe_callB call_len_seq (by rfl) bu.len_ b_len (pa_cons (pv 3) pa_nil)) pa_nil))) (fun _ _ => rfl)) (pa_cons (pe_tup (pa_cons (pe_callC c_law_pick hr (by rfl) (pa_cons (pv 0) (pa_cons (pe_op op_cat (pv 2) (pe_lst (pa_cons (pe_tup (pa_cons pe_int pa_nil)) pa_nil))) pa_nil))) (pa_cons (pe_callC c_law_roll hr (by rfl) (pa_cons (pv 0) (pa_cons pe_int pa_nil))) pa_nil))) pa_nil)))
  (pss_one (ps_ret (pv 3)))) pss_nil)
  (pss_cons (ps_set (i := 6) sc_law_bent.nd rfl (.inl rfl) (pe_callC c_law_pick hr (by rfl) (pa_cons (pv 0) (pa_cons (pv 5) pa_nil))))
  (pss_cons (ps_set (i := 7) sc_law_bent.nd rfl (.inl rfl) (pe_callC c_law_roll hr (by rfl) (pa_cons (pv 0) (pa_cons (pe_callB call_len_seq (by rfl) bu.len_ b_len (pa_cons (pe_ix ix_list (pv 3) (pv 6) (fun _ _ => rfl)) pa_nil)) pa_nil))))
  (pss_cons (ps_asg (pe_bm PySem.F.plainAttrs_list PySem.F.slot_list_pop PySem.F.type_list_pop mt_popAt (pe_ix ix_list (pv 3) (pv 6) (fun _ _ => rfl)) (pa_cons (pv 7) pa_nil)) (pg_tup rfl (pgs_cons (pg_name (i := 8) sc_law_bent.nd rfl (.inl rfl)) (pgs_cons (pg_name (i := 9) sc_law_bent.nd rfl (.inl rfl)) pgs_nil))))
  (pss_cons (ps_set (i := 10) sc_law_bent.nd rfl (.inl rfl) (pe_callC c_law_roll hr (by rfl) (pa_cons (pv 0) (pa_cons pe_int pa_nil))))
  (pss_cons (ps_if (PW.pt (pw_and (pt_cmpR op_eq (pv 10) pe_int (nomark _)) (pw_and1 (pt_cmpR op_gt (pv 9) pe_int (nomark _))))) (pss_one (ps_expr (pe_bm PySem.F.plainAttrs_list PySem.F.slot_list_insert PySem.F.type_list_insert mt_insert (pe_ix ix_list (pv 3) (pv 6) (fun _ _ => rfl)) (pa_cons (pv 7) (pa_cons (pe_tup (pa_cons (pv 8) (pa_cons (pe_op op_sub (pv 9) pe_int) pa_nil))) pa_nil))))) (pss_one (ps_if (pt_cmpR op_eq (pv 10) pe_int (nomark _)) (pss_one (ps_expr (pe_bm PySem.F.plainAttrs_list PySem.F.slot_list_insert PySem.F.type_list_insert mt_insert (pe_ix ix_list (pv 3) (pv 6) (fun _ _ => rfl)) (pa_cons (pv 7) (pa_cons (pe_tup (pa_cons (pv 8) (pa_cons (pe_op op_add (pv 9) (pe_callC c_law_pick hr (by rfl) (pa_cons (pv 0) (pa_cons (pe_lst (pa_cons pe_int (pa_cons (pe_op op_pow pe_int pe_int) pa_nil))) pa_nil)))) pa_nil))) pa_nil))))) (pss_one (ps_if (pt_cmpR op_eq (pv 10) pe_int (nomark _)) (pss_one (ps_expr (pe_bm PySem.F.plainAttrs_list PySem.F.slot_list_insert PySem.F.type_list_insert mt_insert (pe_ix ix_list (pv 3) (pv 6) (fun _ _ => rfl)) (pa_cons (pv 7) (pa_cons (pe_tup (pa_cons (pe_callC c_law_pick hr (by rfl) (pa_cons (pv 0) (pa_cons (pe_op op_cat (pv 2) (pe_lst (pa_cons (pe_op op_catA (pv 8) (pe_tup (pa_cons pe_int pa_nil))) (pa_cons (pe_tup (pa_cons pe_int pa_nil)) pa_nil)))) pa_nil))) (pa_cons (pv 9) pa_nil))) pa_nil))))) (pss_one (ps_if (pt_cmpR op_lt (pv 10) pe_int (nomark _)) (pss_one (ps_expr (pe_bm PySem.F.plainAttrs_list PySem.F.slot_list_append PySem.F.type_list_append mt_append (pe_ix ix_list (pv 3) (pe_callC c_law_roll hr (by rfl) (pa_cons (pv 0) (pa_cons (pe_callB call_len_seq (by rfl) bu.len_ b_len (pa_cons (pv 3) pa_nil)) pa_nil))) (fun _ _ => rfl)) (pa_cons (pe_tup (pa_cons (pv 8) (pa_cons (pv 9) pa_nil))) pa_nil)))) (pss_one (ps_asg (pe_op op_cat (pe_op op_cat (pe_lst (pa_cons (pe_tup (pa_cons (pv 8) (pa_cons (pe_op op_sub (pv 9) (pe_op op_fdiv (pv 9) pe_int)) pa_nil))) pa_nil)) (pe_ix ix_list (pv 3) (pv 6) (fun _ _ => rfl))) (pe_lst (pa_cons (pe_tup (pa_cons (pv 8) (pa_cons (pe_op op_fdiv (pv 9) pe_int) pa_nil))) pa_nil))) (pg_sub (pv 3) (pv 6) set_list))))))))))
  (pss_one (ps_ret (pv 3)))))))))))) hsf
abbrev s_law_drawn_plan : Stmt := topS 28
theorem sc_law_drawn_plan : FnScope N_law_drawn_plan ["dice", "book"] (defScope s_law_drawn_plan) := ⟨rfl, rfl, rfl, by decide +kernel, rfl, by decide +kernel, by decide +kernel⟩
theorem ok_law_drawn_plan {f : Addr} {fd : FuncData} (F : FnP K "_law_drawn_plan" s_law_drawn_plan f fd) (hm : mg "_law_drawn_plan" = some (.ref f)) {p_law_roll : Pre} (c_law_roll : Cal P w K mg base 1 "_law_roll" ["dice", "size"] 2 p_law_roll) {p_law_own : Pre} (c_law_own : Cal P w K mg base 2 "_law_own" ["dice"] 1 p_law_own) {p_law_pick : Pre} (c_law_pick : Cal P w K mg base 2 "_law_pick" ["dice", "some"] 2 p_law_pick) (bu : Bu mg) {Pr : Pre}
    (hsf : ∀ ds O Kd, ds.length = 2 → Pr ds O Kd → Sf (t_law_drawn_plan K P w p_law_roll p_law_own p_law_pick) (args ds 9) O { nx := fun _ O' => Kd .non O', rt := Kd }) : Cal P w K mg base 3 "_law_drawn_plan" ["dice", "book"] 2 Pr :=
  mk_ok F sc_law_drawn_plan rfl hm (F.bindsN fun _ _ _ _ _ _ us hl => match us, hl with | [_, _], _ => rfl) (fun cdv A outer s H E hr =>
  (pss_cons (ps_set (i := 2) sc_law_drawn_plan.nd rfl (.inr rfl) (pe_op op_cat (pe_lc (own := [("number", 3), ("own", 4), ("asked", 5)]) (g := (gTup K 3 (gCons (gName 3) (gCons (gName 4) (gCons (gName 5) gNil))))) (tt := tYes) (by rfl) sc_law_drawn_plan.nd (pi_list (pe_ix ix_tup (pv 1) pe_int (fun _ _ => rfl))) (blkOk_by (N := N_law_drawn_plan) (sc := defScope s_law_drawn_plan) (own := [("number", 3), ("own", 4), ("asked", 5)]) (by decide +kernel)) (fun _ _ _ _ _ => (pg_tup rfl (pgs_cons (pg_name (i := 3) sc_law_drawn_plan.nd rfl (.inl rfl)) (pgs_cons (pg_name (i := 4) sc_law_drawn_plan.nd rfl (.inl rfl)) (pgs_cons (pg_name (i := 5) sc_law_drawn_plan.nd rfl (.inl rfl)) pgs_nil))))) (fun _ _ _ _ _ => pts_nil) (fun _ _ _ _ _ => (pv 3))) (pe_lst (pa_cons (pe_tup (pa_cons pe_int (pa_cons pe_int pa_nil))) pa_nil))))
  (pss_cons (ps_set (i := 6) sc_law_drawn_plan.nd rfl (.inl rfl) (pe_lst pa_nil))
  (pss_cons (ps_for PassesOwn.never rfl (pi_list (pe_ix ix_tup (pv 1) pe_int (fun _ _ => rfl))) (pg_name (i := 7) sc_law_drawn_plan.nd rfl (.inl rfl)) (pss_one (ps_expr (pe_bm PySem.F.plainAttrs_list PySem.F.slot_list_append PySem.F.type_list_append mt_append (pv 6) (pa_cons (pe_lc (own := [("k", 8)]) (g := (gName 8)) (tt := tYes) (by rfl) sc_law_drawn_plan.nd (pi_range1 (by rfl) bu.range_ (pa_cons (pe_callC c_law_roll hr (by rfl) (pa_cons (pv 0) (pa_cons pe_int pa_nil))) pa_nil)) (blkOk_by (N := N_law_drawn_plan) (sc := defScope s_law_drawn_plan) (own := [("k", 8)]) (by decide +kernel)) (fun _ _ _ _ _ => (pg_name (i := 8) sc_law_drawn_plan.nd rfl (.inl rfl))) (fun _ _ _ _ _ => pts_nil) (fun _ _ _ _ _ => (pe_tup (pa_cons (pe_callC c_law_pick hr (by rfl) (pa_cons (pv 0) (pa_cons (pv 2) pa_nil))) (pa_cons (pe_callC c_law_own hr (by rfl) (pa_cons (pv 0) pa_nil)) pa_nil))))) pa_nil)))))
  (pss_one (ps_ret (pv 6))))))) hsf
abbrev slaw : Stmt := topS 29
theorem sclaw : FnScope Nlaw ["script"] (defScope slaw) := ⟨rfl, rfl, rfl, by decide +kernel, rfl, by decide +kernel, by decide +kernel⟩
theorem pslaw {f : Addr} {p_law_ledger : Pre} (c_law_ledger : Cal P w K mg base 4 "_law_ledger" ["dice"] 1 p_law_ledger) {p_law_drawn_plan : Pre} (c_law_drawn_plan : Cal P w K mg base 3 "_law_drawn_plan" ["dice", "book"] 2 p_law_drawn_plan) {p_law_late : Pre} (c_law_late : Cal P w K mg base 2 "_law_late" ["book"] 1 p_law_late) {p_law_pick : Pre} (c_law_pick : Cal P w K mg base 2 "_law_pick" ["dice", "some"] 2 p_law_pick) {p_law_bent : Pre} (c_law_bent : Cal P w K mg base 3 "_law_bent" ["dice", "plan", "numbers"] 3 p_law_bent) {p_law_lacks : Pre} (c_law_lacks : Cal P w K mg base 2 "_law_lacks" ["book", "plan"] 2 p_law_lacks) {placking : Pre} (clacking : Cal P w K mg base 3 "lacking" ["ledger", "plan"] 2 placking) {pis_let_by : Pre} (cis_let_by : Cal P w K mg base 4 "is_let_by" ["ledger", "thing"] 2 pis_let_by) (bu : Bu mg) {cdv : Value} {outer : List Env} {s : Shared} {H : Hp} {E : XK} {A : Around} (hgd : A.guards = some []) (hr : Room 4 (A.deeper (envOfC "law" (defScope slaw) s.heap.objs.size f cdv))) :
    PSs (cxOf CX0 P w K mg base Nlaw "law" (defScope slaw) f cdv A outer s H E).nox (defBody slaw) (tlaw K P w p_law_ledger p_law_drawn_plan p_law_late p_law_pick p_law_bent p_law_lacks placking pis_let_by) :=
  (pss_cons (ps_set (i := 1) sclaw.nd rfl (.inl rfl) (pe_lst (pa_cons (pe_callTy call_list_of (by rfl) bu.list_ b_list (pa_cons (pe_slice sl_list (pv 0) po_none (po_some pe_int)) pa_nil)) (pa_cons pe_int (pa_cons pe_int (pa_cons pe_int pa_nil))))))
  (pss_cons (ps_for PassesOwn.never rfl (pi_range1 (by rfl) bu.range_ (pa_cons pe_int pa_nil)) (pg_name (i := 2) sclaw.nd rfl (.inl rfl)) (pss_cons (ps_set (i := 3) sclaw.nd rfl (.inl rfl) (pe_callC c_law_ledger hr (by rfl) (pa_cons (pv 1) pa_nil)))
  (pss_cons (ps_set (i := 4) sclaw.nd rfl (.inl rfl) (pe_lst (pa_cons (pe_callC c_law_late hr (by rfl) (pa_cons (pv 3) pa_nil)) (pa_cons (pe_lc (own := [("row", 5)]) (g := (gName 5)) (tt := tYes) (by rfl) sclaw.nd (pi_list (pe_ix ix_tup (pv 3) pe_int (fun _ _ => rfl))) (blkOk_by (N := Nlaw) (sc := defScope slaw) (own := [("row", 5)]) (by decide +kernel)) (fun _ _ _ _ _ => (pg_name (i := 5) sclaw.nd rfl (.inl rfl))) (fun _ _ _ _ _ => pts_nil) (fun _ _ _ _ _ => (pe_lst pa_nil))) (pa_cons (pe_callC c_law_drawn_plan hr (by rfl) (pa_cons (pv 1) (pa_cons (pv 3) pa_nil))) pa_nil)))))
  (pss_cons (ps_for PassesOwn.never rfl (pi_range1 (by rfl) bu.range_ (pa_cons (pe_op op_mul pe_int (pe_callTy call_int1 (by rfl) bu.int_ b_int (pa_cons (pe_cmpR (op_neD hr.units) (pe_ix ix_tup (pv 3) pe_int (fun _ _ => rfl)) (pe_lst pa_nil) (nomark _)) pa_nil))) pa_nil)) (pg_name (i := 6) sclaw.nd rfl (.inl rfl)) (pss_cons (ps_set (i := 7) sclaw.nd rfl (.inl rfl) (pe_callC c_law_pick hr (by rfl) (pa_cons (pv 1) (pa_cons (pe_lst (pa_cons (pe_ix ix_list (pv 4) pe_int (fun _ _ => rfl)) (pa_cons (pe_ix ix_list (pv 4) pe_int (fun _ _ => rfl)) (pa_cons (pe_ix ix_list (pv 4) (pe_un un_neg pe_int) (fun _ _ => rfl)) pa_nil)))) pa_nil))))
  (pss_one (ps_expr (pe_bm PySem.F.plainAttrs_list PySem.F.slot_list_append PySem.F.type_list_append mt_append (pv 4) (pa_cons (pe_callC c_law_bent hr (by rfl) (pa_cons (pv 1) (pa_cons (pv 7) (pa_cons (pe_lc (own := [("number", 8), ("own", 9), ("asked", 10)]) (g := (gTup K 3 (gCons (gName 8) (gCons (gName 9) (gCons (gName 10) gNil))))) (tt := tYes) (by rfl) sclaw.nd (pi_list (pe_ix ix_tup (pv 3) pe_int (fun _ _ => rfl))) (blkOk_by (N := Nlaw) (sc := defScope slaw) (own := [("number", 8), ("own", 9), ("asked", 10)]) (by decide +kernel)) (fun _ _ _ _ _ => (pg_tup rfl (pgs_cons (pg_name (i := 8) sclaw.nd rfl (.inl rfl)) (pgs_cons (pg_name (i := 9) sclaw.nd rfl (.inl rfl)) (pgs_cons (pg_name (i := 10) sclaw.nd rfl (.inl rfl)) pgs_nil))))) (fun _ _ _ _ _ => pts_nil) (fun _ _ _ _ _ => (pv 8))) pa_nil)))) pa_nil))))))
  (pss_cons (ps_set (i := 11) sclaw.nd rfl (.inl rfl) (pe_callB (cr_repr hgd hr.units) (by rfl) bu.repr_ b_repr (pa_cons (pe_lst (pa_cons (pv 3) (pa_cons (pv 4) pa_nil))) pa_nil)))
  (pss_cons (ps_for PassesOwn.never rfl (pi_list (pv 4)) (pg_name (i := 12) sclaw.nd rfl (.inl rfl)) (pss_cons (ps_set (i := 13) sclaw.nd rfl (.inl rfl) (pe_callC c_law_lacks hr (by rfl) (pa_cons (pv 3) (pa_cons (pv 12) pa_nil))))
  (pss_cons (ps_set (i := 14) sclaw.nd rfl (.inl rfl) (pe_callC clacking hr (by rfl) (pa_cons (pv 3) (pa_cons (pv 12) pa_nil))))
  (pss_cons (ps_if (PW.pt (pw_or (pt_not (pt_val (pe_callB call_isi (by rfl) bu.isinstance_ b_isinstance (pa_cons (pv 14) (pa_cons (pe_bltn (v := .ty "list") (by rfl) bu.list_ b_list rfl) pa_nil))))) (pw_or (pt_cmpR (op_neD hr.units) (pv 14) (pv 13) (nomark _)) (pw_or1 (pt_cmpR op_ne (pe_callC cis_let_by hr (by rfl) (pa_cons (pv 3) (pa_cons (pv 12) pa_nil))) (pe_cmpR (op_eqD hr.units) (pv 13) (pe_lst pa_nil) (nomark _)) (nomark _)))))) (pss_one (ps_ret pe_bl)) pss_nil)
  (pss_cons (ps_expr (pe_bm PySem.F.plainAttrs_list PySem.F.slot_list_append PySem.F.type_list_append mt_append (pv 14) (pa_cons pe_int pa_nil)))
  (pss_one (ps_if (pt_cmpR (op_neD hr.units) (pe_callC clacking hr (by rfl) (pa_cons (pv 3) (pa_cons (pv 12) pa_nil))) (pv 13) (nomark _)) (pss_one (ps_ret pe_bl)) pss_nil)))))))
  (pss_one (ps_if (pt_cmpR op_ne (pe_callB (cr_repr hgd hr.units) (by rfl) bu.repr_ b_repr (pa_cons (pe_lst (pa_cons (pv 3) (pa_cons (pv 4) pa_nil))) pa_nil)) (pv 11) (nomark _)) (pss_one (ps_ret pe_bl)) pss_nil))))))))
  (pss_one (ps_ret pe_bl))))
end
end OW

/-! the join and the head (printed by head.py) -/
namespace OW
open PySem PySem.Spec PyProof.Rows L2

def ddpast : He.DefD := ⟨("past", none), "past", "past", defArgs spast, defBody spast, defScope spast, [], []⟩
def ddasks : He.DefD := ⟨("asks", none), "asks", "asks", defArgs sasks, defBody sasks, defScope sasks, [], []⟩
def ddown_steps : He.DefD := ⟨("own_steps", none), "own_steps", "own_steps", defArgs sown_steps, defBody sown_steps, defScope sown_steps, [], []⟩
def ddis_whole : He.DefD := ⟨("is_whole", none), "is_whole", "is_whole", defArgs sis_whole, defBody sis_whole, defScope sis_whole, [], []⟩
def ddis_own_number : He.DefD := ⟨("is_own_number", none), "is_own_number", "is_own_number", defArgs sis_own_number, defBody sis_own_number, defScope sis_own_number, [], []⟩
def ddis_row : He.DefD := ⟨("is_row", none), "is_row", "is_row", defArgs sis_row, defBody sis_row, defScope sis_row, [], []⟩
def ddis_plan : He.DefD := ⟨("is_plan", none), "is_plan", "is_plan", defArgs sis_plan, defBody sis_plan, defScope sis_plan, [], []⟩
def ddpaid : He.DefD := ⟨("paid", none), "paid", "paid", defArgs spaid, defBody spaid, defScope spaid, [], []⟩
def ddlacking_at : He.DefD := ⟨("lacking_at", none), "lacking_at", "lacking_at", defArgs slacking_at, defBody slacking_at, defScope slacking_at, [], []⟩
def ddlacking : He.DefD := ⟨("lacking", none), "lacking", "lacking", defArgs slacking, defBody slacking, defScope slacking, [], []⟩
def ddis_let_by : He.DefD := ⟨("is_let_by", none), "is_let_by", "is_let_by", defArgs sis_let_by, defBody sis_let_by, defScope sis_let_by, [], []⟩
def dd_law_roll : He.DefD := ⟨("_law_roll", none), "_law_roll", "_law_roll", defArgs s_law_roll, defBody s_law_roll, defScope s_law_roll, [], []⟩
def dd_law_pick : He.DefD := ⟨("_law_pick", none), "_law_pick", "_law_pick", defArgs s_law_pick, defBody s_law_pick, defScope s_law_pick, [], []⟩
def dd_law_some : He.DefD := ⟨("_law_some", none), "_law_some", "_law_some", defArgs s_law_some, defBody s_law_some, defScope s_law_some, [], []⟩
def dd_law_own : He.DefD := ⟨("_law_own", none), "_law_own", "_law_own", defArgs s_law_own, defBody s_law_own, defScope s_law_own, [], []⟩
def dd_law_ledger : He.DefD := ⟨("_law_ledger", none), "_law_ledger", "_law_ledger", defArgs s_law_ledger, defBody s_law_ledger, defScope s_law_ledger, [], []⟩
def dd_law_past : He.DefD := ⟨("_law_past", none), "_law_past", "_law_past", defArgs s_law_past, defBody s_law_past, defScope s_law_past, [], []⟩
def dd_law_asks : He.DefD := ⟨("_law_asks", none), "_law_asks", "_law_asks", defArgs s_law_asks, defBody s_law_asks, defScope s_law_asks, [], []⟩
def dd_law_owns : He.DefD := ⟨("_law_owns", none), "_law_owns", "_law_owns", defArgs s_law_owns, defBody s_law_owns, defScope s_law_owns, [], []⟩
def dd_law_paid : He.DefD := ⟨("_law_paid", none), "_law_paid", "_law_paid", defArgs s_law_paid, defBody s_law_paid, defScope s_law_paid, [], []⟩
def dd_law_lacks : He.DefD := ⟨("_law_lacks", none), "_law_lacks", "_law_lacks", defArgs s_law_lacks, defBody s_law_lacks, defScope s_law_lacks, [], []⟩
def dd_law_late : He.DefD := ⟨("_law_late", none), "_law_late", "_law_late", defArgs s_law_late, defBody s_law_late, defScope s_law_late, [], []⟩
def dd_law_bent : He.DefD := ⟨("_law_bent", none), "_law_bent", "_law_bent", defArgs s_law_bent, defBody s_law_bent, defScope s_law_bent, [], []⟩
def dd_law_drawn_plan : He.DefD := ⟨("_law_drawn_plan", none), "_law_drawn_plan", "_law_drawn_plan", defArgs s_law_drawn_plan, defBody s_law_drawn_plan, defScope s_law_drawn_plan, [], []⟩
def ddlaw : He.DefD := ⟨("law", none), "law", "law", defArgs slaw, defBody slaw, defScope slaw, [], []⟩
def hFn : List He.DefD := [ddpast, ddasks, ddown_steps, ddis_whole, ddis_own_number, ddis_row, ddis_plan, ddpaid, ddlacking_at, ddlacking, ddis_let_by, dd_law_roll, dd_law_pick, dd_law_some, dd_law_own, dd_law_ledger, dd_law_past, dd_law_asks, dd_law_owns, dd_law_paid, dd_law_lacks, dd_law_late, dd_law_bent, dd_law_drawn_plan, ddlaw]
def hFa : List He.Fa := [.glo "past", .glo "asks", .glo "own_steps", .glo "is_whole", .glo "is_own_number", .glo "is_row", .glo "is_plan", .glo "paid", .glo "lacking_at", .glo "lacking", .glo "is_let_by", .glo "_law_roll", .glo "_law_pick", .glo "_law_some", .glo "_law_own", .glo "_law_ledger", .glo "_law_past", .glo "_law_asks", .glo "_law_owns", .glo "_law_paid", .glo "_law_lacks", .glo "_law_late", .glo "_law_bent", .glo "_law_drawn_plan", .glo "law", .free "len", .free "range", .free "sorted", .free "list", .free "tuple", .free "set", .free "sum", .free "int", .free "dict", .free "enumerate", .free "zip", .free "repr", .free "isinstance", .free "all", .free "bool", .int "MOST_AMOUNT" 1000000000000000000, .int "MOST_PARTS" 100, .int "MOST_PAIRS" 100000]
abbrev hRow : PySem.W.OpenRow := PySem.W.OpenLaw.row PySem.Challenge.rw_owedonce_k61_what_is_lacking
abbrev hHk : PySem.W.Hook := He.hookD 4 hFa hFn
def hOb (s : PySem.W.SharedT) : He.AlD := He.obsDG 4 hFa hFn (HandSHeadRun.getT s)
theorem hOb_eq (s : PySem.W.SharedT) : hOb s = hHk.obs s.abs := He.obsDG_eq (HandSHeadRun.getT_eq s)
def hLoose : List Str := ["MOST_AMOUNT", "MOST_PAIRS", "MOST_PARTS", "__name__", "_law_asks", "_law_bent", "_law_drawn_plan", "_law_lacks", "_law_late", "_law_ledger", "_law_own", "_law_owns", "_law_paid", "_law_past", "_law_pick", "_law_roll", "_law_some", "asks", "is_let_by", "is_own_number", "is_plan", "is_row", "is_whole", "lacking", "lacking_at", "own_steps", "paid", "past"]
theorem hRun (w : World) : HandSHeadRun.RunEq hRow (PySem.W.view hRow.prog [29]) hHk hOb 4000 hLoose w := by
  intro os
  kernel_rfl
theorem hFacts {P : Program} {w : World} {K : PySem.W.Frag} {h : Heap} {mg : Str → Option Value} {f : Addr} (X : K.In h) (G : h.Ns mainGlobals mg) (hfa : mg ("law" : Str) = some (.ref f)) (c : He.SaysD hFa hFn K) :
    ∃ fd : FuncData, (∀ (s : Shared) (v : Value), BindsTo s fd ⟨[v], []⟩ [("script", v)]) ∧ ∀ base : Heap, K.In base → base.Ns mainGlobals mg → LawC P w K mg base f fd "script" (spLaw K) := by
  have bu : Bu mg := ⟨He.free_ok X G (c.fact 25 (f := .free "len") rfl), He.free_ok X G (c.fact 26 (f := .free "range") rfl), He.free_ok X G (c.fact 27 (f := .free "sorted") rfl), He.free_ok X G (c.fact 28 (f := .free "list") rfl), He.free_ok X G (c.fact 29 (f := .free "tuple") rfl), He.free_ok X G (c.fact 30 (f := .free "set") rfl), He.free_ok X G (c.fact 31 (f := .free "sum") rfl), He.free_ok X G (c.fact 32 (f := .free "int") rfl), He.free_ok X G (c.fact 33 (f := .free "dict") rfl), He.free_ok X G (c.fact 34 (f := .free "enumerate") rfl), He.free_ok X G (c.fact 35 (f := .free "zip") rfl), He.free_ok X G (c.fact 36 (f := .free "repr") rfl), He.free_ok X G (c.fact 37 (f := .free "isinstance") rfl), He.free_ok X G (c.fact 38 (f := .free "all") rfl), He.free_ok X G (c.fact 39 (f := .free "bool") rfl)⟩
  have gMOST_AMOUNT : ∃ t, mg "MOST_AMOUNT" = some (.int 1000000000000000000 t) := He.int_ok X G (c.fact 40 (f := .int "MOST_AMOUNT" 1000000000000000000) rfl)
  have gMOST_PARTS : ∃ t, mg "MOST_PARTS" = some (.int 100 t) := He.int_ok X G (c.fact 41 (f := .int "MOST_PARTS" 100) rfl)
  have gMOST_PAIRS : ∃ t, mg "MOST_PAIRS" = some (.int 100000 t) := He.int_ok X G (c.fact 42 (f := .int "MOST_PAIRS" 100000) rfl)
  obtain ⟨fdpast, Fpast⟩ := c.def_ 0 (d := ddpast) rfl
  have mpast := He.glo_ok X G (c.fact 0 (f := .glo "past") rfl)
  obtain ⟨fdasks, Fasks⟩ := c.def_ 1 (d := ddasks) rfl
  have masks := He.glo_ok X G (c.fact 1 (f := .glo "asks") rfl)
  obtain ⟨fdown_steps, Fown_steps⟩ := c.def_ 2 (d := ddown_steps) rfl
  have mown_steps := He.glo_ok X G (c.fact 2 (f := .glo "own_steps") rfl)
  obtain ⟨fdis_whole, Fis_whole⟩ := c.def_ 3 (d := ddis_whole) rfl
  have mis_whole := He.glo_ok X G (c.fact 3 (f := .glo "is_whole") rfl)
  obtain ⟨fdis_own_number, Fis_own_number⟩ := c.def_ 4 (d := ddis_own_number) rfl
  have mis_own_number := He.glo_ok X G (c.fact 4 (f := .glo "is_own_number") rfl)
  obtain ⟨fdis_row, Fis_row⟩ := c.def_ 5 (d := ddis_row) rfl
  have mis_row := He.glo_ok X G (c.fact 5 (f := .glo "is_row") rfl)
  obtain ⟨fdis_plan, Fis_plan⟩ := c.def_ 6 (d := ddis_plan) rfl
  have mis_plan := He.glo_ok X G (c.fact 6 (f := .glo "is_plan") rfl)
  obtain ⟨fdpaid, Fpaid⟩ := c.def_ 7 (d := ddpaid) rfl
  have mpaid := He.glo_ok X G (c.fact 7 (f := .glo "paid") rfl)
  obtain ⟨fdlacking_at, Flacking_at⟩ := c.def_ 8 (d := ddlacking_at) rfl
  have mlacking_at := He.glo_ok X G (c.fact 8 (f := .glo "lacking_at") rfl)
  obtain ⟨fdlacking, Flacking⟩ := c.def_ 9 (d := ddlacking) rfl
  have mlacking := He.glo_ok X G (c.fact 9 (f := .glo "lacking") rfl)
  obtain ⟨fdis_let_by, Fis_let_by⟩ := c.def_ 10 (d := ddis_let_by) rfl
  have mis_let_by := He.glo_ok X G (c.fact 10 (f := .glo "is_let_by") rfl)
  obtain ⟨fd_law_roll, F_law_roll⟩ := c.def_ 11 (d := dd_law_roll) rfl
  have m_law_roll := He.glo_ok X G (c.fact 11 (f := .glo "_law_roll") rfl)
  obtain ⟨fd_law_pick, F_law_pick⟩ := c.def_ 12 (d := dd_law_pick) rfl
  have m_law_pick := He.glo_ok X G (c.fact 12 (f := .glo "_law_pick") rfl)
  obtain ⟨fd_law_some, F_law_some⟩ := c.def_ 13 (d := dd_law_some) rfl
  have m_law_some := He.glo_ok X G (c.fact 13 (f := .glo "_law_some") rfl)
  obtain ⟨fd_law_own, F_law_own⟩ := c.def_ 14 (d := dd_law_own) rfl
  have m_law_own := He.glo_ok X G (c.fact 14 (f := .glo "_law_own") rfl)
  obtain ⟨fd_law_ledger, F_law_ledger⟩ := c.def_ 15 (d := dd_law_ledger) rfl
  have m_law_ledger := He.glo_ok X G (c.fact 15 (f := .glo "_law_ledger") rfl)
  obtain ⟨fd_law_past, F_law_past⟩ := c.def_ 16 (d := dd_law_past) rfl
  have m_law_past := He.glo_ok X G (c.fact 16 (f := .glo "_law_past") rfl)
  obtain ⟨fd_law_asks, F_law_asks⟩ := c.def_ 17 (d := dd_law_asks) rfl
  have m_law_asks := He.glo_ok X G (c.fact 17 (f := .glo "_law_asks") rfl)
  obtain ⟨fd_law_owns, F_law_owns⟩ := c.def_ 18 (d := dd_law_owns) rfl
  have m_law_owns := He.glo_ok X G (c.fact 18 (f := .glo "_law_owns") rfl)
  obtain ⟨fd_law_paid, F_law_paid⟩ := c.def_ 19 (d := dd_law_paid) rfl
  have m_law_paid := He.glo_ok X G (c.fact 19 (f := .glo "_law_paid") rfl)
  obtain ⟨fd_law_lacks, F_law_lacks⟩ := c.def_ 20 (d := dd_law_lacks) rfl
  have m_law_lacks := He.glo_ok X G (c.fact 20 (f := .glo "_law_lacks") rfl)
  obtain ⟨fd_law_late, F_law_late⟩ := c.def_ 21 (d := dd_law_late) rfl
  have m_law_late := He.glo_ok X G (c.fact 21 (f := .glo "_law_late") rfl)
  obtain ⟨fd_law_bent, F_law_bent⟩ := c.def_ 22 (d := dd_law_bent) rfl
  have m_law_bent := He.glo_ok X G (c.fact 22 (f := .glo "_law_bent") rfl)
  obtain ⟨fd_law_drawn_plan, F_law_drawn_plan⟩ := c.def_ 23 (d := dd_law_drawn_plan) rfl
  have m_law_drawn_plan := He.glo_ok X G (c.fact 23 (f := .glo "_law_drawn_plan") rfl)
  obtain ⟨fd, F⟩ := c.def_ 24 (d := ddlaw) rfl
  have e := hfa.symm.trans (He.glo_ok X G (c.fact 24 (f := .glo "law") rfl))
  cases e
  have b := FunD.bindsA (ps := ["script"]) F fun _ _ _ _ _ _ us hl => match us, hl with | [_], _ => rfl
  refine ⟨fd, fun s v => b s [v] rfl, fun base _ _ => ?_⟩
  have cpast := okpast (P := P) (w := w) (base := base) Fpast mpast bu (Pr := pPast) (fun ds O Kd hl h => sf_past ds O Kd hl h)
  have casks := okasks (P := P) (w := w) (base := base) Fasks masks bu (Pr := pAsks) (fun ds O Kd hl h => sf_asks ds O Kd hl h)
  have cown_steps := okown_steps (P := P) (w := w) (base := base) Fown_steps mown_steps bu (Pr := pOwns) (fun ds O Kd hl h => sf_own_steps ds O Kd hl h)
  have cis_whole := okis_whole (P := P) (w := w) (base := base) Fis_whole mis_whole bu (Pr := pWholeT) (fun ds O Kd hl h => sf_is_whole ds O Kd hl h)
  have cis_own_number := okis_own_number (P := P) (w := w) (base := base) Fis_own_number mis_own_number gMOST_PARTS bu (Pr := pNumT) (fun ds O Kd hl h => sf_is_num ds O Kd hl h)
  have cis_row := okis_row (P := P) (w := w) (base := base) Fis_row mis_row cis_own_number cis_whole gMOST_PAIRS gMOST_AMOUNT bu (Pr := pRowT) (fun ds O Kd hl h => sf_is_row ds O Kd hl h)
  have cis_plan := okis_plan (P := P) (w := w) (base := base) Fis_plan mis_plan cis_row bu (Pr := pPlanT) (fun ds O Kd hl h => sf_is_plan ds O Kd hl h)
  have cpaid := okpaid (P := P) (w := w) (base := base) Fpaid mpaid bu (Pr := pPaid) (fun ds O Kd hl h => sf_paid ds O Kd hl h)
  have clacking_at := oklacking_at (P := P) (w := w) (base := base) Flacking_at mlacking_at cown_steps cpaid casks bu (Pr := pLack) (fun ds O Kd hl h => sf_lacking_at ds O Kd hl h)
  have clacking := oklacking (P := P) (w := w) (base := base) Flacking mlacking cpast clacking_at bu (Pr := pLacking) (fun ds O Kd hl h => sf_lacking ds O Kd hl h)
  have cis_let_by := okis_let_by (P := P) (w := w) (base := base) Fis_let_by mis_let_by cis_plan clacking bu (Pr := pLetBy) (fun ds O Kd hl h => sf_is_let_by ds O Kd hl h)
  have c_law_roll := ok_law_roll (P := P) (w := w) (base := base) F_law_roll m_law_roll bu (Pr := pRoll) (fun ds O Kd hl h => sf_roll ds O Kd hl h)
  have c_law_pick := ok_law_pick (P := P) (w := w) (base := base) F_law_pick m_law_pick c_law_roll bu (Pr := pPick) (fun ds O Kd hl h => sf_pick ds O Kd hl h)
  have c_law_some := ok_law_some (P := P) (w := w) (base := base) F_law_some m_law_some c_law_roll c_law_pick bu (Pr := pSome) (fun ds O Kd hl h => sf_some ds O Kd hl h)
  have c_law_own := ok_law_own (P := P) (w := w) (base := base) F_law_own m_law_own c_law_roll bu (Pr := pOwn) (fun ds O Kd hl h => sf_own ds O Kd hl h)
  have c_law_ledger := ok_law_ledger (P := P) (w := w) (base := base) F_law_ledger m_law_ledger c_law_roll c_law_some c_law_own c_law_pick bu (Pr := pLedger) (fun ds O Kd hl h => sf_ledger ds O Kd hl h)
  have c_law_past := ok_law_past (P := P) (w := w) (base := base) F_law_past m_law_past bu (Pr := pPast) (fun ds O Kd hl h => sf_lpast ds O Kd hl h)
  have c_law_asks := ok_law_asks (P := P) (w := w) (base := base) F_law_asks m_law_asks bu (Pr := pAsks) (fun ds O Kd hl h => sf_lasks ds O Kd hl h)
  have c_law_owns := ok_law_owns (P := P) (w := w) (base := base) F_law_owns m_law_owns bu (Pr := pOwns) (fun ds O Kd hl h => sf_lowns ds O Kd hl h)
  have c_law_paid := ok_law_paid (P := P) (w := w) (base := base) F_law_paid m_law_paid bu (Pr := pPaid) (fun ds O Kd hl h => sf_lpaid ds O Kd hl h)
  have c_law_lacks := ok_law_lacks (P := P) (w := w) (base := base) F_law_lacks m_law_lacks c_law_owns c_law_past c_law_paid c_law_asks bu (Pr := pLLacks) (fun ds O Kd hl h => sf_llacks ds O Kd hl h)
  have c_law_late := ok_law_late (P := P) (w := w) (base := base) F_law_late m_law_late c_law_owns c_law_past c_law_paid c_law_asks bu (Pr := pLLate) (fun ds O Kd hl h => sf_llate ds O Kd hl h)
  have c_law_bent := ok_law_bent (P := P) (w := w) (base := base) F_law_bent m_law_bent c_law_roll c_law_pick bu (Pr := pBent) (fun ds O Kd hl h => sf_bent ds O Kd hl h)
  have c_law_drawn_plan := ok_law_drawn_plan (P := P) (w := w) (base := base) F_law_drawn_plan m_law_drawn_plan c_law_roll c_law_own c_law_pick bu (Pr := pDrawn) (fun ds O Kd hl h => sf_drawn ds O Kd hl h)
  exact lawC_of (k := 4) F sclaw ⟨rfl, by decide, by decide⟩ fun cdv s H v Q E hr hsp => ⟨_, pslaw c_law_ledger c_law_drawn_plan c_law_late c_law_pick c_law_bent c_law_lacks clacking cis_let_by bu rfl hr, law_pure v H Q E hsp⟩
end OW
open PySem PySem.W PySem.Calls PyProof.Rows
theorem PySem.Challenge.cw_owedonce_k61_what_is_lacking_holds : PySem.Challenge.rw_owedonce_k61_what_is_lacking.Holds := by
  w_on; o_law
  refine HandSHeadRun.head_any (r := OpenLaw.row PySem.Challenge.rw_owedonce_k61_what_is_lacking) (q := view (OpenLaw.row PySem.Challenge.rw_owedonce_k61_what_is_lacking).prog [29]) (H := OW.hHk) (ob := OW.hOb) (M := 4000) (loose := OW.hLoose) (d := HandSHeadRun.topDef (OpenLaw.row PySem.Challenge.rw_owedonce_k61_what_is_lacking).prog 29) (kwd := []) OW.hOb_eq
    (by kernel_rfl) (fun s => by kernel_rfl) OW.hRun (by kernel_rfl) (by kernel_rfl) (by kernel_rfl) (by rfl) (by first | assumption | decide +kernel) (by decide +kernel) ⟨rfl, rfl, rfl, rfl, rfl, by decide +kernel⟩ ?hw ?hc
  case hw => w_witness2
  case hc =>
    refine OW.walk_ofC (l := PySem.Challenge.rw_owedonce_k61_what_is_lacking) (n := 63) (x := "script") rfl (by decide) (by kernel_rfl) ?F
    intro w mg fa h Y G hmg0
    obtain ⟨K, KX, c⟩ := Y
    have hmg : mg ("law" : PySem.Str) = some (.ref fa) := by
      have e : (HandSHeadRun.topDef (OpenLaw.row PySem.Challenge.rw_owedonce_k61_what_is_lacking).prog 29).name = ("law" : PySem.Str) := by kernel_rfl
      rw [← e]
      exact hmg0
    obtain ⟨fd, hb, hF⟩ := OW.hFacts (P := (PySem.Challenge.rw_owedonce_k61_what_is_lacking).prog) (w := w) KX G hmg c
    exact ⟨K, fd, OW.spLaw K, KX, hb, fun H a ns hl hO hS => ⟨a, ns, rfl, hS, hl, hO, rfl⟩, hF⟩
