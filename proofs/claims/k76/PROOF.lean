import PyProof.Rows.All
import Wide.All
import OpenK.AllK
import Wide.FinOn
import KE.KStateDown
import Lean
import HandS.ForMost
import HandS.Exc
import HandS.Finally
import HandS.EndBits
import HandS.WordsExc
import HandS.Defaults
import HandS.DictTup
import HandS.TupLen
import HandS.Deep
import HandS.Wide
import HandS.TryOnly
import HandS.TryMany
import HandS.IsInst
import HandS.ExcIs
import HandS.ExcValue
import HandS.Sort
import HandS.SortInts
import HandS.Head0
import HandS.Head1
import HandS.Head2
import HandS.HeadEnd
import HandS.HeadHook1
import HandS.HeadHook2
import HandS.Conv
import HandS.Style
import PyProof.DictMoreH
import KE.DataMinMax
import HandS.More
import HandS.Evl
import HandS.DeepEq
import HandS.TupLe
import HandS.Text
import HandS.SetFor
import HandS.Strs
import HandS.ExcInit
import KE.KExcIs
import HandS.ExcField
import HandS.RaiseMore
import HandS.TupAny
import PySem.Challenge.RW_momentloom_k76_bounds_of_models
set_option Elab.async false
set_option linter.all false
set_option maxRecDepth 100000
set_option maxHeartbeats 4000000
namespace Mo
open PySem PySem.Spec PyProof.Rows L2
/-! ### heaps: a part of a heap, what is tracked and may change -/
def Ext (G H : Hp) : Prop := ∀ a o, G a = some o → H a = some o
theorem Ext.refl (H : Hp) : Ext H H := fun _ _ h => h
theorem Ext.trans {H H1 H2 : Hp} (a : Ext H H1) (b : Ext H1 H2) : Ext H H2 := fun x o h => b x o (a x o h)
theorem Ext.new {H : Hp} {p : Addr} {o : HO} (h : H p = none) : Ext H (upd H p o) := fun a u e => by
  rw [upd_ne (ne_of_none e h)]
  exact e
theorem Ext.put {G H : Hp} {p : Addr} {o : HO} (e : Ext G H) (h : G p = none) : Ext G (upd H p o) := fun a u ha => by
  rw [upd_ne (ne_of_none ha h)]
  exact e a u ha
theorem Ext.made {H : Hp} {x dx C : Addr} {fs : List (Str × V)} (nx : H x = none) (nd : H dx = none) : Ext H (upd (upd H dx (.own x)) x (.ins C dx fs)) := fun a u e => by
  rw [upd_ne (ne_of_none e nx), upd_ne (ne_of_none e nd)]
  exact e
theorem Ext.free {H H' : Hp} (e : Ext H H') {p : Addr} (h : H' p = none) : H p = none := by
  cases q : H p with
  | none => rfl
  | some o =>
    rw [e p o q] at h
    cases h
theorem ext_rd {H H' : Hp} {a : Addr} {u : HO} (e : Ext H H') (h : Rd H a u) : Rd H' a u := by
  rcases h with h | ⟨o, h⟩
  · exact Or.inl (e a _ h)
  · exact Or.inr ⟨o, e a _ h⟩
theorem ext_l {K : PySem.W.Frag} {H H' : Hp} {a : Addr} {xs : List V} (e : Ext H H') (h : SqL K H a xs) : SqL K H' a xs := by
  rcases h with h | h
  · exact Or.inl (ext_rd e h)
  · exact Or.inr h
theorem ext_t {K : PySem.W.Frag} {H H' : Hp} {a : Addr} {xs : List V} (e : Ext H H') (h : SqT K H a xs) : SqT K H' a xs := by
  rcases h with h | h
  · exact Or.inl (ext_rd e h)
  · exact Or.inr h
/-- the volatile objects: addresses, and what is true of what stands there -/
abbrev Vo : Type := List (Addr × (HO → Prop))
structure Hd (G H : Hp) (L : Vo) : Prop where
  ex : Ext G H
  at_ : ∀ p ∈ L, ∃ o, H p.1 = some o ∧ p.2 o
  out : ∀ p ∈ L, G p.1 = none
  nd : (L.map (·.1)).Nodup
section
variable {G H H' : Hp} {L : Vo} {p : Addr} {o o' : HO} {φ ψ : HO → Prop}
theorem Hd.get (h : Hd G H L) (m : (p, φ) ∈ L) : ∃ o, H p = some o ∧ φ o := h.at_ _ m
theorem Hd.eq (h : Hd G H L) (m : (p, Eq o) ∈ L) : H p = some o := by
  obtain ⟨u, h1, h2⟩ := h.at_ _ m
  have h3 : o = u := h2
  rw [h3]
  exact h1
theorem Hd.no (h : Hd G H L) (m : (p, φ) ∈ L) : G p = none := h.out _ m
theorem Hd.nil (e : Ext G H) : Hd G H [] := ⟨e, fun _ z => (nomatch z), fun _ z => (nomatch z), List.nodup_nil⟩
theorem Hd.grow (h : Hd G H L) (e : Ext H H') : Hd G H' L := ⟨h.ex.trans e, fun q m => let ⟨o, a, b⟩ := h.at_ q m; ⟨o, e _ _ a, b⟩, h.out, h.nd⟩
theorem nodup_same : ∀ {L : Vo}, (L.map (·.1)).Nodup → ∀ {p : Addr} {φ ψ : HO → Prop}, (p, φ) ∈ L → (p, ψ) ∈ L → φ = ψ
  | [], _, _, _, _, m, _ => nomatch m
  | (q, χ) :: L, nd, p, φ, ψ, m, n => by
    rw [List.map_cons, List.nodup_cons] at nd
    rcases List.mem_cons.mp m with e | m
    · rcases List.mem_cons.mp n with f | n
      · cases e
        cases f
        rfl
      · cases e
        exact absurd (List.mem_map_of_mem (f := (·.1)) n) nd.1
    · rcases List.mem_cons.mp n with f | n
      · cases f
        exact absurd (List.mem_map_of_mem (f := (·.1)) m) nd.1
      · exact nodup_same nd.2 m n
/-- the object at p is changed, within what is told of it -/
theorem Hd.put (h : Hd G H L) (m : (p, φ) ∈ L) (hφ : φ o') : Hd G (upd H p o') L := by
  refine ⟨h.ex.put (h.no m), fun q n => ?_, h.out, h.nd⟩
  obtain ⟨a, χ⟩ := q
  by_cases e : a = p
  · subst e
    have z := nodup_same h.nd n m
    subst z
    exact ⟨o', upd_same, hφ⟩
  · obtain ⟨u, h1, h2⟩ := h.at_ _ n
    exact ⟨u, by rw [upd_ne e]; exact h1, h2⟩
theorem mem_set_ne : ∀ {L : Vo} {i : Nat} {p : Addr} {φ ψ : HO → Prop}, (L.map (·.1)).Nodup → L[i]? = some (p, φ) → ∀ q ∈ L.set i (p, ψ), q = (p, ψ) ∨ (q ∈ L ∧ q.1 ≠ p)
  | [], _, _, _, _, _, e, _, _ => by simp at e
  | x :: L, 0, p, φ, ψ, nd, e, q, hq => by
    simp only [List.getElem?_cons_zero, Option.some.injEq] at e
    subst e
    rw [List.map_cons, List.nodup_cons] at nd
    rw [List.set_cons_zero] at hq
    rcases List.mem_cons.mp hq with h | h
    · exact Or.inl h
    · refine Or.inr ⟨List.mem_cons_of_mem _ h, fun z => ?_⟩
      have w : q.1 ∈ L.map (·.1) := List.mem_map_of_mem (f := (·.1)) h
      rw [z] at w
      exact nd.1 w
  | x :: L, i + 1, p, φ, ψ, nd, e, q, hq => by
    rw [List.getElem?_cons_succ] at e
    rw [List.map_cons, List.nodup_cons] at nd
    rw [List.set_cons_succ] at hq
    rcases List.mem_cons.mp hq with h | h
    · refine Or.inr ⟨by rw [h]; exact List.mem_cons_self, fun z => ?_⟩
      have w : p ∈ L.map (·.1) := List.mem_map_of_mem (f := (·.1)) (List.mem_of_getElem? e)
      rw [h] at z
      rw [z] at nd
      exact nd.1 w
    · rcases mem_set_ne nd.2 e q h with r | ⟨r, s⟩
      · exact Or.inl r
      · exact Or.inr ⟨List.mem_cons_of_mem _ r, s⟩
theorem map_set_fst : ∀ {L : Vo} {i : Nat} {p : Addr} {φ ψ : HO → Prop}, L[i]? = some (p, φ) → (L.set i (p, ψ)).map (·.1) = L.map (·.1)
  | [], _, _, _, _, e => by simp at e
  | x :: L, 0, p, φ, ψ, e => by
    simp only [List.getElem?_cons_zero, Option.some.injEq] at e
    subst e
    rfl
  | x :: L, i + 1, p, φ, ψ, e => by
    rw [List.getElem?_cons_succ] at e
    rw [List.set_cons_succ, List.map_cons, List.map_cons, map_set_fst e]
theorem Hd.set (h : Hd G H L) (i : Nat) (m : L[i]? = some (p, φ)) (hψ : ψ o') : Hd G (upd H p o') (L.set i (p, ψ)) :=
  ⟨h.ex.put (h.no (List.mem_of_getElem? m)), fun q n => by
    rcases mem_set_ne h.nd m q n with e | ⟨n', e⟩
    · subst e
      exact ⟨o', upd_same, hψ⟩
    · obtain ⟨u, h1, h2⟩ := h.at_ _ n'
      exact ⟨u, by rw [upd_ne e]; exact h1, h2⟩, fun q n => by
    rcases mem_set_ne h.nd m q n with e | ⟨n', e⟩
    · subst e
      exact h.no (List.mem_of_getElem? m)
    · exact h.out _ n', by rw [map_set_fst m]; exact h.nd⟩
/-- what is told of the object at place i is told otherwise -/
theorem Hd.re (h : Hd G H L) (i : Nat) (m : L[i]? = some (p, φ)) (hψ : ∀ o, H p = some o → φ o → ψ o) : Hd G H (L.set i (p, ψ)) :=
  ⟨h.ex, fun q n => by
    rcases mem_set_ne h.nd m q n with e | ⟨n', e⟩
    · subst e
      obtain ⟨u, h1, h2⟩ := h.at_ _ (List.mem_of_getElem? m)
      exact ⟨u, h1, hψ u h1 h2⟩
    · exact h.at_ _ n', fun q n => by
    rcases mem_set_ne h.nd m q n with e | ⟨n', e⟩
    · subst e
      exact h.no (List.mem_of_getElem? m)
    · exact h.out _ n', by rw [map_set_fst m]; exact h.nd⟩
theorem Hd.set0 (h : Hd G H ((p, φ) :: L)) (hψ : ψ o') : Hd G (upd H p o') ((p, ψ) :: L) := h.set 0 rfl hψ
theorem Hd.set1 {x : Addr × (HO → Prop)} (h : Hd G H (x :: (p, φ) :: L)) (hψ : ψ o') : Hd G (upd H p o') (x :: (p, ψ) :: L) := h.set 1 rfl hψ
theorem Hd.set2 {x y : Addr × (HO → Prop)} (h : Hd G H (x :: y :: (p, φ) :: L)) (hψ : ψ o') : Hd G (upd H p o') (x :: y :: (p, ψ) :: L) := h.set 2 rfl hψ
theorem Hd.re0 (h : Hd G H ((p, φ) :: L)) (hψ : ∀ o, H p = some o → φ o → ψ o) : Hd G H ((p, ψ) :: L) := h.re 0 rfl hψ
theorem Hd.re1 {x : Addr × (HO → Prop)} (h : Hd G H (x :: (p, φ) :: L)) (hψ : ∀ o, H p = some o → φ o → ψ o) : Hd G H (x :: (p, ψ) :: L) := h.re 1 rfl hψ
theorem Hd.setA {A : Vo} (h : Hd G H (A ++ (p, φ) :: L)) (hψ : ψ o') : Hd G (upd H p o') (A ++ (p, ψ) :: L) := by
  have e : (A ++ (p, φ) :: L)[A.length]? = some (p, φ) := by rw [List.getElem?_append_right (Nat.le_refl _), Nat.sub_self]; rfl
  have z := h.set A.length e hψ
  rw [List.set_append_right A.length _ (Nat.le_refl _), Nat.sub_self] at z
  exact z
theorem Hd.getA {A : Vo} (h : Hd G H (A ++ (p, φ) :: L)) : ∃ o, H p = some o ∧ φ o := h.get (List.mem_append_right _ List.mem_cons_self)
theorem Hd.fresh (h : Hd G H L) (hp : H p = none) : p ∉ L.map (·.1) := fun m => by
  obtain ⟨q, n, e⟩ := List.mem_map.mp m
  obtain ⟨u, h1, _⟩ := h.at_ q n
  rw [e, hp] at h1
  cases h1
/-- a new object that may change -/
theorem Hd.new (h : Hd G H L) (hp : H p = none) (hφ : φ o) : Hd G (upd H p o) ((p, φ) :: L) :=
  ⟨h.ex.trans (Ext.new hp), fun q n => by
    rcases List.mem_cons.mp n with e | n
    · subst e
      exact ⟨o, upd_same, hφ⟩
    · obtain ⟨u, h1, h2⟩ := h.at_ q n
      exact ⟨u, by rw [upd_ne (ne_of_none h1 hp)]; exact h1, h2⟩, fun q n => by
    rcases List.mem_cons.mp n with e | n
    · subst e
      exact h.ex.free hp
    · exact h.out q n, by rw [List.map_cons, List.nodup_cons]; exact ⟨h.fresh hp, h.nd⟩⟩
/-- a new object that stays -/
theorem Hd.fix (h : Hd G H L) (hp : H p = none) : Hd (upd G p o) (upd H p o) L :=
  ⟨fun a u e => by
    by_cases z : a = p
    · subst z
      rw [upd_same] at e ⊢
      exact e
    · rw [upd_ne z] at e ⊢
      exact h.ex a u e, fun q n => by
    obtain ⟨u, h1, h2⟩ := h.at_ q n
    exact ⟨u, by rw [upd_ne (ne_of_none h1 hp)]; exact h1, h2⟩, fun q n => by
    obtain ⟨u, h1, _⟩ := h.at_ q n
    rw [upd_ne (ne_of_none h1 hp)]
    exact h.out q n, h.nd⟩
/-- the first volatile object is to stay as it is -/
theorem Hd.freeze (h : Hd G H ((p, φ) :: L)) (e : H p = some o) : Hd (upd G p o) H L :=
  ⟨fun a u q => by
    by_cases z : a = p
    · subst z
      rw [upd_same] at q
      rw [e]
      exact q
    · rw [upd_ne z] at q
      exact h.ex a u q, fun q n => h.at_ q (List.mem_cons_of_mem _ n), fun q n => by
    have nd := h.nd
    rw [List.map_cons, List.nodup_cons] at nd
    have z : q.1 ≠ p := fun z => by
      have w : q.1 ∈ L.map (·.1) := List.mem_map_of_mem (f := (·.1)) n
      rw [z] at w
      exact nd.1 w
    rw [upd_ne z]
    exact h.out q (List.mem_cons_of_mem _ n), by
    have nd := h.nd
    rw [List.map_cons, List.nodup_cons] at nd
    exact nd.2⟩
theorem Hd.made {x dx C : Addr} {fs : List (Str × V)} (h : Hd G H L) (nx : H x = none) (nd : H dx = none) (ne : dx ≠ x) (hφ : φ (.ins C dx fs)) : Hd G (upd (upd H dx (.own x)) x (.ins C dx fs)) ((x, φ) :: L) :=
  (h.grow (Ext.new nd)).new (by rw [upd_ne (fun z => ne z.symm)]; exact nx) hφ
theorem Hd.drop {x : Addr × (HO → Prop)} (h : Hd G H (x :: L)) : Hd G H L :=
  ⟨h.ex, fun q n => h.at_ q (List.mem_cons_of_mem _ n), fun q n => h.out q (List.mem_cons_of_mem _ n), by
    have nd := h.nd
    rw [List.map_cons, List.nodup_cons] at nd
    exact nd.2⟩
theorem Hd.perm {M : Vo} (h : Hd G H L) (q : M.Perm L) : Hd G H M :=
  ⟨h.ex, fun x n => h.at_ x (q.mem_iff.mp n), fun x n => h.out x (q.mem_iff.mp n), (List.Perm.nodup_iff (q.map (·.1))).mpr h.nd⟩
theorem Hd.swap {x y : Addr × (HO → Prop)} (h : Hd G H (x :: y :: L)) : Hd G H (y :: x :: L) := h.perm (List.Perm.swap x y L)
theorem Hd.ext {G0 : Hp} (h : Hd G H L) (e : Ext G0 G) : Hd G0 H L := ⟨e.trans h.ex, h.at_, fun q n => e.free (h.out q n), h.nd⟩
theorem Hd.newG (_ : Hd G H L) (hG : G p = none) : Ext G (upd G p o) := Ext.new hG
theorem Hd.gno (h : Hd G H L) (hp : H p = none) : G p = none := h.ex.free hp
theorem Hd.ne (h : Hd G H L) {q : Addr} {i j : Nat} (m : L[i]? = some (p, φ)) (n : L[j]? = some (q, ψ)) (hij : i ≠ j) : p ≠ q := fun e => by
  have h1 : (L.map (·.1))[i]? = some p := by rw [List.getElem?_map, m]; rfl
  have h2 : (L.map (·.1))[j]? = some q := by rw [List.getElem?_map, n]; rfl
  rw [← e] at h2
  have l1 : i < (L.map (·.1)).length := (List.getElem?_eq_some_iff.mp h1).1
  have l2 : j < (L.map (·.1)).length := (List.getElem?_eq_some_iff.mp h2).1
  exact hij ((List.getElem?_inj l1 h.nd).mp (h1.trans h2.symm))
end
/-! ### data that stands in a heap -/
section
variable {K : PySem.W.Frag} {G H : Hp}
mutual
theorem dp_mono (e : Ext G H) : ∀ {v : V} {d : PyData}, Dp K G v d → Dp K H v d
  | _, _, .non => .non
  | _, _, .bl b => .bl b
  | _, _, .int i => .int i
  | _, _, .str x => .str x
  | _, _, .lst h r => .lst (ext_l e h) (dpa_mono e r)
  | _, _, .tup h r => .tup (ext_t e h) (dpa_mono e r)
theorem dpa_mono (e : Ext G H) : ∀ {vs : List V} {ds : List PyData}, DpAll K G vs ds → DpAll K H vs ds
  | _, _, .nil => .nil
  | _, _, .cons h r => .cons (dp_mono e h) (dpa_mono e r)
end
theorem dp_int {v : V} {i : Int} (h : Dp K H v (.int i)) : v = .int i := by cases h; rfl
theorem dp_str {v : V} {x : Str} (h : Dp K H v (.str x)) : v = .str x := by cases h; rfl
theorem dp_bl {v : V} {b : Bool} (h : Dp K H v (.bool b)) : v = .bl b := by cases h; rfl
theorem dp_non {v : V} (h : Dp K H v .none) : v = .non := by cases h; rfl
theorem dp_tup {v : V} {ds : List PyData} (h : Dp K H v (.tuple ds)) : ∃ a xs, v = .ref a ∧ SqT K H a xs ∧ DpAll K H xs ds := by
  cases h with
  | tup a b => exact ⟨_, _, rfl, a, b⟩
theorem dp_lst {v : V} {ds : List PyData} (h : Dp K H v (.list ds)) : ∃ a xs, v = .ref a ∧ SqL K H a xs ∧ DpAll K H xs ds := by
  cases h with
  | lst a b => exact ⟨_, _, rfl, a, b⟩
theorem dpa_len : ∀ {vs : List V} {ds : List PyData}, DpAll K H vs ds → vs.length = ds.length
  | _, _, .nil => rfl
  | _, _, .cons _ r => by rw [List.length_cons, List.length_cons, dpa_len r]
theorem dpa_get : ∀ {vs : List V} {ds : List PyData} {i : Nat} {d : PyData}, DpAll K H vs ds → ds[i]? = some d → ∃ v, vs[i]? = some v ∧ Dp K H v d
  | _, _, _, _, .nil, e => by simp at e
  | _, _, 0, _, .cons h _, e => by
    simp only [List.getElem?_cons_zero, Option.some.injEq] at e
    subst e
    exact ⟨_, rfl, h⟩
  | _, _, i + 1, _, .cons _ r, e => by
    rw [List.getElem?_cons_succ] at e
    obtain ⟨v, h1, h2⟩ := dpa_get r e
    exact ⟨v, by rw [List.getElem?_cons_succ]; exact h1, h2⟩
theorem dpa_get' : ∀ {vs : List V} {ds : List PyData} {i : Nat} {v : V}, DpAll K H vs ds → vs[i]? = some v → ∃ d, ds[i]? = some d ∧ Dp K H v d
  | _, _, _, _, .nil, e => by simp at e
  | _, _, 0, _, .cons h _, e => by
    simp only [List.getElem?_cons_zero, Option.some.injEq] at e
    subst e
    exact ⟨_, rfl, h⟩
  | _, _, i + 1, _, .cons _ r, e => by
    rw [List.getElem?_cons_succ] at e
    obtain ⟨v, h1, h2⟩ := dpa_get' r e
    exact ⟨v, by rw [List.getElem?_cons_succ]; exact h1, h2⟩
theorem dpa_app : ∀ {vs ws : List V} {ds es : List PyData}, DpAll K H vs ds → DpAll K H ws es → DpAll K H (vs ++ ws) (ds ++ es)
  | _, _, _, _, .nil, s => s
  | _, _, _, _, .cons h r, s => .cons h (dpa_app r s)
theorem dpa_one {v : V} {d : PyData} (h : Dp K H v d) : DpAll K H [v] [d] := .cons h .nil
theorem dpa_ints : ∀ ns : List Int, DpAll K H (ns.map V.int) (ns.map PyData.int)
  | [] => .nil
  | n :: ns => .cons (.int n) (dpa_ints ns)
end
theorem nodup_take {α : Type} {l : List α} {i : Nat} {x : α} (h : l.Nodup) (hi : l[i]? = some x) : x ∉ l.take i := fun m => by
  obtain ⟨j, hj, e⟩ := List.mem_iff_getElem.mp m
  rw [List.length_take] at hj
  rw [List.getElem_take] at e
  have h1 : l[j]? = some x := by rw [List.getElem?_eq_getElem (by omega), e]
  have h2 : j < l.length := by omega
  have := (List.getElem?_inj h2 h).mp (h1.trans hi.symm)
  omega
end Mo
namespace Mo
open PySem PySem.Spec PyProof.Rows L2
abbrev St := L2.St
/-! ### rules: any subscript, any store, any in, any ==, len of anything, calls that may raise -/
section
variable {X : Cx}
def CMulX (i j : Int) : Prop := i.natAbs.log2 + j.natAbs.log2 < 134000000
theorem CMulX.ok {i j : Int} (h : CMulX i j) : IntMulOk i j := by
  have b : ∀ x : Int, Builtin.Int.intBits x ≤ x.natAbs.log2 + 1 := fun x => by
    unfold Builtin.Int.intBits
    split <;> omega
  have h1 := b i
  have h2 := b j
  have h3 : i.natAbs.log2 + j.natAbs.log2 < 134000000 := h
  have e : bitsLine = 134217728 := by decide
  unfold IntMulOk
  intro z
  rw [Bool.and_eq_true] at z
  have z2 := z.2
  unfold Builtin.Int.intTooBig at z2
  have z3 := of_decide_eq_true z2
  rw [e] at z3
  omega
theorem log2_bd {x : Int} {a : Nat} (h : x.natAbs < 2 ^ a) (h0 : 0 < a) : x.natAbs.log2 < a := PySem.Flt.log2_lt_of h0 h
theorem mulX_of {i j : Int} (a b : Nat) (hi : i.natAbs < 2 ^ a) (hj : j.natAbs < 2 ^ b) (h0 : 0 < a) (h1 : 0 < b) (h : a + b ≤ 134000000) : CMulX i j := by
  have x := log2_bd hi h0
  have y := log2_bd hj h1
  unfold CMulX
  omega
theorem op_mulX : OpR X (binaryOp .Mult) (rI CMulX fun i j => .int (i * j)) := opI fun _ _ _ _ _ _ _ hc q => mul_int q hc.ok
def CDivX (_ j : Int) : Prop := j ≠ 0 ∧ j.natAbs.log2 < 9000
theorem op_fdivX : OpR X (binaryOp .FloorDiv) (rI CDivX fun i j => .int (i.fdiv j)) := opI fun _ _ _ _ _ _ _ hc q => floordiv_int hc.1 q (.inl (PyProof.noPylong_of_log2 hc.2))
def CMod (_ j : Int) : Prop := j ≠ 0
theorem op_modX : OpR X (binaryOp .Mod) (rI CMod fun i j => .int (i.fmod j)) := opI fun _ _ _ _ _ _ _ hc q => mod_int' hc q
/-- d[y] by values -/
def rDGet : R2 := fun x y H Q => ∃ a v, x = .ref a ∧ DGet H a y (some v) ∧ Q v H
theorem ix_dict (hu : X.A.units + 1 < cLine) : IxR X rDGet := by
  intro value slice pins s σ H x y v u Q I rx ry h hs
  obtain ⟨a, z, rfl, g, q⟩ := h
  obtain rfl : v = Value.ref a := rx
  have hT := dict_typeIs I g
  unfold subscriptTail
  refine wpAny_bind ?_
  rw [getitemInPython_of_ne hT.not_modules]
  refine wpAny_bind (wpAny_specialOf hT PySem.F.slot_dict_getitem.lookup ?_)
  have fin : wpAny (model X.prog X.w) X.A (subscripted slice false (Value.ref a) u) (fun r s₃ => wpAny (model X.prog X.w) X.A (letTemporaryGo value (Value.ref a) r >>= fun _ => pure r) (EP X pins σ Q) X.xe s₃) X.xe s := by
    rw [hs]
    refine wpAny_operating (d_getItem hu I g ry fun w' s3 I3 rw' => wpAny_bind (wpAny_letTemporaryGo (wpAny_pure ⟨z, H, I3, rw', q⟩)))
  first
    | exact wpAny_pure (wpAny_bind fin)
    | exact wpAny_bind (wpAny_pure (wpAny_bind fin))
    | exact wpAny_bind fin
def rSub (K : PySem.W.Frag) : R2 := fun x y H Q => (rIxL K x y H Q ∨ rIxT K x y H Q) ∨ (rIxS x y H Q ∨ rDGet x y H Q)
theorem ix_any (hu : X.A.units + 1 < cLine) : IxR X (rSub X.K) := (ix_list.or ix_tup).or (ix_str.or (ix_dict hu))
def rSli (K : PySem.W.Frag) : V → Option Int → Option Int → Hp → VK → Prop := fun x lo hi H Q => rSlL K x lo hi H Q ∨ (rSlT K x lo hi H Q ∨ rSlS x lo hi H Q)
theorem sl_any : SlR X (rSli X.K) := sl_list.or (SlR.or (r' := rSlS) sl_tup sl_str)
def rSet : TSet := fun o i v H Q => rSetL o i v H Q ∨ ∃ a H', o = .ref a ∧ DPut H a i v H' ∧ Q H'
theorem set_any (hu : X.A.units + 1 < cLine) : PSet X rSet := by
  intro pins s σ H o i v ov iv u Q I ro ri rv h
  rcases h with h | ⟨a, H', rfl, g, q⟩
  · exact set_list pins s σ H o i v ov iv u Q I ro ri rv h
  · obtain rfl : ov = Value.ref a := ro
    exact d_setItem hu I g ri rv fun s' I' => ⟨H', I', q⟩
/-- y in d, by values -/
def rDIn : R2 := fun y x H Q => ∃ a o, x = .ref a ∧ DGet H a y o ∧ Q (.bl o.isSome) H
def rDNotIn : R2 := fun y x H Q => ∃ a o, x = .ref a ∧ DGet H a y o ∧ Q (.bl (!o.isSome)) H
theorem op_inDict (hu : X.A.units + 1 < cLine) : OpR X (compareOp .In) rDIn := by
  intro pins s σ H x y v u Q I rx ry h
  obtain ⟨a, o, rfl, g, q⟩ := h
  obtain rfl : u = Value.ref a := ry
  exact d_in hu I g rx fun s3 I3 => ⟨.bl o.isSome, H, I3, rfl, q⟩
theorem op_notInDict (hu : X.A.units + 1 < cLine) : OpR X (compareOp .NotIn) rDNotIn := by
  intro pins s σ H x y v u Q I rx ry h
  obtain ⟨a, o, rfl, g, q⟩ := h
  obtain rfl : u = Value.ref a := ry
  exact d_notIn hu I g rx fun s3 I3 => ⟨.bl (!o.isSome), H, I3, rfl, q⟩
def rInA (K : PySem.W.Frag) : R2 := fun x y H Q => rDIn x y H Q ∨ (rIn K false x y H Q ∨ rInD K x y H Q)
def rNotInA (K : PySem.W.Frag) : R2 := fun x y H Q => rDNotIn x y H Q ∨ (rIn K true x y H Q ∨ rNotInD K x y H Q)
theorem op_inA (hu : X.A.units + 65 < cLine) : OpR X (compareOp .In) (rInA X.K) := (op_inDict (by omega)).or (op_in_seq.or (op_inD hu))
theorem op_notInA (hu : X.A.units + 65 < cLine) : OpR X (compareOp .NotIn) (rNotInA X.K) := (op_notInDict (by omega)).or (op_notIn_seq.or (op_notInD hu))
def rEqA (K : PySem.W.Frag) : R2 := fun x y H Q => rEq x y H Q ∨ (rEqD K x y H Q ∨ rEqV K x y H Q)
/-- a != b, two dicts that are equal -/
def rNeV (K : PySem.W.Frag) : R2 := fun x y H Q => ∃ n a b ks ls, n ≤ 60 ∧ x = .ref a ∧ y = .ref b ∧ H a = some (.dK ks) ∧ H b = some (.dK ls) ∧ ks.length = ls.length ∧ (∀ p ∈ ks, ∃ u, valV ls p.1 = some u ∧ EqV K H n p.2 u) ∧ Q (.bl false) H
theorem ne_dicts {prog : Program} {w : World} {K : Type} [DecidableEq K] {knd : KeyKind prog w K} {A : Around} {E : Value → Shared → Prop} {s : Shared} {a b : Addr} {ka kb : List (K × Value)} {r : Bool} {Q : Value → Shared → Prop} (ha : (a == sysModules) = false) (hb : (b == sysModules) = false)
    (da : s.heap.DictOf knd a ka) (db : s.heap.DictOf knd b kb) (hu : A.units < cLine) (hits : ka.length = kb.length → PySem.W.KeqHitsP prog w A.in1 s kb ka r) (h : Q (.bool (!(ka.length == kb.length && r))) s) :
    wpAny (model prog w) A (compareOp .NotEq (.ref a) (.ref b)) Q E s := by
  refine wpAny_richCompare_same_room (op := .NotEq) da.typeIs db.typeIs PySem.F.slot_dict_ne (wpAny_call_entry PySem.F.slot_dict_ne da.typeIs PySem.F.entry_dict_ne ?_ (PySem.F.args_dict_ne_2 _ _)) hu
  show wpAny _ _ (Builtin.Dict.dictSlotArgs "__ne__" ⟨[.ref a, .ref b], []⟩ >>= _) _ _ s
  refine wpAny_bind ?_
  unfold Builtin.Dict.dictSlotArgs
  refine wpAny_bind (wpAny_notOrdered_dict da.typeIs ?_)
  show wpAny _ _ (pure (Value.ref a, Value.ref b)) _ _ s
  refine wpAny_pure ?_
  refine wpAny_bind (wpAny_isInstance (T := "dict") db.typeIs PySem.F.sub_dict_dict ?_)
  simp only [Bool.not_true, Bool.false_eq_true, if_false]
  refine wpAny_bind (wpAny_pure (wpAny_bind (wpAny_pure ?_)))
  refine wpAny_bind (PySem.W.samePairsP ha hb da db hits ?_)
  refine wpAny_pure ⟨_, rfl, ?_, ?_⟩
  · exact fun x => nomatch x
  · simpa using h
theorem op_neV (hu : X.A.units + 64 < cLine) : OpR X (compareOp .NotEq) (rNeV X.K) := by
  intro pins s σ H x y v u Q I rx ry h
  obtain ⟨n, a, b, ks, ls, hn, rfl, rfl, ha, hb, hl, hp, q⟩ := h
  obtain rfl : v = Value.ref a := rx
  obtain rfl : u = Value.ref b := ry
  obtain ⟨_, ya, va, ra, da⟩ := (show ObjOk X.prog X.w H s.heap a (.dK ks) from I.hok a _ ha)
  obtain ⟨_, yb, vb, rb, db⟩ := (show ObjOk X.prog X.w H s.heap b (.dK ls) from I.hok b _ hb)
  refine ne_dicts (knd := mixKind X.prog X.w) (r := true) ya yb da db (by omega) (fun _ => hits_run (fun x y v u h r1 r2 => eqV_run I n X.A.in1 (by show X.A.units + 1 + n < cLine; omega) x y v u h r1 r2) rb ra hp) ?_
  have e : va.length = vb.length := by rw [← ra.length, ← rb.length]; exact hl
  exact fin_bl I q (by simp [e])
def rNeA (K : PySem.W.Frag) : R2 := fun x y H Q => rNe x y H Q ∨ (rNeD K x y H Q ∨ rNeV K x y H Q)
theorem op_eqA (hu : X.A.units + 64 < cLine) : OpR X (compareOp .Eq) (rEqA X.K) := op_eq.or ((op_eqD hu).or (op_eqV hu))
theorem op_neA (hu : X.A.units + 64 < cLine) : OpR X (compareOp .NotEq) (rNeA X.K) := op_ne.or ((op_neD hu).or (op_neV hu))
def rLenA (K : PySem.W.Frag) : List V → Hp → VK → Prop := fun xs H Q =>
  ((∃ p ys, xs = [.ref p] ∧ (SqL K H p ys ∨ SqT K H p ys) ∧ Q (.int ys.length) H) ∨ (∃ z, xs = [.str z] ∧ z.length ≤ sizeLine ∧ Q (.int z.length) H)) ∨ ((∃ a kvs, xs = [V.ref a] ∧ H a = some (.dK kvs) ∧ Q (.int kvs.length) H) ∨ rLenT xs H Q)
theorem call_lenA : CallR X (.builtin "len") (rLenA X.K) := (call_len_seq.or call_len_str).or (call_lenD.or call_len_dT)
/-- {}: of the one kind or the other -/
def tDNew : TE := fun σ H Q => tDNewK σ H Q ∨ tDNewT σ H Q
theorem pe_dnew {pos : Pos} : PE X (.Dict [] [] pos) tDNew := ⟨fun pins s σ H Q I h => by
  rcases h with h | h
  · exact pe_dnewK.run pins s σ H Q I h
  · exact pe_dnewT.run pins s σ H Q I h⟩
end
/-! ### calls, what is raised wished for at the caller's slots -/
section
variable {X : Cx} {CX : CXT} {k : Nat} {f C : Addr} {fd : FuncData} {ps : List Str} {sp : Sp} {E : St → XK} {x m : Str} {p pos apos : Pos} {e o : Expr} {es : List Expr} {ta : TE} {t : TA}
theorem pe_call0S (F : FnOk X.prog X.w X.K X.mg X.base CX k f fd ps sp) (hr : Room k X.A) (hg : Gl X x) (hm : X.mg x = some (.ref f)) (hk : PySem.W.keepIn X.K (.ref f) = true) (hb : Binds X.K fd ps []) (hx : ∀ σ, PassesAt CX X σ (E σ))
    (hdb : (x == ("__debug__" : Str)) = false := by decide) : PE X (.Call (.Name x p) [] [] pos) (tCallS sp E tNil) := by
  refine ⟨fun pins s σ H Q I h => ?_⟩
  refine wpAny_Call_Name_kw (ld_glob I hg hm ?_ hdb)
  exact PySem.W.callWith_K0 I.kIn hk (run_fnS (us := []) F hr hb (hx σ) I .nil h)
def tMethS (C : Addr) (m : Str) (sp : Sp) (E : St → XK) (ta : TE) (t : TA) : TE := fun σ H Q => ta σ H fun x H1 => ∃ a dx fs, x = .ref a ∧ H1 a = some (.ins C dx fs) ∧ fs.lookup m = none ∧
  t σ H1 fun vs H2 => sp (x :: vs) H2 Q (E σ)
theorem pe_methS {pl : Sem Bool} (he : PE X o ta) (c : Cls X.K C) (hm : Meth X.K C m f) (F : FnOk X.prog X.w X.K X.mg X.base CX k f fd ps sp) (hr : Room k X.A) (hb : Binds X.K fd ps []) (hx : ∀ σ, PassesAt CX X σ (E σ)) (ha : PA X (e :: es) t)
    (hst : starEach (e :: es) X.env = (false, eval e X.env) :: starEach es X.env := by rfl) (hpl : (backTo pos (starEach es X.env)).any (·.1) = false := by rfl)
    (ht : eval (.Call (.Attribute o m apos) (e :: es) [] pos) X.env = (do
      let ov ← eval o X.env
      standAt apos.atName
      let (f, first) ← holding [ov] (getMethod ov m pl)
      callWith pos f first (backTo pos (starEach (e :: es) X.env)) (backToKw pos (keywordEach [] X.env))) := by rfl) :
    PE X (.Call (.Attribute o m apos) (e :: es) [] pos) (tMethS C m sp E ta t) := by
  refine ⟨fun pins s σ H Q I h => ?_⟩
  refine PySem.W.methodCall_KW (pl := pl) (thn (he.run pins s σ H _ I h) fun u s1 ⟨x, H1, I1, rx, a, dx, fs, ex, ea, l, q⟩ => ?_) ht
  subst ex
  obtain rfl : u = Value.ref a := rx
  refine getmeth_ok I1 ea c hm l ?_
  refine PySem.W.callWith_K (first := [.ref a]) (h₀ := X.base) I.ok.mod.kin hm.kp (thn (ha.run pos pins s1 σ H1 _ I1 q) fun us s2 ⟨vs, H2, I2, r, q2⟩ => ⟨I2.kIn, ?_⟩) hst hpl
  exact run_fnS (us := .ref a :: us) (vs := .ref a :: vs) F hr hb (hx σ) I2 (.cons rfl r) q2
theorem pe_meth0S {pl : Sem Bool} (he : PE X o ta) (c : Cls X.K C) (hm : Meth X.K C m f) (F : FnOk X.prog X.w X.K X.mg X.base CX k f fd ps sp) (hr : Room k X.A) (hb : Binds X.K fd ps []) (hx : ∀ σ, PassesAt CX X σ (E σ))
    (ht : eval (.Call (.Attribute o m apos) [] [] pos) X.env = (do
      let ov ← eval o X.env
      standAt apos.atName
      let (f, first) ← holding [ov] (getMethod ov m pl)
      callWith pos f first (backTo pos (starEach [] X.env)) (backToKw pos (keywordEach [] X.env))) := by rfl) :
    PE X (.Call (.Attribute o m apos) [] [] pos) (tMethS C m sp E ta tNil) := by
  refine ⟨fun pins s σ H Q I h => ?_⟩
  refine PySem.W.methodCall_KW (pl := pl) (thn (he.run pins s σ H _ I h) fun u s1 ⟨x, H1, I1, rx, a, dx, fs, ex, ea, l, q⟩ => ?_) ht
  subst ex
  obtain rfl : u = Value.ref a := rx
  refine getmeth_ok I1 ea c hm l ?_
  exact PySem.W.callWith_K0 (first := [.ref a]) I1.kIn hm.kp (run_fnS (us := [.ref a]) (vs := [.ref a]) F hr hb (hx σ) I1 (.cons rfl .nil) q)
def tMakeS (C : Addr) (sp : Sp) (E : St → XK) (t : TA) : TE := fun σ H Q => t σ H fun vs H1 => ∀ x dx, H1 x = none → H1 dx = none → dx ≠ x →
  sp (.ref x :: vs) (upd (upd H1 dx (.own x)) x (.ins C dx [])) (fun v H2 => v = .non ∧ Q (.ref x) H2) (E σ)
theorem passes_of_at {σ0 : St} (hx : ∀ σ, PassesAt CX X σ (E σ)) (pins : List (Addr × Obj)) (H : Hp) (s : Shared) (e : Value) (s' : Shared) (I : Inv X pins σ0 H s) (h : CX X.stack H s (E σ0) e s') : X.xe e s' := hx σ0 pins H s e s' I h
theorem run_makeS {pins : List (Addr × Obj)} {σ : St} {H : Hp} {s : Shared} {Q : VK} {us : List Value} {vs : List V} (M : Mk X.K C f) (F : FnOk X.prog X.w X.K X.mg X.base CX k f fd ps sp) (hr : Room (k + 1) X.A) (hb : Binds X.K fd ps [])
    (hx : PassesAt CX X σ (E σ)) (I : Inv X pins σ H s) (r : Vals vs us)
    (h : ∀ x dx, H x = none → H dx = none → dx ≠ x → sp (.ref x :: vs) (upd (upd H dx (.own x)) x (.ins C dx [])) (fun v H2 => v = .non ∧ Q (.ref x) H2) (E σ)) :
    wpAny (model X.prog X.w) X.A (call (.ref C) us) (EP X pins σ Q) X.xe s := by
  have hq := h (s.heap.objs.size + 1) s.heap.objs.size (I.hok.fresh (Nat.le_succ _)) (I.hok.fresh (Nat.le_refl _)) (Nat.ne_of_lt (Nat.lt_succ_self _))
  have I2 := Inv.made (C := C) I
  have r2 : Vals (V.ref (s.heap.objs.size + 1) :: vs) (Value.ref (s.heap.objs.size + 1) :: us) := .cons rfl r
  have hl : (Value.ref (s.heap.objs.size + 1) :: us).length = ps.length := by
    have e := r2.length
    rw [F.len _ _ _ _ hq] at e
    exact e.symm
  have b := hb _ (Value.ref (s.heap.objs.size + 1) :: us) I2.kIn (by rw [List.append_nil]; exact hl)
  rw [List.append_nil] at b
  refine wpAny_call (make_map (f := f) I.kIn M.makes M.init (beq_iff_eq.mp M.fn) (codeAny_mono (F.run _ X.stack _ _ ⟨Value.ref (s.heap.objs.size + 1) :: us, []⟩ (Value.ref (s.heap.objs.size + 1) :: us) _ _ (E σ) (hr.make C us [])
    (I2.env0.make C us []) b r2 hq) fun r s' hq' => ?_))
  cases r with
  | error e => exact hx pins _ _ e s' I2 hq'
  | ok fl =>
    cases fl with
    | ret u =>
      obtain ⟨v, H', I3, rv, ev, q3⟩ := I2.after hq'
      subst ev
      exact ⟨rv, ⟨V.ref (s.heap.objs.size + 1), H', I3, rfl, q3⟩⟩
    | next => exact False.elim hq'
    | brk => exact False.elim hq'
    | cont => exact False.elim hq'
theorem pe_makeS (M : Mk X.K C f) (F : FnOk X.prog X.w X.K X.mg X.base CX k f fd ps sp) (hr : Room (k + 1) X.A) (hg : Gl X x) (hm : X.mg x = some (.ref C)) (hb : Binds X.K fd ps []) (hx : ∀ σ, PassesAt CX X σ (E σ))
    (ha : PA X (e :: es) t) (hdb : (x == ("__debug__" : Str)) = false := by decide) (he : starEach (e :: es) X.env = (false, eval e X.env) :: starEach es X.env := by rfl) (hpl : (backTo pos (starEach es X.env)).any (·.1) = false := by rfl) :
    PE X (.Call (.Name x p) (e :: es) [] pos) (tMakeS C sp E t) := by
  refine ⟨fun pins s σ H Q I h => ?_⟩
  refine wpAny_Call_Name_kw (ld_glob I hg hm ?_ hdb)
  refine PySem.W.callWith_K (h₀ := X.base) I.ok.mod.kin M.kp (thn (ha.run pos pins s σ H _ I h) fun us s1 ⟨vs, H1, I1, r, q⟩ => ⟨I1.kIn, ?_⟩) he hpl
  exact run_makeS M F hr hb (hx σ) I1 r q
theorem pe_make0S (M : Mk X.K C f) (F : FnOk X.prog X.w X.K X.mg X.base CX k f fd ps sp) (hr : Room (k + 1) X.A) (hg : Gl X x) (hm : X.mg x = some (.ref C)) (hb : Binds X.K fd ps []) (hx : ∀ σ, PassesAt CX X σ (E σ))
    (hdb : (x == ("__debug__" : Str)) = false := by decide) : PE X (.Call (.Name x p) [] [] pos) (tMakeS C sp E tNil) := by
  refine ⟨fun pins s σ H Q I h => ?_⟩
  refine wpAny_Call_Name_kw (ld_glob I hg hm ?_ hdb)
  exact PySem.W.callWith_K0 I.kIn M.kp (run_makeS (us := []) M F hr hb (hx σ) I .nil h)
end
/-! ### what the top has written -/
def fdA (K : PySem.W.Frag) (a : Addr) : FuncData := match K.lookup a with
  | some ⟨_, _, .func fd, _⟩ => fd
  | _ => default
theorem fun_of {K : PySem.W.Frag} {x qual : PySem.Str} {st : Stmt} {f : Addr} {kws : List (PySem.Str × L2.V)} (h : ∃ fd, L2.FunD K x qual (L2.defArgs st) (L2.defBody st) (L2.defScope st) [] kws f fd) : L2.Fun K x qual st f (fdA K f) := by
  obtain ⟨fd, F⟩ := h
  obtain ⟨oc, od, dV, kV, doc, pm, an, cdv, ct, osl, e, l, c, hd, _⟩ := F.ex
  have e2 : fdA K f = fd := by
    unfold fdA
    rw [l]
  rw [e2]
  rcases hd with ⟨_, e2⟩ | ⟨e2, _⟩
  · subst e2
    exact ⟨⟨oc, od, kV, doc, pm, an, cdv, ct, osl, e, l, c⟩, F.kp⟩
  · exact absurd rfl e2
/-- a global def as its callers need it -/
structure GF (K : PySem.W.Frag) (mg : Str → Option Value) (x : Str) (ps : List Str) : Prop where
  gl : mg x = some (.ref (He.fAd K (x, none)))
  kp : PySem.W.keepIn K (.ref (He.fAd K (x, none))) = true
  bd : Binds K (fdA K (He.fAd K (x, none))) ps []
/-- a method -/
structure MF (K : PySem.W.Frag) (C m : Str) (ps : List Str) : Prop where
  me : Meth K (He.ga K C) m (He.fAd K (C, some m))
  bd : Binds K (fdA K (He.fAd K (C, some m))) ps []
/-- a class that is made -/
structure KF (K : PySem.W.Frag) (mg : Str → Option Value) (C : Str) (ps : List Str) : Prop where
  gl : mg C = some (.ref (He.ga K C))
  mker : Mk K (He.ga K C) (He.fAd K (C, some "__init__"))
  bd : Binds K (fdA K (He.fAd K (C, some "__init__"))) ps []
section
variable {P : Program} {w : World} {K : PySem.W.Frag} {mg : Str → Option Value} {base : Heap}
/-- a global def of level k keeps a promise -/
abbrev OkG (P : Program) (w : World) (K : PySem.W.Frag) (mg : Str → Option Value) (base : Heap) (k : Nat) (x : Str) (ps : List Str) (sp : Sp) : Prop := FnOk P w K mg base (L2.CX P w) k (He.fAd K (x, none)) (fdA K (He.fAd K (x, none))) ps sp
abbrev OkM (P : Program) (w : World) (K : PySem.W.Frag) (mg : Str → Option Value) (base : Heap) (k : Nat) (C m : Str) (ps : List Str) (sp : Sp) : Prop := FnOk P w K mg base (L2.CX P w) k (He.fAd K (C, some m)) (fdA K (He.fAd K (C, some m))) ps sp
end
section
variable {X : Cx} {k j : Nat} {C m x : Str} {ps : List Str} {sp : Sp} {W : WX} {p pos apos : Pos} {e o : Expr} {es : List Expr} {ta : TE} {t : TA}
/-- f(e, ..) -/
theorem pcl (G : GF X.K X.mg x ps) (F : OkG X.prog X.w X.K X.mg X.base k x ps sp) (hr : Room j X.A) (tk : Takes X W) (ha : PA X (e :: es) t) (hj : k ≤ j := by omega) (hg : Gl X x := by rfl)
    (hdb : (x == ("__debug__" : Str)) = false := by decide) (he : starEach (e :: es) X.env = (false, eval e X.env) :: starEach es X.env := by rfl) (hpl : (backTo pos (starEach es X.env)).any (·.1) = false := by rfl) :
    PE X (.Call (.Name x p) (e :: es) [] pos) (tCallS sp (WE W) t) := pe_callS F (hr.mono hj) hg G.gl G.kp G.bd (passAt tk) ha hdb he hpl
theorem pcl0 (G : GF X.K X.mg x ps) (F : OkG X.prog X.w X.K X.mg X.base k x ps sp) (hr : Room j X.A) (tk : Takes X W) (hj : k ≤ j := by omega) (hg : Gl X x := by rfl)
    (hdb : (x == ("__debug__" : Str)) = false := by decide) : PE X (.Call (.Name x p) [] [] pos) (tCallS sp (WE W) tNil) := pe_call0S F (hr.mono hj) hg G.gl G.kp G.bd (passAt tk) hdb
theorem pme {pl : Sem Bool} (G : MF X.K C m ps) (c : Cls X.K (He.ga X.K C)) (F : OkM X.prog X.w X.K X.mg X.base k C m ps sp) (hr : Room j X.A) (tk : Takes X W) (he : PE X o ta) (ha : PA X (e :: es) t) (hj : k ≤ j := by omega)
    (hst : starEach (e :: es) X.env = (false, eval e X.env) :: starEach es X.env := by rfl) (hpl : (backTo pos (starEach es X.env)).any (·.1) = false := by rfl)
    (ht : eval (.Call (.Attribute o m apos) (e :: es) [] pos) X.env = (do
      let ov ← eval o X.env
      standAt apos.atName
      let (f, first) ← holding [ov] (getMethod ov m pl)
      callWith pos f first (backTo pos (starEach (e :: es) X.env)) (backToKw pos (keywordEach [] X.env))) := by rfl) :
    PE X (.Call (.Attribute o m apos) (e :: es) [] pos) (tMethS (He.ga X.K C) m sp (WE W) ta t) := pe_methS (pl := pl) he c G.me F (hr.mono hj) G.bd (passAt tk) ha hst hpl ht
theorem pme0 {pl : Sem Bool} (G : MF X.K C m ps) (c : Cls X.K (He.ga X.K C)) (F : OkM X.prog X.w X.K X.mg X.base k C m ps sp) (hr : Room j X.A) (tk : Takes X W) (he : PE X o ta) (hj : k ≤ j := by omega)
    (ht : eval (.Call (.Attribute o m apos) [] [] pos) X.env = (do
      let ov ← eval o X.env
      standAt apos.atName
      let (f, first) ← holding [ov] (getMethod ov m pl)
      callWith pos f first (backTo pos (starEach [] X.env)) (backToKw pos (keywordEach [] X.env))) := by rfl) :
    PE X (.Call (.Attribute o m apos) [] [] pos) (tMethS (He.ga X.K C) m sp (WE W) ta tNil) := pe_meth0S (pl := pl) he c G.me F (hr.mono hj) G.bd (passAt tk) ht
theorem pmk (G : KF X.K X.mg C ps) (F : OkM X.prog X.w X.K X.mg X.base k C "__init__" ps sp) (hr : Room j X.A) (tk : Takes X W) (ha : PA X (e :: es) t) (hj : k + 1 ≤ j := by omega) (hg : Gl X C := by rfl)
    (hdb : (C == ("__debug__" : Str)) = false := by decide) (he : starEach (e :: es) X.env = (false, eval e X.env) :: starEach es X.env := by rfl) (hpl : (backTo pos (starEach es X.env)).any (·.1) = false := by rfl) :
    PE X (.Call (.Name C p) (e :: es) [] pos) (tMakeS (He.ga X.K C) sp (WE W) t) := pe_makeS G.mker F (hr.mono hj) hg G.gl G.bd (passAt tk) ha hdb he hpl
theorem pmk0 (G : KF X.K X.mg C ps) (F : OkM X.prog X.w X.K X.mg X.base k C "__init__" ps sp) (hr : Room j X.A) (tk : Takes X W) (hj : k + 1 ≤ j := by omega) (hg : Gl X C := by rfl)
    (hdb : (C == ("__debug__" : Str)) = false := by decide) : PE X (.Call (.Name C p) [] [] pos) (tMakeS (He.ga X.K C) sp (WE W) tNil) := pe_make0S G.mker F (hr.mono hj) hg G.gl G.bd (passAt tk) hdb
end
/-! ### more rules by values -/
section
variable {X : Cx}
theorem hu65_of {A : Around} {k : Nat} (hr : Room k A) : A.units + 65 < cLine := by
  have := hr.un
  omega
def rAddS : R2 := fun x y H Q => ∃ i j, x = .str i ∧ y = .str j ∧ i.length + j.length ≤ sizeLine ∧ Q (.str (i ++ j)) H
def rAddA (K : PySem.W.Frag) : R2 := fun x y H Q => rI0 (fun i j => .int (i + j)) x y H Q ∨ (rCat x y H Q ∨ (rAddS x y H Q ∨ rCatT K x y H Q))
theorem op_addA : OpR X (binaryOp .Add) (rAddA X.K) := op_add.or (op_cat.or (OpR.or (r := rAddS) op_add_str op_catT))
def rLtA (K : PySem.W.Frag) : R2 := fun x y H Q => rI0 (fun i j => .bl (decide (i < j))) x y H Q ∨ rLtT K x y H Q
theorem op_ltA (hu : X.A.units < cLine) : OpR X (compareOp .Lt) (rLtA X.K) := op_lt.or (op_ltT hu)
theorem lexAt_shift {e r : Nat → Bool} {z : Bool} : ∀ {k i : Nat}, Ob.lexAt e r z (i + 1) k = Ob.lexAt (fun j => e (j + 1)) (fun j => r (j + 1)) z i k
  | 0, _ => rfl
  | k + 1, i => by rw [Ob.lexAt_succ, Ob.lexAt_succ, lexAt_shift (k := k) (i := i + 1)]
theorem lexAt_le : ∀ ns ms : List Int, Ob.lexAt (fun j => decide (ns.getD j 0 = ms.getD j 0)) (fun j => decide (ns.getD j 0 ≤ ms.getD j 0)) (decide (ns.length ≤ ms.length)) 0 (min ns.length ms.length) = !HT.lexLt ms ns
  | [], [] => rfl
  | [], y :: ms => by
    rw [HT.lexLt_cons_nil]
    show decide (0 ≤ (y :: ms).length) = true
    exact decide_eq_true (Nat.zero_le _)
  | x :: ns, [] => by
    rw [HT.lexLt_nil_cons]
    show decide ((x :: ns).length ≤ 0) = false
    exact decide_eq_false (by rw [List.length_cons]; omega)
  | x :: ns, y :: ms => by
    have ih := lexAt_le ns ms
    rw [HT.lexLt_cons, List.length_cons, List.length_cons, Nat.succ_min_succ, Ob.lexAt_succ, lexAt_shift]
    have e1 : ((x :: ns).getD 0 0 = (y :: ms).getD 0 0) = (x = y) := rfl
    by_cases e : x = y
    · rw [if_pos (show decide ((x :: ns).getD 0 0 = (y :: ms).getD 0 0) = true from decide_eq_true e), if_pos e.symm, ← ih]
      have e2 : decide (ns.length + 1 ≤ ms.length + 1) = decide (ns.length ≤ ms.length) := by by_cases h : ns.length ≤ ms.length <;> simp [h]
      rw [e2]
      rfl
    · rw [if_neg (show ¬ decide ((x :: ns).getD 0 0 = (y :: ms).getD 0 0) = true from by rw [decide_eq_true_iff]; exact e), if_neg (fun z => e z.symm)]
      show decide (x ≤ y) = !decide (y < x)
      by_cases h : x ≤ y
      · rw [decide_eq_true h, decide_eq_false (by omega)]; rfl
      · rw [decide_eq_false h, decide_eq_true (by omega)]; rfl
theorem lexAt_ge : ∀ ns ms : List Int, Ob.lexAt (fun j => decide (ns.getD j 0 = ms.getD j 0)) (fun j => decide (ms.getD j 0 ≤ ns.getD j 0)) (decide (ns.length ≥ ms.length)) 0 (min ns.length ms.length) = !HT.lexLt ns ms
  | [], [] => rfl
  | [], y :: ms => by
    rw [HT.lexLt_nil_cons]
    show decide (0 ≥ (y :: ms).length) = false
    exact decide_eq_false (by rw [List.length_cons]; omega)
  | x :: ns, [] => by
    rw [HT.lexLt_cons_nil]
    show decide ((x :: ns).length ≥ 0) = true
    exact decide_eq_true (Nat.zero_le _)
  | x :: ns, y :: ms => by
    have ih := lexAt_ge ns ms
    rw [HT.lexLt_cons, List.length_cons, List.length_cons, Nat.succ_min_succ, Ob.lexAt_succ, lexAt_shift]
    by_cases e : x = y
    · rw [if_pos (show decide ((x :: ns).getD 0 0 = (y :: ms).getD 0 0) = true from decide_eq_true e), if_pos e, ← ih]
      have e2 : decide (ns.length + 1 ≥ ms.length + 1) = decide (ns.length ≥ ms.length) := by by_cases h : ms.length ≤ ns.length <;> simp [h]
      rw [e2]
      rfl
    · rw [if_neg (show ¬ decide ((x :: ns).getD 0 0 = (y :: ms).getD 0 0) = true from by rw [decide_eq_true_iff]; exact e), if_neg e]
      show decide (y ≤ x) = !decide (x < y)
      by_cases h : y ≤ x
      · rw [decide_eq_true h, decide_eq_false (by omega)]; rfl
      · rw [decide_eq_false h, decide_eq_true (by omega)]; rfl
def rGeT (K : PySem.W.Frag) : R2 := fun x y H Q => ∃ (a b : Addr) (ns ms : List Int), x = .ref a ∧ y = .ref b ∧ SqT K H a (ns.map V.int) ∧ SqT K H b (ms.map V.int) ∧ Q (.bl (!HT.lexLt ns ms)) H
theorem op_geT {X : Cx} (hu : X.A.units < cLine) : OpR X (compareOp .GtE) (rGeT X.K) := by
  intro pins s σ H x y v u Q I rx ry h
  obtain ⟨a, b, ns, ms, rfl, rfl, ha, hb, q⟩ := h
  cases rx
  cases ry
  obtain ⟨its, r1, p1, _⟩ := I.tuple ha
  obtain ⟨its2, r2, p2, _⟩ := I.tuple hb
  have i1 : IntsAre its ns := Vals.ints r1
  have i2 : IntsAre its2 ms := Vals.ints r2
  have e1 : its.toArray.size = ns.length := by rw [List.size_toArray]; exact i1.length
  have e2 : its2.toArray.size = ms.length := by rw [List.size_toArray]; exact i2.length
  have at1 : ∀ j (h1 : j < its.toArray.size), ∃ t, its.toArray[j] = .int (ns.getD j 0) t := fun j h1 => PyProof.Rows.IntsAre.int_at i1 _ _ (by simp at h1; simp [h1])
  have at2 : ∀ j (h1 : j < its2.toArray.size), ∃ t, its2.toArray[j] = .int (ms.getD j 0) t := fun j h1 => PyProof.Rows.IntsAre.int_at i2 _ _ (by simp at h1; simp [h1])
  have R := Ob.RcOp.tuples_ge (A := X.A) (s := s) (e := fun j => decide (ns.getD j 0 = ms.getD j 0)) (r := fun j => decide (ms.getD j 0 ≤ ns.getD j 0)) p1 p2 hu (fun j h1 h2 => by
    obtain ⟨t, et⟩ := at1 j h1
    obtain ⟨t', et'⟩ := at2 j h2
    rw [et, et']
    have z : (ns.getD j 0 == ms.getD j 0) = decide (ns.getD j 0 = ms.getD j 0) := by
      by_cases q : ns.getD j 0 = ms.getD j 0
      · rw [decide_eq_true q]; exact beq_iff_eq.mpr q
      · rw [decide_eq_false q]; exact beq_eq_false_iff_ne.mpr q
    rw [← z]
    exact SeqAt.EqAt.int_int _ _ _ _) (fun j h1 h2 _ => by
    obtain ⟨t, et⟩ := at1 j h1
    obtain ⟨t', et'⟩ := at2 j h2
    rw [et, et']
    exact Ob.RcOp.ge_int _ _ _ _)
  rw [e1, e2, lexAt_ge] at R
  have z : wpAny (model X.prog X.w) X.A (compareOp .GtE (.ref a) (.ref b)) (EP X pins σ Q) X.xe s := R X.prog X.w X.xe (EP X pins σ Q) ⟨.bl _, H, I, rfl, q⟩
  exact z
def rLeA (K : PySem.W.Frag) : R2 := fun x y H Q => rI0 (fun i j => .bl (decide (i ≤ j))) x y H Q ∨ rLeT K x y H Q
theorem op_leA (hu : X.A.units < cLine) : OpR X (compareOp .LtE) (rLeA X.K) := op_le.or (op_leT hu)
theorem op_leK {K : PySem.W.Frag} (hK : X.K = K) (hu : X.A.units < cLine) : OpR X (compareOp .LtE) (rLeA K) := hK ▸ op_leA hu
def rGeA (K : PySem.W.Frag) : R2 := fun x y H Q => rI0 (fun i j => .bl (decide (j ≤ i))) x y H Q ∨ rGeT K x y H Q
theorem op_geA (hu : X.A.units < cLine) : OpR X (compareOp .GtE) (rGeA X.K) := op_ge.or (op_geT hu)
theorem op_geK {K : PySem.W.Frag} (hK : X.K = K) (hu : X.A.units < cLine) : OpR X (compareOp .GtE) (rGeA K) := hK ▸ op_geA hu
def rIsN1 : R2 := fun x y H Q => y = .non ∧ Q (.bl (decide (x = .non))) H
def rNotN1 : R2 := fun x y H Q => y = .non ∧ Q (.bl (!decide (x = .non))) H
theorem op_isN1 : OpR X (compareOp .Is) rIsN1 := op_isN
theorem op_notN1 : OpR X (compareOp .IsNot) rNotN1 := op_notN
def iSeq (K : PySem.W.Frag) (tl : TE) : TI := fun σ H R => tl σ H fun x H1 => ∃ a, x = .ref a ∧ (((∃ xs, SqL K H1 a xs) ∧ R (Itl K a) H1) ∨ ((∃ xs, SqT K H1 a xs) ∧ R (Itt K a) H1))
theorem pi_seq {tg l : Expr} {tl : TE} (hl : PE X l tl) : PI X tg l (iSeq X.K tl) := by
  refine ⟨fun pins s σ H R I h => ?_⟩
  refine thn (hl.run pins s σ H _ I h) fun v s1 ⟨x, H1, I1, r1, q1⟩ => ?_
  obtain ⟨a, e, q⟩ := q1
  subst e
  cases r1
  rcases q with ⟨⟨xs, hq⟩, q⟩ | ⟨⟨xs, hq⟩, q⟩
  · obtain ⟨its, rv, p, hz⟩ := I1.list hq
    refine wpAny_pyIter_list p.isList ?_
    refine ⟨s1.heap.objs.size, [s1.heap.objs.size], _, _, H1, rfl, I1.kept (t' := s1.toks) fun b o e => Heap.get?_push_of_some _ e, turn_list a _, ⟨_, Heap.get?_push_size _ rfl, rfl, rfl⟩, fun b hb => ?_, q⟩
    have e : b = s1.heap.objs.size := by simpa using hb
    subst e
    exact I1.fpOk (Nat.le_refl _) (I1.hok.fresh (Nat.le_refl _))
  · obtain ⟨its, rv, p, hz⟩ := I1.tuple hq
    refine wpAny_pyIter_tuple (show s1.heap.IsTuple a its.toArray from p) ?_
    refine ⟨s1.heap.objs.size, [s1.heap.objs.size], _, _, H1, rfl, I1.kept (t' := s1.toks) fun b o e => Heap.get?_push_of_some _ e, turn_tuple a _, ⟨_, Heap.get?_push_size _ rfl, rfl, rfl⟩, fun b hb => ?_, q⟩
    have e : b = s1.heap.objs.size := by simpa using hb
    subst e
    exact I1.fpOk (Nat.le_refl _) (I1.hok.fresh (Nat.le_refl _))
theorem call_isiA : CallR X (.builtin "isinstance") (rIsi X.K) := call_isi
end
/-- an own exception -/
structure ExF (K : PySem.W.Frag) (mg : Str → Option Value) (c : Str) : Prop where
  gl : mg c = some (.ref (He.ga K c))
  ex : PySem.W.excIn K (He.ga K c) He.veBase "ValueError.__new__" = true
  kp : PySem.W.keepIn K (.ref (He.ga K c)) = true
  sb : PySem.W.subIn K (.ref (He.ga K c)) (.type "BaseException") = some true
  ty : PySem.W.typeIn K (.ref (He.ga K c)) = some (.type "type")
/-! ### the rules, the written part named -/
section
variable {X : Cx} {K : PySem.W.Frag} {o e value a b : Expr} {es : List Expr} {f m : Str} {pos pos' tpos apos : Pos} {ta tb tv te : TE} {t : TA} {T name id : String} {r : V → List V → Hp → VK → Prop}
theorem op_addK (hK : X.K = K) : OpR X (binaryOp .Add) (rAddA K) := hK ▸ op_addA
theorem op_ltK (hK : X.K = K) (hu : X.A.units < cLine) : OpR X (compareOp .Lt) (rLtA K) := hK ▸ op_ltA hu
theorem op_eqK (hK : X.K = K) (hu : X.A.units + 64 < cLine) : OpR X (compareOp .Eq) (rEqA K) := hK ▸ op_eqA hu
theorem op_neK (hK : X.K = K) (hu : X.A.units + 64 < cLine) : OpR X (compareOp .NotEq) (rNeA K) := hK ▸ op_neA hu
theorem op_inK (hK : X.K = K) (hu : X.A.units + 65 < cLine) : OpR X (compareOp .In) (rInA K) := hK ▸ op_inA hu
theorem op_notInK (hK : X.K = K) (hu : X.A.units + 65 < cLine) : OpR X (compareOp .NotIn) (rNotInA K) := hK ▸ op_notInA hu
theorem ix_anyK (hK : X.K = K) (hu : X.A.units + 1 < cLine) : IxR X (rSub K) := hK ▸ ix_any hu
theorem sl_anyK (hK : X.K = K) : SlR X (rSli K) := hK ▸ sl_any
theorem call_lenK (hK : X.K = K) : CallR X (.builtin "len") (rLenA K) := hK ▸ call_lenA
theorem call_isiKK (hK : X.K = K) : CallR X (.builtin "isinstance") (rIsi K) := hK ▸ call_isiA
def rListOf (K : PySem.W.Frag) : List V → Hp → VK → Prop := fun xs H Q => ∃ p ys, xs = [.ref p] ∧ (SqL K H p ys ∨ SqT K H p ys) ∧ ∀ l, H l = none → Q (.ref l) (upd H l (.lst ys))
theorem call_listK (hK : X.K = K) : CallR X (.type "list") (rListOf K) := hK ▸ call_list_of
def rTupleOf (K : PySem.W.Frag) : List V → Hp → VK → Prop := fun xs H Q => ∃ p ys, xs = [.ref p] ∧ ((SqL K H p ys ∧ ∀ l, H l = none → Q (.ref l) (upd H l (.tup ys))) ∨ (SqT K H p ys ∧ Q (.ref p) H))
theorem call_tupleK (hK : X.K = K) : CallR X (.type "tuple") (rTupleOf K) := hK ▸ call_tuple_of
theorem pe_fldK (hK : X.K = K) (he : PE X e ta) (hb : attributeBase e f X.env (eval e X.env) = eval e X.env) : PE X (.Attribute e f pos) (tFld K ta f) := hK ▸ pe_fld he hb
theorem ps_fldK (hK : X.K = K) (ha : PE X o ta) (hv : PE X value tv) (hs : swapsWith value (some (.Attribute o f pos')) pos.line X.env = pure false) : PS X (.Assign [.Attribute o f pos'] value pos) (sFld K ta tv f) := hK ▸ ps_fld ha hv hs
theorem ps_fldaugK {op : Operator} {rd : V → V → Hp → VK → Prop} (hK : X.K = K) (ha : PE X o ta) (hv : PE X value tv) (hop : InOp X op rd) : PS X (.AugAssign (.Attribute o f tpos) op value pos) (sFldAug K ta tv rd f) := hK ▸ ps_fldaug ha hv hop
theorem pi_seqK {tg l : Expr} {tl : TE} (hK : X.K = K) (hl : PE X l tl) : PI X tg l (iSeq K tl) := hK ▸ pi_seq hl
theorem pg_tupK {es : List Expr} {k : Nat} {t : TGs} {n : Nat} (hK : X.K = K) (hc : X.calm = true) (h : PGs X es t) (hn : (assignEach es X.env).length = n) (hst : (assignEach es X.env).findIdx? (·.1) = none) : PG X (.Tuple es k pos) (gTup K n t) := hK ▸ pg_tup hc h hn hst
theorem pe_bm0K {cpos : Pos} (hK : X.K = K) (pa : PlainAttrs T) (slot : Slot T name id) (hty : typeOf (.builtin id) = pure (.type "method_descriptor")) (hm : MtR X id r) (ho : PE X o ta)
    (hbase : attributeBase o name X.env (eval o X.env) = eval o X.env := by rfl) (hline : (apos.endLine == cpos.line) = true := by rfl) : PE X (.Call (.Attribute o name apos) [] [] cpos) (tBM0 K T r ta) := hK ▸ pe_bm0 pa slot hty hm ho hbase hline
theorem pe_bmK {cpos : Pos} (hK : X.K = K) (pa : PlainAttrs T) (slot : Slot T name id) (hty : typeOf (.builtin id) = pure (.type "method_descriptor")) (hm : MtR X id r) (ho : PE X o ta) (ha : PA X (e :: es) t)
    (hbase : attributeBase o name X.env (eval o X.env) = eval o X.env := by rfl)
    (hfew : ((backTo cpos (starEach (e :: es) X.env)).all (fun x => !x.1) && (backToKw cpos (keywordEach [] X.env)).all (fun x => x.1.isSome)
      && decide ((e :: es).length + ([] : List Keyword).length + (if ([] : List Keyword).isEmpty then 0 else 1) < 30)) = true := by rfl)
    (hline : (apos.endLine == cpos.line) = true := by rfl) (hs : starEach (e :: es) X.env = (false, eval e X.env) :: starEach es X.env := by rfl) (hplain : (backTo cpos (starEach es X.env)).any (·.1) = false := by rfl) :
    PE X (.Call (.Attribute o name apos) (e :: es) [] cpos) (tBM K T r ta t) := hK ▸ pe_bm pa slot hty hm ho ha hbase hfew hline hs hplain
end
section
variable {X : Cx} {K : PySem.W.Frag} {k j : Nat} {C m x : Str} {ps : List Str} {sp : Sp} {W : WX} {p pos apos : Pos} {e o : Expr} {es : List Expr} {ta : TE} {t : TA}
theorem pmeK {pl : Sem Bool} (hK : X.K = K) (G : MF X.K C m ps) (c : Cls X.K (He.ga X.K C)) (F : OkM X.prog X.w X.K X.mg X.base k C m ps sp) (hr : Room j X.A) (tk : Takes X W) (he : PE X o ta) (ha : PA X (e :: es) t) (hj : k ≤ j := by omega)
    (hst : starEach (e :: es) X.env = (false, eval e X.env) :: starEach es X.env := by rfl) (hpl : (backTo pos (starEach es X.env)).any (·.1) = false := by rfl)
    (ht : eval (.Call (.Attribute o m apos) (e :: es) [] pos) X.env = (do
      let ov ← eval o X.env
      standAt apos.atName
      let (f, first) ← holding [ov] (getMethod ov m pl)
      callWith pos f first (backTo pos (starEach (e :: es) X.env)) (backToKw pos (keywordEach [] X.env))) := by rfl) :
    PE X (.Call (.Attribute o m apos) (e :: es) [] pos) (tMethS (He.ga K C) m sp (WE W) ta t) := hK ▸ pme (pl := pl) G c F hr tk he ha hj hst hpl ht
theorem pme0K {pl : Sem Bool} (hK : X.K = K) (G : MF X.K C m ps) (c : Cls X.K (He.ga X.K C)) (F : OkM X.prog X.w X.K X.mg X.base k C m ps sp) (hr : Room j X.A) (tk : Takes X W) (he : PE X o ta) (hj : k ≤ j := by omega)
    (ht : eval (.Call (.Attribute o m apos) [] [] pos) X.env = (do
      let ov ← eval o X.env
      standAt apos.atName
      let (f, first) ← holding [ov] (getMethod ov m pl)
      callWith pos f first (backTo pos (starEach [] X.env)) (backToKw pos (keywordEach [] X.env))) := by rfl) :
    PE X (.Call (.Attribute o m apos) [] [] pos) (tMethS (He.ga K C) m sp (WE W) ta tNil) := hK ▸ pme0 (pl := pl) G c F hr tk he hj ht
theorem pmkK (hK : X.K = K) (G : KF X.K X.mg C ps) (F : OkM X.prog X.w X.K X.mg X.base k C "__init__" ps sp) (hr : Room j X.A) (tk : Takes X W) (ha : PA X (e :: es) t) (hj : k + 1 ≤ j := by omega) (hg : Gl X C := by rfl)
    (hdb : (C == ("__debug__" : Str)) = false := by decide) (he : starEach (e :: es) X.env = (false, eval e X.env) :: starEach es X.env := by rfl) (hpl : (backTo pos (starEach es X.env)).any (·.1) = false := by rfl) :
    PE X (.Call (.Name C p) (e :: es) [] pos) (tMakeS (He.ga K C) sp (WE W) t) := hK ▸ pmk G F hr tk ha hj hg hdb he hpl
theorem pmk0K (hK : X.K = K) (G : KF X.K X.mg C ps) (F : OkM X.prog X.w X.K X.mg X.base k C "__init__" ps sp) (hr : Room j X.A) (tk : Takes X W) (hj : k + 1 ≤ j := by omega) (hg : Gl X C := by rfl)
    (hdb : (C == ("__debug__" : Str)) = false := by decide) : PE X (.Call (.Name C p) [] [] pos) (tMakeS (He.ga K C) sp (WE W) tNil) := hK ▸ pmk0 G F hr tk hj hg hdb
end
/-! ### isinstance of an own instance -/
structure IsC (K : PySem.W.Frag) (C : Str) : Prop where
  ha : PySem.W.findIn K (.ref (He.ga K C)) "__class__" = some (some (.builtin "object.__class__"))
  hn : PySem.W.specialIn K (.builtin "object.__class__") "__get__" = some (some (.builtin "getset_descriptor.__get__"))
  htk : PySem.W.takesIn K (.builtin "object.__class__") = some true
  hm : PySem.W.mroIn K (He.ga K C) (.type "object") = some true
def isCB (K : PySem.W.Frag) (C : Str) : Bool := He.eqO (PySem.W.findIn K (.ref (He.ga K C)) "__class__") (some (some (.builtin "object.__class__"))) && (He.eqO (PySem.W.specialIn K (.builtin "object.__class__") "__get__") (some (some (.builtin "getset_descriptor.__get__"))) &&
  (decide (PySem.W.takesIn K (.builtin "object.__class__") = some true) && decide (PySem.W.mroIn K (He.ga K C) (.type "object") = some true)))
theorem isC_of {K : PySem.W.Frag} {C : Str} (h : isCB K C = true) : IsC K C := by
  unfold isCB at h
  rw [Bool.and_eq_true, Bool.and_eq_true, Bool.and_eq_true] at h
  exact ⟨He.eqO_ok h.1, He.eqO_ok h.2.1, of_decide_eq_true h.2.2.1, of_decide_eq_true h.2.2.2⟩
def kitB (K : PySem.W.Frag) (C D : Str) (b : Bool) : Bool := decide (PySem.W.kitOne K (.ref (He.ga K C)) (.ref (He.ga K D)) = some b)
theorem kit_of' {K : PySem.W.Frag} {C D : Str} {b : Bool} (h : kitB K C D b = true) : PySem.W.kitOne K (.ref (He.ga K C)) (.ref (He.ga K D)) = some b := of_decide_eq_true h
/-- an instance and its class -/
theorem go_isi_ins {K : PySem.W.Frag} {H : Hp} {Q : VK} {a dx : Addr} {C D : Str} {fs : List (Str × V)} {b : Bool} (h : H a = some (.ins (He.ga K C) dx fs)) (c : Cls K (He.ga K C)) (i : IsC K C) (k : PySem.W.kitOne K (.ref (He.ga K C)) (.ref (He.ga K D)) = some b) (q : Q (.bl b) H) : rIsi K [.ref a, .ref (He.ga K D)] H Q :=
  ⟨_, _, _, _, b, rfl, .own _, .base (.ins h c i.ha i.hn i.htk i.hm), k, q⟩
/-! ### one of two promises -/
def tAlt (t u : TE) : TE := fun σ H Q => t σ H Q ∨ u σ H Q
theorem pe_alt {X : Cx} {e : Expr} {t u : TE} (h : PE X e t) (k : PE X e u) : PE X e (tAlt t u) := ⟨fun pins s σ H Q I q => by
  rcases q with q | q
  · exact h.run pins s σ H Q I q
  · exact k.run pins s σ H Q I q⟩
theorem go_alt1 {t u : TE} {σ : L2.St} {H : Hp} {Q : VK} (k : t σ H Q) : tAlt t u σ H Q := .inl k
theorem go_alt2 {t u : TE} {σ : L2.St} {H : Hp} {Q : VK} (k : u σ H Q) : tAlt t u σ H Q := .inr k
def spOr (a b : Sp) : Sp := fun vs H Q E => a vs H Q E ∨ b vs H Q E
theorem fn_or {P : Program} {w : World} {K : PySem.W.Frag} {mg : Str → Option Value} {base : Heap} {CX : CXT} {k : Nat} {f : Addr} {fd : FuncData} {ps : List Str} {a b : Sp} (F : FnOk P w K mg base CX k f fd ps a) (G : FnOk P w K mg base CX k f fd ps b) : FnOk P w K mg base CX k f fd ps (spOr a b) :=
  ⟨fun vs H Q E h => by
    rcases h with h | h
    · exact F.len vs H Q E h
    · exact G.len vs H Q E h, fun A outer s H args us vs Q E hr he hb hv hs => by
    rcases hs with hs | hs
    · exact F.run A outer s H args us vs Q E hr he hb hv hs
    · exact G.run A outer s H args us vs Q E hr he hb hv hs⟩
end Mo
namespace Mo
open PySem PySem.Spec PyProof.Rows L2
/-! ### steps through a reading -/
section
variable {K : PySem.W.Frag} {σ σ' : St} {H : Hp} {Q : VK} {ta tb te tc : TE} {t u c : TT} {tA tB1 : TA} {D : Ends} {s1 s2 : TS} {v x y : V} {i : Nat} {r : R2} {g : TG}
theorem go_start {f : TS} (h : σ = σ') (k : f D σ' H) : f D σ H := by
  rw [h]
  exact k
theorem go_var (h : σ[i]? = some (some v)) (k : Q v H) : tVar i σ H Q := ⟨v, h, k⟩
theorem go_c (k : Q v H) : tC v σ H Q := k
theorem go_op (k : ta σ H fun x H1 => tb σ H1 fun y H2 => r x y H2 Q) : tOp r ta tb σ H Q := k
theorem go_un {r : V → Hp → VK → Prop} (k : ta σ H fun x H1 => r x H1 Q) : tUn r ta σ H Q := k
theorem go_cb {r : List V → Hp → VK → Prop} (k : tA σ H fun vs H1 => r vs H1 Q) : tCB r tA σ H Q := k
theorem go_nil {Q : List V → Hp → Prop} (k : Q [] H) : tNil σ H Q := k
theorem go_cons {Q : List V → Hp → Prop} (k : ta σ H fun x H1 => tA σ H1 fun xs H2 => Q (x :: xs) H2) : tCons ta tA σ H Q := k
theorem go_tup (k : tA σ H fun xs H1 => xs.length ≤ sizeLine ∧ ∀ p, H1 p = none → Q (.ref p) (upd H1 p (.tup xs))) : tTup tA σ H Q := k
theorem go_lst (k : tA σ H fun xs H1 => xs.length ≤ sizeLine ∧ ∀ p, H1 p = none → Q (.ref p) (upd H1 p (.lst xs))) : tLst tA σ H Q := k
theorem go_test {Q : Bool → Hp → Prop} (k : te σ H fun x H1 => ∃ b, x = .bl b ∧ Q b H1) : tTest te σ H Q := k
theorem go_tb {Q : Bool → Hp → Prop} (k : te σ H fun x H1 => ∃ b, x = .bl b ∧ Q b H1) : tB te σ H Q := k
theorem go_bl {b : Bool} {Q : Bool → Prop} (k : Q b) : ∃ d, V.bl b = V.bl d ∧ Q d := ⟨b, rfl, k⟩
theorem go_and {Q : Bool → Hp → Prop} (k : t σ H fun d H1 => if d = true then u σ H1 Q else Q false H1) : tAnd t u σ H Q := k
theorem go_or {Q : Bool → Hp → Prop} (k : t σ H fun d H1 => if d = true then Q true H1 else u σ H1 Q) : tOr t u σ H Q := k
theorem go_not {Q : Bool → Hp → Prop} (k : t σ H fun d H1 => Q (!d) H1) : tNot t σ H Q := k
theorem go_andV (k : ta σ H fun x H1 => ∃ d, x = .bl d ∧ if d = true then tb σ H1 Q else Q (.bl false) H1) : tAndV ta tb σ H Q := k
theorem go_orV (k : ta σ H fun x H1 => ∃ d, x = .bl d ∧ if d = true then Q (.bl true) H1 else tb σ H1 Q) : tOrV ta tb σ H Q := k
theorem go_notV (k : ta σ H fun x H1 => ∃ d, x = .bl d ∧ Q (.bl (!d)) H1) : tNotV ta σ H Q := k
theorem go_ifE (k : c σ H fun d H1 => if d = true then ta σ H1 Q else tb σ H1 Q) : tIf c ta tb σ H Q := k
theorem go_seq (k : s1 { D with nx := s2 D } σ H) : tSeq s1 s2 D σ H := k
theorem go_next (k : D.nx σ H) : tNext D σ H := k
theorem go_brk (k : D.bk σ H) : tBreak D σ H := k
theorem go_cont (k : D.ct σ H) : tCont D σ H := k
theorem go_ifS (k : c σ H fun d H1 => if d = true then s1 D σ H1 else s2 D σ H1) : tIfS c s1 s2 D σ H := k
theorem go_asg (k : te σ H fun x H1 => g x σ H1 D.nx) : tAsg te g D σ H := k
theorem go_gn {Q : St → Hp → Prop} (k : Q (σ.set i (some v)) H) : gName i v σ H Q := k
theorem go_gsub {st : TSet} {Q : St → Hp → Prop} (k : ta σ H fun o H1 => tb σ H1 fun j H2 => st o j v H2 fun H3 => Q σ H3) : gSub ta tb st v σ H Q := k
theorem go_gcons {tg : TG} {tgs : TGs} {vs : List V} {Q : St → Hp → Prop} (k : tg v σ H fun σ1 H1 => tgs vs σ1 H1 Q) : gCons tg tgs (v :: vs) σ H Q := ⟨v, vs, rfl, k⟩
theorem go_gnil {Q : St → Hp → Prop} (k : Q σ H) : gNil [] σ H Q := ⟨rfl, k⟩
theorem go_gtup {n : Nat} {tgs : TGs} {a : Addr} {xs : List V} {Q : St → Hp → Prop} (h : SqT K H a xs) (hn : xs.length = n) (k : tgs xs σ H Q) : gTup K n tgs (.ref a) σ H Q := ⟨a, xs, rfl, h, hn, k⟩
theorem go_ret (k : te σ H D.rt) : tRet te D σ H := k
theorem go_drop (k : te σ H fun _ H1 => D.nx σ H1) : tDrop te D σ H := k
theorem go_fld {f : Str} (k : ta σ H fun x H1 => ∃ a C dx fs v, x = .ref a ∧ H1 a = some (.ins C dx fs) ∧ Cls K C ∧ NoAttr K C f ∧ fs.lookup f = some v ∧ Q v H1) : tFld K ta f σ H Q := k
theorem go_fldL {a C dx : Addr} {fs : List (Str × V)} {f : Str} {v : V} {Q : V → Prop} (h : H a = some (.ins C dx fs)) (hc : Cls K C) (hn : NoAttr K C f) (hl : fs.lookup f = some v) (k : Q v) :
    ∃ b C' dx' fs' v', V.ref a = .ref b ∧ H b = some (.ins C' dx' fs') ∧ Cls K C' ∧ NoAttr K C' f ∧ fs'.lookup f = some v' ∧ Q v' := ⟨a, C, dx, fs, v, rfl, h, hc, hn, hl, k⟩
theorem go_sfld {f : Str} (k : tb σ H fun y H1 => ta σ H1 fun x H2 => ∃ a C dx fs, x = .ref a ∧ H2 a = some (.ins C dx fs) ∧ Cls K C ∧ NoAttr K C f ∧ fs.length < 1000 ∧ D.nx σ (upd H2 a (.ins C dx (putF f y fs)))) : sFld K ta tb f D σ H := k
theorem go_sfldL {a C dx : Addr} {fs : List (Str × V)} {f : Str} {y : V} {Q : Hp → Prop} (h : H a = some (.ins C dx fs)) (hc : Cls K C) (hn : NoAttr K C f) (hl : Nat.blt fs.length 1000 = true) (k : Q (upd H a (.ins C dx (putF f y fs)))) :
    ∃ b C' dx' fs', V.ref a = .ref b ∧ H b = some (.ins C' dx' fs') ∧ Cls K C' ∧ NoAttr K C' f ∧ fs'.length < 1000 ∧ Q (upd H b (.ins C' dx' (putF f y fs'))) := ⟨a, C, dx, fs, rfl, h, hc, hn, Nat.blt_eq.mp hl, k⟩
theorem go_fldaug {rd : V → V → Hp → VK → Prop} {f : Str} (k : ta σ H fun x H1 => ∃ a C dx fs v, x = .ref a ∧ H1 a = some (.ins C dx fs) ∧ Cls K C ∧ NoAttr K C f ∧ fs.lookup f = some v ∧ tb σ H1 fun y H2 => rd v y H2 fun z H3 => ∃ dx' fs', H3 a = some (.ins C dx' fs') ∧ fs'.length < 1000 ∧ D.nx σ (upd H3 a (.ins C dx' (putF f z fs')))) : sFldAug K ta tb rd f D σ H := k
theorem go_fldaugL {a C dx : Addr} {fs : List (Str × V)} {f : Str} {v : V} {Q : Addr → Addr → V → Prop} (h : H a = some (.ins C dx fs)) (hc : Cls K C) (hn : NoAttr K C f) (hl : fs.lookup f = some v) (k : Q a C v) :
    ∃ b C' dx' fs' v', V.ref a = .ref b ∧ H b = some (.ins C' dx' fs') ∧ Cls K C' ∧ NoAttr K C' f ∧ fs'.lookup f = some v' ∧ Q b C' v' := ⟨a, C, dx, fs, v, rfl, h, hc, hn, hl, k⟩
theorem go_addR {a b : Int} (k : Q (.int (a + b)) H) : rAdd (.int a) (.int b) H Q := ⟨a, b, rfl, rfl, k⟩
theorem go_subR {a b : Int} (k : Q (.int (a - b)) H) : L2.rSub (.int a) (.int b) H Q := ⟨a, b, rfl, rfl, k⟩
theorem go_putL {a C dx : Addr} {fs : List (Str × V)} {f : Str} {z : V} {R : Hp → Prop} (h : H a = some (.ins C dx fs)) (hl : Nat.blt fs.length 1000 = true) (k : R (upd H a (.ins C dx (putF f z fs)))) :
    ∃ dx' fs', H a = some (.ins C dx' fs') ∧ fs'.length < 1000 ∧ R (upd H a (.ins C dx' (putF f z fs'))) := ⟨dx, fs, h, Nat.blt_eq.mp hl, k⟩
theorem go_call {sp : Sp} {E : St → XK} (k : tA σ H fun vs H1 => sp vs H1 Q (E σ)) : tCallS sp E tA σ H Q := k
theorem go_meth {C : Addr} {m : Str} {sp : Sp} {E : St → XK} (k : ta σ H fun x H1 => ∃ a dx fs, x = .ref a ∧ H1 a = some (.ins C dx fs) ∧ fs.lookup m = none ∧ tA σ H1 fun vs H2 => sp (x :: vs) H2 Q (E σ)) : tMethS C m sp E ta tA σ H Q := k
theorem go_methL {a C dx : Addr} {fs : List (Str × V)} {m : Str} {R : Prop} (h : H a = some (.ins C dx fs)) (hl : fs.lookup m = none) (k : R) :
    ∃ b dx' fs', V.ref a = .ref b ∧ H b = some (.ins C dx' fs') ∧ fs'.lookup m = none ∧ R := ⟨a, dx, fs, rfl, h, hl, k⟩
theorem go_make {C : Addr} {sp : Sp} {E : St → XK} (k : tA σ H fun vs H1 => ∀ x dx, H1 x = none → H1 dx = none → dx ≠ x → sp (.ref x :: vs) (upd (upd H1 dx (.own x)) x (.ins C dx [])) (fun v H2 => v = .non ∧ Q (.ref x) H2) (E σ)) : tMakeS C sp E tA σ H Q := k
theorem go_bm0 {T : String} {r : V → List V → Hp → VK → Prop} (k : ta σ H fun x H1 => tyV K T x H1 ∧ r x [] H1 Q) : tBM0 K T r ta σ H Q := k
theorem go_bm {T : String} {r : V → List V → Hp → VK → Prop} (k : ta σ H fun x H1 => tyV K T x H1 ∧ tA σ H1 fun xs H2 => r x xs H2 Q) : tBM K T r ta tA σ H Q := k
theorem go_sl {r : V → Option Int → Option Int → Hp → VK → Prop} {tl th : TO} (k : te σ H fun x H1 => tl σ H1 fun l H2 => th σ H2 fun u H3 => r x l u H3 Q) : tSl r te tl th σ H Q := k
theorem go_nopart {Q : Option Int → Hp → Prop} (k : Q none H) : tNoPart σ H Q := k
theorem go_part {Q : Option Int → Hp → Prop} (k : te σ H fun x H1 => ∃ i, x = .int i ∧ Q (some i) H1) : tPart te σ H Q := k
theorem go_int {j : Int} {Q : Int → Prop} (k : Q j) : ∃ i, V.int j = .int i ∧ Q i := ⟨j, rfl, k⟩
theorem go_aug {ti : TIp} (h : σ[i]? = some (some x)) (k : te σ H fun y H1 => ti x y H1 fun z H2 => D.nx (σ.set i (some z)) H2) : tAug i te ti D σ H := ⟨x, h, k⟩
theorem go_ipI {f : Int → Int → Int} {a b : Int} (k : Q (.int (f a b)) H) : ipI f (.int a) (.int b) H Q := ⟨a, b, rfl, rfl, k⟩
/-! #### operations on values -/
theorem go_I0 {f : Int → Int → V} {a b : Int} (k : Q (f a b) H) : rI0 f (.int a) (.int b) H Q := ⟨a, b, rfl, rfl, k⟩
theorem go_I {C : Int → Int → Prop} {f : Int → Int → V} {a b : Int} (hc : C a b) (k : Q (f a b) H) : rI C f (.int a) (.int b) H Q := ⟨a, b, rfl, rfl, hc, k⟩
theorem go_rU {f : Int → V} {a : Int} (k : Q (f a) H) : rU f (.int a) H Q := ⟨a, rfl, k⟩
theorem dec_i {a b : Int} : decide (V.int a = V.int b) = decide (a = b) := by simp
theorem dec_s {a b : Str} : decide (V.str a = V.str b) = decide (a = b) := by simp
theorem dec_b {a b : Bool} : decide (V.bl a = V.bl b) = decide (a = b) := by simp
theorem go_eqi {a b : Int} (k : Q (.bl (decide (a = b))) H) : rEqA K (.int a) (.int b) H Q := .inl ⟨rfl, by rw [dec_i]; exact k⟩
theorem go_nei {a b : Int} (k : Q (.bl (!decide (a = b))) H) : rNeA K (.int a) (.int b) H Q := .inl ⟨rfl, by rw [dec_i]; exact k⟩
theorem go_eqb {a b : Bool} (k : Q (.bl (decide (a = b))) H) : rEqA K (.bl a) (.bl b) H Q := .inl ⟨rfl, by rw [dec_b]; exact k⟩
theorem go_neb {a b : Bool} (k : Q (.bl (!decide (a = b))) H) : rNeA K (.bl a) (.bl b) H Q := .inl ⟨rfl, by rw [dec_b]; exact k⟩
theorem go_eqsT {a b : Str} (h : a = b) (k : Q (.bl true) H) : rEqA K (.str a) (.str b) H Q := .inl ⟨rfl, by rw [dec_s, decide_eq_true h]; exact k⟩
theorem go_eqsF {a b : Str} (h : ¬ a = b) (k : Q (.bl false) H) : rEqA K (.str a) (.str b) H Q := .inl ⟨rfl, by rw [dec_s, decide_eq_false h]; exact k⟩
theorem go_eqs {a b : Str} (k : Q (.bl (decide (a = b))) H) : rEqA K (.str a) (.str b) H Q := .inl ⟨rfl, by rw [dec_s]; exact k⟩
theorem go_nes {a b : Str} (k : Q (.bl (!decide (a = b))) H) : rNeA K (.str a) (.str b) H Q := .inl ⟨rfl, by rw [dec_s]; exact k⟩
theorem go_eqD {a b : V} {d e : PyData} (ha : Dp K H a d) (hb : Dp K H b e) (sa : SeqAt.shaped d = true) (sb : SeqAt.shaped e = true) (k : Q (.bl (PyData.eqv d e)) H) : rEqA K a b H Q := .inr (.inl ⟨d, e, ha, hb, sa, sb, k⟩)
theorem go_neD {a b : V} {d e : PyData} (ha : Dp K H a d) (hb : Dp K H b e) (sa : SeqAt.shaped d = true) (sb : SeqAt.shaped e = true) (k : Q (.bl (!PyData.eqv d e)) H) : rNeA K a b H Q := .inr (.inl ⟨d, e, ha, hb, sa, sb, k⟩)
theorem go_neV {a b : Addr} {ks ls : List (Key × V)} (n : Nat) (hn : n ≤ 60) (ha : H a = some (.dK ks)) (hb : H b = some (.dK ls)) (hl : ks.length = ls.length) (hp : ∀ p ∈ ks, ∃ u, valV ls p.1 = some u ∧ EqV K H n p.2 u) (k : Q (.bl false) H) : rNeA K (.ref a) (.ref b) H Q := .inr (.inr ⟨n, a, b, ks, ls, hn, rfl, rfl, ha, hb, hl, hp, k⟩)
theorem go_isN (k : Q (.bl (decide (x = .non))) H) : rIsN1 x .non H Q := ⟨rfl, k⟩
theorem go_notN (k : Q (.bl (!decide (x = .non))) H) : rNotN1 x .non H Q := ⟨rfl, k⟩
theorem go_isN_t (k : Q (.bl true) H) : rIsN1 .non .non H Q := ⟨rfl, k⟩
theorem go_notN_t (k : Q (.bl false) H) : rNotN1 .non .non H Q := ⟨rfl, k⟩
theorem go_isN_r {a : Addr} (k : Q (.bl false) H) : rIsN1 (.ref a) .non H Q := ⟨rfl, k⟩
theorem go_notN_r {a : Addr} (k : Q (.bl true) H) : rNotN1 (.ref a) .non H Q := ⟨rfl, k⟩
theorem go_isN_i {a : Int} (k : Q (.bl false) H) : rIsN1 (.int a) .non H Q := ⟨rfl, k⟩
theorem go_notN_i {a : Int} (k : Q (.bl true) H) : rNotN1 (.int a) .non H Q := ⟨rfl, k⟩
theorem go_addI {a b : Int} (k : Q (.int (a + b)) H) : rAddA K (.int a) (.int b) H Q := .inl ⟨a, b, rfl, rfl, k⟩
theorem go_addS {a b : Str} (h : a.length + b.length ≤ sizeLine) (k : Q (.str (a ++ b)) H) : rAddA K (.str a) (.str b) H Q := .inr (.inr (.inl ⟨a, b, rfl, rfl, h, k⟩))
theorem go_addL {a b : Addr} {xs ys : List V} (ha : H a = some (.lst xs)) (hb : H b = some (.lst ys)) (hl : xs.length + ys.length ≤ sizeLine) (k : ∀ p, H p = none → Q (.ref p) (upd H p (.lst (xs ++ ys)))) : rAddA K (.ref a) (.ref b) H Q :=
  .inr (.inl ⟨a, b, xs, ys, rfl, rfl, ha, hb, hl, k⟩)
theorem go_ltI {a b : Int} (k : Q (.bl (decide (a < b))) H) : rLtA K (.int a) (.int b) H Q := .inl ⟨a, b, rfl, rfl, k⟩
theorem go_ltT {a b : Addr} {ns ms : List Int} (ha : SqT K H a (ns.map V.int)) (hb : SqT K H b (ms.map V.int)) (k : Q (.bl (HT.lexLt ns ms)) H) : rLtA K (.ref a) (.ref b) H Q := .inr ⟨a, b, ns, ms, rfl, rfl, ha, hb, k⟩
/-- truth of a value -/
theorem go_truB {b : Bool} {Q : Bool → Prop} (k : Q b) : ∃ d, TruV K (.bl b) H d ∧ Q d := ⟨b, rfl, k⟩
theorem go_truN {Q : Bool → Prop} (k : Q false) : ∃ d, TruV K .non H d ∧ Q d := ⟨false, rfl, k⟩
theorem go_isi {x c : V} {t u : Value} {b : Bool} (hc : ClsV c u) (ht : TyX K H x t) (hk : PySem.W.kitOne K t u = some b) (k : Q (.bl b) H) : rIsi K [x, c] H Q := ⟨x, c, t, u, b, rfl, hc, ht, hk, k⟩
theorem go_isi_ii {r1 : Int} (k : Q (.bl true) H) : rIsi K [.int r1, .ty "int"] H Q := go_isi (.ty _) (.base (.int _)) (kit_ty (by decide +kernel)) k
theorem go_isi_ib {r1 : Int} (k : Q (.bl false) H) : rIsi K [.int r1, .ty "bool"] H Q := go_isi (.ty _) (.base (.int _)) (kit_ty (by decide +kernel)) k
theorem go_isi_is {r1 : Int} (k : Q (.bl false) H) : rIsi K [.int r1, .ty "str"] H Q := go_isi (.ty _) (.base (.int _)) (kit_ty (by decide +kernel)) k
theorem go_isi_ss {z : Str} (k : Q (.bl true) H) : rIsi K [.str z, .ty "str"] H Q := go_isi (.ty _) (.base (.str _)) (kit_ty (by decide +kernel)) k
theorem go_isi_si {z : Str} (k : Q (.bl false) H) : rIsi K [.str z, .ty "int"] H Q := go_isi (.ty _) (.base (.str _)) (kit_ty (by decide +kernel)) k
theorem go_isi_bi {z : Bool} (k : Q (.bl true) H) : rIsi K [.bl z, .ty "int"] H Q := go_isi (.ty _) (.base (.bl _)) (kit_ty (by decide +kernel)) k
theorem go_isi_bb {z : Bool} (k : Q (.bl true) H) : rIsi K [.bl z, .ty "bool"] H Q := go_isi (.ty _) (.base (.bl _)) (kit_ty (by decide +kernel)) k
theorem go_isi_ni (k : Q (.bl false) H) : rIsi K [.non, .ty "int"] H Q := go_isi (.ty _) (.base .non) (kit_ty (by decide +kernel)) k
theorem go_pow15 (k : Q (.int 1000000000000000) H) : rI CPow (fun i j => .int (i ^ j.toNat)) (.int 10) (.int 15) H Q := ⟨10, 15, rfl, rfl, ⟨by decide, by decide, by decide⟩, k⟩
theorem go_pow12 (k : Q (.int 1000000000000) H) : rI CPow (fun i j => .int (i ^ j.toNat)) (.int 10) (.int 12) H Q := ⟨10, 12, rfl, rfl, ⟨by decide, by decide, by decide⟩, k⟩
theorem go_pow6 (k : Q (.int 1000000) H) : rI CPow (fun i j => .int (i ^ j.toNat)) (.int 10) (.int 6) H Q := ⟨10, 6, rfl, rfl, ⟨by decide, by decide, by decide⟩, k⟩
theorem go_abs {r1 : Int} {Q1 : Int → Prop} (k : Q1 r1) : ∃ i, [V.int r1] = [V.int i] ∧ Q1 i := ⟨r1, rfl, k⟩
theorem go_max {r1 r2 : Int} {Q1 : Int → Int → Prop} (k : Q1 r1 r2) : ∃ i j, [V.int r1, V.int r2] = [V.int i, V.int j] ∧ Q1 i j := ⟨r1, r2, rfl, k⟩
theorem go_listL {p : Addr} {xs : List V} (h : SqL K H p xs) (k : ∀ l, H l = none → Q (.ref l) (upd H l (.lst xs))) : rListOf K [.ref p] H Q := ⟨p, xs, rfl, .inl h, k⟩
theorem go_listT {p : Addr} {xs : List V} (h : SqT K H p xs) (k : ∀ l, H l = none → Q (.ref l) (upd H l (.lst xs))) : rListOf K [.ref p] H Q := ⟨p, xs, rfl, .inr h, k⟩
theorem go_intI {a : Int} {Q1 : Int → Prop} {Q2 : Bool → Prop} (k : Q1 a) : (∃ i, [V.int a] = [V.int i] ∧ Q1 i) ∨ (∃ d, [V.int a] = [V.bl d] ∧ Q2 d) := .inl ⟨a, rfl, k⟩
theorem go_intB {b : Bool} {Q1 : Int → Prop} {Q2 : Bool → Prop} (k : Q2 b) : (∃ i, [V.bl b] = [V.int i] ∧ Q1 i) ∨ (∃ d, [V.bl b] = [V.bl d] ∧ Q2 d) := .inr ⟨b, rfl, k⟩
theorem go_subL {p : Addr} {xs : List V} {j : Int} {v : V} (h : SqL K H p xs) (e : atI xs j = some v) (k : Q v H) : rSub K (.ref p) (.int j) H Q := .inl (.inl ⟨p, xs, j, v, rfl, rfl, h, e, k⟩)
theorem go_subT {p : Addr} {xs : List V} {j : Int} {v : V} (h : SqT K H p xs) (e : atI xs j = some v) (k : Q v H) : rSub K (.ref p) (.int j) H Q := .inl (.inr ⟨p, xs, j, v, rfl, rfl, h, e, k⟩)
theorem go_subS {z : Str} {j : Int} {c : Nat} (h : z.length ≤ sizeLine) (e : atI z.cps.toList j = some c) (k : Q (.str ⟨#[c]⟩) H) : rSub K (.str z) (.int j) H Q := .inr (.inl ⟨z, j, c, rfl, rfl, h, e, k⟩)
theorem go_subD {p : Addr} {v : V} (g : DGet H p y (some v)) (k : Q v H) : rSub K (.ref p) y H Q := .inr (.inr ⟨p, v, rfl, g, k⟩)
theorem go_subK {p : Addr} {kvs : List (Key × V)} {z : Str} {v : V} (h : H p = some (.dK kvs)) (e : valV kvs (Sum.inr z) = some v) (k : Q v H) : rSub K (.ref p) (.str z) H Q := go_subD (y := .str z) (by have q := DGet.k (k := Sum.inr z) h; rw [e] at q; exact q) k
/-- an item of a told tuple, of a told list -/
theorem go_subDT {ds : List PyData} {j : Int} {n : Nat} {d : PyData} (h : Dp K H x (.tuple ds)) (hj : j = (n : Int)) (e : ds[n]? = some d) (k : ∀ v, Dp K H v d → Q v H) : rSub K x (.int j) H Q := by
  obtain ⟨a, xs, rfl, h1, h2⟩ := dp_tup h
  obtain ⟨v, e1, e2⟩ := dpa_get h2 e
  subst hj
  exact go_subT h1 (atI_nat e1) (k v e2)
theorem go_subDL {ds : List PyData} {j : Int} {n : Nat} {d : PyData} (h : Dp K H x (.list ds)) (hj : j = (n : Int)) (e : ds[n]? = some d) (k : ∀ v, Dp K H v d → Q v H) : rSub K x (.int j) H Q := by
  obtain ⟨a, xs, rfl, h1, h2⟩ := dp_lst h
  obtain ⟨v, e1, e2⟩ := dpa_get h2 e
  subst hj
  exact go_subL h1 (atI_nat e1) (k v e2)
/-- the same, of data that stays (in G) -/
theorem go_gT {G : Hp} {ds : List PyData} {j : Int} {n : Nat} {d : PyData} (e : Ext G H) (h : Dp K G x (.tuple ds)) (hj : j = (n : Int)) (hd : ds[n]? = some d) (k : ∀ v, Dp K G v d → Q v H) : rSub K x (.int j) H Q := by
  obtain ⟨a, xs, rfl, h1, h2⟩ := dp_tup h
  obtain ⟨v, e1, e2⟩ := dpa_get h2 hd
  subst hj
  exact go_subT (ext_t e h1) (atI_nat e1) (k v e2)
theorem go_gL {G : Hp} {ds : List PyData} {j : Int} {n : Nat} {d : PyData} (e : Ext G H) (h : Dp K G x (.list ds)) (hj : j = (n : Int)) (hd : ds[n]? = some d) (k : ∀ v, Dp K G v d → Q v H) : rSub K x (.int j) H Q := by
  obtain ⟨a, xs, rfl, h1, h2⟩ := dp_lst h
  obtain ⟨v, e1, e2⟩ := dpa_get h2 hd
  subst hj
  exact go_subL (ext_l e h1) (atI_nat e1) (k v e2)
theorem go_setL {p : Addr} {xs : List V} {j : Int} {n : Nat} {Q : Hp → Prop} (h : H p = some (.lst xs)) (e : ixN xs.length j = some n) (k : Q (upd H p (.lst (xs.set n v)))) : rSet (.ref p) (.int j) v H Q := .inl ⟨p, xs, j, n, rfl, rfl, h, e, k⟩
theorem go_setD {p : Addr} {H' : Hp} {Q : Hp → Prop} (g : DPut H p y v H') (k : Q H') : rSet (.ref p) y v H Q := .inr ⟨p, H', rfl, g, k⟩
theorem go_setK {p : Addr} {kvs : List (Key × V)} {z : Str} {Q : Hp → Prop} (h : H p = some (.dK kvs)) (hl : kvs.length < sizeLine) (k : Q (upd H p (.dK (putK kvs (Sum.inr z) v)))) : rSet (.ref p) (.str z) v H Q := go_setD (y := .str z) (DPut.k (k := Sum.inr z) h hl) k
theorem go_lenL {p : Addr} {xs : List V} (h : SqL K H p xs) (k : Q (.int (xs.length : Int)) H) : rLenA K [.ref p] H Q := .inl (.inl ⟨p, xs, rfl, .inl h, k⟩)
theorem go_lenT {p : Addr} {xs : List V} (h : SqT K H p xs) (k : Q (.int (xs.length : Int)) H) : rLenA K [.ref p] H Q := .inl (.inl ⟨p, xs, rfl, .inr h, k⟩)
theorem go_lenS {z : Str} (h : z.length ≤ sizeLine) (k : Q (.int (z.length : Int)) H) : rLenA K [.str z] H Q := .inl (.inr ⟨z, rfl, h, k⟩)
theorem go_lenK {p : Addr} {kvs : List (Key × V)} (h : H p = some (.dK kvs)) (k : Q (.int (kvs.length : Int)) H) : rLenA K [.ref p] H Q := .inr (.inl ⟨p, kvs, rfl, h, k⟩)
theorem go_lenDT {p : Addr} {kvs : List (List Key × V)} (h : H p = some (.dT kvs)) (k : Q (.int (kvs.length : Int)) H) : rLenA K [.ref p] H Q := .inr (.inr ⟨p, kvs, rfl, h, k⟩)
theorem go_app {p : Addr} {xs : List V} (h : H p = some (.lst xs)) (hl : xs.length < sizeLine) (k : Q .non (upd H p (.lst (xs ++ [y])))) : rAppend (.ref p) [y] H Q := ⟨p, xs, y, rfl, rfl, h, hl, k⟩
theorem go_tyL {p : Addr} {xs : List V} {R : Prop} (h : SqL K H p xs) (k : R) : tyV K "list" (.ref p) H ∧ R := ⟨.inl ⟨rfl, xs, h⟩, k⟩
theorem go_dK (k : ∀ p, H p = none → Q (.ref p) (upd H p (.dK []))) : tDNew σ H Q := .inl k
theorem go_dT (k : ∀ p, H p = none → Q (.ref p) (upd H p (.dT []))) : tDNew σ H Q := .inr k
theorem go_size {n : Nat} {R : Prop} (h : n ≤ 100000) (k : R) : n ≤ sizeLine ∧ R := ⟨by rw [sizeLine_eq]; omega, k⟩
theorem go_sz {n : Nat} {R : Prop} (h : Nat.ble n 100000 = true) (k : R) : n ≤ sizeLine ∧ R := go_size (Nat.le_of_ble_eq_true h) k
theorem go_iteT {A B : Prop} (h : A) : if true = true then A else B := iteT h
theorem go_iteF {A B : Prop} (h : B) : if false = true then A else B := iteF h
theorem go_iteFn {A B : Prop} (h : A) : if (!false) = true then A else B := h
theorem go_iteTn {A B : Prop} (h : B) : if (!true) = true then A else B := h
theorem go_ite {p : Prop} [Decidable p] {A B : Prop} (h1 : p → A) (h2 : ¬ p → B) : if decide p = true then A else B := by
  by_cases h : p
  · rw [decide_eq_true h]
    exact iteT (h1 h)
  · rw [decide_eq_false h]
    exact iteF (h2 h)
theorem go_iteN {p : Prop} [Decidable p] {A B : Prop} (h1 : ¬ p → A) (h2 : p → B) : if (!decide p) = true then A else B := by
  by_cases h : p
  · rw [decide_eq_true h]
    exact iteF (h2 h)
  · rw [decide_eq_false h]
    exact iteT (h1 h)
end
theorem ixN_nat {n : Nat} {i : Int} {j : Nat} (h : i = (j : Int)) (hj : j < n) : ixN n i = some j := by
  unfold ixN
  subst h
  rw [if_pos (by omega), if_pos (by omega)]
  simp
end Mo
namespace Mo
open PySem PySem.Spec PyProof.Rows L2
/-! #### loops -/
section
variable {K : PySem.W.Frag} {σ : St} {H : Hp} {tl : TE} {tA : TA} {D : Ends} {g : TG} {tb : TS} {c : TT}
def LoopX (g : TG) (tb : TS) (D : Ends) (σ : St) (H : Hp) (J : It) : Prop := ∃ W : Nat → Nat → St → Hp → Prop, (∃ m, W 0 m σ H) ∧ ∀ i m σ H, W i m σ H →
  (J.stop i H ∧ D.nx σ H) ∨ (J.go i H ∧ ∃ N : St → Hp → Prop, (∀ σ' H', N σ' H' → ∃ m', m' < m ∧ W (i + 1) m' σ' H') ∧ ∀ x H', J.yld i H x H' → g x σ H' fun σ2 H2 => tb { D with nx := N, ct := N, bk := D.nx } σ2 H2)
theorem go_for {wi : TI} (k : wi σ H fun J H1 => LoopX g tb D σ H1 J) : tFor wi g tb D σ H := k
theorem go_iR1 {R : It → Hp → Prop} (k : tA σ H fun vs H1 => ∃ j : Int, vs = [.int j] ∧ -(2 ^ 62) ≤ j ∧ j < 2 ^ 62 ∧ R (Itr 0 j.toNat) H1) : iRng1 tA σ H R := k
theorem go_iSeq {R : It → Hp → Prop} (k : tl σ H fun x H1 => ∃ a, x = .ref a ∧ (((∃ xs, SqL K H1 a xs) ∧ R (Itl K a) H1) ∨ ((∃ xs, SqT K H1 a xs) ∧ R (Itt K a) H1))) : iSeq K tl σ H R := k
theorem go_r1 {j : Int} {R : It → Prop} (n : Nat) (hj : j = (n : Int)) (hn : (n : Int) < 2 ^ 62) (k : R (Itr 0 n)) : ∃ j' : Int, [V.int j] = [V.int j'] ∧ -(2 ^ 62) ≤ j' ∧ j' < 2 ^ 62 ∧ R (Itr 0 j'.toNat) := by
  subst hj
  exact ⟨(n : Int), rfl, by omega, hn, by rw [Int.toNat_natCast]; exact k⟩
theorem loop_r (n : Nat) (Pv : Nat → St → Hp → Prop) (h0 : Pv 0 σ H)
    (hs : ∀ (i : Nat) σ' H', i < n → Pv i σ' H' → g (.int (i : Int)) σ' H' fun σ2 H2 => tb { D with nx := Pv (i + 1), ct := Pv (i + 1), bk := D.nx } σ2 H2) (hd : ∀ σ' H', Pv n σ' H' → D.nx σ' H') : LoopX g tb D σ H (Itr 0 n) :=
  for_range (lo := 0) (n := n) Pv h0 (fun i σ' H' hi p => by
    have q := hs i σ' H' hi p
    rw [Int.zero_add]
    exact q) hd
theorem go_sqL {p : Addr} {xs : List V} {R : It → Prop} (h : SqL K H p xs) (k : R (Itl K p)) : ∃ a, V.ref p = .ref a ∧ (((∃ xs, SqL K H a xs) ∧ R (Itl K a)) ∨ ((∃ xs, SqT K H a xs) ∧ R (Itt K a))) := ⟨p, rfl, .inl ⟨⟨xs, h⟩, k⟩⟩
theorem go_sqT {p : Addr} {xs : List V} {R : It → Prop} (h : SqT K H p xs) (k : R (Itt K p)) : ∃ a, V.ref p = .ref a ∧ (((∃ xs, SqL K H a xs) ∧ R (Itl K a)) ∨ ((∃ xs, SqT K H a xs) ∧ R (Itt K a))) := ⟨p, rfl, .inr ⟨⟨xs, h⟩, k⟩⟩
theorem loop_l {p : Addr} {xs : List V} (Pv : Nat → St → Hp → Prop) (h0 : Pv 0 σ H) (hl : ∀ i σ' H', i ≤ xs.length → Pv i σ' H' → SqL K H' p xs)
    (hs : ∀ i x σ' H', xs[i]? = some x → Pv i σ' H' → g x σ' H' fun σ2 H2 => tb { D with nx := Pv (i + 1), ct := Pv (i + 1), bk := D.nx } σ2 H2) (hd : ∀ σ' H', Pv xs.length σ' H' → D.nx σ' H') : LoopX g tb D σ H (Itl K p) :=
  for_list (xs := xs) Pv h0 hl hs hd
theorem loop_t {p : Addr} {xs : List V} (Pv : Nat → St → Hp → Prop) (h0 : Pv 0 σ H) (hl : ∀ i σ' H', i ≤ xs.length → Pv i σ' H' → SqT K H' p xs)
    (hs : ∀ i x σ' H', xs[i]? = some x → Pv i σ' H' → g x σ' H' fun σ2 H2 => tb { D with nx := Pv (i + 1), ct := Pv (i + 1), bk := D.nx } σ2 H2) (hd : ∀ σ' H', Pv xs.length σ' H' → D.nx σ' H') : LoopX g tb D σ H (Itt K p) :=
  for_tup (xs := xs) Pv h0 hl hs hd
theorem go_while (W : Nat → St → Hp → Prop) (m0 : Nat) (h0 : W m0 σ H)
    (hs : ∀ m σ' H', W m σ' H' → c σ' H' fun b H1 => if b = true then ∃ N : St → Hp → Prop, (∀ σ2 H2, N σ2 H2 → ∃ m', m' < m ∧ W m' σ2 H2) ∧ tb { D with nx := N, ct := N, bk := D.nx } σ' H1 else D.nx σ' H1) : tWhile c tb D σ H := ⟨W, ⟨m0, h0⟩, hs⟩
/-! #### list comprehensions -/
def LcX (J : It) (g : TG) (tt : TT) (te : TE) (vs : List Nat) (σ : St) (Dl : Addr) (Q : VK) (H : Hp) : Prop := ∃ W : Nat → Nat → Hp → Prop, (∃ m, W 0 m (upd H Dl (.lst []))) ∧ ∀ i m H, W i m H →
  (J.stop i H ∧ Q (.ref Dl) H) ∨ (J.go i H ∧ ∃ Nx : Hp → Prop, (∀ H', Nx H' → ∃ m', m' < m ∧ W (i + 1) m' H') ∧ ∀ x H', J.yld i H x H' → g x (wipe σ vs) H' fun σ2 H2 => wipe σ2 vs = wipe σ vs ∧ tt σ2 H2 fun b H3 =>
    if b = true then te σ2 H3 fun y H4 => ∃ acc, H4 Dl = some (.lst acc) ∧ acc.length < sizeLine ∧ Nx (upd H4 Dl (.lst (acc ++ [y]))) else Nx H3)
def LcA (g : TG) (tt : TT) (te : TE) (vs : List Nat) (σ : St) (Q : VK) (H : Hp) (J : It) : Prop := ∀ Dl, H Dl = none → LcX J g tt te vs σ Dl Q H
theorem go_lcA {tt : TT} {te : TE} {vs : List Nat} {Q : VK} {J : It} (k : ∀ Dl, H Dl = none → LcX J g tt te vs σ Dl Q H) : LcA g tt te vs σ Q H J := k
theorem go_lc {wi : TI} {tt : TT} {te : TE} {vs : List Nat} {Q : VK} (k : wi σ H fun J H1 => LcA g tt te vs σ Q H1 J) : tLc wi g tt te vs σ H Q := k
theorem lcx_r (n : Nat) {tt : TT} {te : TE} {vs : List Nat} {Dl : Addr} {Q : VK} (Pv : Nat → Hp → Prop) (h0 : Pv 0 (upd H Dl (.lst [])))
    (hs : ∀ (i : Nat) H', i < n → Pv i H' → g (.int (i : Int)) (wipe σ vs) H' fun σ2 H2 => wipe σ2 vs = wipe σ vs ∧ tt σ2 H2 fun b H3 =>
      if b = true then te σ2 H3 fun y H4 => ∃ acc, H4 Dl = some (.lst acc) ∧ acc.length < sizeLine ∧ Pv (i + 1) (upd H4 Dl (.lst (acc ++ [y]))) else Pv (i + 1) H3) (hd : ∀ H', Pv n H' → Q (.ref Dl) H') : LcX (Itr 0 n) g tt te vs σ Dl Q H :=
  lc_range (lo := 0) (n := n) Pv h0 (fun i H' hi p => by
    have q := hs i H' hi p
    rw [Int.zero_add]
    exact q) hd
theorem lcx_l {p : Addr} {xs : List V} {tt : TT} {te : TE} {vs : List Nat} {Dl : Addr} {Q : VK} (Pv : Nat → Hp → Prop) (h0 : Pv 0 (upd H Dl (.lst []))) (hl : ∀ i H', i ≤ xs.length → Pv i H' → SqL K H' p xs)
    (hs : ∀ i x H', xs[i]? = some x → Pv i H' → g x (wipe σ vs) H' fun σ2 H2 => wipe σ2 vs = wipe σ vs ∧ tt σ2 H2 fun b H3 =>
      if b = true then te σ2 H3 fun y H4 => ∃ acc, H4 Dl = some (.lst acc) ∧ acc.length < sizeLine ∧ Pv (i + 1) (upd H4 Dl (.lst (acc ++ [y]))) else Pv (i + 1) H3) (hd : ∀ H', Pv xs.length H' → Q (.ref Dl) H') : LcX (Itl K p) g tt te vs σ Dl Q H :=
  lc_list (xs := xs) Pv h0 hl hs hd
theorem lcx_t {p : Addr} {xs : List V} {tt : TT} {te : TE} {vs : List Nat} {Dl : Addr} {Q : VK} (Pv : Nat → Hp → Prop) (h0 : Pv 0 (upd H Dl (.lst []))) (hl : ∀ i H', i ≤ xs.length → Pv i H' → SqT K H' p xs)
    (hs : ∀ i x H', xs[i]? = some x → Pv i H' → g x (wipe σ vs) H' fun σ2 H2 => wipe σ2 vs = wipe σ vs ∧ tt σ2 H2 fun b H3 =>
      if b = true then te σ2 H3 fun y H4 => ∃ acc, H4 Dl = some (.lst acc) ∧ acc.length < sizeLine ∧ Pv (i + 1) (upd H4 Dl (.lst (acc ++ [y]))) else Pv (i + 1) H3) (hd : ∀ H', Pv xs.length H' → Q (.ref Dl) H') : LcX (Itt K p) g tt te vs σ Dl Q H :=
  lc_tup (xs := xs) Pv h0 hl hs hd
theorem go_yes {Q : Bool → Hp → Prop} (k : Q true H) : tYes σ H Q := k
theorem go_acc {Dl : Addr} {acc : List V} {y : V} {Q : Hp → Prop} (h : H Dl = some (.lst acc)) (hl : acc.length < sizeLine) (k : Q (upd H Dl (.lst (acc ++ [y])))) : ∃ acc', H Dl = some (.lst acc') ∧ acc'.length < sizeLine ∧ Q (upd H Dl (.lst (acc' ++ [y]))) := ⟨acc, h, hl, k⟩
end
/-! #### how large a number is -/
def Bd (n : Nat) (x : Int) : Prop := x.natAbs < 2 ^ n
instance {n : Nat} {x : Int} : Decidable (Bd n x) := inferInstanceAs (Decidable (x.natAbs < 2 ^ n))
theorem Bd.mono {a b : Nat} {x : Int} (h : Bd a x) (e : a ≤ b) : Bd b x := Nat.lt_of_lt_of_le h (Nat.pow_le_pow_right (by decide) e)
theorem Bd.mul {a b : Nat} {x y : Int} (h : Bd a x) (k : Bd b y) : Bd (a + b) (x * y) := by
  unfold Bd at *
  rw [Int.natAbs_mul, Nat.pow_add]
  exact Nat.mul_lt_mul'' h k
theorem Bd.add {a : Nat} {x y : Int} (h : Bd a x) (k : Bd a y) : Bd (a + 1) (x + y) := by
  unfold Bd at *
  have e : (2 : Nat) ^ (a + 1) = 2 ^ a + 2 ^ a := by rw [Nat.pow_succ]; omega
  rw [e]
  have := Int.natAbs_add_le x y
  omega
theorem Bd.cmul {a b : Nat} {x y : Int} (h : Bd a x) (k : Bd b y) (h0 : 0 < a := by decide) (h1 : 0 < b := by decide) (e : a + b ≤ 134000000 := by decide) : CMulX x y := mulX_of a b h k h0 h1 e
theorem bd_bits {x : Int} (h : Builtin.Int.intBits x ≤ 1048576) : Bd 1048576 x := by
  unfold Builtin.Int.intBits at h
  show x.natAbs < 2 ^ 1048576
  generalize 1048576 = n at h
  by_cases e : x.natAbs = 0
  · rw [e]
    exact Nat.pow_pos (by decide)
  · refine (Nat.log2_lt e).mp ?_
    have z : (x == 0) = false := beq_eq_false_iff_ne.mpr (by omega)
    rw [z, if_neg Bool.false_ne_true] at h
    omega
theorem go_mod {H : Hp} {Q : VK} {f : Int → Int → V} {a b : Int} (hb : b ≠ 0) (k : Q (f a b) H) : rI CMod f (.int a) (.int b) H Q := go_I hb k
theorem go_div {H : Hp} {Q : VK} {f : Int → Int → V} {a b : Int} (n : Nat) (hb : b ≠ 0) (h : Bd n b) (k : Q (f a b) H) (h0 : 0 < n := by decide) (h9 : n ≤ 9000 := by decide) : rI CDivX f (.int a) (.int b) H Q := go_I ⟨hb, Nat.lt_of_lt_of_le (log2_bd h h0) h9⟩ k
theorem bd_range {n : Nat} {x m : Int} (h0 : 0 ≤ x) (h : x < m) (k : Bd n m) : Bd n x := Nat.lt_trans (by omega) k
end Mo
local macro_rules | `(tactic| k_extra "s0") => `(tactic| with_reducible first
  | refine Mo.go_seq ?_
  | refine Mo.go_asg ?_
  | refine Mo.go_op ?_
  | refine Mo.go_c ?_
  | refine Mo.go_gn ?_
  | refine Mo.go_test ?_
  | refine Mo.go_bl ?_
  | refine Mo.go_iteT ?_
  | refine Mo.go_iteF ?_
  | refine Mo.go_I0 ?_
  | refine Mo.go_cons ?_
  | refine Mo.go_nil ?_
  | refine Mo.go_call ?_
  | refine Mo.go_ret ?_
  | refine Mo.go_eqi ?_
  | refine Mo.go_addI ?_
  | refine Mo.go_ltI ?_
  | refine Mo.go_truB ?_
  | refine Mo.go_truN ?_
  | refine Mo.go_intB ?_
  | refine Mo.go_isN_t ?_
  | refine Mo.go_notN_t ?_
  | refine Mo.go_isN_r ?_
  | refine Mo.go_notN_r ?_
  | refine Mo.go_nei ?_
  | refine Mo.go_cb ?_
  | refine Mo.go_drop ?_
  | refine Mo.go_tup ?_
  | refine Mo.go_lst ?_
  | refine Mo.go_next ?_
  | refine Mo.go_fld ?_
  | refine Mo.go_sfld ?_
  | refine Mo.go_meth ?_
  | refine Mo.go_make ?_
  | refine Mo.go_bm ?_
  | refine Mo.go_bm0 ?_
  | refine Mo.go_gsub ?_
  | refine Mo.go_gcons ?_
  | refine Mo.go_gnil ?_
  | refine Mo.go_and ?_
  | refine Mo.go_or ?_
  | refine Mo.go_not ?_
  | refine Mo.go_andV ?_
  | refine Mo.go_orV ?_
  | refine Mo.go_notV ?_
  | refine Mo.go_un ?_
  | refine Mo.go_rU ?_
  | refine Mo.go_sl ?_
  | refine Mo.go_nopart ?_
  | refine Mo.go_part ?_
  | refine Mo.go_int ?_
  | refine Mo.go_ifE ?_
  | refine Mo.go_tb ?_
  | refine Mo.go_ipI ?_
  | refine Mo.go_iteFn ?_
  | refine Mo.go_iteTn ?_
  | refine Mo.go_eqb ?_
  | refine Mo.go_neb ?_
  | refine Mo.go_brk ?_
  | refine Mo.go_for ?_
  | refine Mo.go_iR1 ?_
  | refine Mo.go_iSeq ?_
  | refine Mo.go_lc ?_
  | refine Mo.go_yes ?_
  | refine Mo.go_cont ?_
  | refine Mo.go_isi_ii ?_
  | refine Mo.go_isi_ib ?_
  | refine Mo.go_isi_is ?_
  | refine Mo.go_isi_ss ?_
  | refine Mo.go_isi_si ?_
  | refine Mo.go_isi_bi ?_
  | refine Mo.go_isi_bb ?_
  | refine Mo.go_isi_ni ?_
  | refine Mo.go_pow15 ?_
  | refine Mo.go_pow12 ?_
  | refine Mo.go_pow6 ?_
  | refine Mo.go_fldaug ?_
  | refine Mo.go_addR ?_
  | refine Mo.go_subR ?_)
local macro_rules | `(tactic| k_extra "s") => `(tactic| first
  | k_extra "s0"
  | (with_reducible refine Mo.go_ifS ?_))
local macro_rules | `(tactic| k_extra "v") => `(tactic| ((with_reducible refine' Mo.go_var ?k1 ?_); (case k1 => exact rfl)))
local macro_rules | `(tactic| k_extra "e") => `(tactic| first
  | ((with_reducible refine Mo.go_eqsT ?k1 ?_); (case k1 => with_reducible exact rfl))
  | ((with_reducible refine Mo.go_eqsF ?k1 ?_); (case k1 => decide +kernel)))
local macro_rules | `(tactic| k_extra "w") => `(tactic| repeat (first | k_extra "v" | k_extra "s"))
local macro_rules | `(tactic| k_extra "we") => `(tactic| repeat (first | k_extra "v" | k_extra "s" | k_extra "e"))
local macro_rules | `(tactic| k_extra "w0") => `(tactic| repeat (first | k_extra "v" | k_extra "s0" | k_extra "e"))
namespace Mo
open PySem PySem.Spec PyProof.Rows L2
/-! ### exceptions that are held as values -/
/-- an exception of the class at D, at a -/
def ExG (D a : Addr) (dd : Option Addr) : HO := .ext fun h => ∃ (oe : Obj) (vs : Array Value), h.get? a = some oe ∧ Zc (.ref D) dd oe ∧ oe.data = .fields vs
abbrev ExV (D a : Addr) : HO := ExG D a none
/-- an object that is such a one -/
def IsEx (D a : Addr) (o : HO) : Prop := ∃ φ : Heap → Prop, o = .ext φ ∧ ∀ h, φ h → ∃ (oe : Obj) (vs : Array Value), h.get? a = some oe ∧ Zc (.ref D) none oe ∧ oe.data = .fields vs
theorem isEx_V {D a : Addr} : IsEx D a (ExV D a) := ⟨_, rfl, fun _ h => h⟩
theorem isEx_inst {D a : Addr} {h : Heap} {oe : Obj} {vs : Array Value} (e : h.get? a = some oe) (z : Zc (.ref D) none oe) (d : oe.data = .fields vs) : PySem.W.InstAt h a oe D none := by
  obtain ⟨oc, od, oda, osl⟩ := oe
  obtain ⟨h1, h2⟩ := z
  dsimp only at h1 h2 d
  subst h1 h2 d
  exact ⟨e, rfl, rfl, trivial⟩
theorem IsEx.inst {P : Program} {w : World} {H : Hp} {h : Heap} {D a : Addr} {o : HO} (x : IsEx D a o) (k : ObjOk P w H h a o) : ∃ oe, PySem.W.InstAt h a oe D none := by
  obtain ⟨φ, rfl, f⟩ := x
  obtain ⟨oe, vs, e, z, d⟩ := f h k.1
  exact ⟨oe, isEx_inst e z d⟩
/-- the exception that a suite held is tracked behind it -/
theorem inv_track {X : Cx} {pins : List (Addr × Obj)} {σ : St} {H : Hp} {s : Shared} {a D : Addr} {dd : Option Addr} {oe : Obj} {vs : Array Value} (I : Inv X ((a, oe) :: pins) σ H s) (n0 : X.s_0.heap.get? a = none) (np : ∀ p ∈ X.pn ++ pins, p.1 ≠ a) (z : Zc (.ref D) dd oe) (d : oe.data = .fields vs) :
    Inv X pins σ (upd H a (ExG D a dd)) s := by
  obtain ⟨ga, na, nL, nF, nc⟩ := I.pin (a, oe) (List.mem_append_right _ List.mem_cons_self)
  have ga : s.heap.get? a = some oe := ga
  have na : H a = none := na
  have ne0 : ∀ b o, X.s_0.heap.get? b = some o → b ≠ a := fun b o e q => by rw [q, n0] at e; cases e
  refine ⟨I.ok, I.os, I.bare, ⟨I.base.keep, I.base.slot, fun b o e n hx => ?_, I.base.there, fun b xs e => ?_, fun b o u e => ?_, fun b ps e => ?_⟩, I.loc, I.cell, ?_, fun x c e => ?_, fun p hp => ?_, fun b u e => ?_, I.len⟩
  · rw [upd_ne (ne0 b o e)]
    exact I.base.free b o e n hx
  · rw [upd_ne (ne_of_none (I.base.tups b xs e) na)]
    exact I.base.tups b xs e
  · rw [upd_ne (ne_of_none (I.base.frzs b o u e) na)]
    exact I.base.frzs b o u e
  · obtain ⟨m, q⟩ := I.base.tbls b ps e
    exact ⟨m, by rw [upd_ne (ne_of_none q na)]; exact q⟩
  · rw [upd_ne (fun q => nL q.symm)]
    exact I.free
  · have hc : c ≠ a := fun q => by
      obtain ⟨v, o, ho, hd⟩ := I.cell x c e
      rw [q, ga] at ho
      cases ho
      exact nc v hd
    rw [upd_ne hc]
    exact I.freeC x c e
  · obtain ⟨e, n, r⟩ := I.pin p (by
      rcases List.mem_append.mp hp with h | h
      · exact List.mem_append_left _ h
      · exact List.mem_append_right _ (List.mem_cons_of_mem _ h))
    exact ⟨e, by rw [upd_ne (np p hp)]; exact n, r⟩
  · by_cases hb : b = a
    · subst hb
      rw [upd_same] at e
      cases e
      exact ⟨⟨oe, vs, ga, z, d⟩, ⟨oe, ga⟩, fun _ _ ⟨o, v, q, r⟩ k => ⟨o, v, k o q, r⟩⟩
    · rw [upd_ne hb] at e
      exact (I.hok b u e).stay (fun c v _ q => q) (fun c q => by rw [upd_ne (ne_of_none q na)]; exact q) fun c xs q => by rw [upd_ne (ne_of_none q na)]; exact q
/-- what the clause 'except x as n' wishes: behind it the exception is kept -/
def wKeep (K : PySem.W.Frag) (c : Value) (i : Nat) (ts : Addr → Value → Option Addr → TS) (Wout : WX) (D : Ends) : WX := fun cls d σ H =>
  ∃ b, PySem.W.exmOne K cls c = some b ∧ (b = true → ∃ C, cls = .ref C ∧ ∀ a, H a = none → ts a cls d { nx := fun σ' H' => H' a = none → D.nx (σ'.set i none) (upd H' a (ExG C a d)), rt := fun v H' => H' a = none → D.rt v (upd H' a (ExG C a d)), bk := fun σ' H' => H' a = none → D.bk (σ'.set i none) (upd H' a (ExG C a d)), ct := fun σ' H' => H' a = none → D.ct (σ'.set i none) (upd H' a (ExG C a d)) } (σ.set i (some (.ref a))) H) ∧
    (b = false → Wout cls d σ H)
section
variable {X : Cx} {x n : Str} {c : Value} {i : Nat} {body suite : List Stmt} {b₀ : Stmt} {np pos pos' : Pos} {tb : WX → TS} {ts : Addr → Value → Option Addr → TS} {Wout : WX}
theorem ps_try_keep (hs : X.stack = X.env :: X.outer) (hf : X.env.frame = some X.env.locals) (hex : X.ex = []) (hN : X.N.Nodup) (hi : X.N[i]? = some n) (hln : X.env.kindOf n = some .local) (hc : Names X x c) (tk : Takes X Wout)
    (hb : ∀ (W : WX) (pn : List (Addr × Obj)) (xe : Value → Shared → Prop), Takes (X.tr pn xe) W → PassesOwn (model X.prog X.w) X.A X.env xe → PSs (X.tr pn xe) body (tb W))
    (hsu : ∀ (a : Addr) (oe : Obj) (cls : Value) (d : Option Addr) (pn : List (Addr × Obj)), Zc cls d oe → (∃ vs, oe.data = .fields vs) → PSs (X.suite a ((a, oe) :: pn)) (b₀ :: suite) (ts a cls d)) :
    PS X (.Try body [.ExceptHandler (some (.Name x np)) (some n) (b₀ :: suite) pos'] [] [] pos) (fun D σ H => tb (wKeep X.K c i ts Wout D) D σ H) := by
  refine ⟨fun pins s σ H D I h => ?_⟩
  have ok := I.ok
  have hfr : X.A.frames = some (X.env :: X.outer) := by rw [ok.frames, hs]
  have hloc : Loc X.env.scope n := .inl hln
  refine wpAny_Try_except ?_
  refine wpAny_mono ((hb (wKeep X.K c i ts Wout D) (X.pn ++ pins) (fun e s₁ => wpAny (model X.prog X.w) X.A (noteFrame e X.env) (fun _ s₂ => wpAny (model X.prog X.w) X.A (setFlight e none) (fun _ s₃ =>
    wpAny (model X.prog X.w) X.A (handleBy e X.env [.ExceptHandler (some (.Name x np)) (some n) (b₀ :: suite) pos']) (SP X pins D) X.xe s₃) X.xe s₂) X.xe s₁) (fun u s' xx => ?_) PassesOwn.looking).run [] s σ H D (I.toTry _) h) (fun f s1 hsp => ?_) (fun e s1 he => he)
  · -- the catch
    obtain ⟨a, B, sI, pins', σ', H', cls, d, rfl, J', nb, up, sky, na, os, ag, b, hb1, hyes, hno⟩ := xx
    have J : Inv X pins σ' H' sI := J'.ofTry ok
    have sky' : Sky B (X.env :: X.outer) a (Zc cls d) X.env.locals s'.heap := by rw [← hs]; exact sky
    show wpAny (model X.prog X.w) X.A (noteFrame (.ref a) X.env) _ _ _
    refine Sky.land Zc.steady hfr hf sky' fun h3 fl3 up3 => ?_
    have J3 : Inv X pins σ' H' { s' with heap := h3 } := J.landed nb fl3.1 (up.trans up3) os ag
    obtain ⟨oe3, vs3, he3, hz3, hd3⟩ := fl3.there
    have notFr : ∀ {h : Heap} {o : Obj} {vs : Array Value}, h.FunFrames B (X.env :: X.outer) → h.get? a = some o → o.data = .fields vs → a ∉ frs (X.env :: X.outer) := fun {h o vs} ff e dd hm => by
      obtain ⟨_, o', e', hnf⟩ := ff.mem hm
      rw [e] at e'; cases e'
      exact hnf _ dd
    have nfr := notFr fl3.2.2.1 he3 hd3
    have nL : a ≠ X.env.locals := fun z => nfr (List.mem_filterMap.mpr ⟨X.env, List.mem_cons_self, by rw [hf, z]⟩)
    have nF : a ∉ X.fs := fun hm => by
      obtain ⟨e, he, q⟩ := List.mem_filterMap.mp hm
      exact nfr (List.mem_filterMap.mpr ⟨e, List.mem_cons_of_mem _ he, q⟩)
    have gI : ∀ o, sI.heap.get? a ≠ some o := fun o e => by
      have z := nb a o e (by rw [hs]; exact nfr)
      rw [fl3.2.1] at z
      cases z
    have n0 : X.s_0.heap.get? a = none := by
      cases e : X.s_0.heap.get? a with
      | none => rfl
      | some o =>
        obtain ⟨o', e'⟩ := J.base.there a o e (by rw [hex]; exact fun z => nomatch z)
        exact absurd e' (gI o')
    have np' : ∀ p ∈ X.pn ++ pins, p.1 ≠ a := fun p hp z => by
      obtain ⟨e, _⟩ := J.pin p hp
      rw [z] at e
      exact gI _ e
    have S3 := J3.suite he3 hd3 na nL nF
    refine wpAny_handleBy_cons (codeAny_handlers_test ?_) (by intro q; cases q)
    have LT : PySem.W.Looks (model X.prog X.w) h3 (typeOf (.ref a)) cls := fun A Q E s k q => wpAny_typeOf_ref (k _ _ he3) (by rw [hz3.1]; exact q)
    have LM := PySem.W.exm_one (M := model X.prog X.w) (J3.kIn) LT hb1
    have test : ∀ {Q : Value → Shared → Prop} {E : Value → Shared → Prop}, Q c { s' with heap := h3 } → wpAny (model X.prog X.w) (X.A.mark (some (.ref a))) (eval (.Name x np) X.env) Q E { s' with heap := h3 } := fun {Q E} q => by
      obtain ⟨hg, hdbg, hm | ⟨hm, hv, hnn⟩⟩ := hc
      · exact ld_glob (X := X.suite a ((a, oe3) :: (X.pn ++ pins))) S3 hg hm q hdbg
      · exact ld_blt (X := X.suite a ((a, oe3) :: (X.pn ++ pins))) S3 hg hm hv q hnn hdbg
    refine test (LM.here ?_)
    cases b with
    | true =>
      obtain ⟨C, rfl, hyes⟩ := hyes rfl
      refine codeAny_handlers_suite_as ?_
      refine HandSPX.lands_againZ fl3 fun h4 fl4 up4 => ?_
      have J4 : Inv X pins σ' H' { s' with heap := h4 } := J.landed nb fl4.1 ((up.trans up3).trans up4) os ag
      obtain ⟨oe4, vs4, he4, hz4, hd4⟩ := fl4.there
      have S4 := J4.suite he4 hd4 na nL nF
      refine store_ok (X := X.suite a ((a, oe4) :: (X.pn ++ pins))) (v := .ref a) S4 hN hi hloc rfl (fun s5 S5 => ?_) (.inr hln)
      refine wpAny_mono ((hsu a oe4 _ d (X.pn ++ pins) hz4 ⟨_, hd4⟩).run [] s5 _ H' _ S5 (hyes a na)) (fun f s6 hsp => ?_) (fun _ _ z => False.elim z)
      have end_ : ∀ {σ6 : St} {H6 : Hp} {Q : Shared → Prop}, Inv (X.suite a ((a, oe4) :: (X.pn ++ pins))) [] σ6 H6 s6 → (∀ s7, H6 a = none → Inv X pins (σ6.set i none) (upd H6 a (ExG C a d)) s7 → Q s7) →
          wpAny (model X.prog X.w) X.A (do bindName X.env n .none; unbindBehindTheSuite X.env n pos') (fun _ s7 => Q s7) X.xe s6 := fun {σ6 H6 Q} S6 hq => by
        have S6' : Inv X ((a, oe4) :: pins) σ6 H6 s6 := ⟨ok, S6.os, S6.bare, S6.base, S6.loc, S6.cell, S6.free, S6.freeC, fun p hp => S6.pin p (List.mem_append_left _ (by
          rcases List.mem_append.mp hp with h | h
          · exact List.mem_cons_of_mem _ (List.mem_append_left _ h)
          · rcases List.mem_cons.mp h with h | h
            · rw [h]; exact List.mem_cons_self
            · exact List.mem_cons_of_mem _ (List.mem_append_right _ h))), S6.hok, S6.len⟩
        exact gone_ok S6' hN hi hln fun s7 J7 => hq s7 (J7.pin (a, oe4) (List.mem_append_right _ List.mem_cons_self)).2.1 (inv_track J7 n0 np' hz4 hd4)
      cases f with
      | next =>
        obtain ⟨σ6, H6, S6, q6⟩ := hsp
        exact end_ S6 fun s7 e7 J7 => ⟨_, _, J7, q6 e7⟩
      | brk =>
        obtain ⟨σ6, H6, S6, q6⟩ := hsp
        exact end_ S6 fun s7 e7 J7 => ⟨_, _, J7, q6 e7⟩
      | cont =>
        obtain ⟨σ6, H6, S6, q6⟩ := hsp
        exact end_ S6 fun s7 e7 J7 => ⟨_, _, J7, q6 e7⟩
      | ret u =>
        obtain ⟨v6, σ6, H6, S6, r6, q6⟩ := hsp
        exact end_ S6 fun s7 e7 J7 => ⟨_, _, _, J7, r6, q6 e7⟩
    | false =>
      show wpAny _ X.A (handleBy (.ref a) X.env []) _ _ _
      refine wpAny_handleBy_nil ?_
      obtain ⟨k1, k2, k3, oe, vs, T, oT, ts', he, hz, hd, h1, hr⟩ := id fl3
      unfold PySem.passOn
      refine wpAny_bind (wpAny_field he hd h1 ?_)
      rw [if_neg (show ¬ ((Value.ref T == Value.none) = true) from by simp)]
      have fin : wpAny (model X.prog X.w) X.A (setFlight (.ref a) X.env.frame) (fun _ s4 => wpAny (model X.prog X.w) X.A (throw (.ref a) : Sem Flow) (SP X pins D) X.xe s4) X.xe { s' with heap := h3 } := by
        rw [hf]
        refine HandSPX.setFlight_upZ fl3 fun h4 hh4 up4 => wpAny_throw (tk _ _ ?_)
        exact ⟨a, B, sI, pins, σ', H', cls, d, rfl, J, nb, (up.trans up3).trans up4, .inr (.inr (by rw [hs]; exact hh4)), na, os, ag, hno rfl⟩
      first
        | exact wpAny_bind (wpAny_pure (wpAny_bind fin))
        | exact wpAny_bind fin
  · cases f with
    | next =>
      obtain ⟨σ', H', J', q⟩ := hsp
      exact wpAny_execs_nil ⟨σ', H', J'.ofTry ok, q⟩
    | brk =>
      obtain ⟨σ', H', J', q⟩ := hsp
      exact ⟨σ', H', J'.ofTry ok, q⟩
    | cont =>
      obtain ⟨σ', H', J', q⟩ := hsp
      exact ⟨σ', H', J'.ofTry ok, q⟩
    | ret u =>
      obtain ⟨v, σ', H', J', r, q⟩ := hsp
      exact ⟨v, σ', H', J'.ofTry ok, r, q⟩
end
def tTruK (K : PySem.W.Frag) (ta : TE) : TT := fun σ H Q => ta σ H fun x H' => ∃ k, TruV K x H' k ∧ Q k H'
theorem pt_truthK {X : Cx} {K : PySem.W.Frag} {a : Expr} {ta : TE} (hK : X.K = K) (ha : PE X a ta) (he : ∀ whole, isTrue a X.env whole = (do let v ← whole; standAt a.pos; holding [v] (truthy v))) : PT X a (fun σ H Q => ta σ H fun x H' => ∃ k, TruV K x H' k ∧ Q k H') := hK ▸ pt_truth ha he
/-! #### what an exception's class says -/
def excCB (K : PySem.W.Frag) (C : Str) : Bool := He.eqO (PySem.W.findIn K (.ref (He.ga K C)) "__getattribute__") (some (some (.builtin "BaseException.__getattribute__"))) && (He.eqO (PySem.W.findIn K (.ref (He.ga K C)) "__getattr__") (some none) && (decide (PySem.W.subIn K (.ref (He.ga K C)) (.type "BaseException") = some true) && (PySem.W.hasDictIn K (He.ga K C) && (
  He.eqO (PySem.W.findIn K (.ref (He.ga K C)) "__class__") (some (some (.builtin "object.__class__"))) && (He.eqO (PySem.W.specialIn K (.builtin "object.__class__") "__get__") (some (some (.builtin "getset_descriptor.__get__"))) &&
  (decide (PySem.W.takesIn K (.builtin "object.__class__") = some true) && decide (PySem.W.mroIn K (He.ga K C) (.type "object") = some true)))))))
theorem excC_of {K : PySem.W.Frag} {C : Str} (h : excCB K C = true) : ExcC K (He.ga K C) := by
  unfold excCB at h
  simp only [Bool.and_eq_true] at h
  obtain ⟨h1, h2, h3, h4, h5, h6, h7, h8⟩ := h
  exact ⟨He.eqO_ok h1, He.eqO_ok h2, of_decide_eq_true h3, h4, He.eqO_ok h5, He.eqO_ok h6, of_decide_eq_true h7, of_decide_eq_true h8⟩
def kitTB (K : PySem.W.Frag) (C : Str) (n : String) (b : Bool) : Bool := decide (PySem.W.kitOne K (.ref (He.ga K C)) (.type n) = some b)
theorem kitT_of {K : PySem.W.Frag} {C : Str} {n : String} {b : Bool} (h : kitTB K C n b = true) : PySem.W.kitOne K (.ref (He.ga K C)) (.type n) = some b := of_decide_eq_true h
/-- isinstance of a kept exception -/
def rIsX (K : PySem.W.Frag) : List V → Hp → VK → Prop := fun xs H Q => ∃ (a D : Addr) (o : HO) (c : V) (cv : Value) (b : Bool), xs = [.ref a, c] ∧ H a = some o ∧ IsEx D a o ∧ ExcC K D ∧ ClsV c cv ∧ PySem.W.kitOne K (.ref D) cv = some b ∧ Q (.bl b) H
theorem call_isX {X : Cx} : CallR X (.builtin "isinstance") (rIsX X.K) := by
  intro pins s σ H xs us Q I r h
  obtain ⟨a, D, o, c, cv, b, rfl, ha, x, C, hc, e, q⟩ := h
  obtain ⟨u1, u2, rfl, r1, r2⟩ := vals2 r
  cases (show u1 = Value.ref a from r1)
  have e2 := hc.eq r2
  subst e2
  obtain ⟨oe, J⟩ := x.inst (I.hok a o ha)
  exact PySem.W.kia_one (PySem.W.handS_kitx_exc C.hg C.hk C.hs C.hd C.ha C.hn C.ht C.hm) I.kIn J e (fun z => nomatch z) fun tk => ⟨.bl b, H, I.kept (t' := tk) fun _ _ z => z, rfl, q⟩
def rIsiX (K : PySem.W.Frag) : List V → Hp → VK → Prop := fun xs H Q => rIsi K xs H Q ∨ rIsX K xs H Q
theorem call_isiXK {X : Cx} {K : PySem.W.Frag} (hK : X.K = K) : CallR X (.builtin "isinstance") (rIsiX K) := hK ▸ call_isi.or call_isX
/-- X(e): a new exception as a value -/
def tExc (D : Addr) (ta : TE) : TE := fun σ H Q => ta σ H fun _ H1 => ∀ a, H1 a = none → Q (.ref a) (upd H1 a (ExO (.ref D) a))
theorem pe_excK {X : Cx} {K : PySem.W.Frag} {x : Str} {e : Expr} {ta : TE} {p pos : Pos} (hK : X.K = K) (F : ExF K X.mg x) (he : PE X e ta) (hg : Gl X x := by rfl) (hs : starEach [e] X.env = (false, eval e X.env) :: starEach [] X.env := by rfl) (hdb : (x == ("__debug__" : Str)) = false := by decide) :
    PE X (.Call (.Name x p) [e] [] pos) (tExc (He.ga K x) ta) := by
  subst hK
  exact pe_exc1 PySem.F.excBase_ValueError F.ex F.gl F.kp hg he hs hdb
/-! #### a method of an exception -/
theorem exc_meth {K : PySem.W.Frag} {prog : Program} {w : World} {A : Around} {E : Value → Shared → Prop} {s : Shared} {x C f : Addr} {ox : Obj} {name : Str} {pl : Sem Bool} {Q : Value × List Value → Shared → Prop} (X : K.In s.heap) (I : PySem.W.InstAt s.heap x ox C none) (c : ExcC K C)
    (hf : PySem.W.findIn K (.ref C) name = some (some (.ref f))) (ht : PySem.W.isFn K (.ref f) = true) (h : Q (.ref f, [.ref x]) s) : wpAny (model prog w) A (getMethod (.ref x) name pl) Q E s := by
  have hcan : Manifest.canonical "BaseException.__getattribute__" = "object.__getattribute__" := by first | kernel_rfl | decide +kernel
  unfold getMethod specialOf
  refine wpAny_bind (wpAny_bind (I.type.here ((PySem.W.looks_findIn X c.hg).here ?_)))
  dsimp only
  rw [hcan, if_neg (by decide)]
  refine wpAny_bind (wpAny_bind (I.type.here ((PySem.W.looks_findIn X c.hk).here ?_)))
  refine wpAny_bind (wpAny_bind (I.type.here ((PySem.W.looks_findIn X hf).here (wpAny_bind ((PySem.W.looks_typeIn X (beq_iff_eq.mp ht)).here ?_)))))
  rw [if_neg (by decide +kernel)]
  refine wpAny_bind (wpAny_loadPart I.at_ ?_)
  have hd := I.dict
  cases e : ox.dict with
  | none => exact wpAny_bind (wpAny_rule (wpAny_pure h))
  | some dx =>
    rw [e] at hd
    exact hd.elim
/-! #### a def that raises nothing and calls nothing: in any context -/
structure FnA (P : Program) (w : World) (K : PySem.W.Frag) (mg : Str → Option Value) (base : Heap) (f : Addr) (fd : FuncData) (ps : List Str) (sp : Sp) : Prop where
  len : ∀ vs H Q E, sp vs H Q E → vs.length = ps.length
  run : ∀ (A : Around) (outer : List Env) (s : Shared) (H : Hp) (args : Args) (us : List Value) (vs : List V) (Q : VK) (E : XK), A.depth < recursionLimit → Env0 P w K mg base A outer s H → BindsTo s fd args (ps.zip us) → Vals vs us → sp vs H Q E →
    codeAny (model P w) A (.call (.ref f) args) (CR (L2.CX P w) outer P w H s Q E) s
def cxA (P : Program) (w : World) (K : PySem.W.Frag) (mg : Str → Option Value) (base : Heap) (N : List Str) (qual : Str) (scope : Scope) (f : Addr) (cd : Value) (A : Around) (outer : List Env) (s : Shared) (H : Hp) (E : XK) : Cx :=
  { cxOf (L2.CX P w) P w K mg base N qual scope f cd A outer s H E with calm := false }
theorem inv_startA {P : Program} {w : World} {K : PySem.W.Frag} {mg : Str → Option Value} {base : Heap} {N ps : List Str} {qual : Str} {scope : Scope} {f : Addr} {cd : Value} {A : Around} {outer : List Env} {s s1 : Shared} {H : Hp} {E : XK} {us : List Value} {vs : List V}
    (S : FnScope N ps scope) (e0 : Env0 P w K mg base A outer s H) (hl : vs.length = ps.length) (r : Vals vs us)
    (x : InCallC s s.heap.objs.size (bindL (envOfC qual scope s.heap.objs.size f cd).kindOf (ps.zip us) fun _ => none) (cellsFrom (s.heap.objs.size + 1) scope.names []) (bindC (envOfC qual scope s.heap.objs.size f cd).kindOf (ps.zip us) fun _ => none) s1) :
    Inv (cxA P w K mg base N qual scope f cd A outer s H E) [] (L2.start N vs) H s1 := by
  have hpl : ps.length ≤ N.length := by have := congrArg List.length S.pre; rw [List.length_take] at this; omega
  obtain ⟨h1, tk, rfl, hk⟩ := x.done
  have noA : ∀ b : Addr, b ∉ (cxA P w K mg base N qual scope f cd A outer s H E).ex := fun b z => absurd (show b ∈ ([] : List Addr) from z) (by simp)
  refine ⟨⟨e0.mod, S.kind, rfl, rfl, Nat.le_refl _, fun y z c h1 h2 => ?_, fun y hy => ?_, fun y c _ h => ?_, (fun z => Bool.noConfusion (show false = true from z)), Around.frames_deeper e0.frames, .inr ⟨rfl, rfl⟩, fun b z => absurd z (noA b), e0.bs, e0.bsz, fun b _ _ => noA b, fun b z => absurd z (noA b), e0.funs, e0.frf⟩,
    rfl, e0.bare, Un.kept hk, ⟨_, x.toInCall.ns, fun i y v h1 h2 h3 => ?_⟩, fun y c h => ⟨_, x.cell y c h⟩, e0.hok.fresh (Nat.le_refl _), fun y c h => ?_, fun q hq => absurd (show q ∈ ([] : List (Addr × Obj)) from hq) (by simp), e0.hok.kept hk, ?_⟩
  · exact name_of_addr x.apart (PySem.mem_of_lookup h1) (PySem.mem_of_lookup h2)
  · have hy : scope.names.lookup y = some .cell ∨ scope.names.lookup y = some .free := hy
    rcases hy with hy | hy
    · exact cell_has hy
    · exact absurd rfl (S.nofree _ (PySem.mem_of_lookup hy))
  · exact Nat.le_of_lt (x.above y c (PySem.mem_of_lookup h))
  · have hi : i < vs.length := by
      unfold L2.start at h2
      by_cases hi : i < vs.length
      · exact hi
      · rw [List.getElem?_append_right (by simpa using hi)] at h2
        rw [List.getElem?_replicate] at h2
        split at h2 <;> cases h2
    have ha : vs[i]? = some v := by
      unfold L2.start at h2
      rw [List.getElem?_append_left (by simpa using hi), List.getElem?_map] at h2
      cases e : vs[i]? with
      | none => rw [e] at h2; cases h2
      | some a => rw [e] at h2; cases h2; rfl
    obtain ⟨u, hu, rv⟩ := r.get ha
    have hp : ps[i]? = some y := by
      rw [← S.pre, List.getElem?_take_of_lt (by omega)]; exact h1
    have ndP : ps.Nodup := by rw [← S.pre]; exact S.nd.sublist (List.take_sublist _ _)
    refine ⟨u, rv, ?_⟩
    rcases S.par y (List.mem_of_getElem? hp) with k | k
    · exact .inl ⟨k, bindL_get ndP hp hu k⟩
    · obtain ⟨c, e⟩ := cell_has (n := s.heap.objs.size + 1) k
      refine .inr ⟨.inl k, c, e, ?_⟩
      have q := x.cell y c e
      rw [bindC_get ndP hp hu (by show scope.names.lookup y ≠ _; rw [k]; decide)] at q
      exact q
  · exact e0.hok.fresh (Nat.le_of_lt (x.above y c (PySem.mem_of_lookup h)))
  · unfold L2.start
    show _ = N.length
    rw [List.length_append, List.length_map, List.length_replicate]
    omega
theorem fn_ofA {P : Program} {w : World} {K : PySem.W.Frag} {mg : Str → Option Value} {base : Heap} {x qual : Str} {st : Stmt} {f : Addr} {fd : FuncData} {N ps : List Str} {sp : Sp} (F : Fun K x qual st f fd) (S : FnScope N ps (defScope st)) (len : ∀ vs H Q E, sp vs H Q E → vs.length = ps.length)
    (hbody : ∀ (cdv : Value) (A : Around) (outer : List Env) (s : Shared) (H : Hp) (vs : List V) (Q : VK) (E : XK), sp vs H Q E →
      ∃ t, PSs (cxA P w K mg base N qual (defScope st) f cdv A outer s H E) (defBody st) t ∧ t { nx := fun _ H' => Q .non H', rt := Q } (L2.start N vs) H) :
    FnA P w K mg base f fd ps sp := by
  obtain ⟨oc, od, kV, doc, pm, an, cdv, ct, osl, rfl, lk, hcd⟩ := F.ex
  refine ⟨len, fun A outer s H args us vs Q E hr e0 hb r hsp => ?_⟩
  have hl := len _ _ _ _ hsp
  have KX : K.In s.heap := e0.mod.kin.keeps fun b o e => (e0.bs b o e).1
  have lim : s.heap.NoLimit := e0.mod.nolimit.keeps fun b o e => (e0.bs b o e).1
  have hkind : ∀ y ∈ ps.zip us, (defScope st).names.lookup y.1 = some .local ∨ ((defScope st).names.lookup y.1 = some .cell ∧ ((cellsFrom (s.heap.objs.size + 1) (defScope st).names []).lookup y.1).isSome = true) := fun ⟨n, v⟩ hy => by
    rcases S.par n (List.of_mem_zip hy).1 with q | q
    · exact .inl q
    · exact .inr ⟨q, PySem.W.cellsFrom_some _ _ _ (.inl q)⟩
  refine codeAny_call_function hr (KX _ _ lk) rfl S.co S.gen rfl (PySem.W.codeRec_of KX hcd) (hb _ _ _ _ ?_)
  refine wpAny_newFunctionEnv_cells S.kind hkind fun env he s1 x => ?_
  subst he
  refine ⟨lim.keeps x.toInCall.keep, codeAny_func ?_⟩
  obtain ⟨t, ht, hq⟩ := hbody cdv A outer s H vs Q E hsp
  have I : Inv (cxA P w K mg base N qual (defScope st) f cdv A outer s H E) [] (L2.start N vs) H s1 := inv_startA S e0 hl r x
  refine wpAny_mono (ht.run [] s1 (L2.start N vs) H _ I hq) (fun fl s' hs => ?_) fun e s' hs => hs
  have fin : ∀ {σ' : St} {H' : Hp} {v : V} {u : Value}, Inv (cxA P w K mg base N qual (defScope st) f cdv A outer s H E) [] σ' H' s' → RelV v u → Q v H' → CE outer P w H s Q u s' :=
    fun {σ' H' v u} J rv q => ⟨v, H', J.os, J.bare, J.base, J.hok, rv, q⟩
  cases fl with
  | ret u =>
    obtain ⟨v, σ', H', J, rv, q⟩ := hs
    exact fin J rv q
  | next =>
    obtain ⟨σ', H', J, q⟩ := hs
    exact fin (v := V.non) (u := Value.none) J rfl q
  | brk =>
    obtain ⟨_, _, _, q⟩ := hs
    exact False.elim q
  | cont =>
    obtain ⟨_, _, _, q⟩ := hs
    exact False.elim q
theorem run_fnA {X : Cx} {f : Addr} {fd : FuncData} {ps : List Str} {sp : Sp} {E : St → XK} {pins : List (Addr × Obj)} {σ : St} {H : Hp} {s : Shared} {Q : VK} {us : List Value} {vs : List V} (F : FnA X.prog X.w X.K X.mg X.base f fd ps sp) (hr : X.A.depth < recursionLimit) (hb : Binds X.K fd ps []) (hx : PassesAt (L2.CX X.prog X.w) X σ (E σ))
    (I : Inv X pins σ H s) (r : Vals vs us) (h : sp vs H Q (E σ)) : wpAny (model X.prog X.w) X.A (call (.ref f) us) (EP X pins σ Q) X.xe s := by
  have hl : us.length = ps.length := by rw [← r.length]; exact F.len _ _ _ _ h
  have b := hb s us I.kIn (by rw [List.append_nil]; exact hl)
  rw [List.append_nil] at b
  refine wpAny_call (codeAny_mono (F.run X.A X.stack s H ⟨us, []⟩ us vs Q (E σ) hr I.env0 b r h) fun r s' hq => ?_)
  cases r with
  | error e => exact hx pins H s e s' I hq
  | ok fl =>
    cases fl with
    | ret u => exact I.after hq
    | next => exact False.elim hq
    | brk => exact False.elim hq
    | cont => exact False.elim hq
/-- the classes that have it, each with what its method keeps -/
def spWord (z : Str) : Sp := fun vs H Q _ => (∃ v, vs = [v]) ∧ Q (.str z) H
structure WordOk (P : Program) (w : World) (K : PySem.W.Frag) (mg : Str → Option Value) (base : Heap) (m C : Str) (z : Str) : Prop where
  me : Meth K (He.ga K C) m (He.fAd K (C, some m))
  ec : ExcC K (He.ga K C)
  bd : Binds K (fdA K (He.fAd K (C, some m))) ["self"] []
  ok : FnA P w K mg base (He.fAd K (C, some m)) (fdA K (He.fAd K (C, some m))) ["self"] (spWord z)
def tWord (K : PySem.W.Frag) (ws : List (Str × Str)) (S : Addr → Addr → Hp → Prop) (ta : TE) : TE := fun σ H Q => ta σ H fun x H1 => ∃ a p, x = .ref a ∧ p ∈ ws ∧ S a (He.ga K p.1) H1 ∧ Q (.str p.2) H1
section
variable {X : Cx} {j : Nat} {m : Str} {W : WX} {pos apos : Pos} {o : Expr} {ta : TE} {ws : List (Str × Str)} {S : Addr → Addr → Hp → Prop}
theorem pe_wordG {pl : Sem Bool} (hS : ∀ pins σ H s a D, Inv X pins σ H s → S a D H → ∃ oe, PySem.W.InstAt s.heap a oe D none) (hw : ∀ p ∈ ws, WordOk X.prog X.w X.K X.mg X.base m p.1 p.2) (hr : X.A.depth < recursionLimit) (hx : ∀ σ, PassesAt (L2.CX X.prog X.w) X σ (WE W σ)) (he : PE X o ta)
    (ht : eval (.Call (.Attribute o m apos) [] [] pos) X.env = (do
      let ov ← eval o X.env
      standAt apos.atName
      let (f, first) ← holding [ov] (getMethod ov m pl)
      callWith pos f first (backTo pos (starEach [] X.env)) (backToKw pos (keywordEach [] X.env))) := by rfl) :
    PE X (.Call (.Attribute o m apos) [] [] pos) (tWord X.K ws S ta) := by
  refine ⟨fun pins s σ H Q I h => ?_⟩
  refine PySem.W.methodCall_KW (pl := pl) (thn (he.run pins s σ H _ I h) fun u s1 ⟨x, H1, I1, rx, a, p, ex, hp, hS1, q⟩ => ?_) ht
  subst ex
  obtain rfl : u = Value.ref a := rx
  obtain ⟨oe, J⟩ := hS _ _ _ _ _ _ I1 hS1
  have k := hw p hp
  refine exc_meth I1.kIn J k.ec k.me.at_ k.me.fn ?_
  exact PySem.W.callWith_K0 (first := [.ref a]) I1.kIn k.me.kp (run_fnA (E := WE W) (us := [.ref a]) (vs := [.ref a]) k.ok hr k.bd (hx σ) I1 (.cons rfl .nil) ⟨⟨_, rfl⟩, q⟩)
end
def keptEx (a D : Addr) (H : Hp) : Prop := ∃ o, H a = some o ∧ IsEx D a o
theorem keptEx_inst {X : Cx} : ∀ pins σ H s a D, Inv X pins σ H s → keptEx a D H → ∃ oe, PySem.W.InstAt s.heap a oe D none := fun _ _ _ _ _ _ I ⟨o, ho, x⟩ => x.inst (I.hok _ o ho)
def suiteEx (ea : Addr) (ecls : Value) (d : Option Addr) (a D : Addr) (_ : Hp) : Prop := a = ea ∧ ecls = .ref D ∧ d = none
theorem suiteEx_inst {X : Cx} {ea : Addr} {oe : Obj} {ecls : Value} {d : Option Addr} {pn : List (Addr × Obj)} (hz : Zc ecls d oe) (hf : ∃ vs, oe.data = .fields vs) : ∀ pins σ H s a D, Inv (X.suite ea ((ea, oe) :: pn)) pins σ H s → suiteEx ea ecls d a D H → ∃ oe, PySem.W.InstAt s.heap a oe D none := fun _ _ _ s a D I ⟨e1, e2, e3⟩ => by
  subst e1 e2 e3
  obtain ⟨hget, _⟩ := I.pin (a, oe) (List.mem_append.mpr (.inl List.mem_cons_self))
  obtain ⟨vs, hv⟩ := hf
  exact ⟨oe, isEx_inst hget hz hv⟩
theorem pe_wordK {X : Cx} {K : PySem.W.Frag} {j : Nat} {m : Str} {W : WX} {pos apos : Pos} {o : Expr} {ta : TE} {ws : List (Str × Str)} {pl : Sem Bool} (hK : X.K = K) (hw : ∀ p ∈ ws, WordOk X.prog X.w X.K X.mg X.base m p.1 p.2) (hr : Room j X.A) (tk : Takes X W) (he : PE X o ta)
    (ht : eval (.Call (.Attribute o m apos) [] [] pos) X.env = (do
      let ov ← eval o X.env
      standAt apos.atName
      let (f, first) ← holding [ov] (getMethod ov m pl)
      callWith pos f first (backTo pos (starEach [] X.env)) (backToKw pos (keywordEach [] X.env))) := by rfl) :
    PE X (.Call (.Attribute o m apos) [] [] pos) (tWord K ws keptEx ta) := hK ▸ pe_wordG (pl := pl) keptEx_inst hw (by have := hr.dp; omega) (passAt tk) he ht
theorem takes_never {X : Cx} {W : WX} (h : ∀ c d σ H, ¬ W c d σ H) : Takes X W := fun _ _ ⟨_, _, _, _, σ, H, c, d, _, _, _, _, _, _, _, _, w⟩ => (h c d σ H w).elim
theorem pe_wordS {X : Cx} {K : PySem.W.Frag} {j : Nat} {m : Str} {pos apos : Pos} {o : Expr} {ta : TE} {ws : List (Str × Str)} {pl : Sem Bool} {ea : Addr} {oe : Obj} {ecls : Value} {d : Option Addr} {pn : List (Addr × Obj)} (hK : X.K = K) (hz : Zc ecls d oe) (hf : ∃ vs, oe.data = .fields vs) (hw : ∀ p ∈ ws, WordOk X.prog X.w X.K X.mg X.base m p.1 p.2) (hr : Room j X.A) (he : PE (X.suite ea ((ea, oe) :: pn)) o ta)
    (ht : eval (.Call (.Attribute o m apos) [] [] pos) X.env = (do
      let ov ← eval o X.env
      standAt apos.atName
      let (f, first) ← holding [ov] (getMethod ov m pl)
      callWith pos f first (backTo pos (starEach [] X.env)) (backToKw pos (keywordEach [] X.env))) := by rfl) :
    PE (X.suite ea ((ea, oe) :: pn)) (.Call (.Attribute o m apos) [] [] pos) (tWord K ws (suiteEx ea ecls d) ta) := by
  subst hK
  exact pe_wordG (X := X.suite ea ((ea, oe) :: pn)) (W := fun _ _ _ _ => False) (pl := pl) (suiteEx_inst hz hf) hw (by have := hr.dp; show X.A.depth < _; omega) (passAt (takes_never fun _ _ _ _ h => h)) he ht
end Mo
namespace Mo
open PySem PySem.Spec PyProof.Rows L2
/-! ### the head: facts by names, and any others that are decided -/
abbrev AlM : Type := He.AlD × Bool
def SaysM (fa : List He.Fa) (fn : List He.DefD) (exs : List (PySem.W.Frag → Bool)) (K : PySem.W.Frag) : Prop := He.SaysD fa fn K ∧ (exs.all fun b => b K) = true
def obsM (n : Nat) (fa : List He.Fa) (fn : List He.DefD) (exs : List (PySem.W.Frag → Bool)) (g : Addr → Option Obj) : AlM := (He.obsD fa fn (He.frG g (He.asD g n)), exs.all fun b => b (He.frG g (He.asD g n)))
def hookM (n : Nat) (fa : List He.Fa) (fn : List He.DefD) (exs : List (PySem.W.Frag → Bool)) : PySem.W.Hook where
  α := AlM
  obs := fun s => obsM n fa fn exs s.heap.get?
  val := fun _ => (He.valD fn, true)
  says := fun _ h => ∃ K : PySem.W.Frag, K.In h ∧ SaysM fa fn exs K
  of := fun _ _ e => ⟨_, He.frG_in, congrArg (fun z : AlM => z.1) e, congrArg (fun z : AlM => z.2) e⟩
  keeps := fun _ _ _ ⟨K, hK, c⟩ k => ⟨K, PySem.W.Frag.In.keeps hK k, c⟩
theorem obsM_eq {n : Nat} {fa : List He.Fa} {fn : List He.DefD} {exs : List (PySem.W.Frag → Bool)} {g : Addr → Option Obj} {s : Shared} (h : ∀ a, g a = s.heap.get? a) : obsM n fa fn exs g = (hookM n fa fn exs).obs s := by
  have e : g = s.heap.get? := funext h
  rw [e] <;> rfl
section
variable {fa : List He.Fa} {fn : List He.DefD} {exs : List (PySem.W.Frag → Bool)} {K : PySem.W.Frag}
theorem SaysM.fact (c : SaysM fa fn exs K) (i : Nat) {f : He.Fa} (h : fa[i]? = some f := by rfl) : f.ok K = true := c.1.fact i h
theorem SaysM.fn_ (c : SaysM fa fn exs K) (i : Nat) {d : He.DefD} (h : fn[i]? = some d := by rfl) : ∃ fd, FunD K d.name d.qual d.params d.body d.scope (d.dvs K) (d.kws K) (He.fAd K d.at_) fd := c.1.def_ i h
theorem SaysM.ex (c : SaysM fa fn exs K) (i : Nat) {b : PySem.W.Frag → Bool} (h : exs[i]? = some b := by rfl) : b K = true := List.all_eq_true.mp c.2 b (List.mem_of_getElem? h)
end
/-- a law's end, the script's bits told -/
theorem walk_ofEB {l : PySem.W.OpenLaw} {n k : Nat} {q : Program} {loose : List Str} {XP : (Str → Option Value) → Heap → Prop} {YP : World → Heap → Prop} {d : DefRec} {CX : World → CXT} {x : Str}
    (hn : l.most = some n) (hn2 : n ≤ sizeLine) (hdf : d.params.defaults = []) (hr : Room k callerA)
    (F : ∀ (w : World) (mg : Str → Option Value) (fa : Addr) (h : Heap), YP w h → h.Ns mainGlobals mg → mg d.name = some (.ref fa) →
      ∃ (K : PySem.W.Frag) (fd : FuncData) (sp : Sp), K.In h ∧ (∀ (s : Shared) (u : Value), BindsTo s fd ⟨[u], []⟩ [(x, u)]) ∧
        (∀ (H : Hp) (a : Addr) (ns : List Int), ns.length ≤ n → (∀ z ∈ ns, Builtin.Int.intBits z ≤ 1048576) → Only H → SqL K H a (ns.map V.int) → sp [.ref a] H (fun v _ => v = .bl true) fun _ _ _ => False) ∧
        ∀ base : Heap, K.In base → base.Ns mainGlobals mg → FnOk l.prog w K mg base (CX w) k fa fd [x] sp)
    (hCX : ∀ (w : World) (H : Hp) (s : Shared) (e : Value) (s' : Shared), CX w [] H s (fun _ _ _ => False) e s' → False) :
    PySem.W.WalkO q loose XP YP l.row.toRowW d [] (fun f vs => PySem.call f vs) := by
  refine Att.attach_callB hn hdf fun w s₀ s₁ mg mb fa o pm cd doc a vs ns G Y ho hd hcd hmg hobj hints hlen hbits hg => ?_
  obtain ⟨K, fd, sp, KX, hb, hsp, hF⟩ := F w mg fa _ Y G.T.g hmg
  exact law_call KX G.T.g G.T.b G.T.builtins G.T.nolimit hg hobj hints (Nat.le_trans hlen hn2) hr hF hb (fun H hO hS => hsp H a ns hlen hbits hO hS) fun H e s' => hCX w H s₁ e s'
theorem fun_bindsTo {K : PySem.W.Frag} {x qual : Str} {st : Stmt} {f : Addr} {fd : FuncData} (F : L2.Fun K x qual st f fd) {ps : List Str}
    (h : ∀ (kV doc pm : Value) (an : Option Addr) (cdv ct : Value) (us : List Value), us.length = ps.length → bindArgs (PySem.W.fnOf x qual (defArgs st) (defBody st) (defScope st) .none kV doc pm an cdv ct) ⟨us, []⟩ = pure (ps.zip us)) (s : Shared) (us : List Value) (hl : us.length = ps.length) : BindsTo s fd ⟨us, []⟩ (ps.zip us) := by
  obtain ⟨oc, od, kV, doc, pm, an, cdv, ct, osl, rfl, lk, hcd⟩ := F.ex
  exact .of_eq (h kV doc pm an cdv ct us hl)
theorem cx_false {P : Program} {w : World} {H : Hp} {s : Shared} {e : Value} {s' : Shared} (h : L2.CX P w [] H s (fun _ _ _ => False) e s') : False := by
  obtain ⟨_, _, _, _, _, _, _, _, _, _, _, _, z⟩ := h
  exact z
/-- what a law promises -/
def spLaw (K : PySem.W.Frag) : Sp := fun vs H Q _ => ∃ (a : Addr) (ns : List Int), vs = [.ref a] ∧ Only H ∧ SqL K H a (ns.map V.int) ∧ ns.length ≤ 63 ∧ (∀ z ∈ ns, Builtin.Int.intBits z ≤ 1048576) ∧ ∀ H', Q (.bl true) H'
/-- a module's name is a plain tuple -/
def tupTy (K : PySem.W.Frag) (x : Str) : Bool := match K.lookup (He.ga K x) with
  | some ⟨.type c, none, .seq _ _, _⟩ => decide (c = "tuple")
  | _ => false
theorem tupTy_ok {K : PySem.W.Frag} {x : Str} (h : tupTy K x = true) (H : Hp) : tyV K "tuple" (.ref (He.ga K x)) H := by
  unfold tupTy at h
  cases q : K.lookup (He.ga K x) with
  | none => rw [q] at h; cases h
  | some o =>
    obtain ⟨oc, od, dt, osl⟩ := o
    rw [q] at h
    cases oc with
    | type c =>
      cases od with
      | none =>
        cases dt with
        | seq its n => exact .inr (.inl ⟨rfl, _, q, congrArg Value.type (of_decide_eq_true (show decide (c = "tuple") = true from h)), rfl⟩)
        | _ => cases h
      | some a => cases dt <;> cases h
    | _ => cases od <;> cases dt <;> cases h
end Mo
namespace Mo
open PySem PySem.Spec PyProof.Rows L2
/-! ### an exception class with an own __init__ -/
/-- the class at C is one over ValueError, with its own __init__ -/
def oexB (K : PySem.W.Frag) (x : Str) (fs : List Str) : Bool :=
  (match K.lookup (He.ga K x) with
  | some ⟨.type "type", _, .cls cd, sl⟩ => (match cd.mro, sl.toList with
    | .ref C' :: bm, [_, _, _, _, some (.builtin n), _] => C' == He.ga K x && n == "ValueError.__new__" && !cd.hasDel && cd.hasDict && PySem.HandSPX.refsVE bm
    | _, _ => false)
  | _ => false) && (decide (PySem.W.findIn K (.ref (He.ga K x)) "__setattr__" = some (some (.builtin "object.__setattr__"))) && (decide (PySem.W.subIn K (.ref (He.ga K x)) (.type "BaseException") = some true) &&
    (decide (PySem.W.typeIn K (.ref (He.ga K x)) = some (.type "type")) && (PySem.W.keepIn K (.ref (He.ga K x)) &&
      (decide (PySem.W.findIn K (.ref (He.ga K x)) "__init__" = some (some (.ref (He.fAd K (x, some "__init__"))))) && (decide (PySem.W.typeIn K (.ref (He.fAd K (x, some "__init__"))) = some (.type "function")) &&
        fs.all fun f => decide (PySem.W.findIn K (.ref (He.ga K x)) f = some none)))))))
structure OexF (K : PySem.W.Frag) (x : Str) (fs : List Str) : Prop where
  c : OexC K (He.ga K x)
  i : PySem.W.findIn K (.ref (He.ga K x)) "__init__" = some (some (.ref (He.fAd K (x, some "__init__"))))
  t : PySem.W.typeIn K (.ref (He.fAd K (x, some "__init__"))) = some (.type "function")
  n : ∀ f ∈ fs, PySem.W.findIn K (.ref (He.ga K x)) f = some none
theorem oexB_ok {K : PySem.W.Frag} {x : Str} {fs : List Str} (q : oexB K x fs = true) : OexF K x fs := by
  unfold oexB at q
  simp only [Bool.and_eq_true, decide_eq_true_eq, List.all_eq_true] at q
  obtain ⟨q, h1, h2, h3, h4, h5, h6, h7⟩ := q
  refine ⟨⟨?_, h1, h2, h3, h4⟩, h5, h6, h7⟩
  split at q
  · rename_i dd cd sl ho
    split at q
    · rename_i C' bm k0 k1 k2 k3 n k5 hm hs
      simp only [Bool.and_eq_true, beq_iff_eq, Bool.not_eq_true'] at q
      obtain ⟨⟨⟨⟨e1, rfl⟩, hdel⟩, hdc⟩, hre⟩ := q
      subst e1
      obtain ⟨nm, bs, mro, ns, qn, hd, sn, sub, ab, col, del⟩ := cd
      dsimp only at hm hdel hdc
      subst hm hdel hdc
      have hsl : sl = #[k0, k1, k2, k3, some (.builtin "ValueError.__new__"), k5] := by
        obtain ⟨l⟩ := sl
        simp only at hs
        rw [hs]
      subst hsl
      exact ⟨nm, qn, ns, bs, bm, sn, sub, ab, col, dd, k0, k1, k2, k3, k5, ho, hre⟩
    · cases q
  · cases q
end Mo
namespace Mo
open PySem PySem.Spec PyProof.Rows L2
def top (i : Nat) : Stmt := PySem.Challenge.pw_momentloom_k76_bounds_of_models.main.body.getD i (.Pass ⟨0, 0, 0, 0⟩)
abbrev s_NoText_init : Stmt := inClass (top 2) 0
abbrev s_is_name : Stmt := top 10
abbrev s_whole_of : Stmt := top 11
abbrev s_within : Stmt := top 12
abbrev s_worth_word : Stmt := top 13
abbrev s_formula_words : Stmt := top 14
abbrev s_lone_formula : Stmt := top 15
abbrev s_Words_init : Stmt := inClass (top 16) 0
abbrev s_Words_formula : Stmt := inClass (top 16) 1
abbrev s_Words_next_formula : Stmt := inClass (top 16) 2
abbrev s_formulas_of : Stmt := top 17
abbrev s_deeper : Stmt := top 27
abbrev s_deed_lines : Stmt := top 28
abbrev s_deeds_lines : Stmt := top 29
abbrev s_machine_lines : Stmt := top 30
abbrev s_model_text : Stmt := top 31
abbrev s_lines_of : Stmt := top 32
abbrev s_named_deed : Stmt := top 33
abbrev s_send_deed : Stmt := top 34
abbrev s_ModelReader_init : Stmt := inClass (top 35) 0
abbrev s_ModelReader_refuse : Stmt := inClass (top 35) 1
abbrev s_ModelReader_here : Stmt := inClass (top 35) 2
abbrev s_ModelReader_named : Stmt := inClass (top 35) 3
abbrev s_ModelReader_read_boxes : Stmt := inClass (top 35) 4
abbrev s_ModelReader_read_queues : Stmt := inClass (top 35) 5
abbrev s_ModelReader_read_draws : Stmt := inClass (top 35) 6
abbrev s_ModelReader_read_hears : Stmt := inClass (top 35) 7
abbrev s_ModelReader_block : Stmt := inClass (top 35) 8
abbrev s_ModelReader_deed : Stmt := inClass (top 35) 9
abbrev s_ModelReader_go_on : Stmt := inClass (top 35) 10
abbrev s_ModelReader_choice : Stmt := inClass (top 35) 11
abbrev s_ModelReader_read_machines : Stmt := inClass (top 35) 12
abbrev s_read_model : Stmt := top 36
abbrev s__law_purse : Stmt := top 38
abbrev s__law_take : Stmt := top 39
abbrev s__law_names : Stmt := top 40
abbrev s__law_worth : Stmt := top 41
abbrev s__law_named : Stmt := top 42
abbrev s__law_boxes : Stmt := top 43
abbrev s__law_queues : Stmt := top 44
abbrev s__law_draws : Stmt := top 45
abbrev s__law_signs : Stmt := top 46
abbrev s__law_deeds : Stmt := top 47
abbrev s__law_deep : Stmt := top 48
abbrev s__law_parts : Stmt := top 49
abbrev s__law_machines : Stmt := top 50
abbrev s__law_good : Stmt := top 51
abbrev s_law : Stmt := top 52
def nm_NoText_init : List Str := ["self", "line"]
theorem sc_NoText_init : FnScope nm_NoText_init ["self", "line"] (defScope s_NoText_init) := ⟨rfl, rfl, rfl, by decide +kernel, rfl, by decide +kernel, by decide +kernel⟩
def nm_is_name : List Str := ["word", "letter"]
theorem sc_is_name : FnScope nm_is_name ["word"] (defScope s_is_name) := ⟨rfl, rfl, rfl, by decide +kernel, rfl, by decide +kernel, by decide +kernel⟩
def nm_whole_of : List Str := ["word", "figures", "row", "figure"]
theorem sc_whole_of : FnScope nm_whole_of ["word", "figures"] (defScope s_whole_of) := ⟨rfl, rfl, rfl, by decide +kernel, rfl, by decide +kernel, by decide +kernel⟩
def nm_within : List Str := ["word", "least", "most", "number"]
theorem sc_within : FnScope nm_within ["word", "least", "most"] (defScope s_within) := ⟨rfl, rfl, rfl, by decide +kernel, rfl, by decide +kernel, by decide +kernel⟩
def nm_worth_word : List Str := ["word"]
theorem sc_worth_word : FnScope nm_worth_word ["word"] (defScope s_worth_word) := ⟨rfl, rfl, rfl, by decide +kernel, rfl, by decide +kernel, by decide +kernel⟩
def nm_formula_words : List Str := ["formula", "word", "mark"]
theorem sc_formula_words : FnScope nm_formula_words ["formula"] (defScope s_formula_words) := ⟨rfl, rfl, rfl, by decide +kernel, rfl, by decide +kernel, by decide +kernel⟩
def nm_lone_formula : List Str := ["word", "number"]
theorem sc_lone_formula : FnScope nm_lone_formula ["word"] (defScope s_lone_formula) := ⟨rfl, rfl, rfl, by decide +kernel, rfl, by decide +kernel, by decide +kernel⟩
def nm_Words_init : List Str := ["self", "words"]
theorem sc_Words_init : FnScope nm_Words_init ["self", "words"] (defScope s_Words_init) := ⟨rfl, rfl, rfl, by decide +kernel, rfl, by decide +kernel, by decide +kernel⟩
def nm_Words_formula : List Str := ["self", "word", "one", "other"]
theorem sc_Words_formula : FnScope nm_Words_formula ["self"] (defScope s_Words_formula) := ⟨rfl, rfl, rfl, by decide +kernel, rfl, by decide +kernel, by decide +kernel⟩
def nm_Words_next_formula : List Str := ["self"]
theorem sc_Words_next_formula : FnScope nm_Words_next_formula ["self"] (defScope s_Words_next_formula) := ⟨rfl, rfl, rfl, by decide +kernel, rfl, by decide +kernel, by decide +kernel⟩
def nm_formulas_of : List Str := ["words", "many", "reader", "found", "k", "formula"]
theorem sc_formulas_of : FnScope nm_formulas_of ["words", "many"] (defScope s_formulas_of) := ⟨rfl, rfl, rfl, by decide +kernel, rfl, by decide +kernel, by decide +kernel⟩
def nm_deeper : List Str := ["lines", "line"]
theorem sc_deeper : FnScope nm_deeper ["lines"] (defScope s_deeper) := ⟨rfl, rfl, rfl, by decide +kernel, rfl, by decide +kernel, by decide +kernel⟩
def nm_deed_lines : List Str := ["deed", "word", "head", "ones", "formula"]
theorem sc_deed_lines : FnScope nm_deed_lines ["deed"] (defScope s_deed_lines) := ⟨rfl, rfl, rfl, by decide +kernel, rfl, by decide +kernel, by decide +kernel⟩
def nm_deeds_lines : List Str := ["deeds", "found", "deed"]
theorem sc_deeds_lines : FnScope nm_deeds_lines ["deeds"] (defScope s_deeds_lines) := ⟨rfl, rfl, rfl, by decide +kernel, rfl, by decide +kernel, by decide +kernel⟩
def nm_machine_lines : List Str := ["machine", "name", "boxes", "queues", "draws", "hears", "found", "sign", "deeds", "box", "worth", "queue", "draw"]
theorem sc_machine_lines : FnScope nm_machine_lines ["machine"] (defScope s_machine_lines) := ⟨rfl, rfl, rfl, by decide +kernel, rfl, by decide +kernel, by decide +kernel⟩
def nm_model_text : List Str := ["machines", "found", "machine"]
theorem sc_model_text : FnScope nm_model_text ["machines"] (defScope s_model_text) := ⟨rfl, rfl, rfl, by decide +kernel, rfl, by decide +kernel, by decide +kernel⟩
def nm_lines_of : List Str := ["text"]
theorem sc_lines_of : FnScope nm_lines_of ["text"] (defScope s_lines_of) := ⟨rfl, rfl, rfl, by decide +kernel, rfl, by decide +kernel, by decide +kernel⟩
def nm_named_deed : List Str := ["words", "found"]
theorem sc_named_deed : FnScope nm_named_deed ["words"] (defScope s_named_deed) := ⟨rfl, rfl, rfl, by decide +kernel, rfl, by decide +kernel, by decide +kernel⟩
def nm_send_deed : List Str := ["words", "to", "rank", "found"]
theorem sc_send_deed : FnScope nm_send_deed ["words"] (defScope s_send_deed) := ⟨rfl, rfl, rfl, by decide +kernel, rfl, by decide +kernel, by decide +kernel⟩
def nm_ModelReader_init : List Str := ["self", "lines"]
theorem sc_ModelReader_init : FnScope nm_ModelReader_init ["self", "lines"] (defScope s_ModelReader_init) := ⟨rfl, rfl, rfl, by decide +kernel, rfl, by decide +kernel, by decide +kernel⟩
def nm_ModelReader_refuse : List Str := ["self"]
theorem sc_ModelReader_refuse : FnScope nm_ModelReader_refuse ["self"] (defScope s_ModelReader_refuse) := ⟨rfl, rfl, rfl, by decide +kernel, rfl, by decide +kernel, by decide +kernel⟩
def nm_ModelReader_here : List Str := ["self", "depth", "ahead"]
theorem sc_ModelReader_here : FnScope nm_ModelReader_here ["self", "depth"] (defScope s_ModelReader_here) := ⟨rfl, rfl, rfl, by decide +kernel, rfl, by decide +kernel, by decide +kernel⟩
def nm_ModelReader_named : List Str := ["self", "depth", "word", "used", "words"]
theorem sc_ModelReader_named : FnScope nm_ModelReader_named ["self", "depth", "word", "used"] (defScope s_ModelReader_named) := ⟨rfl, rfl, rfl, by decide +kernel, rfl, by decide +kernel, by decide +kernel⟩
def nm_ModelReader_read_boxes : List Str := ["self", "found", "words", "worth", "name", "first"]
theorem sc_ModelReader_read_boxes : FnScope nm_ModelReader_read_boxes ["self"] (defScope s_ModelReader_read_boxes) := ⟨rfl, rfl, rfl, by decide +kernel, rfl, by decide +kernel, by decide +kernel⟩
def nm_ModelReader_read_queues : List Str := ["self", "used", "found", "name"]
theorem sc_ModelReader_read_queues : FnScope nm_ModelReader_read_queues ["self", "used"] (defScope s_ModelReader_read_queues) := ⟨rfl, rfl, rfl, by decide +kernel, rfl, by decide +kernel, by decide +kernel⟩
def nm_ModelReader_read_draws : List Str := ["self", "words", "found", "word"]
theorem sc_ModelReader_read_draws : FnScope nm_ModelReader_read_draws ["self"] (defScope s_ModelReader_read_draws) := ⟨rfl, rfl, rfl, by decide +kernel, rfl, by decide +kernel, by decide +kernel⟩
def nm_ModelReader_read_hears : List Str := ["self", "found", "sign", "heard", "deeds"]
theorem sc_ModelReader_read_hears : FnScope nm_ModelReader_read_hears ["self"] (defScope s_ModelReader_read_hears) := ⟨rfl, rfl, rfl, by decide +kernel, rfl, by decide +kernel, by decide +kernel⟩
def nm_ModelReader_block : List Str := ["self", "depth", "deep", "found", "deed"]
theorem sc_ModelReader_block : FnScope nm_ModelReader_block ["self", "depth", "deep"] (defScope s_ModelReader_block) := ⟨rfl, rfl, rfl, by decide +kernel, rfl, by decide +kernel, by decide +kernel⟩
def nm_ModelReader_deed : List Str := ["self", "depth", "deep", "words", "found"]
theorem sc_ModelReader_deed : FnScope nm_ModelReader_deed ["self", "depth", "deep"] (defScope s_ModelReader_deed) := ⟨rfl, rfl, rfl, by decide +kernel, rfl, by decide +kernel, by decide +kernel⟩
def nm_ModelReader_go_on : List Str := ["self"]
theorem sc_ModelReader_go_on : FnScope nm_ModelReader_go_on ["self"] (defScope s_ModelReader_go_on) := ⟨rfl, rfl, rfl, by decide +kernel, rfl, by decide +kernel, by decide +kernel⟩
def nm_ModelReader_choice : List Str := ["self", "formulas", "depth", "deep", "ones"]
theorem sc_ModelReader_choice : FnScope nm_ModelReader_choice ["self", "formulas", "depth", "deep"] (defScope s_ModelReader_choice) := ⟨rfl, rfl, rfl, by decide +kernel, rfl, by decide +kernel, by decide +kernel⟩
def nm_ModelReader_read_machines : List Str := ["self", "found", "name", "boxes", "queues", "draws", "machine", "box", "worth"]
theorem sc_ModelReader_read_machines : FnScope nm_ModelReader_read_machines ["self"] (defScope s_ModelReader_read_machines) := ⟨rfl, rfl, rfl, by decide +kernel, rfl, by decide +kernel, by decide +kernel⟩
def nm_read_model : List Str := ["text"]
theorem sc_read_model : FnScope nm_read_model ["text"] (defScope s_read_model) := ⟨rfl, rfl, rfl, by decide +kernel, rfl, by decide +kernel, by decide +kernel⟩
def nm__law_purse : List Str := ["_law_script", "_law_cells", "_law_found", "_law_number", "_law_k", "_law_cell"]
theorem sc__law_purse : FnScope nm__law_purse ["_law_script"] (defScope s__law_purse) := ⟨rfl, rfl, rfl, by decide +kernel, rfl, by decide +kernel, by decide +kernel⟩
def nm__law_take : List Str := ["_law_purse_here", "_law_many", "_law_at", "_law_found"]
theorem sc__law_take : FnScope nm__law_take ["_law_purse_here", "_law_many"] (defScope s__law_take) := ⟨rfl, rfl, rfl, by decide +kernel, rfl, by decide +kernel, by decide +kernel⟩
def nm__law_names : List Str := ["_law_purse_here", "_law_many", "_law_letters", "_law_first", "_law_found", "_law_k", "_law_size", "_law_tail", "_law_j"]
theorem sc__law_names : FnScope nm__law_names ["_law_purse_here", "_law_many"] (defScope s__law_names) := ⟨rfl, rfl, rfl, by decide +kernel, rfl, by decide +kernel, by decide +kernel⟩
def nm__law_worth : List Str := ["_law_purse_here", "_law_sort"]
theorem sc__law_worth : FnScope nm__law_worth ["_law_purse_here"] (defScope s__law_worth) := ⟨rfl, rfl, rfl, by decide +kernel, rfl, by decide +kernel, by decide +kernel⟩
def nm__law_named : List Str := ["_law_ahead", "_law_many", "_law_k"]
theorem sc__law_named : FnScope nm__law_named ["_law_ahead", "_law_many"] (defScope s__law_named) := ⟨rfl, rfl, rfl, by decide +kernel, rfl, by decide +kernel, by decide +kernel⟩
def nm__law_boxes : List Str := ["_law_many", "_law_line"]
theorem sc__law_boxes : FnScope nm__law_boxes ["_law_many"] (defScope s__law_boxes) := ⟨rfl, rfl, rfl, by decide +kernel, rfl, by decide +kernel, by decide +kernel⟩
def nm__law_queues : List Str := ["_law_many"]
theorem sc__law_queues : FnScope nm__law_queues ["_law_many"] (defScope s__law_queues) := ⟨rfl, rfl, rfl, by decide +kernel, rfl, by decide +kernel, by decide +kernel⟩
def nm__law_draws : List Str := ["_law_many"]
theorem sc__law_draws : FnScope nm__law_draws ["_law_many"] (defScope s__law_draws) := ⟨rfl, rfl, rfl, by decide +kernel, rfl, by decide +kernel, by decide +kernel⟩
def nm__law_signs : List Str := ["_law_many"]
theorem sc__law_signs : FnScope nm__law_signs ["_law_many"] (defScope s__law_signs) := ⟨rfl, rfl, rfl, by decide +kernel, rfl, by decide +kernel, by decide +kernel⟩
def nm__law_deeds : List Str := ["_law_many", "_law_inside", "_law_lines"]
theorem sc__law_deeds : FnScope nm__law_deeds ["_law_many", "_law_inside"] (defScope s__law_deeds) := ⟨rfl, rfl, rfl, by decide +kernel, rfl, by decide +kernel, by decide +kernel⟩
def nm__law_deep : List Str := ["_law_many", "_law_lines", "_law_k"]
theorem sc__law_deep : FnScope nm__law_deep ["_law_many"] (defScope s__law_deep) := ⟨rfl, rfl, rfl, by decide +kernel, rfl, by decide +kernel, by decide +kernel⟩
def nm__law_parts : List Str := ["_law_many", "_law_word", "_law_formula", "_law_lines", "_law_bad"]
theorem sc__law_parts : FnScope nm__law_parts ["_law_many", "_law_word"] (defScope s__law_parts) := ⟨rfl, rfl, rfl, by decide +kernel, rfl, by decide +kernel, by decide +kernel⟩
def nm__law_machines : List Str := ["_law_many"]
theorem sc__law_machines : FnScope nm__law_machines ["_law_many"] (defScope s__law_machines) := ⟨rfl, rfl, rfl, by decide +kernel, rfl, by decide +kernel, by decide +kernel⟩
def nm__law_good : List Str := ["_law_lines", "_law_bad", "_law_text", "_law_found", "_law_refused", "e"]
theorem sc__law_good : FnScope nm__law_good ["_law_lines", "_law_bad"] (defScope s__law_good) := ⟨rfl, rfl, rfl, by decide +kernel, rfl, by decide +kernel, by decide +kernel⟩
def nm_law : List Str := ["_law_script", "_law_purse_here", "_law_rows", "_law_lines", "_law_bad"]
theorem sc_law : FnScope nm_law ["_law_script"] (defScope s_law) := ⟨rfl, rfl, rfl, by decide +kernel, rfl, by decide +kernel, by decide +kernel⟩
def fl_Words (a0 a1 a2 : V) : List (Str × V) := [(("words" : Str), a0), (("at" : Str), a1), (("counted" : Str), a2)]
theorem lk_Words_words {a0 a1 a2 : V} : (fl_Words a0 a1 a2).lookup ("words" : Str) = some a0 := by kernel_rfl
theorem pt_Words_words {a0 a1 a2 z : V} : putF "words" z (fl_Words a0 a1 a2) = fl_Words z a1 a2 := by kernel_rfl
theorem in_Words_0 {a0 : V} : putF "words" a0 ([] : List (Str × V)) = [(("words" : Str), a0)] := by kernel_rfl
theorem lk_Words_at {a0 a1 a2 : V} : (fl_Words a0 a1 a2).lookup ("at" : Str) = some a1 := by kernel_rfl
theorem pt_Words_at {a0 a1 a2 z : V} : putF "at" z (fl_Words a0 a1 a2) = fl_Words a0 z a2 := by kernel_rfl
theorem in_Words_1 {a0 a1 : V} : putF "at" a1 ([(("words" : Str), a0)] : List (Str × V)) = [(("words" : Str), a0), (("at" : Str), a1)] := by kernel_rfl
theorem lk_Words_counted {a0 a1 a2 : V} : (fl_Words a0 a1 a2).lookup ("counted" : Str) = some a2 := by kernel_rfl
theorem pt_Words_counted {a0 a1 a2 z : V} : putF "counted" z (fl_Words a0 a1 a2) = fl_Words a0 a1 z := by kernel_rfl
theorem in_Words_2 {a0 a1 a2 : V} : putF "counted" a2 ([(("words" : Str), a0), (("at" : Str), a1)] : List (Str × V)) = [(("words" : Str), a0), (("at" : Str), a1), (("counted" : Str), a2)] := by kernel_rfl
theorem no_Words_formula {a0 a1 a2 : V} : (fl_Words a0 a1 a2).lookup ("formula" : Str) = none := by kernel_rfl
theorem no_Words_next_formula {a0 a1 a2 : V} : (fl_Words a0 a1 a2).lookup ("next_formula" : Str) = none := by kernel_rfl
def fl_ModelReader (a0 a1 a2 : V) : List (Str × V) := [(("lines" : Str), a0), (("at" : Str), a1), (("deeds" : Str), a2)]
theorem lk_ModelReader_lines {a0 a1 a2 : V} : (fl_ModelReader a0 a1 a2).lookup ("lines" : Str) = some a0 := by kernel_rfl
theorem pt_ModelReader_lines {a0 a1 a2 z : V} : putF "lines" z (fl_ModelReader a0 a1 a2) = fl_ModelReader z a1 a2 := by kernel_rfl
theorem in_ModelReader_0 {a0 : V} : putF "lines" a0 ([] : List (Str × V)) = [(("lines" : Str), a0)] := by kernel_rfl
theorem lk_ModelReader_at {a0 a1 a2 : V} : (fl_ModelReader a0 a1 a2).lookup ("at" : Str) = some a1 := by kernel_rfl
theorem pt_ModelReader_at {a0 a1 a2 z : V} : putF "at" z (fl_ModelReader a0 a1 a2) = fl_ModelReader a0 z a2 := by kernel_rfl
theorem in_ModelReader_1 {a0 a1 : V} : putF "at" a1 ([(("lines" : Str), a0)] : List (Str × V)) = [(("lines" : Str), a0), (("at" : Str), a1)] := by kernel_rfl
theorem lk_ModelReader_deeds {a0 a1 a2 : V} : (fl_ModelReader a0 a1 a2).lookup ("deeds" : Str) = some a2 := by kernel_rfl
theorem pt_ModelReader_deeds {a0 a1 a2 z : V} : putF "deeds" z (fl_ModelReader a0 a1 a2) = fl_ModelReader a0 a1 z := by kernel_rfl
theorem in_ModelReader_2 {a0 a1 a2 : V} : putF "deeds" a2 ([(("lines" : Str), a0), (("at" : Str), a1)] : List (Str × V)) = [(("lines" : Str), a0), (("at" : Str), a1), (("deeds" : Str), a2)] := by kernel_rfl
theorem no_ModelReader_block {a0 a1 a2 : V} : (fl_ModelReader a0 a1 a2).lookup ("block" : Str) = none := by kernel_rfl
theorem no_ModelReader_choice {a0 a1 a2 : V} : (fl_ModelReader a0 a1 a2).lookup ("choice" : Str) = none := by kernel_rfl
theorem no_ModelReader_deed {a0 a1 a2 : V} : (fl_ModelReader a0 a1 a2).lookup ("deed" : Str) = none := by kernel_rfl
theorem no_ModelReader_go_on {a0 a1 a2 : V} : (fl_ModelReader a0 a1 a2).lookup ("go_on" : Str) = none := by kernel_rfl
theorem no_ModelReader_here {a0 a1 a2 : V} : (fl_ModelReader a0 a1 a2).lookup ("here" : Str) = none := by kernel_rfl
theorem no_ModelReader_named {a0 a1 a2 : V} : (fl_ModelReader a0 a1 a2).lookup ("named" : Str) = none := by kernel_rfl
theorem no_ModelReader_read_boxes {a0 a1 a2 : V} : (fl_ModelReader a0 a1 a2).lookup ("read_boxes" : Str) = none := by kernel_rfl
theorem no_ModelReader_read_draws {a0 a1 a2 : V} : (fl_ModelReader a0 a1 a2).lookup ("read_draws" : Str) = none := by kernel_rfl
theorem no_ModelReader_read_hears {a0 a1 a2 : V} : (fl_ModelReader a0 a1 a2).lookup ("read_hears" : Str) = none := by kernel_rfl
theorem no_ModelReader_read_machines {a0 a1 a2 : V} : (fl_ModelReader a0 a1 a2).lookup ("read_machines" : Str) = none := by kernel_rfl
theorem no_ModelReader_read_queues {a0 a1 a2 : V} : (fl_ModelReader a0 a1 a2).lookup ("read_queues" : Str) = none := by kernel_rfl
theorem no_ModelReader_refuse {a0 a1 a2 : V} : (fl_ModelReader a0 a1 a2).lookup ("refuse" : Str) = none := by kernel_rfl
/-- what the top has written -/
structure Tx (K : PySem.W.Frag) (mg : Str → Option Value) : Prop where
  G_MomentError : mg "MomentError" = some (.ref (He.ga K "MomentError"))
  G_NoText : mg "NoText" = some (.ref (He.ga K "NoText"))
  G_Words : mg "Words" = some (.ref (He.ga K "Words"))
  c_Words : Cls K (He.ga K "Words")
  n_Words_at : NoAttr K (He.ga K "Words") "at"
  n_Words_counted : NoAttr K (He.ga K "Words") "counted"
  n_Words_words : NoAttr K (He.ga K "Words") "words"
  k_Words : KF K mg "Words" ["self", "words"]
  G_ModelReader : mg "ModelReader" = some (.ref (He.ga K "ModelReader"))
  c_ModelReader : Cls K (He.ga K "ModelReader")
  n_ModelReader_at : NoAttr K (He.ga K "ModelReader") "at"
  n_ModelReader_deeds : NoAttr K (He.ga K "ModelReader") "deeds"
  n_ModelReader_lines : NoAttr K (He.ga K "ModelReader") "lines"
  k_ModelReader : KF K mg "ModelReader" ["self", "lines"]
  o_NoText : OexF K "NoText" ["line"]
  bd_NoText : Binds K (fdA K (He.fAd K ("NoText", some "__init__"))) ["self", "line"] []
  e_NoText_NoText : PySem.W.exmOne K (.ref (He.ga K "NoText")) (.ref (He.ga K "NoText")) = some true
  xc_NoText : ExcC K (He.ga K "NoText")
  b_abs : mg "abs" = none
  b_all : mg "all" = none
  b_int : mg "int" = none
  b_len : mg "len" = none
  b_range : mg "range" = none
  b_str : mg "str" = none
  w_LETTERS : ∃ t, mg "LETTERS" = some (.str "abcdefghijklmnopqrstuvwxyz" t)
  w_FIGURES : ∃ t, mg "FIGURES" = some (.str "0123456789" t)
  w_GREATEST_formulatext : ∃ t, mg "GREATEST_formulatext" = some (.int 1000000000000000 t)
  w_PARTS : ∃ t, mg "PARTS" = some (.int 15 t)
  w_WORDS : mg "WORDS" = some (.ref (He.ga K "WORDS"))
  l_WORDS : ∀ H : Hp, SqT K H (He.ga K "WORDS") [V.str "plus", V.str "less", V.str "times", V.str "part", V.str "rest", V.str "below", V.str "same"]
  y_WORDS : ∀ H : Hp, tyV K "tuple" (.ref (He.ga K "WORDS")) H
  w_MARKS : mg "MARKS" = some (.ref (He.ga K "MARKS"))
  l_MARKS : ∀ H : Hp, SqT K H (He.ga K "MARKS") [V.str "+", V.str "-", V.str "*", V.str "/", V.str "|", V.str "<", V.str "="]
  y_MARKS : ∀ H : Hp, tyV K "tuple" (.ref (He.ga K "MARKS")) H
  w_MACHINES : ∃ t, mg "MACHINES" = some (.int 6 t)
  w_BOXES : ∃ t, mg "BOXES" = some (.int 6 t)
  w_QUEUES : ∃ t, mg "QUEUES" = some (.int 3 t)
  w_DRAWS : ∃ t, mg "DRAWS" = some (.int 20 t)
  w_HEARS : ∃ t, mg "HEARS" = some (.int 4 t)
  w_DEEDS : ∃ t, mg "DEEDS" = some (.int 20 t)
  w_DEEP : ∃ t, mg "DEEP" = some (.int 5 t)
  w_GREATEST_modeltext : ∃ t, mg "GREATEST_modeltext" = some (.int 1000000000000000 t)
  f_NoText_init : Fun K "__init__" "NoText.__init__" s_NoText_init (He.fAd K ("NoText", some "__init__")) (fdA K (He.fAd K ("NoText", some "__init__")))
  f_is_name : Fun K "is_name" "is_name" s_is_name (He.fAd K ("is_name", none)) (fdA K (He.fAd K ("is_name", none)))
  g_is_name : GF K mg "is_name" ["word"]
  f_whole_of : Fun K "whole_of" "whole_of" s_whole_of (He.fAd K ("whole_of", none)) (fdA K (He.fAd K ("whole_of", none)))
  g_whole_of : GF K mg "whole_of" ["word", "figures"]
  f_within : Fun K "within" "within" s_within (He.fAd K ("within", none)) (fdA K (He.fAd K ("within", none)))
  g_within : GF K mg "within" ["word", "least", "most"]
  f_worth_word : Fun K "worth_word" "worth_word" s_worth_word (He.fAd K ("worth_word", none)) (fdA K (He.fAd K ("worth_word", none)))
  g_worth_word : GF K mg "worth_word" ["word"]
  f_formula_words : Fun K "formula_words" "formula_words" s_formula_words (He.fAd K ("formula_words", none)) (fdA K (He.fAd K ("formula_words", none)))
  g_formula_words : GF K mg "formula_words" ["formula"]
  f_lone_formula : Fun K "lone_formula" "lone_formula" s_lone_formula (He.fAd K ("lone_formula", none)) (fdA K (He.fAd K ("lone_formula", none)))
  g_lone_formula : GF K mg "lone_formula" ["word"]
  f_Words_init : Fun K "__init__" "Words.__init__" s_Words_init (He.fAd K ("Words", some "__init__")) (fdA K (He.fAd K ("Words", some "__init__")))
  f_Words_formula : Fun K "formula" "Words.formula" s_Words_formula (He.fAd K ("Words", some "formula")) (fdA K (He.fAd K ("Words", some "formula")))
  f_Words_next_formula : Fun K "next_formula" "Words.next_formula" s_Words_next_formula (He.fAd K ("Words", some "next_formula")) (fdA K (He.fAd K ("Words", some "next_formula")))
  f_formulas_of : Fun K "formulas_of" "formulas_of" s_formulas_of (He.fAd K ("formulas_of", none)) (fdA K (He.fAd K ("formulas_of", none)))
  g_formulas_of : GF K mg "formulas_of" ["words", "many"]
  f_deeper : Fun K "deeper" "deeper" s_deeper (He.fAd K ("deeper", none)) (fdA K (He.fAd K ("deeper", none)))
  g_deeper : GF K mg "deeper" ["lines"]
  f_deed_lines : Fun K "deed_lines" "deed_lines" s_deed_lines (He.fAd K ("deed_lines", none)) (fdA K (He.fAd K ("deed_lines", none)))
  g_deed_lines : GF K mg "deed_lines" ["deed"]
  f_deeds_lines : Fun K "deeds_lines" "deeds_lines" s_deeds_lines (He.fAd K ("deeds_lines", none)) (fdA K (He.fAd K ("deeds_lines", none)))
  g_deeds_lines : GF K mg "deeds_lines" ["deeds"]
  f_machine_lines : Fun K "machine_lines" "machine_lines" s_machine_lines (He.fAd K ("machine_lines", none)) (fdA K (He.fAd K ("machine_lines", none)))
  g_machine_lines : GF K mg "machine_lines" ["machine"]
  f_model_text : Fun K "model_text" "model_text" s_model_text (He.fAd K ("model_text", none)) (fdA K (He.fAd K ("model_text", none)))
  g_model_text : GF K mg "model_text" ["machines"]
  f_lines_of : Fun K "lines_of" "lines_of" s_lines_of (He.fAd K ("lines_of", none)) (fdA K (He.fAd K ("lines_of", none)))
  g_lines_of : GF K mg "lines_of" ["text"]
  f_named_deed : Fun K "named_deed" "named_deed" s_named_deed (He.fAd K ("named_deed", none)) (fdA K (He.fAd K ("named_deed", none)))
  g_named_deed : GF K mg "named_deed" ["words"]
  f_send_deed : Fun K "send_deed" "send_deed" s_send_deed (He.fAd K ("send_deed", none)) (fdA K (He.fAd K ("send_deed", none)))
  g_send_deed : GF K mg "send_deed" ["words"]
  f_ModelReader_init : Fun K "__init__" "ModelReader.__init__" s_ModelReader_init (He.fAd K ("ModelReader", some "__init__")) (fdA K (He.fAd K ("ModelReader", some "__init__")))
  f_ModelReader_refuse : Fun K "refuse" "ModelReader.refuse" s_ModelReader_refuse (He.fAd K ("ModelReader", some "refuse")) (fdA K (He.fAd K ("ModelReader", some "refuse")))
  f_ModelReader_here : Fun K "here" "ModelReader.here" s_ModelReader_here (He.fAd K ("ModelReader", some "here")) (fdA K (He.fAd K ("ModelReader", some "here")))
  f_ModelReader_named : Fun K "named" "ModelReader.named" s_ModelReader_named (He.fAd K ("ModelReader", some "named")) (fdA K (He.fAd K ("ModelReader", some "named")))
  f_ModelReader_read_boxes : Fun K "read_boxes" "ModelReader.read_boxes" s_ModelReader_read_boxes (He.fAd K ("ModelReader", some "read_boxes")) (fdA K (He.fAd K ("ModelReader", some "read_boxes")))
  f_ModelReader_read_queues : Fun K "read_queues" "ModelReader.read_queues" s_ModelReader_read_queues (He.fAd K ("ModelReader", some "read_queues")) (fdA K (He.fAd K ("ModelReader", some "read_queues")))
  f_ModelReader_read_draws : Fun K "read_draws" "ModelReader.read_draws" s_ModelReader_read_draws (He.fAd K ("ModelReader", some "read_draws")) (fdA K (He.fAd K ("ModelReader", some "read_draws")))
  f_ModelReader_read_hears : Fun K "read_hears" "ModelReader.read_hears" s_ModelReader_read_hears (He.fAd K ("ModelReader", some "read_hears")) (fdA K (He.fAd K ("ModelReader", some "read_hears")))
  f_ModelReader_block : Fun K "block" "ModelReader.block" s_ModelReader_block (He.fAd K ("ModelReader", some "block")) (fdA K (He.fAd K ("ModelReader", some "block")))
  f_ModelReader_deed : Fun K "deed" "ModelReader.deed" s_ModelReader_deed (He.fAd K ("ModelReader", some "deed")) (fdA K (He.fAd K ("ModelReader", some "deed")))
  f_ModelReader_go_on : Fun K "go_on" "ModelReader.go_on" s_ModelReader_go_on (He.fAd K ("ModelReader", some "go_on")) (fdA K (He.fAd K ("ModelReader", some "go_on")))
  f_ModelReader_choice : Fun K "choice" "ModelReader.choice" s_ModelReader_choice (He.fAd K ("ModelReader", some "choice")) (fdA K (He.fAd K ("ModelReader", some "choice")))
  f_ModelReader_read_machines : Fun K "read_machines" "ModelReader.read_machines" s_ModelReader_read_machines (He.fAd K ("ModelReader", some "read_machines")) (fdA K (He.fAd K ("ModelReader", some "read_machines")))
  f_read_model : Fun K "read_model" "read_model" s_read_model (He.fAd K ("read_model", none)) (fdA K (He.fAd K ("read_model", none)))
  g_read_model : GF K mg "read_model" ["text"]
  f__law_purse : Fun K "_law_purse" "_law_purse" s__law_purse (He.fAd K ("_law_purse", none)) (fdA K (He.fAd K ("_law_purse", none)))
  g__law_purse : GF K mg "_law_purse" ["_law_script"]
  f__law_take : Fun K "_law_take" "_law_take" s__law_take (He.fAd K ("_law_take", none)) (fdA K (He.fAd K ("_law_take", none)))
  g__law_take : GF K mg "_law_take" ["_law_purse_here", "_law_many"]
  f__law_names : Fun K "_law_names" "_law_names" s__law_names (He.fAd K ("_law_names", none)) (fdA K (He.fAd K ("_law_names", none)))
  g__law_names : GF K mg "_law_names" ["_law_purse_here", "_law_many"]
  f__law_worth : Fun K "_law_worth" "_law_worth" s__law_worth (He.fAd K ("_law_worth", none)) (fdA K (He.fAd K ("_law_worth", none)))
  g__law_worth : GF K mg "_law_worth" ["_law_purse_here"]
  f__law_named : Fun K "_law_named" "_law_named" s__law_named (He.fAd K ("_law_named", none)) (fdA K (He.fAd K ("_law_named", none)))
  g__law_named : GF K mg "_law_named" ["_law_ahead", "_law_many"]
  f__law_boxes : Fun K "_law_boxes" "_law_boxes" s__law_boxes (He.fAd K ("_law_boxes", none)) (fdA K (He.fAd K ("_law_boxes", none)))
  g__law_boxes : GF K mg "_law_boxes" ["_law_many"]
  f__law_queues : Fun K "_law_queues" "_law_queues" s__law_queues (He.fAd K ("_law_queues", none)) (fdA K (He.fAd K ("_law_queues", none)))
  g__law_queues : GF K mg "_law_queues" ["_law_many"]
  f__law_draws : Fun K "_law_draws" "_law_draws" s__law_draws (He.fAd K ("_law_draws", none)) (fdA K (He.fAd K ("_law_draws", none)))
  g__law_draws : GF K mg "_law_draws" ["_law_many"]
  f__law_signs : Fun K "_law_signs" "_law_signs" s__law_signs (He.fAd K ("_law_signs", none)) (fdA K (He.fAd K ("_law_signs", none)))
  g__law_signs : GF K mg "_law_signs" ["_law_many"]
  f__law_deeds : Fun K "_law_deeds" "_law_deeds" s__law_deeds (He.fAd K ("_law_deeds", none)) (fdA K (He.fAd K ("_law_deeds", none)))
  g__law_deeds : GF K mg "_law_deeds" ["_law_many", "_law_inside"]
  f__law_deep : Fun K "_law_deep" "_law_deep" s__law_deep (He.fAd K ("_law_deep", none)) (fdA K (He.fAd K ("_law_deep", none)))
  g__law_deep : GF K mg "_law_deep" ["_law_many"]
  f__law_parts : Fun K "_law_parts" "_law_parts" s__law_parts (He.fAd K ("_law_parts", none)) (fdA K (He.fAd K ("_law_parts", none)))
  g__law_parts : GF K mg "_law_parts" ["_law_many", "_law_word"]
  f__law_machines : Fun K "_law_machines" "_law_machines" s__law_machines (He.fAd K ("_law_machines", none)) (fdA K (He.fAd K ("_law_machines", none)))
  g__law_machines : GF K mg "_law_machines" ["_law_many"]
  f__law_good : Fun K "_law_good" "_law_good" s__law_good (He.fAd K ("_law_good", none)) (fdA K (He.fAd K ("_law_good", none)))
  g__law_good : GF K mg "_law_good" ["_law_lines", "_law_bad"]
  f_law : Fun K "law" "law" s_law (He.fAd K ("law", none)) (fdA K (He.fAd K ("law", none)))
  g_law : GF K mg "law" ["_law_script"]
  m_Words_formula : MF K "Words" "formula" ["self"]
  m_Words_next_formula : MF K "Words" "next_formula" ["self"]
  m_ModelReader_refuse : MF K "ModelReader" "refuse" ["self"]
  m_ModelReader_here : MF K "ModelReader" "here" ["self", "depth"]
  m_ModelReader_named : MF K "ModelReader" "named" ["self", "depth", "word", "used"]
  m_ModelReader_read_boxes : MF K "ModelReader" "read_boxes" ["self"]
  m_ModelReader_read_queues : MF K "ModelReader" "read_queues" ["self", "used"]
  m_ModelReader_read_draws : MF K "ModelReader" "read_draws" ["self"]
  m_ModelReader_read_hears : MF K "ModelReader" "read_hears" ["self"]
  m_ModelReader_block : MF K "ModelReader" "block" ["self", "depth", "deep"]
  m_ModelReader_deed : MF K "ModelReader" "deed" ["self", "depth", "deep"]
  m_ModelReader_go_on : MF K "ModelReader" "go_on" ["self"]
  m_ModelReader_choice : MF K "ModelReader" "choice" ["self", "formulas", "depth", "deep"]
  m_ModelReader_read_machines : MF K "ModelReader" "read_machines" ["self"]
section
variable {X : Cx}
theorem Tx.v_LETTERS (T : Tx X.K X.mg) {pos : Pos} (hg : Gl X "LETTERS" := by rfl) : PE X (.Name "LETTERS" pos) (tC (.str "abcdefghijklmnopqrstuvwxyz")) := let ⟨_, h⟩ := T.w_LETTERS; pe_glob hg h ⟨_, rfl⟩
theorem Tx.v_FIGURES (T : Tx X.K X.mg) {pos : Pos} (hg : Gl X "FIGURES" := by rfl) : PE X (.Name "FIGURES" pos) (tC (.str "0123456789")) := let ⟨_, h⟩ := T.w_FIGURES; pe_glob hg h ⟨_, rfl⟩
theorem Tx.v_GREATEST_formulatext (T : Tx X.K X.mg) {pos : Pos} (hg : Gl X "GREATEST_formulatext" := by rfl) : PE X (.Name "GREATEST_formulatext" pos) (tC (.int 1000000000000000)) := let ⟨_, h⟩ := T.w_GREATEST_formulatext; pe_glob hg h ⟨_, rfl⟩
theorem Tx.v_PARTS (T : Tx X.K X.mg) {pos : Pos} (hg : Gl X "PARTS" := by rfl) : PE X (.Name "PARTS" pos) (tC (.int 15)) := let ⟨_, h⟩ := T.w_PARTS; pe_glob hg h ⟨_, rfl⟩
theorem Tx.v_WORDS (T : Tx X.K X.mg) {pos : Pos} (hg : Gl X "WORDS" := by rfl) : PE X (.Name "WORDS" pos) (tC (.ref (He.ga X.K "WORDS"))) := pe_glob hg T.w_WORDS rfl
theorem Tx.v_MARKS (T : Tx X.K X.mg) {pos : Pos} (hg : Gl X "MARKS" := by rfl) : PE X (.Name "MARKS" pos) (tC (.ref (He.ga X.K "MARKS"))) := pe_glob hg T.w_MARKS rfl
theorem Tx.v_MACHINES (T : Tx X.K X.mg) {pos : Pos} (hg : Gl X "MACHINES" := by rfl) : PE X (.Name "MACHINES" pos) (tC (.int 6)) := let ⟨_, h⟩ := T.w_MACHINES; pe_glob hg h ⟨_, rfl⟩
theorem Tx.v_BOXES (T : Tx X.K X.mg) {pos : Pos} (hg : Gl X "BOXES" := by rfl) : PE X (.Name "BOXES" pos) (tC (.int 6)) := let ⟨_, h⟩ := T.w_BOXES; pe_glob hg h ⟨_, rfl⟩
theorem Tx.v_QUEUES (T : Tx X.K X.mg) {pos : Pos} (hg : Gl X "QUEUES" := by rfl) : PE X (.Name "QUEUES" pos) (tC (.int 3)) := let ⟨_, h⟩ := T.w_QUEUES; pe_glob hg h ⟨_, rfl⟩
theorem Tx.v_DRAWS (T : Tx X.K X.mg) {pos : Pos} (hg : Gl X "DRAWS" := by rfl) : PE X (.Name "DRAWS" pos) (tC (.int 20)) := let ⟨_, h⟩ := T.w_DRAWS; pe_glob hg h ⟨_, rfl⟩
theorem Tx.v_HEARS (T : Tx X.K X.mg) {pos : Pos} (hg : Gl X "HEARS" := by rfl) : PE X (.Name "HEARS" pos) (tC (.int 4)) := let ⟨_, h⟩ := T.w_HEARS; pe_glob hg h ⟨_, rfl⟩
theorem Tx.v_DEEDS (T : Tx X.K X.mg) {pos : Pos} (hg : Gl X "DEEDS" := by rfl) : PE X (.Name "DEEDS" pos) (tC (.int 20)) := let ⟨_, h⟩ := T.w_DEEDS; pe_glob hg h ⟨_, rfl⟩
theorem Tx.v_DEEP (T : Tx X.K X.mg) {pos : Pos} (hg : Gl X "DEEP" := by rfl) : PE X (.Name "DEEP" pos) (tC (.int 5)) := let ⟨_, h⟩ := T.w_DEEP; pe_glob hg h ⟨_, rfl⟩
theorem Tx.v_GREATEST_modeltext (T : Tx X.K X.mg) {pos : Pos} (hg : Gl X "GREATEST_modeltext" := by rfl) : PE X (.Name "GREATEST_modeltext" pos) (tC (.int 1000000000000000)) := let ⟨_, h⟩ := T.w_GREATEST_modeltext; pe_glob hg h ⟨_, rfl⟩
end
end Mo
local macro_rules | `(tactic| k_extra "lk") => `(tactic| with_reducible first
  | exact Mo.lk_Words_words
  | exact Mo.lk_Words_at
  | exact Mo.lk_Words_counted
  | exact Mo.lk_ModelReader_lines
  | exact Mo.lk_ModelReader_at
  | exact Mo.lk_ModelReader_deeds)
local macro_rules | `(tactic| k_extra "nolk") => `(tactic| with_reducible first
  | exact Mo.no_Words_formula
  | exact Mo.no_Words_next_formula
  | exact Mo.no_ModelReader_block
  | exact Mo.no_ModelReader_choice
  | exact Mo.no_ModelReader_deed
  | exact Mo.no_ModelReader_go_on
  | exact Mo.no_ModelReader_here
  | exact Mo.no_ModelReader_named
  | exact Mo.no_ModelReader_read_boxes
  | exact Mo.no_ModelReader_read_draws
  | exact Mo.no_ModelReader_read_hears
  | exact Mo.no_ModelReader_read_machines
  | exact Mo.no_ModelReader_read_queues
  | exact Mo.no_ModelReader_refuse)
local macro_rules | `(tactic| k_extra "cl") => `(tactic| with_reducible first
  | exact Mo.Tx.c_Words (by assumption)
  | exact Mo.Tx.c_ModelReader (by assumption))
local macro_rules | `(tactic| k_extra "na") => `(tactic| with_reducible first
  | exact Mo.Tx.n_Words_words (by assumption)
  | exact Mo.Tx.n_Words_at (by assumption)
  | exact Mo.Tx.n_Words_counted (by assumption)
  | exact Mo.Tx.n_ModelReader_lines (by assumption)
  | exact Mo.Tx.n_ModelReader_at (by assumption)
  | exact Mo.Tx.n_ModelReader_deeds (by assumption))
local macro_rules | `(tactic| k_extra "pt") => `(tactic| with_reducible first
  | exact Mo.pt_Words_words
  | exact Mo.in_Words_0
  | exact Mo.pt_Words_at
  | exact Mo.in_Words_1
  | exact Mo.pt_Words_counted
  | exact Mo.in_Words_2
  | exact Mo.pt_ModelReader_lines
  | exact Mo.in_ModelReader_0
  | exact Mo.pt_ModelReader_at
  | exact Mo.in_ModelReader_1
  | exact Mo.pt_ModelReader_deeds
  | exact Mo.in_ModelReader_2)
namespace Mo
open PySem PySem.Spec PyProof.Rows L2
/-! ### the head's facts in two parts -/
theorem obsM_join {n : Nat} {fa fb : List He.Fa} {fn fm : List He.DefD} {ea eb : List (PySem.W.Frag → Bool)} {g : Addr → Option Obj} (h1 : obsM n fa fn ea g = (He.valD fn, true)) (h2 : obsM n fb fm eb g = (He.valD fm, true)) : obsM n (fa ++ fb) (fn ++ fm) (ea ++ eb) g = (He.valD (fn ++ fm), true) := by
  unfold obsM He.obsD He.valD at h1 h2 ⊢
  simp only [Prod.mk.injEq, Bool.and_eq_true] at h1 h2 ⊢
  obtain ⟨⟨⟨a1, a2⟩, a3⟩, a4⟩ := h1
  obtain ⟨⟨⟨b1, b2⟩, b3⟩, b4⟩ := h2
  refine ⟨⟨⟨?_, ?_⟩, ?_⟩, ?_⟩
  · rw [List.all_append, a1, b1]; rfl
  · rw [List.all_append, a2, b2]; rfl
  · rw [List.map_append, List.map_append, a3, b3]
  · rw [List.all_append, a4, b4]; rfl
theorem runEq_join {r : PySem.W.OpenRow} {q : Program} {M n : Nat} {loose : List Str} {w : World} {fa fb : List He.Fa} {fn fm : List He.DefD} {ea eb : List (PySem.W.Frag → Bool)}
    (h1 : HandSHeadRun.RunEq r q (hookM n fa fn ea) (fun s => obsM n fa fn ea (HandSHeadRun.getT s)) M loose w) (h2 : HandSHeadRun.RunEq r q (hookM n fb fm eb) (fun s => obsM n fb fm eb (HandSHeadRun.getT s)) M loose w) :
    HandSHeadRun.RunEq r q (hookM n (fa ++ fb) (fn ++ fm) (ea ++ eb)) (fun s => obsM n (fa ++ fb) (fn ++ fm) (ea ++ eb) (HandSHeadRun.getT s)) M loose w := by
  intro os
  have a := h1 os
  have b := h2 os
  revert a b
  generalize HandSHeadRun.endF _ _ _ _ _ = X
  cases X with
  | none => intro a; cases a
  | some s =>
    intro a b
    have a1 := Option.some.inj a
    have b1 := Option.some.inj b
    have a2 := congrArg (fun x => x.1) a1
    have a3 := congrArg (fun x => x.2.1) a1
    have a4 := congrArg (fun x => x.2.2) a1
    have b4 := congrArg (fun x => x.2.2) b1
    exact congrArg some (Prod.ext a2 (Prod.ext a3 (obsM_join (show _ = (He.valD fn, true) from a4) (show _ = (He.valD fm, true) from b4))))
end Mo
namespace Mo
open PySem PySem.Spec PyProof.Rows L2
def d_NoText_init : He.DefD := ⟨("NoText", some "__init__"), "__init__", "NoText.__init__", defArgs s_NoText_init, defBody s_NoText_init, defScope s_NoText_init, [], []⟩
def d_is_name : He.DefD := ⟨("is_name", none), "is_name", "is_name", defArgs s_is_name, defBody s_is_name, defScope s_is_name, [], []⟩
def d_whole_of : He.DefD := ⟨("whole_of", none), "whole_of", "whole_of", defArgs s_whole_of, defBody s_whole_of, defScope s_whole_of, [], []⟩
def d_within : He.DefD := ⟨("within", none), "within", "within", defArgs s_within, defBody s_within, defScope s_within, [], []⟩
def d_worth_word : He.DefD := ⟨("worth_word", none), "worth_word", "worth_word", defArgs s_worth_word, defBody s_worth_word, defScope s_worth_word, [], []⟩
def d_formula_words : He.DefD := ⟨("formula_words", none), "formula_words", "formula_words", defArgs s_formula_words, defBody s_formula_words, defScope s_formula_words, [], []⟩
def d_lone_formula : He.DefD := ⟨("lone_formula", none), "lone_formula", "lone_formula", defArgs s_lone_formula, defBody s_lone_formula, defScope s_lone_formula, [], []⟩
def d_Words_init : He.DefD := ⟨("Words", some "__init__"), "__init__", "Words.__init__", defArgs s_Words_init, defBody s_Words_init, defScope s_Words_init, [], []⟩
def d_Words_formula : He.DefD := ⟨("Words", some "formula"), "formula", "Words.formula", defArgs s_Words_formula, defBody s_Words_formula, defScope s_Words_formula, [], []⟩
def d_Words_next_formula : He.DefD := ⟨("Words", some "next_formula"), "next_formula", "Words.next_formula", defArgs s_Words_next_formula, defBody s_Words_next_formula, defScope s_Words_next_formula, [], []⟩
def d_formulas_of : He.DefD := ⟨("formulas_of", none), "formulas_of", "formulas_of", defArgs s_formulas_of, defBody s_formulas_of, defScope s_formulas_of, [], []⟩
def d_deeper : He.DefD := ⟨("deeper", none), "deeper", "deeper", defArgs s_deeper, defBody s_deeper, defScope s_deeper, [], []⟩
def d_deed_lines : He.DefD := ⟨("deed_lines", none), "deed_lines", "deed_lines", defArgs s_deed_lines, defBody s_deed_lines, defScope s_deed_lines, [], []⟩
def d_deeds_lines : He.DefD := ⟨("deeds_lines", none), "deeds_lines", "deeds_lines", defArgs s_deeds_lines, defBody s_deeds_lines, defScope s_deeds_lines, [], []⟩
def d_machine_lines : He.DefD := ⟨("machine_lines", none), "machine_lines", "machine_lines", defArgs s_machine_lines, defBody s_machine_lines, defScope s_machine_lines, [], []⟩
def d_model_text : He.DefD := ⟨("model_text", none), "model_text", "model_text", defArgs s_model_text, defBody s_model_text, defScope s_model_text, [], []⟩
def d_lines_of : He.DefD := ⟨("lines_of", none), "lines_of", "lines_of", defArgs s_lines_of, defBody s_lines_of, defScope s_lines_of, [], []⟩
def d_named_deed : He.DefD := ⟨("named_deed", none), "named_deed", "named_deed", defArgs s_named_deed, defBody s_named_deed, defScope s_named_deed, [], []⟩
def d_send_deed : He.DefD := ⟨("send_deed", none), "send_deed", "send_deed", defArgs s_send_deed, defBody s_send_deed, defScope s_send_deed, [], []⟩
def d_ModelReader_init : He.DefD := ⟨("ModelReader", some "__init__"), "__init__", "ModelReader.__init__", defArgs s_ModelReader_init, defBody s_ModelReader_init, defScope s_ModelReader_init, [], []⟩
def d_ModelReader_refuse : He.DefD := ⟨("ModelReader", some "refuse"), "refuse", "ModelReader.refuse", defArgs s_ModelReader_refuse, defBody s_ModelReader_refuse, defScope s_ModelReader_refuse, [], []⟩
def d_ModelReader_here : He.DefD := ⟨("ModelReader", some "here"), "here", "ModelReader.here", defArgs s_ModelReader_here, defBody s_ModelReader_here, defScope s_ModelReader_here, [], []⟩
def d_ModelReader_named : He.DefD := ⟨("ModelReader", some "named"), "named", "ModelReader.named", defArgs s_ModelReader_named, defBody s_ModelReader_named, defScope s_ModelReader_named, [], []⟩
def d_ModelReader_read_boxes : He.DefD := ⟨("ModelReader", some "read_boxes"), "read_boxes", "ModelReader.read_boxes", defArgs s_ModelReader_read_boxes, defBody s_ModelReader_read_boxes, defScope s_ModelReader_read_boxes, [], []⟩
def d_ModelReader_read_queues : He.DefD := ⟨("ModelReader", some "read_queues"), "read_queues", "ModelReader.read_queues", defArgs s_ModelReader_read_queues, defBody s_ModelReader_read_queues, defScope s_ModelReader_read_queues, [], []⟩
def d_ModelReader_read_draws : He.DefD := ⟨("ModelReader", some "read_draws"), "read_draws", "ModelReader.read_draws", defArgs s_ModelReader_read_draws, defBody s_ModelReader_read_draws, defScope s_ModelReader_read_draws, [], []⟩
def d_ModelReader_read_hears : He.DefD := ⟨("ModelReader", some "read_hears"), "read_hears", "ModelReader.read_hears", defArgs s_ModelReader_read_hears, defBody s_ModelReader_read_hears, defScope s_ModelReader_read_hears, [], []⟩
def d_ModelReader_block : He.DefD := ⟨("ModelReader", some "block"), "block", "ModelReader.block", defArgs s_ModelReader_block, defBody s_ModelReader_block, defScope s_ModelReader_block, [], []⟩
def d_ModelReader_deed : He.DefD := ⟨("ModelReader", some "deed"), "deed", "ModelReader.deed", defArgs s_ModelReader_deed, defBody s_ModelReader_deed, defScope s_ModelReader_deed, [], []⟩
def d_ModelReader_go_on : He.DefD := ⟨("ModelReader", some "go_on"), "go_on", "ModelReader.go_on", defArgs s_ModelReader_go_on, defBody s_ModelReader_go_on, defScope s_ModelReader_go_on, [], []⟩
def d_ModelReader_choice : He.DefD := ⟨("ModelReader", some "choice"), "choice", "ModelReader.choice", defArgs s_ModelReader_choice, defBody s_ModelReader_choice, defScope s_ModelReader_choice, [], []⟩
def d_ModelReader_read_machines : He.DefD := ⟨("ModelReader", some "read_machines"), "read_machines", "ModelReader.read_machines", defArgs s_ModelReader_read_machines, defBody s_ModelReader_read_machines, defScope s_ModelReader_read_machines, [], []⟩
def d_read_model : He.DefD := ⟨("read_model", none), "read_model", "read_model", defArgs s_read_model, defBody s_read_model, defScope s_read_model, [], []⟩
def d__law_purse : He.DefD := ⟨("_law_purse", none), "_law_purse", "_law_purse", defArgs s__law_purse, defBody s__law_purse, defScope s__law_purse, [], []⟩
def d__law_take : He.DefD := ⟨("_law_take", none), "_law_take", "_law_take", defArgs s__law_take, defBody s__law_take, defScope s__law_take, [], []⟩
def d__law_names : He.DefD := ⟨("_law_names", none), "_law_names", "_law_names", defArgs s__law_names, defBody s__law_names, defScope s__law_names, [], []⟩
def d__law_worth : He.DefD := ⟨("_law_worth", none), "_law_worth", "_law_worth", defArgs s__law_worth, defBody s__law_worth, defScope s__law_worth, [], []⟩
def d__law_named : He.DefD := ⟨("_law_named", none), "_law_named", "_law_named", defArgs s__law_named, defBody s__law_named, defScope s__law_named, [], []⟩
def d__law_boxes : He.DefD := ⟨("_law_boxes", none), "_law_boxes", "_law_boxes", defArgs s__law_boxes, defBody s__law_boxes, defScope s__law_boxes, [], []⟩
def d__law_queues : He.DefD := ⟨("_law_queues", none), "_law_queues", "_law_queues", defArgs s__law_queues, defBody s__law_queues, defScope s__law_queues, [], []⟩
def d__law_draws : He.DefD := ⟨("_law_draws", none), "_law_draws", "_law_draws", defArgs s__law_draws, defBody s__law_draws, defScope s__law_draws, [], []⟩
def d__law_signs : He.DefD := ⟨("_law_signs", none), "_law_signs", "_law_signs", defArgs s__law_signs, defBody s__law_signs, defScope s__law_signs, [], []⟩
def d__law_deeds : He.DefD := ⟨("_law_deeds", none), "_law_deeds", "_law_deeds", defArgs s__law_deeds, defBody s__law_deeds, defScope s__law_deeds, [], []⟩
def d__law_deep : He.DefD := ⟨("_law_deep", none), "_law_deep", "_law_deep", defArgs s__law_deep, defBody s__law_deep, defScope s__law_deep, [], []⟩
def d__law_parts : He.DefD := ⟨("_law_parts", none), "_law_parts", "_law_parts", defArgs s__law_parts, defBody s__law_parts, defScope s__law_parts, [], []⟩
def d__law_machines : He.DefD := ⟨("_law_machines", none), "_law_machines", "_law_machines", defArgs s__law_machines, defBody s__law_machines, defScope s__law_machines, [], []⟩
def d__law_good : He.DefD := ⟨("_law_good", none), "_law_good", "_law_good", defArgs s__law_good, defBody s__law_good, defScope s__law_good, [], []⟩
def d_law : He.DefD := ⟨("law", none), "law", "law", defArgs s_law, defBody s_law, defScope s_law, [], []⟩
def fn0 : List He.DefD := [d_NoText_init, d_is_name, d_whole_of, d_within, d_worth_word, d_formula_words, d_lone_formula, d_Words_init, d_Words_formula, d_Words_next_formula, d_formulas_of, d_deeper, d_deed_lines, d_deeds_lines, d_machine_lines, d_model_text, d_lines_of, d_named_deed, d_send_deed, d_ModelReader_init, d_ModelReader_refuse, d_ModelReader_here, d_ModelReader_named, d_ModelReader_read_boxes, d_ModelReader_read_queues, d_ModelReader_read_draws, d_ModelReader_read_hears, d_ModelReader_block, d_ModelReader_deed, d_ModelReader_go_on]
def fn1 : List He.DefD := [d_ModelReader_choice, d_ModelReader_read_machines, d_read_model, d__law_purse, d__law_take, d__law_names, d__law_worth, d__law_named, d__law_boxes, d__law_queues, d__law_draws, d__law_signs, d__law_deeds, d__law_deep, d__law_parts, d__law_machines, d__law_good, d_law]
def fa0 : List He.Fa := [.glo "MomentError", .glo "NoText", .glo "Words", .cls "Words", .noat "Words" "at", .noat "Words" "counted", .noat "Words" "words", .mkr "Words", .glo "ModelReader", .cls "ModelReader", .noat "ModelReader" "at", .noat "ModelReader" "deeds", .noat "ModelReader" "lines", .mkr "ModelReader", .exm "NoText" "NoText" true, .free "abs", .free "all", .free "int", .free "len", .free "range", .free "str", .str "LETTERS" "abcdefghijklmnopqrstuvwxyz", .str "FIGURES" "0123456789", .int "GREATEST_formulatext" 1000000000000000, .int "PARTS" 15, .glo "WORDS", .glo "MARKS", .int "MACHINES" 6, .int "BOXES" 6, .int "QUEUES" 3]
def fa1 : List He.Fa := [.int "DRAWS" 20, .int "HEARS" 4, .int "DEEDS" 20, .int "DEEP" 5, .int "GREATEST_modeltext" 1000000000000000, .glo "is_name", .glo "whole_of", .glo "within", .glo "worth_word", .glo "formula_words", .glo "lone_formula", .glo "formulas_of", .glo "deeper", .glo "deed_lines", .glo "deeds_lines", .glo "machine_lines", .glo "model_text", .glo "lines_of", .glo "named_deed", .glo "send_deed", .glo "read_model", .glo "_law_purse", .glo "_law_take", .glo "_law_names", .glo "_law_worth", .glo "_law_named", .glo "_law_boxes", .glo "_law_queues", .glo "_law_draws", .glo "_law_signs"]
def fa2 : List He.Fa := [.glo "_law_deeds", .glo "_law_deep", .glo "_law_parts", .glo "_law_machines", .glo "_law_good", .glo "law", .meth "Words" "formula", .meth "Words" "next_formula", .meth "ModelReader" "refuse", .meth "ModelReader" "here", .meth "ModelReader" "named", .meth "ModelReader" "read_boxes", .meth "ModelReader" "read_queues", .meth "ModelReader" "read_draws", .meth "ModelReader" "read_hears", .meth "ModelReader" "block", .meth "ModelReader" "deed", .meth "ModelReader" "go_on", .meth "ModelReader" "choice", .meth "ModelReader" "read_machines"]
def fn : List He.DefD := fn0 ++ fn1
def fa : List He.Fa := fa0 ++ fa1 ++ fa2
def exs : List (PySem.W.Frag → Bool) := [fun K => oexB K "NoText" ["line"], fun K => excCB K "NoText", fun K => He.tupB K "WORDS" [.str "plus", .str "less", .str "times", .str "part", .str "rest", .str "below", .str "same"], fun K => tupTy K "WORDS", fun K => He.tupB K "MARKS" [.str "+", .str "-", .str "*", .str "/", .str "|", .str "<", .str "="], fun K => tupTy K "MARKS"]
def lo0 : List PySem.Str := ["__name__", "MomentError", "NoText", "LETTERS", "FIGURES", "GREATEST_formulatext", "PARTS", "WORDS", "MARKS", "is_name", "whole_of", "within", "worth_word", "formula_words", "lone_formula", "Words", "formulas_of", "MACHINES", "BOXES", "QUEUES", "DRAWS", "HEARS", "DEEDS", "DEEP", "GREATEST_modeltext", "deeper", "deed_lines", "deeds_lines", "machine_lines", "model_text"]
def lo1 : List PySem.Str := ["lines_of", "named_deed", "send_deed", "ModelReader", "read_model", "_law_purse", "_law_take", "_law_names", "_law_worth", "_law_named", "_law_boxes", "_law_queues", "_law_draws", "_law_signs", "_law_deeds", "_law_deep", "_law_parts", "_law_machines", "_law_good"]
def loose : List PySem.Str := lo0 ++ lo1
abbrev Rr : PySem.W.OpenRow := PySem.W.OpenLaw.row PySem.Challenge.rw_momentloom_k76_bounds_of_models
abbrev hk : PySem.W.Hook := hookM 6 fa fn exs
def ob (s : PySem.W.SharedT) : AlM := obsM 6 fa fn exs (HandSHeadRun.getT s)
theorem ob_eq (s : PySem.W.SharedT) : ob s = hk.obs s.abs := obsM_eq (HandSHeadRun.getT_eq s)

theorem run (w : World) : HandSHeadRun.RunEq Rr (PySem.W.view Rr.prog [52]) hk ob 20000 loose w := by
  intro os
  kernel_rfl
theorem tx_of {K : PySem.W.Frag} {h : Heap} {mg : Str → Option Value} (X : K.In h) (G : h.Ns mainGlobals mg) (c : SaysM fa fn exs K) : Tx K mg := by
  have F_NoText_init : Fun K "__init__" "NoText.__init__" s_NoText_init (He.fAd K ("NoText", some "__init__")) (fdA K (He.fAd K ("NoText", some "__init__"))) := fun_of (c.fn_ 0 (d := d_NoText_init) rfl)
  have b_NoText_init : Binds K (fdA K (He.fAd K ("NoText", some "__init__"))) ["self", "line"] [] := F_NoText_init.binds (ps := ["self", "line"]) fun _ _ _ _ _ _ us hl => match us, hl with | [_, _], _ => rfl
  have F_is_name : Fun K "is_name" "is_name" s_is_name (He.fAd K ("is_name", none)) (fdA K (He.fAd K ("is_name", none))) := fun_of (c.fn_ 1 (d := d_is_name) rfl)
  have b_is_name : Binds K (fdA K (He.fAd K ("is_name", none))) ["word"] [] := F_is_name.binds (ps := ["word"]) fun _ _ _ _ _ _ us hl => match us, hl with | [_], _ => rfl
  have F_whole_of : Fun K "whole_of" "whole_of" s_whole_of (He.fAd K ("whole_of", none)) (fdA K (He.fAd K ("whole_of", none))) := fun_of (c.fn_ 2 (d := d_whole_of) rfl)
  have b_whole_of : Binds K (fdA K (He.fAd K ("whole_of", none))) ["word", "figures"] [] := F_whole_of.binds (ps := ["word", "figures"]) fun _ _ _ _ _ _ us hl => match us, hl with | [_, _], _ => rfl
  have F_within : Fun K "within" "within" s_within (He.fAd K ("within", none)) (fdA K (He.fAd K ("within", none))) := fun_of (c.fn_ 3 (d := d_within) rfl)
  have b_within : Binds K (fdA K (He.fAd K ("within", none))) ["word", "least", "most"] [] := F_within.binds (ps := ["word", "least", "most"]) fun _ _ _ _ _ _ us hl => match us, hl with | [_, _, _], _ => rfl
  have F_worth_word : Fun K "worth_word" "worth_word" s_worth_word (He.fAd K ("worth_word", none)) (fdA K (He.fAd K ("worth_word", none))) := fun_of (c.fn_ 4 (d := d_worth_word) rfl)
  have b_worth_word : Binds K (fdA K (He.fAd K ("worth_word", none))) ["word"] [] := F_worth_word.binds (ps := ["word"]) fun _ _ _ _ _ _ us hl => match us, hl with | [_], _ => rfl
  have F_formula_words : Fun K "formula_words" "formula_words" s_formula_words (He.fAd K ("formula_words", none)) (fdA K (He.fAd K ("formula_words", none))) := fun_of (c.fn_ 5 (d := d_formula_words) rfl)
  have b_formula_words : Binds K (fdA K (He.fAd K ("formula_words", none))) ["formula"] [] := F_formula_words.binds (ps := ["formula"]) fun _ _ _ _ _ _ us hl => match us, hl with | [_], _ => rfl
  have F_lone_formula : Fun K "lone_formula" "lone_formula" s_lone_formula (He.fAd K ("lone_formula", none)) (fdA K (He.fAd K ("lone_formula", none))) := fun_of (c.fn_ 6 (d := d_lone_formula) rfl)
  have b_lone_formula : Binds K (fdA K (He.fAd K ("lone_formula", none))) ["word"] [] := F_lone_formula.binds (ps := ["word"]) fun _ _ _ _ _ _ us hl => match us, hl with | [_], _ => rfl
  have F_Words_init : Fun K "__init__" "Words.__init__" s_Words_init (He.fAd K ("Words", some "__init__")) (fdA K (He.fAd K ("Words", some "__init__"))) := fun_of (c.fn_ 7 (d := d_Words_init) rfl)
  have b_Words_init : Binds K (fdA K (He.fAd K ("Words", some "__init__"))) ["self", "words"] [] := F_Words_init.binds (ps := ["self", "words"]) fun _ _ _ _ _ _ us hl => match us, hl with | [_, _], _ => rfl
  have F_Words_formula : Fun K "formula" "Words.formula" s_Words_formula (He.fAd K ("Words", some "formula")) (fdA K (He.fAd K ("Words", some "formula"))) := fun_of (c.fn_ 8 (d := d_Words_formula) rfl)
  have b_Words_formula : Binds K (fdA K (He.fAd K ("Words", some "formula"))) ["self"] [] := F_Words_formula.binds (ps := ["self"]) fun _ _ _ _ _ _ us hl => match us, hl with | [_], _ => rfl
  have F_Words_next_formula : Fun K "next_formula" "Words.next_formula" s_Words_next_formula (He.fAd K ("Words", some "next_formula")) (fdA K (He.fAd K ("Words", some "next_formula"))) := fun_of (c.fn_ 9 (d := d_Words_next_formula) rfl)
  have b_Words_next_formula : Binds K (fdA K (He.fAd K ("Words", some "next_formula"))) ["self"] [] := F_Words_next_formula.binds (ps := ["self"]) fun _ _ _ _ _ _ us hl => match us, hl with | [_], _ => rfl
  have F_formulas_of : Fun K "formulas_of" "formulas_of" s_formulas_of (He.fAd K ("formulas_of", none)) (fdA K (He.fAd K ("formulas_of", none))) := fun_of (c.fn_ 10 (d := d_formulas_of) rfl)
  have b_formulas_of : Binds K (fdA K (He.fAd K ("formulas_of", none))) ["words", "many"] [] := F_formulas_of.binds (ps := ["words", "many"]) fun _ _ _ _ _ _ us hl => match us, hl with | [_, _], _ => rfl
  have F_deeper : Fun K "deeper" "deeper" s_deeper (He.fAd K ("deeper", none)) (fdA K (He.fAd K ("deeper", none))) := fun_of (c.fn_ 11 (d := d_deeper) rfl)
  have b_deeper : Binds K (fdA K (He.fAd K ("deeper", none))) ["lines"] [] := F_deeper.binds (ps := ["lines"]) fun _ _ _ _ _ _ us hl => match us, hl with | [_], _ => rfl
  have F_deed_lines : Fun K "deed_lines" "deed_lines" s_deed_lines (He.fAd K ("deed_lines", none)) (fdA K (He.fAd K ("deed_lines", none))) := fun_of (c.fn_ 12 (d := d_deed_lines) rfl)
  have b_deed_lines : Binds K (fdA K (He.fAd K ("deed_lines", none))) ["deed"] [] := F_deed_lines.binds (ps := ["deed"]) fun _ _ _ _ _ _ us hl => match us, hl with | [_], _ => rfl
  have F_deeds_lines : Fun K "deeds_lines" "deeds_lines" s_deeds_lines (He.fAd K ("deeds_lines", none)) (fdA K (He.fAd K ("deeds_lines", none))) := fun_of (c.fn_ 13 (d := d_deeds_lines) rfl)
  have b_deeds_lines : Binds K (fdA K (He.fAd K ("deeds_lines", none))) ["deeds"] [] := F_deeds_lines.binds (ps := ["deeds"]) fun _ _ _ _ _ _ us hl => match us, hl with | [_], _ => rfl
  have F_machine_lines : Fun K "machine_lines" "machine_lines" s_machine_lines (He.fAd K ("machine_lines", none)) (fdA K (He.fAd K ("machine_lines", none))) := fun_of (c.fn_ 14 (d := d_machine_lines) rfl)
  have b_machine_lines : Binds K (fdA K (He.fAd K ("machine_lines", none))) ["machine"] [] := F_machine_lines.binds (ps := ["machine"]) fun _ _ _ _ _ _ us hl => match us, hl with | [_], _ => rfl
  have F_model_text : Fun K "model_text" "model_text" s_model_text (He.fAd K ("model_text", none)) (fdA K (He.fAd K ("model_text", none))) := fun_of (c.fn_ 15 (d := d_model_text) rfl)
  have b_model_text : Binds K (fdA K (He.fAd K ("model_text", none))) ["machines"] [] := F_model_text.binds (ps := ["machines"]) fun _ _ _ _ _ _ us hl => match us, hl with | [_], _ => rfl
  have F_lines_of : Fun K "lines_of" "lines_of" s_lines_of (He.fAd K ("lines_of", none)) (fdA K (He.fAd K ("lines_of", none))) := fun_of (c.fn_ 16 (d := d_lines_of) rfl)
  have b_lines_of : Binds K (fdA K (He.fAd K ("lines_of", none))) ["text"] [] := F_lines_of.binds (ps := ["text"]) fun _ _ _ _ _ _ us hl => match us, hl with | [_], _ => rfl
  have F_named_deed : Fun K "named_deed" "named_deed" s_named_deed (He.fAd K ("named_deed", none)) (fdA K (He.fAd K ("named_deed", none))) := fun_of (c.fn_ 17 (d := d_named_deed) rfl)
  have b_named_deed : Binds K (fdA K (He.fAd K ("named_deed", none))) ["words"] [] := F_named_deed.binds (ps := ["words"]) fun _ _ _ _ _ _ us hl => match us, hl with | [_], _ => rfl
  have F_send_deed : Fun K "send_deed" "send_deed" s_send_deed (He.fAd K ("send_deed", none)) (fdA K (He.fAd K ("send_deed", none))) := fun_of (c.fn_ 18 (d := d_send_deed) rfl)
  have b_send_deed : Binds K (fdA K (He.fAd K ("send_deed", none))) ["words"] [] := F_send_deed.binds (ps := ["words"]) fun _ _ _ _ _ _ us hl => match us, hl with | [_], _ => rfl
  have F_ModelReader_init : Fun K "__init__" "ModelReader.__init__" s_ModelReader_init (He.fAd K ("ModelReader", some "__init__")) (fdA K (He.fAd K ("ModelReader", some "__init__"))) := fun_of (c.fn_ 19 (d := d_ModelReader_init) rfl)
  have b_ModelReader_init : Binds K (fdA K (He.fAd K ("ModelReader", some "__init__"))) ["self", "lines"] [] := F_ModelReader_init.binds (ps := ["self", "lines"]) fun _ _ _ _ _ _ us hl => match us, hl with | [_, _], _ => rfl
  have F_ModelReader_refuse : Fun K "refuse" "ModelReader.refuse" s_ModelReader_refuse (He.fAd K ("ModelReader", some "refuse")) (fdA K (He.fAd K ("ModelReader", some "refuse"))) := fun_of (c.fn_ 20 (d := d_ModelReader_refuse) rfl)
  have b_ModelReader_refuse : Binds K (fdA K (He.fAd K ("ModelReader", some "refuse"))) ["self"] [] := F_ModelReader_refuse.binds (ps := ["self"]) fun _ _ _ _ _ _ us hl => match us, hl with | [_], _ => rfl
  have F_ModelReader_here : Fun K "here" "ModelReader.here" s_ModelReader_here (He.fAd K ("ModelReader", some "here")) (fdA K (He.fAd K ("ModelReader", some "here"))) := fun_of (c.fn_ 21 (d := d_ModelReader_here) rfl)
  have b_ModelReader_here : Binds K (fdA K (He.fAd K ("ModelReader", some "here"))) ["self", "depth"] [] := F_ModelReader_here.binds (ps := ["self", "depth"]) fun _ _ _ _ _ _ us hl => match us, hl with | [_, _], _ => rfl
  have F_ModelReader_named : Fun K "named" "ModelReader.named" s_ModelReader_named (He.fAd K ("ModelReader", some "named")) (fdA K (He.fAd K ("ModelReader", some "named"))) := fun_of (c.fn_ 22 (d := d_ModelReader_named) rfl)
  have b_ModelReader_named : Binds K (fdA K (He.fAd K ("ModelReader", some "named"))) ["self", "depth", "word", "used"] [] := F_ModelReader_named.binds (ps := ["self", "depth", "word", "used"]) fun _ _ _ _ _ _ us hl => match us, hl with | [_, _, _, _], _ => rfl
  have F_ModelReader_read_boxes : Fun K "read_boxes" "ModelReader.read_boxes" s_ModelReader_read_boxes (He.fAd K ("ModelReader", some "read_boxes")) (fdA K (He.fAd K ("ModelReader", some "read_boxes"))) := fun_of (c.fn_ 23 (d := d_ModelReader_read_boxes) rfl)
  have b_ModelReader_read_boxes : Binds K (fdA K (He.fAd K ("ModelReader", some "read_boxes"))) ["self"] [] := F_ModelReader_read_boxes.binds (ps := ["self"]) fun _ _ _ _ _ _ us hl => match us, hl with | [_], _ => rfl
  have F_ModelReader_read_queues : Fun K "read_queues" "ModelReader.read_queues" s_ModelReader_read_queues (He.fAd K ("ModelReader", some "read_queues")) (fdA K (He.fAd K ("ModelReader", some "read_queues"))) := fun_of (c.fn_ 24 (d := d_ModelReader_read_queues) rfl)
  have b_ModelReader_read_queues : Binds K (fdA K (He.fAd K ("ModelReader", some "read_queues"))) ["self", "used"] [] := F_ModelReader_read_queues.binds (ps := ["self", "used"]) fun _ _ _ _ _ _ us hl => match us, hl with | [_, _], _ => rfl
  have F_ModelReader_read_draws : Fun K "read_draws" "ModelReader.read_draws" s_ModelReader_read_draws (He.fAd K ("ModelReader", some "read_draws")) (fdA K (He.fAd K ("ModelReader", some "read_draws"))) := fun_of (c.fn_ 25 (d := d_ModelReader_read_draws) rfl)
  have b_ModelReader_read_draws : Binds K (fdA K (He.fAd K ("ModelReader", some "read_draws"))) ["self"] [] := F_ModelReader_read_draws.binds (ps := ["self"]) fun _ _ _ _ _ _ us hl => match us, hl with | [_], _ => rfl
  have F_ModelReader_read_hears : Fun K "read_hears" "ModelReader.read_hears" s_ModelReader_read_hears (He.fAd K ("ModelReader", some "read_hears")) (fdA K (He.fAd K ("ModelReader", some "read_hears"))) := fun_of (c.fn_ 26 (d := d_ModelReader_read_hears) rfl)
  have b_ModelReader_read_hears : Binds K (fdA K (He.fAd K ("ModelReader", some "read_hears"))) ["self"] [] := F_ModelReader_read_hears.binds (ps := ["self"]) fun _ _ _ _ _ _ us hl => match us, hl with | [_], _ => rfl
  have F_ModelReader_block : Fun K "block" "ModelReader.block" s_ModelReader_block (He.fAd K ("ModelReader", some "block")) (fdA K (He.fAd K ("ModelReader", some "block"))) := fun_of (c.fn_ 27 (d := d_ModelReader_block) rfl)
  have b_ModelReader_block : Binds K (fdA K (He.fAd K ("ModelReader", some "block"))) ["self", "depth", "deep"] [] := F_ModelReader_block.binds (ps := ["self", "depth", "deep"]) fun _ _ _ _ _ _ us hl => match us, hl with | [_, _, _], _ => rfl
  have F_ModelReader_deed : Fun K "deed" "ModelReader.deed" s_ModelReader_deed (He.fAd K ("ModelReader", some "deed")) (fdA K (He.fAd K ("ModelReader", some "deed"))) := fun_of (c.fn_ 28 (d := d_ModelReader_deed) rfl)
  have b_ModelReader_deed : Binds K (fdA K (He.fAd K ("ModelReader", some "deed"))) ["self", "depth", "deep"] [] := F_ModelReader_deed.binds (ps := ["self", "depth", "deep"]) fun _ _ _ _ _ _ us hl => match us, hl with | [_, _, _], _ => rfl
  have F_ModelReader_go_on : Fun K "go_on" "ModelReader.go_on" s_ModelReader_go_on (He.fAd K ("ModelReader", some "go_on")) (fdA K (He.fAd K ("ModelReader", some "go_on"))) := fun_of (c.fn_ 29 (d := d_ModelReader_go_on) rfl)
  have b_ModelReader_go_on : Binds K (fdA K (He.fAd K ("ModelReader", some "go_on"))) ["self"] [] := F_ModelReader_go_on.binds (ps := ["self"]) fun _ _ _ _ _ _ us hl => match us, hl with | [_], _ => rfl
  have F_ModelReader_choice : Fun K "choice" "ModelReader.choice" s_ModelReader_choice (He.fAd K ("ModelReader", some "choice")) (fdA K (He.fAd K ("ModelReader", some "choice"))) := fun_of (c.fn_ 30 (d := d_ModelReader_choice) rfl)
  have b_ModelReader_choice : Binds K (fdA K (He.fAd K ("ModelReader", some "choice"))) ["self", "formulas", "depth", "deep"] [] := F_ModelReader_choice.binds (ps := ["self", "formulas", "depth", "deep"]) fun _ _ _ _ _ _ us hl => match us, hl with | [_, _, _, _], _ => rfl
  have F_ModelReader_read_machines : Fun K "read_machines" "ModelReader.read_machines" s_ModelReader_read_machines (He.fAd K ("ModelReader", some "read_machines")) (fdA K (He.fAd K ("ModelReader", some "read_machines"))) := fun_of (c.fn_ 31 (d := d_ModelReader_read_machines) rfl)
  have b_ModelReader_read_machines : Binds K (fdA K (He.fAd K ("ModelReader", some "read_machines"))) ["self"] [] := F_ModelReader_read_machines.binds (ps := ["self"]) fun _ _ _ _ _ _ us hl => match us, hl with | [_], _ => rfl
  have F_read_model : Fun K "read_model" "read_model" s_read_model (He.fAd K ("read_model", none)) (fdA K (He.fAd K ("read_model", none))) := fun_of (c.fn_ 32 (d := d_read_model) rfl)
  have b_read_model : Binds K (fdA K (He.fAd K ("read_model", none))) ["text"] [] := F_read_model.binds (ps := ["text"]) fun _ _ _ _ _ _ us hl => match us, hl with | [_], _ => rfl
  have F__law_purse : Fun K "_law_purse" "_law_purse" s__law_purse (He.fAd K ("_law_purse", none)) (fdA K (He.fAd K ("_law_purse", none))) := fun_of (c.fn_ 33 (d := d__law_purse) rfl)
  have b__law_purse : Binds K (fdA K (He.fAd K ("_law_purse", none))) ["_law_script"] [] := F__law_purse.binds (ps := ["_law_script"]) fun _ _ _ _ _ _ us hl => match us, hl with | [_], _ => rfl
  have F__law_take : Fun K "_law_take" "_law_take" s__law_take (He.fAd K ("_law_take", none)) (fdA K (He.fAd K ("_law_take", none))) := fun_of (c.fn_ 34 (d := d__law_take) rfl)
  have b__law_take : Binds K (fdA K (He.fAd K ("_law_take", none))) ["_law_purse_here", "_law_many"] [] := F__law_take.binds (ps := ["_law_purse_here", "_law_many"]) fun _ _ _ _ _ _ us hl => match us, hl with | [_, _], _ => rfl
  have F__law_names : Fun K "_law_names" "_law_names" s__law_names (He.fAd K ("_law_names", none)) (fdA K (He.fAd K ("_law_names", none))) := fun_of (c.fn_ 35 (d := d__law_names) rfl)
  have b__law_names : Binds K (fdA K (He.fAd K ("_law_names", none))) ["_law_purse_here", "_law_many"] [] := F__law_names.binds (ps := ["_law_purse_here", "_law_many"]) fun _ _ _ _ _ _ us hl => match us, hl with | [_, _], _ => rfl
  have F__law_worth : Fun K "_law_worth" "_law_worth" s__law_worth (He.fAd K ("_law_worth", none)) (fdA K (He.fAd K ("_law_worth", none))) := fun_of (c.fn_ 36 (d := d__law_worth) rfl)
  have b__law_worth : Binds K (fdA K (He.fAd K ("_law_worth", none))) ["_law_purse_here"] [] := F__law_worth.binds (ps := ["_law_purse_here"]) fun _ _ _ _ _ _ us hl => match us, hl with | [_], _ => rfl
  have F__law_named : Fun K "_law_named" "_law_named" s__law_named (He.fAd K ("_law_named", none)) (fdA K (He.fAd K ("_law_named", none))) := fun_of (c.fn_ 37 (d := d__law_named) rfl)
  have b__law_named : Binds K (fdA K (He.fAd K ("_law_named", none))) ["_law_ahead", "_law_many"] [] := F__law_named.binds (ps := ["_law_ahead", "_law_many"]) fun _ _ _ _ _ _ us hl => match us, hl with | [_, _], _ => rfl
  have F__law_boxes : Fun K "_law_boxes" "_law_boxes" s__law_boxes (He.fAd K ("_law_boxes", none)) (fdA K (He.fAd K ("_law_boxes", none))) := fun_of (c.fn_ 38 (d := d__law_boxes) rfl)
  have b__law_boxes : Binds K (fdA K (He.fAd K ("_law_boxes", none))) ["_law_many"] [] := F__law_boxes.binds (ps := ["_law_many"]) fun _ _ _ _ _ _ us hl => match us, hl with | [_], _ => rfl
  have F__law_queues : Fun K "_law_queues" "_law_queues" s__law_queues (He.fAd K ("_law_queues", none)) (fdA K (He.fAd K ("_law_queues", none))) := fun_of (c.fn_ 39 (d := d__law_queues) rfl)
  have b__law_queues : Binds K (fdA K (He.fAd K ("_law_queues", none))) ["_law_many"] [] := F__law_queues.binds (ps := ["_law_many"]) fun _ _ _ _ _ _ us hl => match us, hl with | [_], _ => rfl
  have F__law_draws : Fun K "_law_draws" "_law_draws" s__law_draws (He.fAd K ("_law_draws", none)) (fdA K (He.fAd K ("_law_draws", none))) := fun_of (c.fn_ 40 (d := d__law_draws) rfl)
  have b__law_draws : Binds K (fdA K (He.fAd K ("_law_draws", none))) ["_law_many"] [] := F__law_draws.binds (ps := ["_law_many"]) fun _ _ _ _ _ _ us hl => match us, hl with | [_], _ => rfl
  have F__law_signs : Fun K "_law_signs" "_law_signs" s__law_signs (He.fAd K ("_law_signs", none)) (fdA K (He.fAd K ("_law_signs", none))) := fun_of (c.fn_ 41 (d := d__law_signs) rfl)
  have b__law_signs : Binds K (fdA K (He.fAd K ("_law_signs", none))) ["_law_many"] [] := F__law_signs.binds (ps := ["_law_many"]) fun _ _ _ _ _ _ us hl => match us, hl with | [_], _ => rfl
  have F__law_deeds : Fun K "_law_deeds" "_law_deeds" s__law_deeds (He.fAd K ("_law_deeds", none)) (fdA K (He.fAd K ("_law_deeds", none))) := fun_of (c.fn_ 42 (d := d__law_deeds) rfl)
  have b__law_deeds : Binds K (fdA K (He.fAd K ("_law_deeds", none))) ["_law_many", "_law_inside"] [] := F__law_deeds.binds (ps := ["_law_many", "_law_inside"]) fun _ _ _ _ _ _ us hl => match us, hl with | [_, _], _ => rfl
  have F__law_deep : Fun K "_law_deep" "_law_deep" s__law_deep (He.fAd K ("_law_deep", none)) (fdA K (He.fAd K ("_law_deep", none))) := fun_of (c.fn_ 43 (d := d__law_deep) rfl)
  have b__law_deep : Binds K (fdA K (He.fAd K ("_law_deep", none))) ["_law_many"] [] := F__law_deep.binds (ps := ["_law_many"]) fun _ _ _ _ _ _ us hl => match us, hl with | [_], _ => rfl
  have F__law_parts : Fun K "_law_parts" "_law_parts" s__law_parts (He.fAd K ("_law_parts", none)) (fdA K (He.fAd K ("_law_parts", none))) := fun_of (c.fn_ 44 (d := d__law_parts) rfl)
  have b__law_parts : Binds K (fdA K (He.fAd K ("_law_parts", none))) ["_law_many", "_law_word"] [] := F__law_parts.binds (ps := ["_law_many", "_law_word"]) fun _ _ _ _ _ _ us hl => match us, hl with | [_, _], _ => rfl
  have F__law_machines : Fun K "_law_machines" "_law_machines" s__law_machines (He.fAd K ("_law_machines", none)) (fdA K (He.fAd K ("_law_machines", none))) := fun_of (c.fn_ 45 (d := d__law_machines) rfl)
  have b__law_machines : Binds K (fdA K (He.fAd K ("_law_machines", none))) ["_law_many"] [] := F__law_machines.binds (ps := ["_law_many"]) fun _ _ _ _ _ _ us hl => match us, hl with | [_], _ => rfl
  have F__law_good : Fun K "_law_good" "_law_good" s__law_good (He.fAd K ("_law_good", none)) (fdA K (He.fAd K ("_law_good", none))) := fun_of (c.fn_ 46 (d := d__law_good) rfl)
  have b__law_good : Binds K (fdA K (He.fAd K ("_law_good", none))) ["_law_lines", "_law_bad"] [] := F__law_good.binds (ps := ["_law_lines", "_law_bad"]) fun _ _ _ _ _ _ us hl => match us, hl with | [_, _], _ => rfl
  have F_law : Fun K "law" "law" s_law (He.fAd K ("law", none)) (fdA K (He.fAd K ("law", none))) := fun_of (c.fn_ 47 (d := d_law) rfl)
  have b_law : Binds K (fdA K (He.fAd K ("law", none))) ["_law_script"] [] := F_law.binds (ps := ["_law_script"]) fun _ _ _ _ _ _ us hl => match us, hl with | [_], _ => rfl
  exact ⟨He.glo_ok X G (c.fact 0),
    He.glo_ok X G (c.fact 1),
    He.glo_ok X G (c.fact 2),
    He.cls_ok (c.fact 3),
    He.noat_ok (c.fact 4),
    He.noat_ok (c.fact 5),
    He.noat_ok (c.fact 6),
    ⟨He.glo_ok X G (c.fact 2), He.mkr_ok (c.fact 7), b_Words_init⟩,
    He.glo_ok X G (c.fact 8),
    He.cls_ok (c.fact 9),
    He.noat_ok (c.fact 10),
    He.noat_ok (c.fact 11),
    He.noat_ok (c.fact 12),
    ⟨He.glo_ok X G (c.fact 8), He.mkr_ok (c.fact 13), b_ModelReader_init⟩,
    oexB_ok (c.ex 0 rfl),
    b_NoText_init,
    He.exm_ok (c.fact 14),
    excC_of (c.ex 1 rfl),
    He.free_ok X G (c.fact 15),
    He.free_ok X G (c.fact 16),
    He.free_ok X G (c.fact 17),
    He.free_ok X G (c.fact 18),
    He.free_ok X G (c.fact 19),
    He.free_ok X G (c.fact 20),
    He.str_ok X G (c.fact 21),
    He.str_ok X G (c.fact 22),
    He.int_ok X G (c.fact 23),
    He.int_ok X G (c.fact 24),
    He.glo_ok X G (c.fact 25),
    fun H => He.tupB_ok (c.ex 2 rfl) H,
    fun H => tupTy_ok (c.ex 3 rfl) H,
    He.glo_ok X G (c.fact 26),
    fun H => He.tupB_ok (c.ex 4 rfl) H,
    fun H => tupTy_ok (c.ex 5 rfl) H,
    He.int_ok X G (c.fact 27),
    He.int_ok X G (c.fact 28),
    He.int_ok X G (c.fact 29),
    He.int_ok X G (c.fact 30),
    He.int_ok X G (c.fact 31),
    He.int_ok X G (c.fact 32),
    He.int_ok X G (c.fact 33),
    He.int_ok X G (c.fact 34),
    F_NoText_init,
    F_is_name,
    ⟨He.glo_ok X G (c.fact 35), F_is_name.kp, b_is_name⟩,
    F_whole_of,
    ⟨He.glo_ok X G (c.fact 36), F_whole_of.kp, b_whole_of⟩,
    F_within,
    ⟨He.glo_ok X G (c.fact 37), F_within.kp, b_within⟩,
    F_worth_word,
    ⟨He.glo_ok X G (c.fact 38), F_worth_word.kp, b_worth_word⟩,
    F_formula_words,
    ⟨He.glo_ok X G (c.fact 39), F_formula_words.kp, b_formula_words⟩,
    F_lone_formula,
    ⟨He.glo_ok X G (c.fact 40), F_lone_formula.kp, b_lone_formula⟩,
    F_Words_init,
    F_Words_formula,
    F_Words_next_formula,
    F_formulas_of,
    ⟨He.glo_ok X G (c.fact 41), F_formulas_of.kp, b_formulas_of⟩,
    F_deeper,
    ⟨He.glo_ok X G (c.fact 42), F_deeper.kp, b_deeper⟩,
    F_deed_lines,
    ⟨He.glo_ok X G (c.fact 43), F_deed_lines.kp, b_deed_lines⟩,
    F_deeds_lines,
    ⟨He.glo_ok X G (c.fact 44), F_deeds_lines.kp, b_deeds_lines⟩,
    F_machine_lines,
    ⟨He.glo_ok X G (c.fact 45), F_machine_lines.kp, b_machine_lines⟩,
    F_model_text,
    ⟨He.glo_ok X G (c.fact 46), F_model_text.kp, b_model_text⟩,
    F_lines_of,
    ⟨He.glo_ok X G (c.fact 47), F_lines_of.kp, b_lines_of⟩,
    F_named_deed,
    ⟨He.glo_ok X G (c.fact 48), F_named_deed.kp, b_named_deed⟩,
    F_send_deed,
    ⟨He.glo_ok X G (c.fact 49), F_send_deed.kp, b_send_deed⟩,
    F_ModelReader_init,
    F_ModelReader_refuse,
    F_ModelReader_here,
    F_ModelReader_named,
    F_ModelReader_read_boxes,
    F_ModelReader_read_queues,
    F_ModelReader_read_draws,
    F_ModelReader_read_hears,
    F_ModelReader_block,
    F_ModelReader_deed,
    F_ModelReader_go_on,
    F_ModelReader_choice,
    F_ModelReader_read_machines,
    F_read_model,
    ⟨He.glo_ok X G (c.fact 50), F_read_model.kp, b_read_model⟩,
    F__law_purse,
    ⟨He.glo_ok X G (c.fact 51), F__law_purse.kp, b__law_purse⟩,
    F__law_take,
    ⟨He.glo_ok X G (c.fact 52), F__law_take.kp, b__law_take⟩,
    F__law_names,
    ⟨He.glo_ok X G (c.fact 53), F__law_names.kp, b__law_names⟩,
    F__law_worth,
    ⟨He.glo_ok X G (c.fact 54), F__law_worth.kp, b__law_worth⟩,
    F__law_named,
    ⟨He.glo_ok X G (c.fact 55), F__law_named.kp, b__law_named⟩,
    F__law_boxes,
    ⟨He.glo_ok X G (c.fact 56), F__law_boxes.kp, b__law_boxes⟩,
    F__law_queues,
    ⟨He.glo_ok X G (c.fact 57), F__law_queues.kp, b__law_queues⟩,
    F__law_draws,
    ⟨He.glo_ok X G (c.fact 58), F__law_draws.kp, b__law_draws⟩,
    F__law_signs,
    ⟨He.glo_ok X G (c.fact 59), F__law_signs.kp, b__law_signs⟩,
    F__law_deeds,
    ⟨He.glo_ok X G (c.fact 60), F__law_deeds.kp, b__law_deeds⟩,
    F__law_deep,
    ⟨He.glo_ok X G (c.fact 61), F__law_deep.kp, b__law_deep⟩,
    F__law_parts,
    ⟨He.glo_ok X G (c.fact 62), F__law_parts.kp, b__law_parts⟩,
    F__law_machines,
    ⟨He.glo_ok X G (c.fact 63), F__law_machines.kp, b__law_machines⟩,
    F__law_good,
    ⟨He.glo_ok X G (c.fact 64), F__law_good.kp, b__law_good⟩,
    F_law,
    ⟨He.glo_ok X G (c.fact 65), F_law.kp, b_law⟩,
    ⟨He.meth_ok (c.fact 66), b_Words_formula⟩,
    ⟨He.meth_ok (c.fact 67), b_Words_next_formula⟩,
    ⟨He.meth_ok (c.fact 68), b_ModelReader_refuse⟩,
    ⟨He.meth_ok (c.fact 69), b_ModelReader_here⟩,
    ⟨He.meth_ok (c.fact 70), b_ModelReader_named⟩,
    ⟨He.meth_ok (c.fact 71), b_ModelReader_read_boxes⟩,
    ⟨He.meth_ok (c.fact 72), b_ModelReader_read_queues⟩,
    ⟨He.meth_ok (c.fact 73), b_ModelReader_read_draws⟩,
    ⟨He.meth_ok (c.fact 74), b_ModelReader_read_hears⟩,
    ⟨He.meth_ok (c.fact 75), b_ModelReader_block⟩,
    ⟨He.meth_ok (c.fact 76), b_ModelReader_deed⟩,
    ⟨He.meth_ok (c.fact 77), b_ModelReader_go_on⟩,
    ⟨He.meth_ok (c.fact 78), b_ModelReader_choice⟩,
    ⟨He.meth_ok (c.fact 79), b_ModelReader_read_machines⟩⟩
end Mo
namespace Mo
open PySem PySem.Spec PyProof.Rows L2
/-! ### formulas, faults, states: plain Lean -/
inductive Op where
  | plus | less | times | part | rest | below | same
  deriving DecidableEq
def Op.name : Op → Str
  | .plus => "plus" | .less => "less" | .times => "times" | .part => "part" | .rest => "rest" | .below => "below" | .same => "same"
inductive Fm where
  | num (n : Int) | box (x : Str) | long (q : Str) | got (j : Nat) | now | two (o : Op) (f g : Fm)
  deriving DecidableEq
def Fm.data : Fm → PyData
  | .num n => .tuple [.str "number", .int n]
  | .box x => .tuple [.str "box", .str x]
  | .long q => .tuple [.str "long", .str q]
  | .got j => .tuple [.str "got", .int (j : Int)]
  | .now => .tuple [.str "now"]
  | .two o f g => .tuple [.str o.name, f.data, g.data]
inductive Flt where
  | nought | great | full | dry | span | late
  deriving DecidableEq
def Flt.cls : Flt → Str
  | .nought => "Nought" | .great => "Great" | .full => "Full" | .dry => "Dry" | .span => "Span" | .late => "Late"
def Flt.word : Flt → Str
  | .nought => "nought" | .great => "great" | .full => "full" | .dry => "dry" | .span => "span" | .late => "late"
def Worth (n : Int) : Prop := -1000000000000000 ≤ n ∧ n ≤ 1000000000000000
theorem worth_bd {n : Int} (h : Worth n) : Bd 50 n := by
  obtain ⟨h1, h2⟩ := h
  show n.natAbs < 1125899906842624
  omega
def Op.raw (o : Op) (a b : Int) : Except Flt Int := match o with
  | .plus => .ok (a + b)
  | .less => .ok (a - b)
  | .times => .ok (a * b)
  | .below => .ok (if a < b then 1 else 0)
  | .same => .ok (if a = b then 1 else 0)
  | .part => if b = 0 then .error .nought else .ok (a.fdiv b)
  | .rest => if b = 0 then .error .nought else .ok (a.fmod b)
def keptIn (n : Int) : Except Flt Int := if n < -1000000000000000 ∨ 1000000000000000 < n then .error .great else .ok n
def Op.ev (o : Op) (a b : Int) : Except Flt Int := match o.raw a b with
  | .ok n => keptIn n
  | .error e => .error e
/-- what a formula is reckoned by -/
structure Env where
  boxes : Str → Int
  longs : Str → Nat
  now : Int
  got : Nat → Int
def Fm.ev (e : Env) : Fm → Except Flt Int
  | .num n => .ok n
  | .box x => .ok (e.boxes x)
  | .long q => .ok (e.longs q : Int)
  | .got j => .ok (e.got j)
  | .now => .ok e.now
  | .two o f g => match f.ev e with
    | .error x => .error x
    | .ok a => match g.ev e with
      | .error x => .error x
      | .ok b => o.ev a b
def Fm.depth : Fm → Nat
  | .two _ f g => max f.depth g.depth + 1
  | _ => 0
def Fm.size : Fm → Nat
  | .two _ f g => f.size + g.size + 1
  | _ => 1
theorem Fm.depth_lt_size : ∀ f : Fm, f.depth < f.size
  | .num _ => Nat.zero_lt_one
  | .box _ => Nat.zero_lt_one
  | .long _ => Nat.zero_lt_one
  | .got _ => Nat.zero_lt_one
  | .now => Nat.zero_lt_one
  | .two _ f g => by
    have h1 := depth_lt_size f
    have h2 := depth_lt_size g
    show max f.depth g.depth + 1 < f.size + g.size + 1
    omega
/-- a formula by names that are there, with worths -/
def Fm.Ok (bs qs : List Str) : Fm → Prop
  | .num n => Worth n
  | .box x => x ∈ bs
  | .long q => q ∈ qs
  | .got j => j < 2
  | .now => True
  | .two _ f g => f.Ok bs qs ∧ g.Ok bs qs
structure Env.Ok (e : Env) (bs qs : List Str) : Prop where
  boxes : ∀ x ∈ bs, Worth (e.boxes x)
  longs : ∀ q ∈ qs, e.longs q ≤ 100000
  now : Worth e.now
  got : ∀ j, j < 2 → Worth (e.got j)
theorem keptIn_ok {n m : Int} (h : keptIn n = .ok m) : Worth m := by
  unfold keptIn at h
  split at h
  · cases h
  · cases h
    unfold Worth
    omega
theorem Fm.ev_worth {e : Env} {bs qs : List Str} (he : e.Ok bs qs) : ∀ {f : Fm} {n : Int}, f.Ok bs qs → f.ev e = .ok n → Worth n
  | .num m, n, h, q => by cases q; exact h
  | .box x, n, h, q => by cases q; exact he.boxes x h
  | .long x, n, h, q => by
    cases q
    have := he.longs x h
    show -(1000000000000000 : Int) ≤ (e.longs x : Int) ∧ (e.longs x : Int) ≤ 1000000000000000
    omega
  | .got j, n, h, q => by cases q; exact he.got j h
  | .now, n, h, q => by cases q; exact he.now
  | .two o f g, n, h, q => by
    unfold Fm.ev at q
    cases h1 : f.ev e with
    | error x => rw [h1] at q; cases q
    | ok a =>
      rw [h1] at q
      cases h2 : g.ev e with
      | error x => rw [h2] at q; cases q
      | ok b =>
        rw [h2] at q
        have q' : o.ev a b = .ok n := q
        unfold Op.ev at q'
        cases h3 : o.raw a b with
        | error x => rw [h3] at q'; cases q'
        | ok c =>
          rw [h3] at q'
          exact keptIn_ok q'
/-- a machine's state -/
structure MSt where
  boxes : List (Str × Int)
  queues : List (Str × List Int)
  drawn : Int
  sent : Int
def boxesV (bs : List (Str × Int)) : List (Key × V) := bs.map fun p => (Sum.inr p.1, V.int p.2)
/-- the pairs of the dict of queues: the lists' addresses -/
def queuesV (qs : List (Str × List Int)) (as : List Addr) : List (Key × V) := (qs.zip as).map fun p => (Sum.inr p.1.1, V.ref p.2)
def lookD {α : Type} (d : α) (x : Str) : List (Str × α) → α
  | [] => d
  | p :: r => if p.1 = x then p.2 else lookD d x r
theorem val_boxes : ∀ {bs : List (Str × Int)} {x : Str}, x ∈ bs.map (·.1) → valV (boxesV bs) (Sum.inr x) = some (.int (lookD 0 x bs))
  | [], x, h => by simp at h
  | p :: r, x, h => by
    show valV ((Sum.inr p.1, V.int p.2) :: boxesV r) (Sum.inr x) = some (.int (if p.1 = x then p.2 else lookD 0 x r))
    by_cases e : p.1 = x
    · rw [if_pos e]
      exact valV_pos (by show (Sum.inr p.1 : Key) = Sum.inr x; rw [e])
    · rw [if_neg e, valV_neg (by show ¬ (Sum.inr p.1 : Key) = Sum.inr x; exact fun z => e (Sum.inr.inj z))]
      rw [List.map_cons] at h
      exact val_boxes ((List.mem_cons.mp h).resolve_left fun z => e z.symm)
theorem val_queues : ∀ {qs : List (Str × List Int)} {as : List Addr} {x : Str}, qs.length = as.length → x ∈ qs.map (·.1) → ∃ (i : Nat) (a : Addr), qs[i]? = some (x, lookD [] x qs) ∧ as[i]? = some a ∧ valV (queuesV qs as) (Sum.inr x) = some (.ref a)
  | [], _, x, _, h => by simp at h
  | p :: r, [], _, hl, _ => by simp at hl
  | p :: r, a :: as, x, hl, h => by
    have ev : queuesV (p :: r) (a :: as) = (Sum.inr p.1, V.ref a) :: queuesV r as := rfl
    by_cases e : p.1 = x
    · refine ⟨0, a, ?_, rfl, ?_⟩
      · show some p = some (x, if p.1 = x then p.2 else lookD [] x r)
        rw [if_pos e, ← e]
      · rw [ev]
        exact valV_pos (by show (Sum.inr p.1 : Key) = Sum.inr x; rw [e])
    · rw [List.map_cons] at h
      obtain ⟨i, b, h1, h2, h3⟩ := val_queues (qs := r) (as := as) (x := x) (by simpa using hl) ((List.mem_cons.mp h).resolve_left fun z => e z.symm)
      refine ⟨i + 1, b, ?_, h2, ?_⟩
      · show r[i]? = some (x, if p.1 = x then p.2 else lookD [] x r)
        rw [if_neg e]
        exact h1
      · rw [ev, valV_neg (by show ¬ (Sum.inr p.1 : Key) = Sum.inr x; exact fun z => e (Sum.inr.inj z))]
        exact h3
/-- objects that stand in a heap -/
abbrev Ck : Type := List (Addr × HO)
def InH (H : Hp) (C : Ck) : Prop := ∀ e ∈ C, H e.1 = some e.2
def vo (C : Ck) : Vo := C.map fun e => (e.1, Eq e.2)
theorem InH.ext {H H' : Hp} {C : Ck} (h : InH H C) (e : Ext H H') : InH H' C := fun x m => e _ _ (h x m)
theorem Hd.inH {G H : Hp} {L : Vo} {C : Ck} (h : Hd G H L) (s : ∀ e ∈ vo C, e ∈ L) : InH H C := fun e m => h.eq (s (e.1, Eq e.2) (List.mem_map_of_mem m))
/-- the envelope of a state, a time, two worths that came -/
def MSt.env (s : MSt) (now : Int) (g0 g1 : Int) : Env := ⟨fun x => lookD 0 x s.boxes, fun x => (lookD [] x s.queues).length, now, fun j => if j = 0 then g0 else g1⟩
def MSt.bs (s : MSt) : List Str := s.boxes.map (·.1)
def MSt.qs (s : MSt) : List Str := s.queues.map (·.1)
end Mo
namespace Mo
open PySem PySem.Spec PyProof.Rows L2
/-! ### deeds, machines: plain Lean -/
inductive Dd where
  | put (b : Str) (f : Fm) | push (q : Str) (f : Fm) | pull (q b : Str) (ds : List Dd) | draw (b : Str) (f : Fm)
  | send (to : Int) (sign : Str) (span : Fm) (rank : Int) (g h : Fm) | iff (f : Fm) (ones others : List Dd) | fin
mutual
def Dd.data : Dd → PyData
  | .put b f => .tuple [.str "put", .str b, f.data]
  | .push q f => .tuple [.str "push", .str q, f.data]
  | .pull q b ds => .tuple [.str "pull", .str q, .str b, .list (Dd.datas ds)]
  | .draw b f => .tuple [.str "draw", .str b, f.data]
  | .send to sign span rank g h => .tuple [.str "send", .int to, .str sign, span.data, .int rank, g.data, h.data]
  | .iff f ones others => .tuple [.str "if", f.data, .list (Dd.datas ones), .list (Dd.datas others)]
  | .fin => .tuple [.str "end"]
def Dd.datas : List Dd → List PyData
  | [] => []
  | d :: ds => d.data :: Dd.datas ds
end
mutual
def Dd.depth : Dd → Nat
  | .pull _ _ ds => Dd.depths ds + 1
  | .iff _ ones others => max (Dd.depths ones) (Dd.depths others) + 1
  | _ => 0
def Dd.depths : List Dd → Nat
  | [] => 0
  | d :: ds => max (d.depth + 1) (Dd.depths ds)
end
mutual
/-- no list of more than a thousand deeds -/
def Dd.Sm : Dd → Prop
  | .pull _ _ ds => ds.length ≤ 1000 ∧ Dd.Sms ds
  | .iff _ a b => (a.length ≤ 1000 ∧ Dd.Sms a) ∧ (b.length ≤ 1000 ∧ Dd.Sms b)
  | _ => True
def Dd.Sms : List Dd → Prop
  | [] => True
  | d :: ds => d.Sm ∧ Dd.Sms ds
end
theorem sms_get : ∀ {ds : List Dd} {i : Nat} {d : Dd}, Dd.Sms ds → ds[i]? = some d → d.Sm
  | [], _, _, _, h => by simp at h
  | e :: ds, 0, d, k, h => by
    simp only [List.getElem?_cons_zero, Option.some.injEq] at h
    subst h
    rw [Dd.Sms] at k
    exact k.1
  | e :: ds, i + 1, d, k, h => by
    rw [List.getElem?_cons_succ] at h
    rw [Dd.Sms] at k
    exact sms_get k.2 h
theorem datas_map : ∀ ds : List Dd, Dd.datas ds = ds.map Dd.data
  | [] => by rw [Dd.datas, List.map_nil]
  | d :: ds => by rw [Dd.datas, datas_map ds, List.map_cons]
theorem datas_app (ds es : List Dd) : Dd.datas (ds ++ es) = Dd.datas ds ++ Dd.datas es := by rw [datas_map, datas_map, datas_map, List.map_append]
theorem datas_take {ds : List Dd} {i : Nat} {d : Dd} (h : ds[i]? = some d) : Dd.datas (ds.take (i + 1)) = Dd.datas (ds.take i) ++ [d.data] := by
  rw [datas_map, datas_map, List.take_add_one, h, List.map_append]
  rfl
theorem depths_get : ∀ {ds : List Dd} {i : Nat} {d : Dd}, ds[i]? = some d → d.depth < Dd.depths ds
  | [], _, _, h => by simp at h
  | e :: ds, 0, d, h => by
    simp only [List.getElem?_cons_zero, Option.some.injEq] at h
    subst h
    rw [Dd.depths]
    omega
  | e :: ds, i + 1, d, h => by
    rw [List.getElem?_cons_succ] at h
    have := depths_get h
    rw [Dd.depths]
    omega
structure Mach where
  name : Str
  boxes : List (Str × Int)
  queues : List Str
  draws : List Int
  hears : List (Str × List Dd)
def boxD (p : Str × Int) : PyData := .tuple [.str p.1, .int p.2]
def hearD (p : Str × List Dd) : PyData := .tuple [.str p.1, .list (Dd.datas p.2)]
def Mach.data (m : Mach) : PyData := .tuple [.str m.name, .list (m.boxes.map boxD), .list (m.queues.map PyData.str), .list (m.draws.map PyData.int), .list (m.hears.map hearD)]
def Mach.depth (m : Mach) : Nat := m.hears.foldr (fun p n => max (Dd.depths p.2) n) 0
theorem Mach.depth_get {hs : List (Str × List Dd)} {i : Nat} {p : Str × List Dd} (h : hs[i]? = some p) : Dd.depths p.2 ≤ hs.foldr (fun p n => max (Dd.depths p.2) n) 0 := by
  induction hs generalizing i with
  | nil => simp at h
  | cons q hs ih =>
    rw [List.foldr_cons]
    cases i with
    | zero =>
      simp only [List.getElem?_cons_zero, Option.some.injEq] at h
      subst h
      omega
    | succ i =>
      rw [List.getElem?_cons_succ] at h
      have := ih h
      omega
/-- the state in which a machine begins -/
def Mach.first (m : Mach) : MSt := ⟨m.boxes, m.queues.map fun q => (q, []), 0, 0⟩
/-! ### deeds that stand in a heap: their lists in H, what is of tuples alone in G -/
section
variable (K : PySem.W.Frag) (G H : Hp)
mutual
inductive DdIn : V → Dd → Prop
  | put {v : V} {b : Str} {f : Fm} (h : Dp K G v (Dd.data (.put b f))) : DdIn v (.put b f)
  | push {v : V} {q : Str} {f : Fm} (h : Dp K G v (Dd.data (.push q f))) : DdIn v (.push q f)
  | draw {v : V} {b : Str} {f : Fm} (h : Dp K G v (Dd.data (.draw b f))) : DdIn v (.draw b f)
  | send {v : V} {to : Int} {sign : Str} {span : Fm} {rank : Int} {g h : Fm} (q : Dp K G v (Dd.data (.send to sign span rank g h))) : DdIn v (.send to sign span rank g h)
  | fin {v : V} (h : Dp K G v (Dd.data .fin)) : DdIn v .fin
  | pull {a l : Addr} {q b : Str} {vs : List V} {ds : List Dd} (ht : SqT K H a [.str "pull", .str q, .str b, .ref l]) (hl : SqL K H l vs) (hs : DdsIn vs ds) : DdIn (.ref a) (.pull q b ds)
  | iff {a l m : Addr} {f : Fm} {v : V} {vs ws : List V} {ones others : List Dd} (ht : SqT K H a [.str "if", v, .ref l, .ref m]) (hf : Dp K G v f.data) (hl : SqL K H l vs) (hs : DdsIn vs ones) (hm : SqL K H m ws) (hr : DdsIn ws others) : DdIn (.ref a) (.iff f ones others)
inductive DdsIn : List V → List Dd → Prop
  | nil : DdsIn [] []
  | cons {v : V} {vs : List V} {d : Dd} {ds : List Dd} (h : DdIn v d) (r : DdsIn vs ds) : DdsIn (v :: vs) (d :: ds)
end
end
section
variable {K : PySem.W.Frag} {G G' H H' : Hp}
mutual
theorem ddIn_mono (e : Ext G G') (e' : Ext H H') : ∀ {v : V} {d : Dd}, DdIn K G H v d → DdIn K G' H' v d
  | _, _, .put h => .put (dp_mono e h)
  | _, _, .push h => .push (dp_mono e h)
  | _, _, .draw h => .draw (dp_mono e h)
  | _, _, .send h => .send (dp_mono e h)
  | _, _, .fin h => .fin (dp_mono e h)
  | _, _, .pull h1 h2 h3 => .pull (ext_t e' h1) (ext_l e' h2) (ddsIn_mono e e' h3)
  | _, _, .iff h1 h2 h3 h4 h5 h6 => .iff (ext_t e' h1) (dp_mono e h2) (ext_l e' h3) (ddsIn_mono e e' h4) (ext_l e' h5) (ddsIn_mono e e' h6)
theorem ddsIn_mono (e : Ext G G') (e' : Ext H H') : ∀ {vs : List V} {ds : List Dd}, DdsIn K G H vs ds → DdsIn K G' H' vs ds
  | _, _, .nil => .nil
  | _, _, .cons h r => .cons (ddIn_mono e e' h) (ddsIn_mono e e' r)
end
theorem ddsIn_len : ∀ {vs : List V} {ds : List Dd}, DdsIn K G H vs ds → vs.length = ds.length
  | _, _, .nil => rfl
  | _, _, .cons _ r => by rw [List.length_cons, List.length_cons, ddsIn_len r]
theorem ddsIn_get : ∀ {vs : List V} {ds : List Dd} {i : Nat} {v : V}, DdsIn K G H vs ds → vs[i]? = some v → ∃ d, ds[i]? = some d ∧ DdIn K G H v d
  | _, _, _, _, .nil, e => by simp at e
  | _, _, 0, _, .cons h _, e => by
    simp only [List.getElem?_cons_zero, Option.some.injEq] at e
    subst e
    exact ⟨_, rfl, h⟩
  | _, _, i + 1, _, .cons _ r, e => by
    rw [List.getElem?_cons_succ] at e
    obtain ⟨d, h1, h2⟩ := ddsIn_get r e
    exact ⟨d, by rw [List.getElem?_cons_succ]; exact h1, h2⟩
mutual
/-- what stays is also in the heap -/
theorem ddIn_of (e : Ext G H) : ∀ (d : Dd) {v : V}, Dp K G v d.data → DdIn K G H v d
  | .put b f, _, h => .put h
  | .push q f, _, h => .push h
  | .draw b f, _, h => .draw h
  | .send to sign span rank g k, _, h => .send h
  | .fin, _, h => .fin h
  | .pull q b ds, v, h => by
    rw [Dd.data] at h
    obtain ⟨a, xs, rfl, h1, h2⟩ := dp_tup h
    cases h2 with
    | cons e1 h2 => cases h2 with
      | cons e2 h2 => cases h2 with
        | cons e3 h2 => cases h2 with
          | cons e4 h2 =>
            cases h2
            obtain rfl := dp_str e1
            obtain rfl := dp_str e2
            obtain rfl := dp_str e3
            obtain ⟨l, ys, rfl, h3, h4⟩ := dp_lst e4
            exact .pull (ext_t e h1) (ext_l e h3) (ddsIn_of e ds h4)
  | .iff f ones others, v, h => by
    rw [Dd.data] at h
    obtain ⟨a, xs, rfl, h1, h2⟩ := dp_tup h
    cases h2 with
    | cons e1 h2 => cases h2 with
      | cons e2 h2 => cases h2 with
        | cons e3 h2 => cases h2 with
          | cons e4 h2 =>
            cases h2
            obtain rfl := dp_str e1
            obtain ⟨l, ys, rfl, h3, h4⟩ := dp_lst e3
            obtain ⟨m, zs, rfl, h5, h6⟩ := dp_lst e4
            exact .iff (ext_t e h1) e2 (ext_l e h3) (ddsIn_of e ones h4) (ext_l e h5) (ddsIn_of e others h6)
theorem ddsIn_of (e : Ext G H) : ∀ (ds : List Dd) {vs : List V}, DpAll K G vs (Dd.datas ds) → DdsIn K G H vs ds
  | [], _, h => by
    rw [Dd.datas] at h
    cases h
    exact .nil
  | d :: ds, _, h => by
    rw [Dd.datas] at h
    cases h with
    | cons h1 h2 => exact .cons (ddIn_of e d h1) (ddsIn_of e ds h2)
end
def Dd.tag : Dd → Str
  | .put _ _ => "put" | .push _ _ => "push" | .pull _ _ _ => "pull" | .draw _ _ => "draw" | .send _ _ _ _ _ _ => "send" | .iff _ _ _ => "if" | .fin => "end"
theorem ddIn_head (e : Ext G H) : ∀ {d : Dd} {x : V}, DdIn K G H x d → ∃ t xs, x = .ref t ∧ SqT K H t (.str d.tag :: xs) := by
  have one : ∀ {x : V} {s : Str} {ds : List PyData}, Dp K G x (.tuple (.str s :: ds)) → ∃ t xs, x = .ref t ∧ SqT K H t (.str s :: xs) := fun {x s ds} h => by
    obtain ⟨t, xs, rfl, h1, h2⟩ := dp_tup h
    cases h2 with
    | cons e1 h2 =>
      obtain rfl := dp_str e1
      exact ⟨t, _, rfl, ext_t e h1⟩
  intro d x h
  cases h with
  | put h => rw [Dd.data] at h; exact one h
  | push h => rw [Dd.data] at h; exact one h
  | draw h => rw [Dd.data] at h; exact one h
  | send h => rw [Dd.data] at h; exact one h
  | fin h => rw [Dd.data] at h; exact one h
  | pull h1 h2 h3 => exact ⟨_, _, rfl, h1⟩
  | iff h1 h2 h3 h4 h5 h6 => exact ⟨_, _, rfl, h1⟩
theorem ddIn_plain {d : Dd} {x : V} (h : DdIn K G H x d) (h1 : ¬ d.tag = "if") (h2 : ¬ d.tag = "pull") : Dp K G x d.data := by
  cases h with
  | put h => exact h
  | push h => exact h
  | draw h => exact h
  | send h => exact h
  | fin h => exact h
  | pull _ _ _ => exact absurd rfl h2
  | iff _ _ _ _ _ _ => exact absurd rfl h1
theorem ddIn_if {d : Dd} {x : V} (h : DdIn K G H x d) (ht : d.tag = "if") : ∃ f ones others a l m v vs ws, d = .iff f ones others ∧ x = .ref a ∧ SqT K H a [.str "if", v, .ref l, .ref m] ∧ Dp K G v f.data ∧ SqL K H l vs ∧ DdsIn K G H vs ones ∧ SqL K H m ws ∧ DdsIn K G H ws others := by
  cases h with
  | iff h1 h2 h3 h4 h5 h6 => exact ⟨_, _, _, _, _, _, _, _, _, rfl, rfl, h1, h2, h3, h4, h5, h6⟩
  | _ => dsimp only [Dd.tag] at ht; exact absurd ht (by decide +kernel)
theorem ddIn_pull {d : Dd} {x : V} (h : DdIn K G H x d) (ht : d.tag = "pull") : ∃ q b ds a l vs, d = .pull q b ds ∧ x = .ref a ∧ SqT K H a [.str "pull", .str q, .str b, .ref l] ∧ SqL K H l vs ∧ DdsIn K G H vs ds := by
  cases h with
  | pull h1 h2 h3 => exact ⟨_, _, _, _, _, _, rfl, rfl, h1, h2, h3⟩
  | _ => dsimp only [Dd.tag] at ht; exact absurd ht (by decide +kernel)
end
/-- a machine that stands in a heap: its lists in H -/
def MachIn (K : PySem.W.Frag) (G H : Hp) (x : V) (m : Mach) : Prop := ∃ (a lb lq ld lh : Addr), x = .ref a ∧ SqT K H a [.str m.name, .ref lb, .ref lq, .ref ld, .ref lh] ∧
  (∃ vs, SqL K H lb vs ∧ DpAll K G vs (m.boxes.map boxD)) ∧ SqL K H lq (m.queues.map V.str) ∧ SqL K H ld (m.draws.map V.int) ∧
  ∃ vs : List V, SqL K H lh vs ∧ vs.length = m.hears.length ∧ ∀ (i : Nat) (v : V), vs[i]? = some v → ∃ (t l : Addr) (ws : List V) (p : Str × List Dd), v = .ref t ∧ SqT K H t [.str p.1, .ref l] ∧ SqL K H l ws ∧ DdsIn K G H ws p.2 ∧ m.hears[i]? = some p
/-- its names are unlike -/
structure Mach.Nd (m : Mach) : Prop where
  boxes : (m.boxes.map (·.1)).Nodup
  queues : m.queues.Nodup
/-- its lists are not long -/
structure Mach.Sm (m : Mach) : Prop where
  boxes : m.boxes.length ≤ 1000
  queues : m.queues.length ≤ 1000
  draws : m.draws.length ≤ 1000
  hears : m.hears.length ≤ 1000
  deeds : ∀ p ∈ m.hears, p.2.length ≤ 1000 ∧ Dd.Sms p.2
theorem dpa_strs {K : PySem.W.Frag} {H : Hp} : ∀ ns : List Str, DpAll K H (ns.map V.str) (ns.map PyData.str)
  | [] => .nil
  | n :: ns => .cons (.str n) (dpa_strs ns)
theorem dpa_strs' {K : PySem.W.Frag} {H : Hp} : ∀ {vs : List V} {ns : List Str}, DpAll K H vs (ns.map PyData.str) → vs = ns.map V.str
  | _, [], .nil => rfl
  | _, n :: ns, .cons h r => by rw [dp_str h, dpa_strs' r]; rfl
theorem dpa_ints' {K : PySem.W.Frag} {H : Hp} : ∀ {vs : List V} {ns : List Int}, DpAll K H vs (ns.map PyData.int) → vs = ns.map V.int
  | _, [], .nil => rfl
  | _, n :: ns, .cons h r => by rw [dp_int h, dpa_ints' r]; rfl
theorem machIn_of {K : PySem.W.Frag} {G H : Hp} (e : Ext G H) {x : V} {m : Mach} (h : Dp K G x m.data) : MachIn K G H x m := by
  unfold Mach.data at h
  obtain ⟨a, xs, rfl, h1, h2⟩ := dp_tup h
  cases h2 with
  | cons e1 h2 => cases h2 with
    | cons e2 h2 => cases h2 with
      | cons e3 h2 => cases h2 with
        | cons e4 h2 => cases h2 with
          | cons e5 h2 =>
            cases h2
            obtain rfl := dp_str e1
            obtain ⟨lb, vb, rfl, b1, b2⟩ := dp_lst e2
            obtain ⟨lq, vq, rfl, q1, q2⟩ := dp_lst e3
            obtain ⟨ld, vd, rfl, d1, d2⟩ := dp_lst e4
            obtain ⟨lh, vh, rfl, g1, g2⟩ := dp_lst e5
            obtain rfl := dpa_strs' q2
            obtain rfl := dpa_ints' d2
            refine ⟨a, lb, lq, ld, lh, rfl, ext_t e h1, ⟨vb, ext_l e b1, b2⟩, ext_l e q1, ext_l e d1, vh, ext_l e g1, by rw [dpa_len g2, List.length_map], fun i v hv => ?_⟩
            obtain ⟨d, hd, hp⟩ := dpa_get' g2 hv
            rw [List.getElem?_map] at hd
            cases hq : m.hears[i]? with
            | none => rw [hq] at hd; cases hd
            | some p =>
              rw [hq] at hd
              obtain rfl := Option.some.inj hd
              unfold hearD at hp
              obtain ⟨t, ys, rfl, t1, t2⟩ := dp_tup hp
              cases t2 with
              | cons f1 t2 => cases t2 with
                | cons f2 t2 =>
                  cases t2
                  obtain rfl := dp_str f1
                  obtain ⟨l, ws, rfl, l1, l2⟩ := dp_lst f2
                  exact ⟨t, l, ws, p, rfl, ext_t e t1, ext_l e l1, ddsIn_of e _ l2, rfl⟩
theorem machIn_mono {K : PySem.W.Frag} {G G' H H' : Hp} (e : Ext G G') (e' : Ext H H') {x : V} {m : Mach} (h : MachIn K G H x m) : MachIn K G' H' x m := by
  obtain ⟨a, lb, lq, ld, lh, rfl, ht, ⟨vb, b1, b2⟩, hq, hd, vs, h1, h2, h3⟩ := h
  refine ⟨a, lb, lq, ld, lh, rfl, ext_t e' ht, ⟨vb, ext_l e' b1, dpa_mono e b2⟩, ext_l e' hq, ext_l e' hd, vs, ext_l e' h1, h2, fun i v hv => ?_⟩
  obtain ⟨t, l, ws, p, e1, t1, l1, d1, hp⟩ := h3 i v hv
  exact ⟨t, l, ws, p, e1, ext_t e' t1, ext_l e' l1, ddsIn_mono e e' d1, hp⟩
/-! ### dicts by names -/
theorem val_none : ∀ {kvs : List (Key × V)} {k : Key}, k ∉ kvs.map (·.1) → valV kvs k = none
  | [], _, _ => rfl
  | p :: r, k, h => by
    rw [List.map_cons, List.mem_cons, not_or] at h
    rw [valV_neg (fun e => h.1 e.symm)]
    exact val_none h.2
theorem boxesV_keys (bs : List (Str × Int)) : (boxesV bs).map (·.1) = bs.map fun p => Sum.inr p.1 := by
  unfold boxesV
  rw [List.map_map]
  rfl
theorem boxesV_put {bs : List (Str × Int)} {x : Str} {n : Int} (h : x ∉ bs.map (·.1)) : putK (boxesV bs) (Sum.inr x) (.int n) = boxesV (bs ++ [(x, n)]) := by
  rw [putK_new]
  · unfold boxesV
    rw [List.map_append]
    rfl
  · refine val_none fun m => h ?_
    rw [boxesV_keys] at m
    obtain ⟨p, hp, e⟩ := List.mem_map.mp m
    rw [← Sum.inr.inj e]
    exact List.mem_map_of_mem hp
theorem queuesV_put {qs : List (Str × List Int)} {as : List Addr} {x : Str} {a : Addr} {ns : List Int} (hl : qs.length = as.length) (h : x ∉ qs.map (·.1)) : putK (queuesV qs as) (Sum.inr x) (.ref a) = queuesV (qs ++ [(x, ns)]) (as ++ [a]) := by
  rw [putK_new]
  · unfold queuesV
    rw [List.zip_append hl, List.map_append]
    rfl
  · refine val_none fun m => h ?_
    obtain ⟨p, hp, e⟩ := List.mem_map.mp m
    unfold queuesV at hp
    obtain ⟨q, hq, rfl⟩ := List.mem_map.mp hp
    rw [← Sum.inr.inj e]
    exact List.mem_map_of_mem (List.of_mem_zip hq).1
end Mo
namespace Mo
open PySem PySem.Spec PyProof.Rows L2
/-- a list of two numbers -/
def Purse (o : HO) : Prop := ∃ a b : Int, o = .lst [.int a, .int b]
def spMixed : Sp := fun vs H Q _ => ∃ c k : Int, vs = [.int c, .int k] ∧ Bd 1048576 c ∧ Bd 8 k ∧ ∀ r : Int, Bd 31 r → Q (.int r) H
def spPurse (K : PySem.W.Frag) : Sp := fun vs H Q _ => ∃ (a : Addr) (ns : List Int), vs = [.ref a] ∧ SqL K H a (ns.map V.int) ∧ ns.length ≤ 63 ∧ (∀ z ∈ ns, Bd 1048576 z) ∧
  ∀ p H', Hd H H' [(p, Purse)] → Q (.ref p) H'
def spDraw : Sp := fun vs H Q _ => ∃ (G : Hp) (L : Vo) (p : Addr) (n : Int), vs = [.ref p, .int n] ∧ Hd G H L ∧ (p, Purse) ∈ L ∧ 0 < n ∧ Bd 8000 n ∧
  ∀ d H', 0 ≤ d → d < n → Hd G H' L → Q (.int d) H'
theorem fmod_range {a n : Int} (h : 0 < n) : 0 ≤ a.fmod n ∧ a.fmod n < n := ⟨Int.fmod_nonneg_of_pos a h, Int.fmod_lt_of_pos a h⟩
end Mo
namespace Mo
open PySem PySem.Spec PyProof.Rows L2
/-! ### what stays, as a list of facts; what may change, as a list of segments -/
inductive Fc where
  | dat (v : V) (d : PyData)
  | dats (vs : List V) (ds : List PyData)
  | obj (a : Addr) (o : HO)
  | gen (P : Hp → Prop) (m : ∀ G G', Ext G G' → P G → P G')
def Fc.In (K : PySem.W.Frag) (G : Hp) : Fc → Prop
  | .dat v d => Dp K G v d
  | .dats vs ds => DpAll K G vs ds
  | .obj a o => G a = some o
  | .gen P _ => P G
theorem Fc.mono {K : PySem.W.Frag} {G G' : Hp} (e : Ext G G') : ∀ {f : Fc}, f.In K G → f.In K G'
  | .dat _ _, h => dp_mono e h
  | .dats _ _, h => dpa_mono e h
  | .obj _ _, h => e _ _ h
  | .gen _ m, h => m _ _ e h
def Hg (K : PySem.W.Frag) (Γ : List Fc) (S : List Vo) (H : Hp) : Prop := ∃ G, Hd G H S.flatten ∧ ∀ f ∈ Γ, f.In K G
/-- in every heap in which these facts and segments stand -/
def Wh (K : PySem.W.Frag) (Γ : List Fc) (S : List Vo) (R : Hp → Prop) : Prop := ∀ H, Hg K Γ S H → R H
def own (p : Addr) (o : HO) : Vo := [(p, Eq o)]
def pur (p : Addr) : Vo := [(p, Purse)]
def Take (x : Vo) (S R : List Vo) : Prop := S.flatten.Perm (x ++ R.flatten)
theorem Take.here {x : Vo} {R : List Vo} : Take x (x :: R) R := List.Perm.refl _
theorem Take.there {x y : Vo} {S R : List Vo} (h : Take x S R) : Take x (y :: S) (y :: R) := by
  show (y ++ S.flatten).Perm (x ++ (y ++ R.flatten))
  refine (List.Perm.append_left y h).trans ?_
  rw [← List.append_assoc, ← List.append_assoc]
  exact List.Perm.append_right _ List.perm_append_comm
def Takes' (xs S R : List Vo) : Prop := S.flatten.Perm ((xs ++ R).flatten)
theorem Takes'.nil {S : List Vo} : Takes' [] S S := List.Perm.refl _
theorem Takes'.cons {x : Vo} {xs S S' R : List Vo} (h : Take x S S') (t : Takes' xs S' R) : Takes' (x :: xs) S R := h.trans (List.Perm.append_left x t)
section
variable {K : PySem.W.Frag} {Γ Γ' : List Fc} {S S' R : List Vo} {H : Hp} {p : Addr} {o o' : HO} {φ : HO → Prop} {f : Fc} {x : Vo} {A : Hp → Prop}
theorem Hg.go (z : Hg K Γ S H) (k : Wh K Γ S A) : A H := k H z
theorem Hg.weak (z : Hg K Γ S H) (h : ∀ f ∈ Γ', f ∈ Γ) : Hg K Γ' S H := let ⟨G, a, b⟩ := z; ⟨G, a, fun f m => b f (h f m)⟩
theorem Hg.cong (z : Hg K Γ S H) (h : S'.flatten.Perm S.flatten) : Hg K Γ S' H := let ⟨G, a, b⟩ := z; ⟨G, a.perm h, b⟩
theorem Hg.tk {xs : List Vo} (z : Hg K Γ S H) (h : Takes' xs S R) : Hg K Γ (xs ++ R) H := z.cong h.symm
theorem Hg.tk1 (z : Hg K Γ S H) (h : Take x S R) : Hg K Γ (x :: R) H := z.cong h.symm
theorem Hg.pop (z : Hg K Γ (x :: S) H) : Hg K Γ S H := by
  obtain ⟨G, a, b⟩ := z
  refine ⟨G, ?_, b⟩
  have a' : Hd G H (x ++ S.flatten) := a
  clear a
  induction x with
  | nil => exact a'
  | cons y x ih => exact ih a'.drop
theorem Hg.own (z : Hg K Γ S H) (m : own p o ∈ S) : H p = some o := let ⟨_, a, _⟩ := z; a.eq (List.mem_flatten.mpr ⟨_, m, List.mem_cons_self⟩)
theorem Hg.obj (z : Hg K Γ S H) (m : .obj p o ∈ Γ) : H p = some o := let ⟨_, a, b⟩ := z; a.ex _ _ (b _ m)
theorem Hg.fact (z : Hg K Γ S H) (m : f ∈ Γ) : f.In K H := let ⟨_, a, b⟩ := z; Fc.mono a.ex (b _ m)
theorem Hg.dat {v : V} {d : PyData} (z : Hg K Γ S H) (m : .dat v d ∈ Γ) : Dp K H v d := z.fact m
theorem Wh.weak (h : ∀ f ∈ Γ', f ∈ Γ) (k : Wh K Γ' S A) : Wh K Γ S A := fun _ z => k _ (z.weak h)
theorem Wh.cong (h : S'.flatten.Perm S.flatten) (k : Wh K Γ S' A) : Wh K Γ S A := fun _ z => k _ (z.cong h)
theorem Wh.tk {xs : List Vo} (h : Takes' xs S R) (k : Wh K Γ (xs ++ R) A) : Wh K Γ S A := fun _ z => k _ (z.tk h)
theorem Wh.tk1 (h : Take x S R) (k : Wh K Γ (x :: R) A) : Wh K Γ S A := fun _ z => k _ (z.tk1 h)
theorem Wh.pop (k : Wh K Γ S A) : Wh K Γ (x :: S) A := fun _ z => k _ z.pop
theorem Wh.drop (h : Take x S R) (k : Wh K Γ R A) : Wh K Γ S A := fun _ z => k _ (z.tk1 h).pop
theorem Wh.imp {B : Hp → Prop} (k : Wh K Γ S A) (h : ∀ H, A H → B H) : Wh K Γ S B := fun H z => h H (k H z)
/-- a fact that follows -/
theorem Wh.learn (h : ∀ G, (∀ f ∈ Γ, f.In K G) → f.In K G) (k : Wh K (f :: Γ) S A) : Wh K Γ S A := fun H ⟨G, a, b⟩ => k H ⟨G, a, fun g m => by
  rcases List.mem_cons.mp m with e | m
  · rw [e]
    exact h G b
  · exact b g m⟩
theorem cons_facts {G : Hp} (h : f.In K G) (b : ∀ g ∈ Γ, g.In K G) : ∀ g ∈ f :: Γ, g.In K G := fun g m => by
  rcases List.mem_cons.mp m with e | m
  · rw [e]
    exact h
  · exact b g m
/-- the object at p -/
def AtH (K : PySem.W.Frag) (Γ : List Fc) (S : List Vo) (p : Addr) (o : HO) : Prop := ∀ H, Hg K Γ S H → H p = some o
theorem AtH.own (m : own p o ∈ S) : AtH K Γ S p o := fun _ z => z.own m
theorem AtH.obj (m : .obj p o ∈ Γ) : AtH K Γ S p o := fun _ z => z.obj m
/-- the owned object at p; it may be changed -/
def Chg (K : PySem.W.Frag) (p : Addr) (o : HO) (S : List Vo) (o' : HO) (S' : List Vo) : Prop := ∀ Γ H, Hg K Γ S H → H p = some o ∧ Hg K Γ S' (upd H p o')
theorem chg_here : Chg K p o (own p o :: S) o' (own p o' :: S) := fun Γ H ⟨G, a, b⟩ => ⟨a.eq List.mem_cons_self, G, Hd.set0 a rfl, b⟩
theorem flat_swap {x y : Vo} {S : List Vo} : (x :: y :: S).flatten.Perm (y :: x :: S).flatten := by
  show (x ++ (y ++ S.flatten)).Perm (y ++ (x ++ S.flatten))
  rw [← List.append_assoc, ← List.append_assoc]
  exact List.Perm.append_right _ List.perm_append_comm
theorem Hd.putP {G H : Hp} {A : Vo} {L : Vo} (h : Hd G H (A ++ (p, φ) :: L)) {ψ : HO → Prop} (hψ : ψ o') : Hd G (upd H p o') (A ++ (p, ψ) :: L) := h.setA hψ
theorem Hg.putAt {A B : List Vo} (z : Hg K Γ (A ++ Mo.own p o :: B) H) : Hg K Γ (A ++ Mo.own p o' :: B) (upd H p o') := by
  obtain ⟨G, a, b⟩ := z
  refine ⟨G, ?_, b⟩
  rw [List.flatten_append] at a ⊢
  have a' : Hd G H (A.flatten ++ (p, Eq o) :: B.flatten) := a
  exact a'.putP (ψ := Eq o') rfl
/-- changed in its place -/
inductive Sw (p : Addr) (o o' : HO) : List Vo → List Vo → Prop
  | here {S : List Vo} : Sw p o o' (own p o :: S) (own p o' :: S)
  | there {x : Vo} {S S' : List Vo} (h : Sw p o o' S S') : Sw p o o' (x :: S) (x :: S')
theorem Sw.split : ∀ {S S' : List Vo}, Sw p o o' S S' → ∃ A B, S = A ++ own p o :: B ∧ S' = A ++ own p o' :: B
  | _, _, .here => ⟨[], _, rfl, rfl⟩
  | _, _, .there (x := x) h => let ⟨A, B, e1, e2⟩ := Sw.split h; ⟨x :: A, B, by rw [e1]; rfl, by rw [e2]; rfl⟩
theorem Hg.sw (z : Hg K Γ S H) (h : Sw p o o' S S') : Hg K Γ S' (upd H p o') := by
  obtain ⟨A, B, rfl, rfl⟩ := h.split
  exact z.putAt
theorem Sw.mem : ∀ {S S' : List Vo}, Sw p o o' S S' → own p o ∈ S
  | _, _, .here => List.mem_cons_self
  | _, _, .there h => List.mem_cons_of_mem _ (Sw.mem h)
/-- a new object -/
theorem Hg.new (z : Hg K Γ S H) (hp : H p = none) : Hg K Γ (Mo.own p o :: S) (upd H p o) := let ⟨G, a, b⟩ := z; ⟨G, a.new hp rfl, b⟩
theorem Hg.fix (z : Hg K Γ S H) (hp : H p = none) : Hg K (.obj p o :: Γ) S (upd H p o) := by
  obtain ⟨G, a, b⟩ := z
  exact ⟨_, a.fix hp, cons_facts (show upd G p o p = some o from upd_same) fun f m => Fc.mono (Ext.new (a.gno hp)) (b f m)⟩
theorem Hg.freeze (z : Hg K Γ (Mo.own p o :: S) H) : Hg K (.obj p o :: Γ) S H := by
  obtain ⟨G, a, b⟩ := z
  have a' : Hd G H ((p, Eq o) :: S.flatten) := a
  exact ⟨_, a'.freeze (a'.eq List.mem_cons_self), cons_facts (show upd G p o p = some o from upd_same) fun f m => Fc.mono (Ext.new (a'.no List.mem_cons_self)) (b f m)⟩
theorem Hg.learn (z : Hg K Γ S H) (h : ∀ G, (∀ f ∈ Γ, f.In K G) → f.In K G) : Hg K (f :: Γ) S H := let ⟨G, a, b⟩ := z; ⟨G, a, cons_facts (h G b) b⟩
theorem Hg.skip (z : Hg K (f :: Γ) S H) : Hg K Γ S H := z.weak fun _ m => List.mem_cons_of_mem _ m
end
/-- a segment is changed in its place -/
inductive Rp (x x' : Vo) : List Vo → List Vo → Prop
  | here {S : List Vo} : Rp x x' (x :: S) (x' :: S)
  | there {y : Vo} {S S' : List Vo} (h : Rp x x' S S') : Rp x x' (y :: S) (y :: S')
def Ch (x : Vo) (p : Addr) (o' : HO) (x' : Vo) : Prop := ∀ G H L, Hd G H (x ++ L) → Hd G (upd H p o') (x' ++ L)
section
variable {K : PySem.W.Frag} {Γ : List Fc} {S S' : List Vo} {H : Hp} {p : Addr} {o' : HO} {x x' : Vo}
theorem Rp.split : ∀ {S S' : List Vo}, Rp x x' S S' → ∃ A B, S = A ++ x :: B ∧ S' = A ++ x' :: B
  | _, _, .here => ⟨[], _, rfl, rfl⟩
  | _, _, .there (y := y) h => let ⟨A, B, e1, e2⟩ := Rp.split h; ⟨y :: A, B, by rw [e1]; rfl, by rw [e2]; rfl⟩
theorem Rp.mem : ∀ {S S' : List Vo}, Rp x x' S S' → x ∈ S
  | _, _, .here => List.mem_cons_self
  | _, _, .there h => List.mem_cons_of_mem _ (Rp.mem h)
theorem Rp.take : ∀ {S S' : List Vo}, Rp x x' S S' → ∃ R, Take x S R ∧ Take x' S' R
  | _, _, .here => ⟨_, Take.here, Take.here⟩
  | _, _, .there h => let ⟨R, a, b⟩ := Rp.take h; ⟨_ :: R, a.there, b.there⟩
theorem Hg.rp (z : Hg K Γ S H) (r : Rp x x' S S') (c : Ch x p o' x') : Hg K Γ S' (upd H p o') := by
  obtain ⟨R, a, b⟩ := r.take
  obtain ⟨G, z1, z2⟩ := z
  exact ⟨G, (c G H R.flatten (z1.perm (List.Perm.symm a))).perm b, z2⟩
/-- of a segment -/
theorem Hg.seg (z : Hg K Γ S H) (m : x ∈ S) : ∃ G L, Hd G H (x ++ L) ∧ ∀ f ∈ Γ, f.In K G := by
  obtain ⟨G, z1, z2⟩ := z
  obtain ⟨A, B, rfl⟩ := List.append_of_mem m
  refine ⟨G, A.flatten ++ B.flatten, z1.perm ?_, z2⟩
  rw [List.flatten_append, List.flatten_cons, ← List.append_assoc, ← List.append_assoc]
  exact List.Perm.append_right _ List.perm_append_comm
theorem AtH.seg {o : HO} (m : x ∈ S) (h : ∀ G H L, Hd G H (x ++ L) → H p = some o) : AtH K Γ S p o := fun H z => let ⟨G, L, a, _⟩ := z.seg m; h G H L a
end
/-- some of the segments, in any order -/
def Dr (S0 S : List Vo) : Prop := ∃ J : List Vo, S0.flatten.Perm ((J ++ S).flatten)
theorem Dr.refl {S : List Vo} : Dr S S := ⟨[], List.Perm.refl _⟩
theorem Dr.skip {x : Vo} {S0 S : List Vo} (h : Dr S0 S) : Dr (x :: S0) S := let ⟨J, j⟩ := h; ⟨x :: J, List.Perm.append_left x j⟩
theorem Dr.keep {x : Vo} {S0 R S : List Vo} (t : Take x S0 R) (h : Dr R S) : Dr S0 (x :: S) := by
  obtain ⟨J, j⟩ := h
  refine ⟨J, List.Perm.trans t ((List.Perm.append_left x j).trans ?_)⟩
  rw [List.flatten_append, List.flatten_append, List.flatten_cons, ← List.append_assoc, ← List.append_assoc]
  exact List.Perm.append_right _ List.perm_append_comm
theorem Hg.fit {K : PySem.W.Frag} {Γ Γ' : List Fc} {S0 S : List Vo} {H : Hp} (z : Hg K Γ S0 H) (hΓ : ∀ f ∈ Γ', f ∈ Γ) (hS : Dr S0 S) : Hg K Γ' S H := by
  obtain ⟨J, j⟩ := hS
  have z1 : Hg K Γ' (J ++ S) H := (z.weak hΓ).cong (List.Perm.symm j)
  clear j z
  induction J with
  | nil => exact z1
  | cons x J ih => exact ih z1.pop
/-! #### data of values, by the facts -/
def DV (K : PySem.W.Frag) (Γ : List Fc) (v : V) (d : PyData) : Prop := ∀ G, (∀ f ∈ Γ, f.In K G) → Dp K G v d
def DL (K : PySem.W.Frag) (Γ : List Fc) (vs : List V) (ds : List PyData) : Prop := ∀ G, (∀ f ∈ Γ, f.In K G) → DpAll K G vs ds
section
variable {K : PySem.W.Frag} {Γ Γ' : List Fc} {v : V} {d : PyData} {vs ws : List V} {ds es : List PyData}
theorem DV.int {i : Int} : DV K Γ (.int i) (.int i) := fun _ _ => .int i
theorem DV.str {x : Str} : DV K Γ (.str x) (.str x) := fun _ _ => .str x
theorem DV.bl {b : Bool} : DV K Γ (.bl b) (.bool b) := fun _ _ => .bl b
theorem DV.non : DV K Γ .non .none := fun _ _ => .non
theorem DV.mem (m : .dat v d ∈ Γ) : DV K Γ v d := fun G b => b _ m
theorem DL.nil : DL K Γ [] [] := fun _ _ => .nil
theorem DL.cons (h : DV K Γ v d) (t : DL K Γ vs ds) : DL K Γ (v :: vs) (d :: ds) := fun G b => .cons (h G b) (t G b)
theorem DL.app (h : DL K Γ vs ds) (t : DL K Γ ws es) : DL K Γ (vs ++ ws) (ds ++ es) := fun G b => dpa_app (h G b) (t G b)
theorem DL.snoc (h : DL K Γ vs ds) (t : DV K Γ v d) : DL K Γ (vs ++ [v]) (ds ++ [d]) := h.app (.cons t .nil)
theorem DL.mem (m : .dats vs ds ∈ Γ) : DL K Γ vs ds := fun G b => b _ m
theorem DL.ints {ns : List Int} : DL K Γ (ns.map V.int) (ns.map PyData.int) := fun _ _ => dpa_ints ns
theorem DL.strs {ns : List Str} : DL K Γ (ns.map V.str) (ns.map PyData.str) := fun _ _ => dpa_strs ns
theorem DV.mono (h : DV K Γ v d) (s : ∀ f ∈ Γ, f ∈ Γ') : DV K Γ' v d := fun G b => h G fun f m => b f (s f m)
theorem DL.mono (h : DL K Γ vs ds) (s : ∀ f ∈ Γ, f ∈ Γ') : DL K Γ' vs ds := fun G b => h G fun f m => b f (s f m)
theorem DV.tup {a : Addr} (m : .obj a (.tup vs) ∈ Γ) (h : DL K Γ vs ds) : DV K Γ (.ref a) (.tuple ds) := fun G b => .tup (SqT.of (b _ m)) (h G b)
theorem DV.lst {a : Addr} (m : .obj a (.lst vs) ∈ Γ) (h : DL K Γ vs ds) : DV K Γ (.ref a) (.list ds) := fun G b => .lst (SqL.of (b _ m)) (h G b)
theorem sub_refl : ∀ f ∈ Γ, f ∈ Γ := fun _ m => m
theorem sub_cons {f : Fc} (s : ∀ g ∈ Γ, g ∈ Γ') : ∀ g ∈ Γ, g ∈ f :: Γ' := fun g m => List.mem_cons_of_mem _ (s g m)
theorem sub_both {f : Fc} (s : ∀ g ∈ Γ, g ∈ Γ') : ∀ g ∈ f :: Γ, g ∈ f :: Γ' := fun g m => by
  rcases List.mem_cons.mp m with e | m
  · rw [e]; exact List.mem_cons_self
  · exact List.mem_cons_of_mem _ (s g m)
theorem sub_put {f : Fc} (h : f ∈ Γ') (s : ∀ g ∈ Γ, g ∈ Γ') : ∀ g ∈ f :: Γ, g ∈ Γ' := fun g m => by
  rcases List.mem_cons.mp m with e | m
  · rw [e]; exact h
  · exact s g m
theorem sub_nil : ∀ g ∈ ([] : List Fc), g ∈ Γ' := fun _ m => (nomatch m)
end
end Mo
namespace Mo
open PySem PySem.Spec PyProof.Rows L2
/-! ### steps through a reading, in every heap with these facts and segments -/
section
variable {K : PySem.W.Frag} {Γ : List Fc} {S S' : List Vo} {σ σ' : St} {H : Hp} {Q : VK} {ta tb te tc : TE} {t u c : TT} {tA tB1 : TA} {D : Ends} {s1 s2 : TS} {v x y : V} {i : Nat} {r : R2} {g : TG} {A B : Hp → Prop}
theorem w_start {f : TS} (h : σ = σ') (z : Hg K Γ S H) (k : Wh K Γ S fun H => f D σ' H) : f D σ H := by
  rw [h]
  exact k H z
theorem w_var (h : σ[i]? = some (some v)) (k : Wh K Γ S fun H => Q v H) : Wh K Γ S fun H => tVar i σ H Q := fun H z => ⟨v, h, k H z⟩
theorem w_c (k : Wh K Γ S fun H => Q v H) : Wh K Γ S fun H => tC v σ H Q := k
theorem w_op (k : Wh K Γ S fun H => ta σ H fun x H1 => tb σ H1 fun y H2 => r x y H2 Q) : Wh K Γ S fun H => tOp r ta tb σ H Q := k
theorem w_un {r : V → Hp → VK → Prop} (k : Wh K Γ S fun H => ta σ H fun x H1 => r x H1 Q) : Wh K Γ S fun H => tUn r ta σ H Q := k
theorem w_cb {r : List V → Hp → VK → Prop} (k : Wh K Γ S fun H => tA σ H fun vs H1 => r vs H1 Q) : Wh K Γ S fun H => tCB r tA σ H Q := k
theorem w_nil {Q : List V → Hp → Prop} (k : Wh K Γ S fun H => Q [] H) : Wh K Γ S fun H => tNil σ H Q := k
theorem w_cons {Q : List V → Hp → Prop} (k : Wh K Γ S fun H => ta σ H fun x H1 => tA σ H1 fun xs H2 => Q (x :: xs) H2) : Wh K Γ S fun H => tCons ta tA σ H Q := k
/-- a new tuple, a new list, a new instance: what is wanted of it -/
def mkT (xs : List V) (H : Hp) (Q : VK) : Prop := xs.length ≤ sizeLine ∧ ∀ p, H p = none → Q (.ref p) (upd H p (.tup xs))
def mkL (xs : List V) (H : Hp) (Q : VK) : Prop := xs.length ≤ sizeLine ∧ ∀ p, H p = none → Q (.ref p) (upd H p (.lst xs))
def mkI (C : Addr) (sp : Sp) (vs : List V) (H : Hp) (Q : VK) (E : XK) : Prop := ∀ x dx, H x = none → H dx = none → dx ≠ x → sp (.ref x :: vs) (upd (upd H dx (.own x)) x (.ins C dx [])) (fun v H2 => v = .non ∧ Q (.ref x) H2) E
theorem w_tup (k : Wh K Γ S fun H => tA σ H fun xs H1 => mkT xs H1 Q) : Wh K Γ S fun H => tTup tA σ H Q := k
theorem w_lst (k : Wh K Γ S fun H => tA σ H fun xs H1 => mkL xs H1 Q) : Wh K Γ S fun H => tLst tA σ H Q := k
theorem w_test {Q : Bool → Hp → Prop} (k : Wh K Γ S fun H => te σ H fun x H1 => ∃ b, x = .bl b ∧ Q b H1) : Wh K Γ S fun H => tTest te σ H Q := k
theorem w_tb {Q : Bool → Hp → Prop} (k : Wh K Γ S fun H => te σ H fun x H1 => ∃ b, x = .bl b ∧ Q b H1) : Wh K Γ S fun H => tB te σ H Q := k
theorem w_bl {b : Bool} {Q : Bool → Hp → Prop} (k : Wh K Γ S fun H => Q b H) : Wh K Γ S fun H => ∃ d, V.bl b = V.bl d ∧ Q d H := fun H z => ⟨b, rfl, k H z⟩
theorem w_and {Q : Bool → Hp → Prop} (k : Wh K Γ S fun H => t σ H fun d H1 => if d = true then u σ H1 Q else Q false H1) : Wh K Γ S fun H => tAnd t u σ H Q := k
theorem w_or {Q : Bool → Hp → Prop} (k : Wh K Γ S fun H => t σ H fun d H1 => if d = true then Q true H1 else u σ H1 Q) : Wh K Γ S fun H => tOr t u σ H Q := k
theorem w_not {Q : Bool → Hp → Prop} (k : Wh K Γ S fun H => t σ H fun d H1 => Q (!d) H1) : Wh K Γ S fun H => tNot t σ H Q := k
theorem w_andV (k : Wh K Γ S fun H => ta σ H fun x H1 => ∃ d, x = .bl d ∧ if d = true then tb σ H1 Q else Q (.bl false) H1) : Wh K Γ S fun H => tAndV ta tb σ H Q := k
theorem w_orV (k : Wh K Γ S fun H => ta σ H fun x H1 => ∃ d, x = .bl d ∧ if d = true then Q (.bl true) H1 else tb σ H1 Q) : Wh K Γ S fun H => tOrV ta tb σ H Q := k
theorem w_notV (k : Wh K Γ S fun H => ta σ H fun x H1 => ∃ d, x = .bl d ∧ Q (.bl (!d)) H1) : Wh K Γ S fun H => tNotV ta σ H Q := k
theorem w_ifE (k : Wh K Γ S fun H => c σ H fun d H1 => if d = true then ta σ H1 Q else tb σ H1 Q) : Wh K Γ S fun H => tIf c ta tb σ H Q := k
theorem w_seq (k : Wh K Γ S fun H => s1 { D with nx := s2 D } σ H) : Wh K Γ S fun H => tSeq s1 s2 D σ H := k
theorem w_next (k : Wh K Γ S fun H => D.nx σ H) : Wh K Γ S fun H => tNext D σ H := k
theorem w_brk (k : Wh K Γ S fun H => D.bk σ H) : Wh K Γ S fun H => tBreak D σ H := k
theorem w_cont (k : Wh K Γ S fun H => D.ct σ H) : Wh K Γ S fun H => tCont D σ H := k
theorem w_ifS (k : Wh K Γ S fun H => c σ H fun d H1 => if d = true then s1 D σ H1 else s2 D σ H1) : Wh K Γ S fun H => tIfS c s1 s2 D σ H := k
theorem w_asg (k : Wh K Γ S fun H => te σ H fun x H1 => g x σ H1 D.nx) : Wh K Γ S fun H => tAsg te g D σ H := k
theorem w_gn {Q : St → Hp → Prop} (k : Wh K Γ S fun H => Q (σ.set i (some v)) H) : Wh K Γ S fun H => gName i v σ H Q := k
theorem w_gsub {st : TSet} {Q : St → Hp → Prop} (k : Wh K Γ S fun H => ta σ H fun o H1 => tb σ H1 fun j H2 => st o j v H2 fun H3 => Q σ H3) : Wh K Γ S fun H => gSub ta tb st v σ H Q := k
theorem w_gcons {tg : TG} {tgs : TGs} {vs : List V} {Q : St → Hp → Prop} (k : Wh K Γ S fun H => tg v σ H fun σ1 H1 => tgs vs σ1 H1 Q) : Wh K Γ S fun H => gCons tg tgs (v :: vs) σ H Q := fun H z => ⟨v, vs, rfl, k H z⟩
theorem w_gnil {Q : St → Hp → Prop} (k : Wh K Γ S fun H => Q σ H) : Wh K Γ S fun H => gNil [] σ H Q := fun H z => ⟨rfl, k H z⟩
theorem w_ret (k : Wh K Γ S fun H => te σ H D.rt) : Wh K Γ S fun H => tRet te D σ H := k
theorem w_drop (k : Wh K Γ S fun H => te σ H fun _ H1 => D.nx σ H1) : Wh K Γ S fun H => tDrop te D σ H := k
theorem w_call {sp : Sp} {E : St → XK} (k : Wh K Γ S fun H => tA σ H fun vs H1 => sp vs H1 Q (E σ)) : Wh K Γ S fun H => tCallS sp E tA σ H Q := k
theorem w_bm0 {T : String} {r : V → List V → Hp → VK → Prop} (k : Wh K Γ S fun H => ta σ H fun x H1 => tyV K T x H1 ∧ r x [] H1 Q) : Wh K Γ S fun H => tBM0 K T r ta σ H Q := k
theorem w_bm {T : String} {r : V → List V → Hp → VK → Prop} (k : Wh K Γ S fun H => ta σ H fun x H1 => tyV K T x H1 ∧ tA σ H1 fun xs H2 => r x xs H2 Q) : Wh K Γ S fun H => tBM K T r ta tA σ H Q := k
theorem w_sl {r : V → Option Int → Option Int → Hp → VK → Prop} {tl th : TO} (k : Wh K Γ S fun H => te σ H fun x H1 => tl σ H1 fun l H2 => th σ H2 fun u H3 => r x l u H3 Q) : Wh K Γ S fun H => tSl r te tl th σ H Q := k
theorem w_nopart {Q : Option Int → Hp → Prop} (k : Wh K Γ S fun H => Q none H) : Wh K Γ S fun H => tNoPart σ H Q := k
theorem w_part {Q : Option Int → Hp → Prop} (k : Wh K Γ S fun H => te σ H fun x H1 => ∃ i, x = .int i ∧ Q (some i) H1) : Wh K Γ S fun H => tPart te σ H Q := k
theorem w_int {j : Int} {Q : Int → Hp → Prop} (k : Wh K Γ S fun H => Q j H) : Wh K Γ S fun H => ∃ i, V.int j = .int i ∧ Q i H := fun H z => ⟨j, rfl, k H z⟩
theorem w_aug {ti : TIp} (h : σ[i]? = some (some x)) (k : Wh K Γ S fun H => te σ H fun y H1 => ti x y H1 fun z H2 => D.nx (σ.set i (some z)) H2) : Wh K Γ S fun H => tAug i te ti D σ H := fun H z => ⟨x, h, k H z⟩
theorem w_ipI {f : Int → Int → Int} {a b : Int} (k : Wh K Γ S fun H => Q (.int (f a b)) H) : Wh K Γ S fun H => ipI f (.int a) (.int b) H Q := fun H z => ⟨a, b, rfl, rfl, k H z⟩
theorem w_raise {C : Addr} {E : XK} (k : Wh K Γ S fun H => E (.ref C) none H) : Wh K Γ S fun H => E (.ref C) none H := k
/-! #### operations on values -/
theorem w_I0 {f : Int → Int → V} {a b : Int} (k : Wh K Γ S fun H => Q (f a b) H) : Wh K Γ S fun H => rI0 f (.int a) (.int b) H Q := fun H z => ⟨a, b, rfl, rfl, k H z⟩
theorem w_I {C : Int → Int → Prop} {f : Int → Int → V} {a b : Int} (hc : C a b) (k : Wh K Γ S fun H => Q (f a b) H) : Wh K Γ S fun H => rI C f (.int a) (.int b) H Q := fun H z => ⟨a, b, rfl, rfl, hc, k H z⟩
theorem w_rU {f : Int → V} {a : Int} (k : Wh K Γ S fun H => Q (f a) H) : Wh K Γ S fun H => rU f (.int a) H Q := fun H z => ⟨a, rfl, k H z⟩
theorem w_mod {f : Int → Int → V} {a b : Int} (hb : b ≠ 0) (k : Wh K Γ S fun H => Q (f a b) H) : Wh K Γ S fun H => rI CMod f (.int a) (.int b) H Q := w_I hb k
theorem w_div {f : Int → Int → V} {a b : Int} (n : Nat) (hb : b ≠ 0) (h : Bd n b) (k : Wh K Γ S fun H => Q (f a b) H) (h0 : 0 < n := by decide) (h9 : n ≤ 9000 := by decide) : Wh K Γ S fun H => rI CDivX f (.int a) (.int b) H Q := w_I ⟨hb, Nat.lt_of_lt_of_le (log2_bd h h0) h9⟩ k
theorem w_mul {f : Int → Int → V} {a b : Int} {m n : Nat} (h1 : Bd m a) (h2 : Bd n b) (k : Wh K Γ S fun H => Q (f a b) H) (h3 : 0 < m := by decide) (h4 : 0 < n := by decide) (h5 : m + n ≤ 134000000 := by decide) : Wh K Γ S fun H => rI CMulX f (.int a) (.int b) H Q := w_I (mulX_of m n h1 h2 h3 h4 h5) k
theorem w_eqi {a b : Int} (k : Wh K Γ S fun H => Q (.bl (decide (a = b))) H) : Wh K Γ S fun H => rEqA K (.int a) (.int b) H Q := fun H z => go_eqi (k H z)
theorem w_nei {a b : Int} (k : Wh K Γ S fun H => Q (.bl (!decide (a = b))) H) : Wh K Γ S fun H => rNeA K (.int a) (.int b) H Q := fun H z => go_nei (k H z)
theorem w_eqb {a b : Bool} (k : Wh K Γ S fun H => Q (.bl (decide (a = b))) H) : Wh K Γ S fun H => rEqA K (.bl a) (.bl b) H Q := fun H z => go_eqb (k H z)
theorem w_neb {a b : Bool} (k : Wh K Γ S fun H => Q (.bl (!decide (a = b))) H) : Wh K Γ S fun H => rNeA K (.bl a) (.bl b) H Q := fun H z => go_neb (k H z)
theorem w_eqsT {a : Str} (k : Wh K Γ S fun H => Q (.bl true) H) : Wh K Γ S fun H => rEqA K (.str a) (.str a) H Q := fun H z => go_eqsT rfl (k H z)
theorem w_eqsF {a b : Str} (h : ¬ a = b) (k : Wh K Γ S fun H => Q (.bl false) H) : Wh K Γ S fun H => rEqA K (.str a) (.str b) H Q := fun H z => go_eqsF h (k H z)
theorem w_nesT {a : Str} (k : Wh K Γ S fun H => Q (.bl false) H) : Wh K Γ S fun H => rNeA K (.str a) (.str a) H Q := fun H z => go_nes (by rw [decide_eq_true rfl]; exact k H z)
theorem w_nesF {a b : Str} (h : ¬ a = b) (k : Wh K Γ S fun H => Q (.bl true) H) : Wh K Γ S fun H => rNeA K (.str a) (.str b) H Q := fun H z => go_nes (by rw [decide_eq_false h]; exact k H z)
theorem w_eqs {a b : Str} (k : Wh K Γ S fun H => Q (.bl (decide (a = b))) H) : Wh K Γ S fun H => rEqA K (.str a) (.str b) H Q := fun H z => go_eqs (k H z)
theorem w_nes {a b : Str} (k : Wh K Γ S fun H => Q (.bl (!decide (a = b))) H) : Wh K Γ S fun H => rNeA K (.str a) (.str b) H Q := fun H z => go_nes (k H z)
theorem w_eqD {a b : V} {d e : PyData} (ha : DV K Γ a d) (hb : DV K Γ b e) (sa : SeqAt.shaped d = true) (sb : SeqAt.shaped e = true) (k : Wh K Γ S fun H => Q (.bl (PyData.eqv d e)) H) : Wh K Γ S fun H => rEqA K a b H Q := fun H z => by
  obtain ⟨G, h1, h2⟩ := id z
  exact go_eqD (dp_mono h1.ex (ha G h2)) (dp_mono h1.ex (hb G h2)) sa sb (k H z)
theorem w_neD {a b : V} {d e : PyData} (ha : DV K Γ a d) (hb : DV K Γ b e) (sa : SeqAt.shaped d = true) (sb : SeqAt.shaped e = true) (k : Wh K Γ S fun H => Q (.bl (!PyData.eqv d e)) H) : Wh K Γ S fun H => rNeA K a b H Q := fun H z => by
  obtain ⟨G, h1, h2⟩ := id z
  exact go_neD (dp_mono h1.ex (ha G h2)) (dp_mono h1.ex (hb G h2)) sa sb (k H z)
theorem w_isN (k : Wh K Γ S fun H => Q (.bl (decide (x = .non))) H) : Wh K Γ S fun H => rIsN1 x .non H Q := fun H z => ⟨rfl, k H z⟩
theorem w_notN (k : Wh K Γ S fun H => Q (.bl (!decide (x = .non))) H) : Wh K Γ S fun H => rNotN1 x .non H Q := fun H z => ⟨rfl, k H z⟩
theorem w_isN_t (k : Wh K Γ S fun H => Q (.bl true) H) : Wh K Γ S fun H => rIsN1 .non .non H Q := fun H z => ⟨rfl, k H z⟩
theorem w_notN_t (k : Wh K Γ S fun H => Q (.bl false) H) : Wh K Γ S fun H => rNotN1 .non .non H Q := fun H z => ⟨rfl, k H z⟩
theorem w_isN_r {a : Addr} (k : Wh K Γ S fun H => Q (.bl false) H) : Wh K Γ S fun H => rIsN1 (.ref a) .non H Q := fun H z => ⟨rfl, k H z⟩
theorem w_notN_r {a : Addr} (k : Wh K Γ S fun H => Q (.bl true) H) : Wh K Γ S fun H => rNotN1 (.ref a) .non H Q := fun H z => ⟨rfl, k H z⟩
theorem w_isN_i {a : Int} (k : Wh K Γ S fun H => Q (.bl false) H) : Wh K Γ S fun H => rIsN1 (.int a) .non H Q := fun H z => ⟨rfl, k H z⟩
theorem w_notN_i {a : Int} (k : Wh K Γ S fun H => Q (.bl true) H) : Wh K Γ S fun H => rNotN1 (.int a) .non H Q := fun H z => ⟨rfl, k H z⟩
theorem w_addI {a b : Int} (k : Wh K Γ S fun H => Q (.int (a + b)) H) : Wh K Γ S fun H => rAddA K (.int a) (.int b) H Q := fun H z => go_addI (k H z)
theorem w_addS {a b : Str} (h : a.length + b.length ≤ sizeLine) (k : Wh K Γ S fun H => Q (.str (a ++ b)) H) : Wh K Γ S fun H => rAddA K (.str a) (.str b) H Q := fun H z => go_addS h (k H z)
theorem w_addR {a b : Int} (k : Wh K Γ S fun H => Q (.int (a + b)) H) : Wh K Γ S fun H => rAdd (.int a) (.int b) H Q := fun H z => go_addR (k H z)
theorem w_subR {a b : Int} (k : Wh K Γ S fun H => Q (.int (a - b)) H) : Wh K Γ S fun H => L2.rSub (.int a) (.int b) H Q := fun H z => go_subR (k H z)
theorem w_ltI {a b : Int} (k : Wh K Γ S fun H => Q (.bl (decide (a < b))) H) : Wh K Γ S fun H => rLtA K (.int a) (.int b) H Q := fun H z => go_ltI (k H z)
theorem w_ltT {v w : V} {ns ms : List Int} (ha : DV K Γ v (.tuple (ns.map PyData.int))) (hb : DV K Γ w (.tuple (ms.map PyData.int))) (k : Wh K Γ S fun H => Q (.bl (HT.lexLt ns ms)) H) : Wh K Γ S fun H => rLtA K v w H Q := fun H z => by
  obtain ⟨G, h1, h2⟩ := id z
  obtain ⟨a, xs, rfl, a1, a2⟩ := dp_tup (dp_mono h1.ex (ha G h2))
  obtain ⟨b, ys, rfl, b1, b2⟩ := dp_tup (dp_mono h1.ex (hb G h2))
  obtain rfl := dpa_ints' a2
  obtain rfl := dpa_ints' b2
  exact go_ltT a1 b1 (k H z)
theorem w_leI {a b : Int} (k : Wh K Γ S fun H => Q (.bl (decide (a ≤ b))) H) : Wh K Γ S fun H => rLeA K (.int a) (.int b) H Q := fun H z => .inl ⟨a, b, rfl, rfl, k H z⟩
theorem w_geI {a b : Int} (k : Wh K Γ S fun H => Q (.bl (decide (b ≤ a))) H) : Wh K Γ S fun H => rGeA K (.int a) (.int b) H Q := fun H z => .inl ⟨a, b, rfl, rfl, k H z⟩
theorem w_leT {v w : V} {ns ms : List Int} (ha : DV K Γ v (.tuple (ns.map PyData.int))) (hb : DV K Γ w (.tuple (ms.map PyData.int))) (k : Wh K Γ S fun H => Q (.bl (!HT.lexLt ms ns)) H) : Wh K Γ S fun H => rLeA K v w H Q := fun H z => by
  obtain ⟨G, h1, h2⟩ := id z
  obtain ⟨a, xs, rfl, a1, a2⟩ := dp_tup (dp_mono h1.ex (ha G h2))
  obtain ⟨b, ys, rfl, b1, b2⟩ := dp_tup (dp_mono h1.ex (hb G h2))
  obtain rfl := dpa_ints' a2
  obtain rfl := dpa_ints' b2
  exact .inr ⟨a, b, ns, ms, rfl, rfl, a1, b1, by rw [lexAt_le]; exact k H z⟩
theorem w_geT {v w : V} {ns ms : List Int} (ha : DV K Γ v (.tuple (ns.map PyData.int))) (hb : DV K Γ w (.tuple (ms.map PyData.int))) (k : Wh K Γ S fun H => Q (.bl (!HT.lexLt ns ms)) H) : Wh K Γ S fun H => rGeA K v w H Q := fun H z => by
  obtain ⟨G, h1, h2⟩ := id z
  obtain ⟨a, xs, rfl, a1, a2⟩ := dp_tup (dp_mono h1.ex (ha G h2))
  obtain ⟨b, ys, rfl, b1, b2⟩ := dp_tup (dp_mono h1.ex (hb G h2))
  obtain rfl := dpa_ints' a2
  obtain rfl := dpa_ints' b2
  exact .inr ⟨a, b, ns, ms, rfl, rfl, a1, b1, k H z⟩
theorem w_truB {K' : PySem.W.Frag} {b : Bool} {Q : Bool → Hp → Prop} (k : Wh K Γ S fun H => Q b H) : Wh K Γ S fun H => ∃ d, TruV K' (.bl b) H d ∧ Q d H := fun H z => ⟨b, rfl, k H z⟩
theorem w_truN {K' : PySem.W.Frag} {Q : Bool → Hp → Prop} (k : Wh K Γ S fun H => Q false H) : Wh K Γ S fun H => ∃ d, TruV K' .non H d ∧ Q d H := fun H z => ⟨false, rfl, k H z⟩
theorem w_isi {x c : V} {t u : Value} {b : Bool} (hc : ClsV c u) (ht : ∀ H, Hg K Γ S H → TyX K H x t) (hk : PySem.W.kitOne K t u = some b) (k : Wh K Γ S fun H => Q (.bl b) H) : Wh K Γ S fun H => rIsi K [x, c] H Q := fun H z => go_isi hc (ht H z) hk (k H z)
theorem w_pow15 (k : Wh K Γ S fun H => Q (.int 1000000000000000) H) : Wh K Γ S fun H => rI CPow (fun i j => .int (i ^ j.toNat)) (.int 10) (.int 15) H Q := fun H z => go_pow15 (k H z)
theorem w_pow12 (k : Wh K Γ S fun H => Q (.int 1000000000000) H) : Wh K Γ S fun H => rI CPow (fun i j => .int (i ^ j.toNat)) (.int 10) (.int 12) H Q := fun H z => go_pow12 (k H z)
theorem w_pow6 (k : Wh K Γ S fun H => Q (.int 1000000) H) : Wh K Γ S fun H => rI CPow (fun i j => .int (i ^ j.toNat)) (.int 10) (.int 6) H Q := fun H z => go_pow6 (k H z)
theorem w_ite {p : Prop} [Decidable p] (h1 : p → Wh K Γ S A) (h2 : ¬ p → Wh K Γ S B) : Wh K Γ S fun H => if decide p = true then A H else B H := fun H z => go_ite (fun h => h1 h H z) fun h => h2 h H z
theorem w_iteN {p : Prop} [Decidable p] (h1 : ¬ p → Wh K Γ S A) (h2 : p → Wh K Γ S B) : Wh K Γ S fun H => if (!decide p) = true then A H else B H := fun H z => go_iteN (fun h => h1 h H z) fun h => h2 h H z
theorem w_iteB {b : Bool} (h1 : b = true → Wh K Γ S A) (h2 : b = false → Wh K Γ S B) : Wh K Γ S fun H => if b = true then A H else B H := fun H z => by
  cases b with
  | true => exact iteT (h1 rfl H z)
  | false => exact iteF (h2 rfl H z)
theorem w_iteBN {b : Bool} (h1 : b = false → Wh K Γ S A) (h2 : b = true → Wh K Γ S B) : Wh K Γ S fun H => if (!b) = true then A H else B H := fun H z => by
  cases b with
  | true => exact iteF (h2 rfl H z)
  | false => exact iteT (h1 rfl H z)
theorem w_iteT (h : Wh K Γ S A) : Wh K Γ S fun H => if true = true then A H else B H := fun H z => iteT (h H z)
theorem w_iteF (h : Wh K Γ S B) : Wh K Γ S fun H => if false = true then A H else B H := fun H z => iteF (h H z)
theorem w_iteFn (h : Wh K Γ S A) : Wh K Γ S fun H => if (!false) = true then A H else B H := fun H z => iteT (h H z)
theorem w_iteTn (h : Wh K Γ S B) : Wh K Γ S fun H => if (!true) = true then A H else B H := fun H z => iteF (h H z)
/-! #### new objects -/
theorem w_tupD {xs : List V} {ds : List PyData} (hl : Nat.ble xs.length 100000 = true) (h : DL K Γ xs ds) (k : ∀ p, Wh K (.dat (.ref p) (.tuple ds) :: Γ) S fun H => Q (.ref p) H) : Wh K Γ S fun H => mkT xs H Q := fun H z =>
  ⟨by rw [sizeLine_eq]; have := Nat.le_of_ble_eq_true hl; omega, fun p hp => k p _ ((z.fix hp).learn (f := .dat (.ref p) (.tuple ds)) (fun G b => .tup (SqT.of (b _ List.mem_cons_self)) (h G fun f m => b f (List.mem_cons_of_mem _ m))) |>.weak fun f m => by
    rcases List.mem_cons.mp m with e | m
    · rw [e]; exact List.mem_cons_self
    · exact List.mem_cons_of_mem _ (List.mem_cons_of_mem _ m))⟩
theorem w_tupO {xs : List V} (hl : Nat.ble xs.length 100000 = true) (k : ∀ p, Wh K (.obj p (.tup xs) :: Γ) S fun H => Q (.ref p) H) : Wh K Γ S fun H => mkT xs H Q := fun H z =>
  ⟨by rw [sizeLine_eq]; have := Nat.le_of_ble_eq_true hl; omega, fun p hp => k p _ (z.fix hp)⟩
theorem w_lstO {xs : List V} (k : ∀ p, Wh K Γ (own p (.lst xs) :: S) fun H => Q (.ref p) H) (hl : Nat.ble xs.length 100000 = true := by rfl) : Wh K Γ S fun H => mkL xs H Q := fun H z =>
  ⟨by rw [sizeLine_eq]; have := Nat.le_of_ble_eq_true hl; omega, fun p hp => k p _ (z.new hp)⟩
theorem w_lenv {vs : List V} {ds : List PyData} (m : .dats vs ds ∈ Γ) (k : vs.length = ds.length → Wh K Γ S A) : Wh K Γ S A := fun H z => k (dpa_len (z.fact m : DpAll K H vs ds)) H z
theorem w_new {o : HO} (k : ∀ p, Wh K Γ (own p o :: S) fun H => Q (.ref p) H) : Wh K Γ S fun H => ∀ p, H p = none → Q (.ref p) (upd H p o) := fun H z p hp => k p _ (z.new hp)
theorem w_dK (k : ∀ p, Wh K Γ (own p (.dK []) :: S) fun H => Q (.ref p) H) : Wh K Γ S fun H => tDNew σ H Q := fun H z => go_dK fun p hp => k p _ (z.new hp)
theorem w_dT (k : ∀ p, Wh K Γ (own p (.dT []) :: S) fun H => Q (.ref p) H) : Wh K Γ S fun H => tDNew σ H Q := fun H z => go_dT fun p hp => k p _ (z.new hp)
/-- a list that is to stay -/
theorem w_freeze {p : Addr} {xs : List V} {ds : List PyData} (m : Take (own p (.lst xs)) S S') (h : DL K Γ xs ds) (k : Wh K (.dat (.ref p) (.list ds) :: Γ) S' A) : Wh K Γ S A := fun H z =>
  k H ((((z.tk1 m).freeze).learn (f := .dat (.ref p) (.list ds)) (fun G b => .lst (SqL.of (b _ List.mem_cons_self)) (h G fun f m => b f (List.mem_cons_of_mem _ m)))).weak fun f m => by
    rcases List.mem_cons.mp m with e | m
    · rw [e]; exact List.mem_cons_self
    · exact List.mem_cons_of_mem _ (List.mem_cons_of_mem _ m))
theorem w_freezeO {p : Addr} {o : HO} (m : Take (own p o) S S') (k : Wh K (.obj p o :: Γ) S' A) : Wh K Γ S A := fun H z => k H ((z.tk1 m).freeze)
theorem Hg.freezeD {p : Addr} {xs : List V} {ds : List PyData} (z : Hg K Γ S H) (m : Take (Mo.own p (.lst xs)) S S') (h : DL K Γ xs ds) : Hg K (.dat (.ref p) (.list ds) :: Γ) S' H := w_freeze (A := fun H => Hg K (.dat (.ref p) (.list ds) :: Γ) S' H) m h (fun _ z => z) H z
/-- data that follows from the facts is a fact -/
theorem w_dat {v : V} {d : PyData} (h : DV K Γ v d) (k : Wh K (.dat v d :: Γ) S A) : Wh K Γ S A := Wh.learn (f := .dat v d) h k
theorem w_dats {vs : List V} {ds : List PyData} (h : DL K Γ vs ds) (k : Wh K (.dats vs ds :: Γ) S A) : Wh K Γ S A := Wh.learn (f := .dats vs ds) h k
/-- a number drawn -/
theorem w_draw {pu : Addr} {n : Int} {E : XK} (m : pur pu ∈ S) (h0 : 0 < n) (hb : n ≤ 1000000000000000000) (k : ∀ d : Nat, (d : Int) < n → Wh K Γ S fun H => Q (.int (d : Int)) H) : Wh K Γ S fun H => spDraw [.ref pu, .int n] H Q E := fun H ⟨G, z1, z2⟩ =>
  ⟨G, S.flatten, pu, n, rfl, z1, List.mem_flatten.mpr ⟨_, m, List.mem_cons_self⟩, h0, Bd.mono (a := 60) (by show n.natAbs < 1152921504606846976; omega) (by decide), fun d H' d0 d1 z3 => by
    obtain ⟨e, rfl⟩ : ∃ e : Nat, d = (e : Int) := ⟨d.toNat, by omega⟩
    exact k e d1 H' ⟨G, z3, z2⟩⟩
/-! #### what stands there -/
theorem w_sub {p : Addr} {xs : List V} {j : Int} (m : AtH K Γ S p (.lst xs)) (e : atI xs j = some v) (k : Wh K Γ S fun H => Q v H) : Wh K Γ S fun H => rSub K (.ref p) (.int j) H Q := fun H z => go_subL (SqL.of (m H z)) e (k H z)
theorem w_subO {p : Addr} {xs : List V} {j : Int} (m : .obj p (.tup xs) ∈ Γ) (e : atI xs j = some v) (k : Wh K Γ S fun H => Q v H) : Wh K Γ S fun H => rSub K (.ref p) (.int j) H Q := fun H z => go_subT (SqT.of (z.obj m)) e (k H z)
theorem dpa_atI {G : Hp} {vs : List V} {ds : List PyData} {j : Int} {d : PyData} (h : DpAll K G vs ds) (e : atI ds j = some d) : ∃ v, atI vs j = some v ∧ Dp K G v d := by
  have hl := dpa_len h
  unfold atI at e ⊢
  rw [hl]
  cases q : ixN ds.length j with
  | none => rw [q] at e; cases e
  | some n =>
    rw [q] at e
    exact dpa_get h e
theorem gT {x : V} {ds : List PyData} {j : Int} {d : PyData} (m : .dat x (.tuple ds) ∈ Γ) (e : atI ds j = some d) (z : Hg K Γ S H) : ∃ a xs v, x = .ref a ∧ SqT K H a xs ∧ atI xs j = some v ∧ Hg K (.dat v d :: Γ) S H := by
  obtain ⟨G, h1, h2⟩ := z
  obtain ⟨a, xs, rfl, t1, t2⟩ := dp_tup (h2 _ m : Dp K G x (.tuple ds))
  obtain ⟨v, e1, e2⟩ := dpa_atI t2 e
  exact ⟨a, xs, v, rfl, ext_t h1.ex t1, e1, G, h1, cons_facts e2 h2⟩
theorem gL {x : V} {ds : List PyData} {j : Int} {d : PyData} (m : .dat x (.list ds) ∈ Γ) (e : atI ds j = some d) (z : Hg K Γ S H) : ∃ a xs v, x = .ref a ∧ SqL K H a xs ∧ atI xs j = some v ∧ Hg K (.dat v d :: Γ) S H := by
  obtain ⟨G, h1, h2⟩ := z
  obtain ⟨a, xs, rfl, t1, t2⟩ := dp_lst (h2 _ m : Dp K G x (.list ds))
  obtain ⟨v, e1, e2⟩ := dpa_atI t2 e
  exact ⟨a, xs, v, rfl, ext_l h1.ex t1, e1, G, h1, cons_facts e2 h2⟩
/-- the value of data: its address, if it has one -/
def valOf (d : PyData) (a : Addr) : V := match d with
  | .none => .non
  | .bool b => .bl b
  | .int i => .int i
  | .str x => .str x
  | .list _ => .ref a
  | .tuple _ => .ref a
  | .dict _ => .ref a
theorem valOf_n {a : Addr} : valOf .none a = .non := rfl
theorem valOf_b {a : Addr} {b : Bool} : valOf (.bool b) a = .bl b := rfl
theorem valOf_i {a : Addr} {i : Int} : valOf (.int i) a = .int i := rfl
theorem valOf_s {a : Addr} {x : Str} : valOf (.str x) a = .str x := rfl
theorem valOf_l {a : Addr} {ds : List PyData} : valOf (.list ds) a = .ref a := rfl
theorem valOf_t {a : Addr} {ds : List PyData} : valOf (.tuple ds) a = .ref a := rfl
theorem dp_val {G : Hp} {v : V} {d : PyData} (h : Dp K G v d) : ∃ a, v = valOf d a := by
  cases h with
  | non => exact ⟨0, rfl⟩
  | bl b => exact ⟨0, rfl⟩
  | int i => exact ⟨0, rfl⟩
  | str x => exact ⟨0, rfl⟩
  | lst h r => exact ⟨_, rfl⟩
  | tup h r => exact ⟨_, rfl⟩
theorem w_subD {x : V} {ds : List PyData} {j : Int} {d : PyData} (m : .dat x (.tuple ds) ∈ Γ) (e : atI ds j = some d) (k : ∀ a, Wh K (.dat (valOf d a) d :: Γ) S fun H => Q (valOf d a) H) : Wh K Γ S fun H => rSub K x (.int j) H Q := fun H z => by
  obtain ⟨a, xs, v, rfl, t1, e1, z1⟩ := gT m e z
  obtain ⟨b, rfl⟩ := dp_val (z1.dat List.mem_cons_self)
  exact go_subT t1 e1 (k b H z1)
theorem w_subL {x : V} {ds : List PyData} {j : Int} {d : PyData} (m : .dat x (.list ds) ∈ Γ) (e : atI ds j = some d) (k : ∀ a, Wh K (.dat (valOf d a) d :: Γ) S fun H => Q (valOf d a) H) : Wh K Γ S fun H => rSub K x (.int j) H Q := fun H z => by
  obtain ⟨a, xs, v, rfl, t1, e1, z1⟩ := gL m e z
  obtain ⟨b, rfl⟩ := dp_val (z1.dat List.mem_cons_self)
  exact go_subL t1 e1 (k b H z1)
theorem w_subDi {x : V} {ds : List PyData} {j : Int} {i : Int} (m : .dat x (.tuple ds) ∈ Γ) (e : atI ds j = some (.int i)) (k : Wh K Γ S fun H => Q (.int i) H) : Wh K Γ S fun H => rSub K x (.int j) H Q := fun H z => by
  obtain ⟨a, xs, v, rfl, t1, e1, z1⟩ := gT m e z
  obtain rfl := dp_int (z1.dat List.mem_cons_self)
  exact go_subT t1 e1 (k H z)
theorem w_subDs {x : V} {ds : List PyData} {j : Int} {i : Str} (m : .dat x (.tuple ds) ∈ Γ) (e : atI ds j = some (.str i)) (k : Wh K Γ S fun H => Q (.str i) H) : Wh K Γ S fun H => rSub K x (.int j) H Q := fun H z => by
  obtain ⟨a, xs, v, rfl, t1, e1, z1⟩ := gT m e z
  obtain rfl := dp_str (z1.dat List.mem_cons_self)
  exact go_subT t1 e1 (k H z)
theorem w_subLi {x : V} {ds : List PyData} {j : Int} {i : Int} (m : .dat x (.list ds) ∈ Γ) (e : atI ds j = some (.int i)) (k : Wh K Γ S fun H => Q (.int i) H) : Wh K Γ S fun H => rSub K x (.int j) H Q := fun H z => by
  obtain ⟨a, xs, v, rfl, t1, e1, z1⟩ := gL m e z
  obtain rfl := dp_int (z1.dat List.mem_cons_self)
  exact go_subL t1 e1 (k H z)
theorem w_subLs {x : V} {ds : List PyData} {j : Int} {i : Str} (m : .dat x (.list ds) ∈ Γ) (e : atI ds j = some (.str i)) (k : Wh K Γ S fun H => Q (.str i) H) : Wh K Γ S fun H => rSub K x (.int j) H Q := fun H z => by
  obtain ⟨a, xs, v, rfl, t1, e1, z1⟩ := gL m e z
  obtain rfl := dp_str (z1.dat List.mem_cons_self)
  exact go_subL t1 e1 (k H z)
theorem w_subK {p : Addr} {kvs : List (Key × V)} {z : Str} (m : AtH K Γ S p (.dK kvs)) (e : valV kvs (Sum.inr z) = some v) (k : Wh K Γ S fun H => Q v H) : Wh K Γ S fun H => rSub K (.ref p) (.str z) H Q := fun H w => go_subK (m H w) e (k H w)
theorem w_setK {p : Addr} {kvs : List (Key × V)} {z : Str} (m : Sw p (.dK kvs) (.dK (putK kvs (Sum.inr z) v)) S S') (hl : kvs.length ≤ 100000) (k : Wh K Γ S' A) : Wh K Γ S fun H => rSet (.ref p) (.str z) v H A := fun H w => go_setK (w.own m.mem) (by rw [sizeLine_eq]; omega) (k _ (w.sw m))
theorem w_setL {p : Addr} {xs : List V} {j : Int} {n : Nat} (m : Sw p (.lst xs) (.lst (xs.set n v)) S S') (hj : j = (n : Int)) (hn : n < xs.length) (k : Wh K Γ S' A) : Wh K Γ S fun H => rSet (.ref p) (.int j) v H A := fun H w => go_setL (w.own m.mem) (ixN_nat hj hn) (k _ (w.sw m))
theorem w_fldL {a C dx : Addr} {fs : List (Str × V)} {f : Str} {A : V → Hp → Prop} (m : AtH K Γ S a (.ins C dx fs)) (hl : fs.lookup f = some v) (hc : Cls K C) (hn : NoAttr K C f) (k : Wh K Γ S fun H => A v H) :
    Wh K Γ S fun H => ∃ b C' dx' fs' v', V.ref a = .ref b ∧ H b = some (.ins C' dx' fs') ∧ Cls K C' ∧ NoAttr K C' f ∧ fs'.lookup f = some v' ∧ A v' H := fun H z => ⟨a, C, dx, fs, v, rfl, m H z, hc, hn, hl, k H z⟩
theorem w_fld {f : Str} (k : Wh K Γ S fun H => ta σ H fun x H1 => ∃ a C dx fs v, x = .ref a ∧ H1 a = some (.ins C dx fs) ∧ Cls K C ∧ NoAttr K C f ∧ fs.lookup f = some v ∧ Q v H1) : Wh K Γ S fun H => tFld K ta f σ H Q := k
theorem w_sfld {f : Str} (k : Wh K Γ S fun H => tb σ H fun y H1 => ta σ H1 fun x H2 => ∃ a C dx fs, x = .ref a ∧ H2 a = some (.ins C dx fs) ∧ Cls K C ∧ NoAttr K C f ∧ fs.length < 1000 ∧ D.nx σ (upd H2 a (.ins C dx (putF f y fs)))) : Wh K Γ S fun H => sFld K ta tb f D σ H := k
theorem w_sfldL {a C dx : Addr} {fs fs' : List (Str × V)} {f : Str} {y : V} (m : Sw a (.ins C dx fs) (.ins C dx fs') S S') (hp : putF f y fs = fs') (hc : Cls K C) (hn : NoAttr K C f) (hl : Nat.blt fs.length 1000 = true) (k : Wh K Γ S' A) :
    Wh K Γ S fun H => ∃ b C' dx' fs', V.ref a = .ref b ∧ H b = some (.ins C' dx' fs') ∧ Cls K C' ∧ NoAttr K C' f ∧ fs'.length < 1000 ∧ A (upd H b (.ins C' dx' (putF f y fs'))) := fun H z => ⟨a, C, dx, fs, rfl, z.own m.mem, hc, hn, Nat.blt_eq.mp hl, by rw [hp]; exact k _ (z.sw m)⟩
theorem w_fldaug {rd : V → V → Hp → VK → Prop} {f : Str} (k : Wh K Γ S fun H => ta σ H fun x H1 => ∃ a C dx fs v, x = .ref a ∧ H1 a = some (.ins C dx fs) ∧ Cls K C ∧ NoAttr K C f ∧ fs.lookup f = some v ∧ tb σ H1 fun y H2 => rd v y H2 fun z H3 => ∃ dx' fs', H3 a = some (.ins C dx' fs') ∧ fs'.length < 1000 ∧ D.nx σ (upd H3 a (.ins C dx' (putF f z fs')))) : Wh K Γ S fun H => sFldAug K ta tb rd f D σ H := k
theorem w_fldaugL {a C dx : Addr} {fs : List (Str × V)} {f : Str} {A : Addr → Addr → V → Hp → Prop} (m : AtH K Γ S a (.ins C dx fs)) (hl : fs.lookup f = some v) (hc : Cls K C) (hn : NoAttr K C f) (k : Wh K Γ S fun H => A a C v H) :
    Wh K Γ S fun H => ∃ b C' dx' fs' v', V.ref a = .ref b ∧ H b = some (.ins C' dx' fs') ∧ Cls K C' ∧ NoAttr K C' f ∧ fs'.lookup f = some v' ∧ A b C' v' H := fun H z => ⟨a, C, dx, fs, v, rfl, m H z, hc, hn, hl, k H z⟩
theorem w_putL {a C dx : Addr} {fs fs' : List (Str × V)} {f : Str} {y : V} (m : Sw a (.ins C dx fs) (.ins C dx fs') S S') (hp : putF f y fs = fs') (hl : Nat.blt fs.length 1000 = true) (k : Wh K Γ S' A) :
    Wh K Γ S fun H => ∃ dx' fs', H a = some (.ins C dx' fs') ∧ fs'.length < 1000 ∧ A (upd H a (.ins C dx' (putF f y fs'))) := fun H z => ⟨dx, fs, z.own m.mem, Nat.blt_eq.mp hl, by rw [hp]; exact k _ (z.sw m)⟩
theorem w_meth {C : Addr} {m : Str} {sp : Sp} {E : St → XK} (k : Wh K Γ S fun H => ta σ H fun x H1 => ∃ a dx fs, x = .ref a ∧ H1 a = some (.ins C dx fs) ∧ fs.lookup m = none ∧ tA σ H1 fun vs H2 => sp (x :: vs) H2 Q (E σ)) : Wh K Γ S fun H => tMethS C m sp E ta tA σ H Q := k
theorem w_methL {a C dx : Addr} {fs : List (Str × V)} {f : Str} (m : AtH K Γ S a (.ins C dx fs)) (hl : fs.lookup f = none) (k : Wh K Γ S A) :
    Wh K Γ S fun H => ∃ b dx' fs', V.ref a = .ref b ∧ H b = some (.ins C dx' fs') ∧ fs'.lookup f = none ∧ A H := fun H z => ⟨a, dx, fs, rfl, m H z, hl, k H z⟩
theorem w_make {C : Addr} {sp : Sp} {E : St → XK} (k : Wh K Γ S fun H => tA σ H fun vs H1 => mkI C sp vs H1 Q (E σ)) : Wh K Γ S fun H => tMakeS C sp E tA σ H Q := k
theorem Hg.made {x dx C : Addr} {fs : List (Str × V)} (z : Hg K Γ S H) (nx : H x = none) (nd : H dx = none) (ne : dx ≠ x) : Hg K Γ (Mo.own x (.ins C dx fs) :: S) (upd (upd H dx (.own x)) x (.ins C dx fs)) := let ⟨G, a, b⟩ := z; ⟨G, a.made nx nd ne rfl, b⟩
theorem w_made {C : Addr} {sp : Sp} {vs : List V} {E : XK} (k : ∀ x dx, Wh K Γ (own x (.ins C dx []) :: S) fun H => sp (.ref x :: vs) H (fun v H2 => v = .non ∧ Q (.ref x) H2) E) : Wh K Γ S fun H => mkI C sp vs H Q E := fun H z x dx nx nd ne => k x dx _ (z.made nx nd ne)
theorem w_noned {A : V → Hp → Prop} (k : Wh K Γ S fun H => A .non H) : Wh K Γ S fun H => V.non = .non ∧ A .non H := fun H z => ⟨rfl, k H z⟩
/-! #### lists -/
theorem w_tyL {p : Addr} {xs : List V} (m : AtH K Γ S p (.lst xs)) (k : Wh K Γ S A) : Wh K Γ S fun H => tyV K "list" (.ref p) H ∧ A H := fun H z => go_tyL (SqL.of (m H z)) (k H z)
theorem w_tyD {v : V} {ds : List PyData} (m : .dat v (.list ds) ∈ Γ) (k : Wh K Γ S A) : Wh K Γ S fun H => tyV K "list" v H ∧ A H := fun H z => by
  obtain ⟨a, xs, rfl, h1, h2⟩ := dp_lst (z.dat m)
  exact go_tyL h1 (k H z)
theorem w_app {p : Addr} {xs : List V} (m : Sw p (.lst xs) (.lst (xs ++ [y])) S S') (hl : xs.length ≤ 100000) (k : Wh K Γ S' fun H => Q .non H) : Wh K Γ S fun H => rAppend (.ref p) [y] H Q := fun H z => go_app (z.own m.mem) (by rw [sizeLine_eq]; omega) (k _ (z.sw m))
theorem w_lenL {p : Addr} {xs : List V} (m : AtH K Γ S p (.lst xs)) (k : Wh K Γ S fun H => Q (.int (xs.length : Int)) H) : Wh K Γ S fun H => rLenA K [.ref p] H Q := fun H z => go_lenL (SqL.of (m H z)) (k H z)
theorem w_lenD {v : V} {ds : List PyData} (m : .dat v (.list ds) ∈ Γ) (k : Wh K Γ S fun H => Q (.int (ds.length : Int)) H) : Wh K Γ S fun H => rLenA K [v] H Q := fun H z => by
  obtain ⟨a, xs, rfl, h1, h2⟩ := dp_lst (z.dat m)
  have e := dpa_len h2
  refine go_lenL h1 ?_
  rw [e]
  exact k H z
theorem w_lenDT {v : V} {ds : List PyData} (m : .dat v (.tuple ds) ∈ Γ) (k : Wh K Γ S fun H => Q (.int (ds.length : Int)) H) : Wh K Γ S fun H => rLenA K [v] H Q := fun H z => by
  obtain ⟨a, xs, rfl, h1, h2⟩ := dp_tup (z.dat m)
  have e := dpa_len h2
  refine go_lenT h1 ?_
  rw [e]
  exact k H z
theorem w_lenS {z : Str} (h : z.length ≤ 100000) (k : Wh K Γ S fun H => Q (.int (z.length : Int)) H) : Wh K Γ S fun H => rLenA K [.str z] H Q := fun H w => go_lenS (by rw [sizeLine_eq]; omega) (k H w)
theorem w_lenK {p : Addr} {kvs : List (Key × V)} (m : AtH K Γ S p (.dK kvs)) (k : Wh K Γ S fun H => Q (.int (kvs.length : Int)) H) : Wh K Γ S fun H => rLenA K [.ref p] H Q := fun H z => go_lenK (m H z) (k H z)
theorem w_listL {p : Addr} {xs : List V} (m : AtH K Γ S p (.lst xs)) (k : ∀ l, Wh K Γ (own l (.lst xs) :: S) fun H => Q (.ref l) H) : Wh K Γ S fun H => rListOf K [.ref p] H Q := fun H z => go_listL (SqL.of (m H z)) fun l hl => k l _ (z.new hl)
theorem w_str {v : V} {x : Str} (m : .dat v (.str x) ∈ Γ) (k : v = .str x → Wh K Γ S A) : Wh K Γ S A := fun H z => k (dp_str (z.dat m)) H z
theorem w_intv {v : V} {x : Int} (m : .dat v (.int x) ∈ Γ) (k : v = .int x → Wh K Γ S A) : Wh K Γ S A := fun H z => k (dp_int (z.dat m)) H z
/-! #### targets -/
theorem w_gtO {n : Nat} {tgs : TGs} {a : Addr} {xs : List V} {Q : St → Hp → Prop} (m : .obj a (.tup xs) ∈ Γ) (hn : xs.length = n) (k : Wh K Γ S fun H => tgs xs σ H Q) : Wh K Γ S fun H => gTup K n tgs (.ref a) σ H Q := fun H z => go_gtup (SqT.of (z.obj m)) hn (k H z)
def zipF (vs : List V) (ds : List PyData) : List Fc := (vs.zip ds).map fun e => .dat e.1 e.2
theorem zipF_ok {G : Hp} : ∀ {vs : List V} {ds : List PyData}, DpAll K G vs ds → ∀ f ∈ zipF vs ds, f.In K G
  | _, _, .nil, f, m => by cases m
  | _, _, .cons h r, f, m => by
    rcases List.mem_cons.mp m with e | m
    · rw [e]; exact h
    · exact zipF_ok r f m
def valsOf : List PyData → List Addr → List V
  | d :: ds, a :: as => valOf d a :: valsOf ds as
  | _, _ => []
theorem dpa_vals {G : Hp} : ∀ {vs : List V} {ds : List PyData}, DpAll K G vs ds → ∃ as, as.length = ds.length ∧ vs = valsOf ds as
  | _, _, .nil => ⟨[], rfl, rfl⟩
  | _, _, .cons h r => by
    obtain ⟨a, rfl⟩ := dp_val h
    obtain ⟨as, h1, rfl⟩ := dpa_vals r
    exact ⟨a :: as, by rw [List.length_cons, List.length_cons, h1], rfl⟩
theorem w_gtD {n : Nat} {tgs : TGs} {v : V} {ds : List PyData} {Q : St → Hp → Prop} (m : .dat v (.tuple ds) ∈ Γ) (hn : ds.length = n) (k : ∀ as : List Addr, as.length = ds.length → Wh K (zipF (valsOf ds as) ds ++ Γ) S fun H => tgs (valsOf ds as) σ H Q) : Wh K Γ S fun H => gTup K n tgs v σ H Q := fun H z => by
  obtain ⟨G, h1, h2⟩ := z
  obtain ⟨a, xs, rfl, t1, t2⟩ := dp_tup (h2 _ m : Dp K G v (.tuple ds))
  obtain ⟨as, l1, rfl⟩ := dpa_vals t2
  have hl := dpa_len t2
  refine go_gtup (ext_t h1.ex t1) (hl.trans hn) (k as l1 H ⟨G, h1, fun f m => ?_⟩)
  rcases List.mem_append.mp m with m | m
  · exact zipF_ok t2 f m
  · exact h2 f m
theorem len2 {as : List Addr} {P : List Addr → Prop} (k : ∀ a b, P [a, b]) (h : as.length = 2) : P as := match as, h with | [a, b], _ => k a b
theorem len3 {as : List Addr} {P : List Addr → Prop} (k : ∀ a b c, P [a, b, c]) (h : as.length = 3) : P as := match as, h with | [a, b, c], _ => k a b c
theorem len4 {as : List Addr} {P : List Addr → Prop} (k : ∀ a b c d, P [a, b, c, d]) (h : as.length = 4) : P as := match as, h with | [a, b, c, d], _ => k a b c d
theorem len5 {as : List Addr} {P : List Addr → Prop} (k : ∀ a b c d e, P [a, b, c, d, e]) (h : as.length = 5) : P as := match as, h with | [a, b, c, d, e], _ => k a b c d e
theorem len6 {as : List Addr} {P : List Addr → Prop} (k : ∀ a b c d e f, P [a, b, c, d, e, f]) (h : as.length = 6) : P as := match as, h with | [a, b, c, d, e, f], _ => k a b c d e f
theorem len7 {as : List Addr} {P : List Addr → Prop} (k : ∀ a b c d e f g, P [a, b, c, d, e, f, g]) (h : as.length = 7) : P as := match as, h with | [a, b, c, d, e, f, g], _ => k a b c d e f g
section
variable {tgs : TGs} {Q : St → Hp → Prop} {d1 d2 d3 d4 d5 d6 d7 : PyData}
theorem w_gt2 (m : .dat v (.tuple [d1, d2]) ∈ Γ) (k : ∀ a b, Wh K (.dat (valOf d1 a) d1 :: .dat (valOf d2 b) d2 :: Γ) S fun H => tgs [valOf d1 a, valOf d2 b] σ H Q) : Wh K Γ S fun H => gTup K 2 tgs v σ H Q := w_gtD m rfl fun _ h => len2 (P := fun as => Wh K (zipF (valsOf [d1, d2] as) [d1, d2] ++ Γ) S fun H => tgs (valsOf [d1, d2] as) σ H Q) k h
theorem w_gt3 (m : .dat v (.tuple [d1, d2, d3]) ∈ Γ) (k : ∀ a b c, Wh K (.dat (valOf d1 a) d1 :: .dat (valOf d2 b) d2 :: .dat (valOf d3 c) d3 :: Γ) S fun H => tgs [valOf d1 a, valOf d2 b, valOf d3 c] σ H Q) : Wh K Γ S fun H => gTup K 3 tgs v σ H Q := w_gtD m rfl fun _ h => len3 (P := fun as => Wh K (zipF (valsOf [d1, d2, d3] as) [d1, d2, d3] ++ Γ) S fun H => tgs (valsOf [d1, d2, d3] as) σ H Q) k h
theorem w_gt4 (m : .dat v (.tuple [d1, d2, d3, d4]) ∈ Γ) (k : ∀ a b c d, Wh K (.dat (valOf d1 a) d1 :: .dat (valOf d2 b) d2 :: .dat (valOf d3 c) d3 :: .dat (valOf d4 d) d4 :: Γ) S fun H => tgs [valOf d1 a, valOf d2 b, valOf d3 c, valOf d4 d] σ H Q) : Wh K Γ S fun H => gTup K 4 tgs v σ H Q := w_gtD m rfl fun _ h => len4 (P := fun as => Wh K (zipF (valsOf [d1, d2, d3, d4] as) [d1, d2, d3, d4] ++ Γ) S fun H => tgs (valsOf [d1, d2, d3, d4] as) σ H Q) k h
theorem w_gt5 (m : .dat v (.tuple [d1, d2, d3, d4, d5]) ∈ Γ) (k : ∀ a b c d e, Wh K (.dat (valOf d1 a) d1 :: .dat (valOf d2 b) d2 :: .dat (valOf d3 c) d3 :: .dat (valOf d4 d) d4 :: .dat (valOf d5 e) d5 :: Γ) S fun H => tgs [valOf d1 a, valOf d2 b, valOf d3 c, valOf d4 d, valOf d5 e] σ H Q) : Wh K Γ S fun H => gTup K 5 tgs v σ H Q := w_gtD m rfl fun _ h => len5 (P := fun as => Wh K (zipF (valsOf [d1, d2, d3, d4, d5] as) [d1, d2, d3, d4, d5] ++ Γ) S fun H => tgs (valsOf [d1, d2, d3, d4, d5] as) σ H Q) k h
theorem w_gt6 (m : .dat v (.tuple [d1, d2, d3, d4, d5, d6]) ∈ Γ) (k : ∀ a b c d e f, Wh K (.dat (valOf d1 a) d1 :: .dat (valOf d2 b) d2 :: .dat (valOf d3 c) d3 :: .dat (valOf d4 d) d4 :: .dat (valOf d5 e) d5 :: .dat (valOf d6 f) d6 :: Γ) S fun H => tgs [valOf d1 a, valOf d2 b, valOf d3 c, valOf d4 d, valOf d5 e, valOf d6 f] σ H Q) : Wh K Γ S fun H => gTup K 6 tgs v σ H Q := w_gtD m rfl fun _ h => len6 (P := fun as => Wh K (zipF (valsOf [d1, d2, d3, d4, d5, d6] as) [d1, d2, d3, d4, d5, d6] ++ Γ) S fun H => tgs (valsOf [d1, d2, d3, d4, d5, d6] as) σ H Q) k h
theorem w_gt7 (m : .dat v (.tuple [d1, d2, d3, d4, d5, d6, d7]) ∈ Γ) (k : ∀ a b c d e f g, Wh K (.dat (valOf d1 a) d1 :: .dat (valOf d2 b) d2 :: .dat (valOf d3 c) d3 :: .dat (valOf d4 d) d4 :: .dat (valOf d5 e) d5 :: .dat (valOf d6 f) d6 :: .dat (valOf d7 g) d7 :: Γ) S fun H => tgs [valOf d1 a, valOf d2 b, valOf d3 c, valOf d4 d, valOf d5 e, valOf d6 f, valOf d7 g] σ H Q) : Wh K Γ S fun H => gTup K 7 tgs v σ H Q := w_gtD m rfl fun _ h => len7 (P := fun as => Wh K (zipF (valsOf [d1, d2, d3, d4, d5, d6, d7] as) [d1, d2, d3, d4, d5, d6, d7] ++ Γ) S fun H => tgs (valsOf [d1, d2, d3, d4, d5, d6, d7] as) σ H Q) k h
end
/-! #### loops: what holds at each turn, by what is carried -/
def NX {ι : Type} (K : PySem.W.Frag) (C : ι → Prop) (sg : ι → St) (Γf : ι → List Fc) (Sf : ι → List Vo) : St → Hp → Prop := fun σ H => ∃ a, C a ∧ σ = sg a ∧ Hg K (Γf a) (Sf a) H
def NH {ι : Type} (K : PySem.W.Frag) (C : ι → Prop) (Γf : ι → List Fc) (Sf : ι → List Vo) : Hp → Prop := fun H => ∃ a, C a ∧ Hg K (Γf a) (Sf a) H
def PrmS (S' S : List Vo) : Prop := S'.flatten.Perm S.flatten
theorem prm_refl : PrmS S S := List.Perm.refl _
theorem prm_cons {x : Vo} {R : List Vo} (h : Take x S R) (k : PrmS S' R) : PrmS (x :: S') S := (List.Perm.append_left x k).trans h.symm
section
variable {ι : Type} {tl : TE} {tw : TS}
theorem w_again {C : ι → Prop} {sg : ι → St} {Γf : ι → List Fc} {Sf : ι → List Vo} (a : ι) (hC : C a) (hσ : σ = sg a) (hΓ : ∀ f ∈ Γf a, f ∈ Γ) (hS : Dr S (Sf a)) : Wh K Γ S fun H => NX K C sg Γf Sf σ H := fun _ z => ⟨a, hC, hσ, z.fit hΓ hS⟩
theorem w_againH {C : ι → Prop} {Γf : ι → List Fc} {Sf : ι → List Vo} (a : ι) (hC : C a) (hΓ : ∀ f ∈ Γf a, f ∈ Γ) (hS : Dr S (Sf a)) : Wh K Γ S fun H => NH K C Γf Sf H := fun _ z => ⟨a, hC, z.fit hΓ hS⟩
def forSeq (K : PySem.W.Frag) (g : TG) (tw : TS) (D : Ends) (σ : St) (x : V) (H : Hp) : Prop := ∃ a, x = .ref a ∧ (((∃ xs, SqL K H a xs) ∧ LoopX g tw D σ H (Itl K a)) ∨ ((∃ xs, SqT K H a xs) ∧ LoopX g tw D σ H (Itt K a)))
def forRng (g : TG) (tw : TS) (D : Ends) (σ : St) (vs : List V) (H : Hp) : Prop := ∃ j : Int, vs = [.int j] ∧ -(2 ^ 62) ≤ j ∧ j < 2 ^ 62 ∧ LoopX g tw D σ H (Itr 0 j.toNat)
theorem w_forSeq (k : Wh K Γ S fun H => tl σ H fun x H1 => forSeq K g tw D σ x H1) : Wh K Γ S fun H => tFor (iSeq K tl) g tw D σ H := k
theorem w_forRng (k : Wh K Γ S fun H => tA σ H fun vs H1 => forRng g tw D σ vs H1) : Wh K Γ S fun H => tFor (iRng1 tA) g tw D σ H := k
theorem w_forR {j : Int} (n : Nat) (hj : j = (n : Int)) (hn : n ≤ 1000000) (k : Wh K Γ S fun H => LoopX g tw D σ H (Itr 0 n)) : Wh K Γ S fun H => forRng g tw D σ [.int j] H := fun H z => by
  subst hj
  exact ⟨(n : Int), rfl, by omega, by omega, by rw [Int.toNat_natCast]; exact k H z⟩
theorem w_forL {p : Addr} {xs : List V} (m : AtH K Γ S p (.lst xs)) (k : Wh K Γ S fun H => LoopX g tw D σ H (Itl K p)) : Wh K Γ S fun H => forSeq K g tw D σ (.ref p) H := fun H z => ⟨p, rfl, .inl ⟨⟨xs, SqL.of (m H z)⟩, k H z⟩⟩
theorem w_forD {p : Addr} {ds : List PyData} (m : .dat (.ref p) (.list ds) ∈ Γ) (k : Wh K Γ S fun H => LoopX g tw D σ H (Itl K p)) : Wh K Γ S fun H => forSeq K g tw D σ (.ref p) H := fun H z => by
  obtain ⟨a, xs, ea, h1, h2⟩ := dp_lst (z.dat m)
  cases ea
  exact ⟨p, rfl, .inl ⟨⟨xs, h1⟩, k H z⟩⟩
theorem w_loop_r (n : Nat) (C : Nat → ι → Prop) (sg : Nat → ι → St) (Γf : Nat → ι → List Fc) (Sf : Nat → ι → List Vo) (a0 : ι) (h0 : C 0 a0) (hσ : σ = sg 0 a0) (hΓ : ∀ f ∈ Γf 0 a0, f ∈ Γ) (hS : Dr S (Sf 0 a0))
    (hs : ∀ (i : Nat) a, i < n → C i a → Wh K (Γf i a) (Sf i a) fun H => g (.int (i : Int)) (sg i a) H fun σ2 H2 => tw { D with nx := NX K (C (i + 1)) (sg (i + 1)) (Γf (i + 1)) (Sf (i + 1)), ct := NX K (C (i + 1)) (sg (i + 1)) (Γf (i + 1)) (Sf (i + 1)), bk := D.nx } σ2 H2)
    (hd : ∀ a, C n a → Wh K (Γf n a) (Sf n a) fun H => D.nx (sg n a) H) : Wh K Γ S fun H => LoopX g tw D σ H (Itr 0 n) := fun H z =>
  loop_r n (fun i => NX K (C i) (sg i) (Γf i) (Sf i)) (w_again a0 h0 hσ hΓ hS H z) (fun i σ' H' hi ⟨a, hC, hσ, z⟩ => by subst hσ; exact hs i a hi hC H' z) fun σ' H' ⟨a, hC, hσ, z⟩ => by subst hσ; exact hd a hC H' z
/-- over a list that stands (and stays) in the heap -/
theorem w_loop_l {p : Addr} (xs : List V) (C : Nat → ι → Prop) (sg : Nat → ι → St) (Γf : Nat → ι → List Fc) (Sf : Nat → ι → List Vo) (a0 : ι) (h0 : C 0 a0) (hσ : σ = sg 0 a0) (hΓ : ∀ f ∈ Γf 0 a0, f ∈ Γ) (hS : Dr S (Sf 0 a0))
    (hl : ∀ i a, AtH K (Γf i a) (Sf i a) p (.lst xs))
    (hs : ∀ (i : Nat) x a, xs[i]? = some x → C i a → Wh K (Γf i a) (Sf i a) fun H => g x (sg i a) H fun σ2 H2 => tw { D with nx := NX K (C (i + 1)) (sg (i + 1)) (Γf (i + 1)) (Sf (i + 1)), ct := NX K (C (i + 1)) (sg (i + 1)) (Γf (i + 1)) (Sf (i + 1)), bk := D.nx } σ2 H2)
    (hd : ∀ a, C xs.length a → Wh K (Γf xs.length a) (Sf xs.length a) fun H => D.nx (sg xs.length a) H) : Wh K Γ S fun H => LoopX g tw D σ H (Itl K p) := fun H z =>
  loop_l (xs := xs) (fun i => NX K (C i) (sg i) (Γf i) (Sf i)) (w_again a0 h0 hσ hΓ hS H z) (fun i σ' H' _ ⟨a, hC, hσ, z⟩ => SqL.of (hl i a H' z)) (fun i x σ' H' hi ⟨a, hC, hσ, z⟩ => by subst hσ; exact hs i x a hi hC H' z) fun σ' H' ⟨a, hC, hσ, z⟩ => by subst hσ; exact hd a hC H' z
theorem go_Q {p : Addr} {ds : List PyData} {xs : List V} {G : Hp} (h : Dp K G (.ref p) (.list ds)) (e : Ext G H) (q : ∀ xs, SqL K H p xs → xs[i]? = some v) {d : PyData} (hd : ds[i]? = some d) : Dp K G v d := by
  obtain ⟨a, ys, ea, h1, h2⟩ := dp_lst h
  cases ea
  obtain ⟨w, e1, e2⟩ := dpa_get h2 hd
  have := (q ys (ext_l e h1)).symm.trans e1
  cases this
  exact e2
/-- over a list that is data -/
theorem w_loop_D {p : Addr} (ds : List PyData) (C : Nat → ι → Prop) (sg : Nat → ι → St) (Γf : Nat → ι → List Fc) (Sf : Nat → ι → List Vo) (a0 : ι) (h0 : C 0 a0) (hσ : σ = sg 0 a0) (hΓ : ∀ f ∈ Γf 0 a0, f ∈ Γ) (hS : Dr S (Sf 0 a0))
    (hl : ∀ i a, .dat (.ref p) (.list ds) ∈ Γf i a)
    (hs : ∀ (i : Nat) d v a, ds[i]? = some d → C i a → Wh K (.dat v d :: Γf i a) (Sf i a) fun H => g v (sg i a) H fun σ2 H2 => tw { D with nx := NX K (C (i + 1)) (sg (i + 1)) (Γf (i + 1)) (Sf (i + 1)), ct := NX K (C (i + 1)) (sg (i + 1)) (Γf (i + 1)) (Sf (i + 1)), bk := D.nx } σ2 H2)
    (hd : ∀ a, C ds.length a → Wh K (Γf ds.length a) (Sf ds.length a) fun H => D.nx (sg ds.length a) H) : Wh K Γ S fun H => LoopX g tw D σ H (Itl K p) := fun H z => by
  refine ⟨fun i m σ H => m = ds.length - i ∧ i ≤ ds.length ∧ NX K (C i) (sg i) (Γf i) (Sf i) σ H, ⟨ds.length, by simp, Nat.zero_le _, w_again a0 h0 hσ hΓ hS H z⟩, ?_⟩
  rintro i m σ' H' ⟨rfl, hi, a, hC, hσ, z'⟩
  subst hσ
  obtain ⟨G, z1, z2⟩ := id z'
  obtain ⟨b, ys, ea, t1, t2⟩ := dp_lst (z2 _ (hl i a) : Dp K G (.ref p) (.list ds))
  cases ea
  have hlen := dpa_len t2
  by_cases hlt : i < ds.length
  · obtain ⟨v, e1, e2⟩ := dpa_get t2 (List.getElem?_eq_getElem hlt)
    refine .inr ⟨⟨ys, v, ext_l z1.ex t1, e1⟩, NX K (C (i + 1)) (sg (i + 1)) (Γf (i + 1)) (Sf (i + 1)), fun σ'' H'' p' => ⟨ds.length - (i + 1), by omega, rfl, hlt, p'⟩, fun x H'' y => ?_⟩
    obtain ⟨rfl, y2⟩ := y
    exact hs i _ x a (List.getElem?_eq_getElem hlt) hC H'' ⟨G, z1, cons_facts (f := .dat x _) (go_Q (xs := ys) (z2 _ (hl i a)) z1.ex y2 (List.getElem?_eq_getElem hlt)) z2⟩
  · have e : i = ds.length := by omega
    subst e
    exact .inl ⟨⟨ys, ext_l z1.ex t1, by omega⟩, hd a hC H' z'⟩
theorem w_while {ω : Type} (C : Nat → ι → Prop) (sg : ι → St) (Γf : ι → List Fc) (Sf : ι → List Vo) (m0 : Nat) (a0 : ι) (h0 : C m0 a0) (hσ : σ = sg a0) (hΓ : ∀ f ∈ Γf a0, f ∈ Γ) (hS : Dr S (Sf a0))
    (hs : ∀ m a, C m a → Wh K (Γf a) (Sf a) fun H => c (sg a) H fun b H1 => if b = true then ∃ N : St → Hp → Prop, (∀ σ2 H2, N σ2 H2 → ∃ m', m' < m ∧ NX K (C m') sg Γf Sf σ2 H2) ∧ tw { D with nx := N, ct := N, bk := D.nx } (sg a) H1 else D.nx (sg a) H1) : Wh K Γ S fun H => tWhile c tw D σ H := fun H z =>
  go_while (fun m => NX K (C m) sg Γf Sf) m0 (w_again a0 h0 hσ hΓ hS H z) fun m σ' H' ⟨a, hC, hσ, z⟩ => by subst hσ; exact hs m a hC H' z
theorem w_turn {C : Nat → ι → Prop} {sg : ι → St} {Γf : ι → List Fc} {Sf : ι → List Vo} {m : Nat} {A : (St → Hp → Prop) → Hp → Prop} (k : Wh K Γ S fun H => A (fun σ2 H2 => ∃ m', m' < m ∧ NX K (C m') sg Γf Sf σ2 H2) H) :
    Wh K Γ S fun H => ∃ N : St → Hp → Prop, (∀ σ2 H2, N σ2 H2 → ∃ m', m' < m ∧ NX K (C m') sg Γf Sf σ2 H2) ∧ A N H := fun H z => ⟨_, fun _ _ h => h, k H z⟩
theorem w_less {C : Nat → ι → Prop} {sg : ι → St} {Γf : ι → List Fc} {Sf : ι → List Vo} {m : Nat} (m' : Nat) (hm : m' < m) (k : Wh K Γ S fun H => NX K (C m') sg Γf Sf σ H) : Wh K Γ S fun H => ∃ m', m' < m ∧ NX K (C m') sg Γf Sf σ H := fun H z => ⟨m', hm, k H z⟩
/-- an assertion between two parts -/
theorem w_cut {t u : TS} (C : ι → Prop) (sg : ι → St) (Γf : ι → List Fc) (Sf : ι → List Vo) (h1 : Wh K Γ S fun H => t { D with nx := NX K C sg Γf Sf } σ H) (h2 : ∀ a, C a → Wh K (Γf a) (Sf a) fun H => u D (sg a) H) : Wh K Γ S fun H => Evl.tCut t u D σ H := fun H z =>
  ⟨NX K C sg Γf Sf, h1 H z, fun σ' H' ⟨a, hC, hσ, z⟩ => by subst hσ; exact h2 a hC H' z⟩
/-! #### list comprehensions -/
variable {tt : TT} {te : TE} {vs : List Nat}
def lcSeq (K : PySem.W.Frag) (g : TG) (tt : TT) (te : TE) (vs : List Nat) (σ : St) (Q : VK) (x : V) (H : Hp) : Prop := ∃ a, x = .ref a ∧ (((∃ xs, SqL K H a xs) ∧ LcA g tt te vs σ Q H (Itl K a)) ∨ ((∃ xs, SqT K H a xs) ∧ LcA g tt te vs σ Q H (Itt K a)))
def lcRng (g : TG) (tt : TT) (te : TE) (vs : List Nat) (σ : St) (Q : VK) (xs : List V) (H : Hp) : Prop := ∃ j : Int, xs = [.int j] ∧ -(2 ^ 62) ≤ j ∧ j < 2 ^ 62 ∧ LcA g tt te vs σ Q H (Itr 0 j.toNat)
theorem w_lcSeq (k : Wh K Γ S fun H => tl σ H fun x H1 => lcSeq K g tt te vs σ Q x H1) : Wh K Γ S fun H => tLc (iSeq K tl) g tt te vs σ H Q := k
theorem w_lcRng (k : Wh K Γ S fun H => tA σ H fun xs H1 => lcRng g tt te vs σ Q xs H1) : Wh K Γ S fun H => tLc (iRng1 tA) g tt te vs σ H Q := k
theorem w_lcR {j : Int} (n : Nat) (hj : j = (n : Int)) (hn : n ≤ 1000000) (k : Wh K Γ S fun H => LcA g tt te vs σ Q H (Itr 0 n)) : Wh K Γ S fun H => lcRng g tt te vs σ Q [.int j] H := fun H z => by
  subst hj
  exact ⟨(n : Int), rfl, by omega, by omega, by rw [Int.toNat_natCast]; exact k H z⟩
theorem w_lcL {p : Addr} {xs : List V} (m : AtH K Γ S p (.lst xs)) (k : Wh K Γ S fun H => LcA g tt te vs σ Q H (Itl K p)) : Wh K Γ S fun H => lcSeq K g tt te vs σ Q (.ref p) H := fun H z => ⟨p, rfl, .inl ⟨⟨xs, SqL.of (m H z)⟩, k H z⟩⟩
theorem w_lcD {p : Addr} {ds : List PyData} (m : .dat (.ref p) (.list ds) ∈ Γ) (k : Wh K Γ S fun H => LcA g tt te vs σ Q H (Itl K p)) : Wh K Γ S fun H => lcSeq K g tt te vs σ Q (.ref p) H := fun H z => by
  obtain ⟨a, xs, ea, h1, h2⟩ := dp_lst (z.dat m)
  cases ea
  exact ⟨p, rfl, .inl ⟨⟨xs, h1⟩, k H z⟩⟩
theorem w_yes {Q : Bool → Hp → Prop} (k : Wh K Γ S fun H => Q true H) : Wh K Γ S fun H => tYes σ H Q := k
theorem w_same {P : Prop} (h : P) (k : Wh K Γ S A) : Wh K Γ S fun H => P ∧ A H := fun H z => ⟨h, k H z⟩
def NL {ι : Type} (K : PySem.W.Frag) (Dl : Addr) (C : ι → Prop) (ac : ι → List V) (Γf : ι → List Fc) (Sf : ι → List Vo) : Hp → Prop := fun H => ∃ a, C a ∧ Hg K (Γf a) (own Dl (.lst (ac a)) :: Sf a) H
theorem w_lcn {Dl : Addr} {C : ι → Prop} {ac : ι → List V} {Γf : ι → List Fc} {Sf : ι → List Vo} (a : ι) (hC : C a) (hΓ : ∀ f ∈ Γf a, f ∈ Γ) (hS : Dr S (own Dl (.lst (ac a)) :: Sf a)) : Wh K Γ S fun H => NL K Dl C ac Γf Sf H := fun _ z => ⟨a, hC, z.fit hΓ hS⟩
theorem w_lcp {Dl : Addr} {C : ι → Prop} {ac : ι → List V} {Γf : ι → List Fc} {Sf : ι → List Vo} {xs : List V} {R : List Vo} (a : ι) (hC : C a) (ea : ac a = xs ++ [y]) (m : Take (own Dl (.lst xs)) S R) (hl : xs.length ≤ 100000) (hΓ : ∀ f ∈ Γf a, f ∈ Γ) (hS : Dr R (Sf a)) :
    Wh K Γ S fun H => ∃ acc, H Dl = some (.lst acc) ∧ acc.length < sizeLine ∧ NL K Dl C ac Γf Sf (upd H Dl (.lst (acc ++ [y]))) := fun H z => by
  have z1 := z.tk1 m
  refine ⟨xs, z1.own List.mem_cons_self, by rw [sizeLine_eq]; omega, a, hC, ?_⟩
  have z2 := z1.sw (o' := .lst (xs ++ [y])) Sw.here
  rw [ea]
  exact z2.fit hΓ (Dr.keep Take.here hS)
theorem w_lc_r (n : Nat) (C : Nat → ι → Prop) (ac : Nat → ι → List V) (Γf : Nat → ι → List Fc) (Sf : Nat → ι → List Vo) (a0 : ι) (h0 : C 0 a0) (ha : ac 0 a0 = []) (hΓ : ∀ f ∈ Γf 0 a0, f ∈ Γ) (hS : Dr S (Sf 0 a0))
    (hs : ∀ Dl (i : Nat) a, i < n → C i a → Wh K (Γf i a) (own Dl (.lst (ac i a)) :: Sf i a) fun H => g (.int (i : Int)) (wipe σ vs) H fun σ2 H2 => wipe σ2 vs = wipe σ vs ∧ tt σ2 H2 fun b H3 =>
      if b = true then te σ2 H3 fun y H4 => ∃ acc, H4 Dl = some (.lst acc) ∧ acc.length < sizeLine ∧ NL K Dl (C (i + 1)) (ac (i + 1)) (Γf (i + 1)) (Sf (i + 1)) (upd H4 Dl (.lst (acc ++ [y]))) else NL K Dl (C (i + 1)) (ac (i + 1)) (Γf (i + 1)) (Sf (i + 1)) H3)
    (hd : ∀ Dl a, C n a → Wh K (Γf n a) (own Dl (.lst (ac n a)) :: Sf n a) fun H => Q (.ref Dl) H) : Wh K Γ S fun H => LcA g tt te vs σ Q H (Itr 0 n) := fun H z Dl hD =>
  lcx_r n (fun i => NL K Dl (C i) (ac i) (Γf i) (Sf i)) ⟨a0, h0, by rw [ha]; exact (z.fit hΓ hS).new hD⟩ (fun i H' hi ⟨a, hC, z⟩ => hs Dl i a hi hC H' z) fun H' ⟨a, hC, z⟩ => hd Dl a hC H' z
theorem w_lc_l {p : Addr} (xs : List V) (C : Nat → ι → Prop) (ac : Nat → ι → List V) (Γf : Nat → ι → List Fc) (Sf : Nat → ι → List Vo) (a0 : ι) (h0 : C 0 a0) (ha : ac 0 a0 = []) (hΓ : ∀ f ∈ Γf 0 a0, f ∈ Γ) (hS : Dr S (Sf 0 a0))
    (hl : ∀ i a, AtH K (Γf i a) (Sf i a) p (.lst xs))
    (hs : ∀ Dl (i : Nat) x a, xs[i]? = some x → C i a → Wh K (Γf i a) (own Dl (.lst (ac i a)) :: Sf i a) fun H => g x (wipe σ vs) H fun σ2 H2 => wipe σ2 vs = wipe σ vs ∧ tt σ2 H2 fun b H3 =>
      if b = true then te σ2 H3 fun y H4 => ∃ acc, H4 Dl = some (.lst acc) ∧ acc.length < sizeLine ∧ NL K Dl (C (i + 1)) (ac (i + 1)) (Γf (i + 1)) (Sf (i + 1)) (upd H4 Dl (.lst (acc ++ [y]))) else NL K Dl (C (i + 1)) (ac (i + 1)) (Γf (i + 1)) (Sf (i + 1)) H3)
    (hd : ∀ Dl a, C xs.length a → Wh K (Γf xs.length a) (own Dl (.lst (ac xs.length a)) :: Sf xs.length a) fun H => Q (.ref Dl) H) : Wh K Γ S fun H => LcA g tt te vs σ Q H (Itl K p) := fun H z Dl hD =>
  lcx_l (xs := xs) (fun i => NL K Dl (C i) (ac i) (Γf i) (Sf i)) ⟨a0, h0, by rw [ha]; exact (z.fit hΓ hS).new hD⟩ (fun i H' _ ⟨a, hC, z⟩ => SqL.of (hl i a H' z.pop)) (fun i x H' hi ⟨a, hC, z⟩ => hs Dl i x a hi hC H' z) fun H' ⟨a, hC, z⟩ => hd Dl a hC H' z
theorem w_lc_D {p : Addr} (ds : List PyData) (C : Nat → ι → Prop) (ac : Nat → ι → List V) (Γf : Nat → ι → List Fc) (Sf : Nat → ι → List Vo) (a0 : ι) (h0 : C 0 a0) (ha : ac 0 a0 = []) (hΓ : ∀ f ∈ Γf 0 a0, f ∈ Γ) (hS : Dr S (Sf 0 a0))
    (hl : ∀ i a, .dat (.ref p) (.list ds) ∈ Γf i a)
    (hs : ∀ Dl (i : Nat) d v a, ds[i]? = some d → C i a → Wh K (.dat v d :: Γf i a) (own Dl (.lst (ac i a)) :: Sf i a) fun H => g v (wipe σ vs) H fun σ2 H2 => wipe σ2 vs = wipe σ vs ∧ tt σ2 H2 fun b H3 =>
      if b = true then te σ2 H3 fun y H4 => ∃ acc, H4 Dl = some (.lst acc) ∧ acc.length < sizeLine ∧ NL K Dl (C (i + 1)) (ac (i + 1)) (Γf (i + 1)) (Sf (i + 1)) (upd H4 Dl (.lst (acc ++ [y]))) else NL K Dl (C (i + 1)) (ac (i + 1)) (Γf (i + 1)) (Sf (i + 1)) H3)
    (hd : ∀ Dl a, C ds.length a → Wh K (Γf ds.length a) (own Dl (.lst (ac ds.length a)) :: Sf ds.length a) fun H => Q (.ref Dl) H) : Wh K Γ S fun H => LcA g tt te vs σ Q H (Itl K p) := fun H z Dl hD => by
  refine ⟨fun i m H => m = ds.length - i ∧ i ≤ ds.length ∧ NL K Dl (C i) (ac i) (Γf i) (Sf i) H, ⟨ds.length, by simp, Nat.zero_le _, a0, h0, by rw [ha]; exact (z.fit hΓ hS).new hD⟩, ?_⟩
  rintro i m H' ⟨rfl, hi, a, hC, z'⟩
  obtain ⟨G, z1, z2⟩ := id z'
  obtain ⟨b, ys, ea, t1, t2⟩ := dp_lst (z2 _ (hl i a) : Dp K G (.ref p) (.list ds))
  cases ea
  have hlen := dpa_len t2
  by_cases hlt : i < ds.length
  · obtain ⟨v, e1, e2⟩ := dpa_get t2 (List.getElem?_eq_getElem hlt)
    refine .inr ⟨⟨ys, v, ext_l z1.ex t1, e1⟩, NL K Dl (C (i + 1)) (ac (i + 1)) (Γf (i + 1)) (Sf (i + 1)), fun H'' p' => ⟨ds.length - (i + 1), by omega, rfl, hlt, p'⟩, fun x H'' y => ?_⟩
    obtain ⟨rfl, y2⟩ := y
    exact hs Dl i _ x a (List.getElem?_eq_getElem hlt) hC H'' ⟨G, z1, cons_facts (f := .dat x _) (go_Q (xs := ys) (z2 _ (hl i a)) z1.ex y2 (List.getElem?_eq_getElem hlt)) z2⟩
  · have e : i = ds.length := by omega
    subst e
    exact .inl ⟨⟨ys, ext_l z1.ex t1, by omega⟩, hd Dl a hC H' z'⟩
end
end
/-! ### promises of one shape -/
def SpF {ι : Type} (K : PySem.W.Frag) (A : ι → List V) (Pr : ι → List Fc → Prop) (O : ι → List Vo) (Po : ι → V → List Fc → List Vo → Prop) (Ex : ι → Value → List Fc → List Vo → Prop) : Sp := fun vs H Q E => ∃ (i : ι) (Γ : List Fc) (S : List Vo), vs = A i ∧ Hg K Γ (O i ++ S) H ∧ Pr i Γ ∧
  (∀ v Γ' S' H', Po i v Γ' S' → Hg K (Γ' ++ Γ) (S' ++ S) H' → Q v H') ∧ ∀ e Γ' S' H', Ex i e Γ' S' → Hg K (Γ' ++ Γ) (S' ++ S) H' → E e none H'
def noEx {ι : Type} : ι → Value → List Fc → List Vo → Prop := fun _ _ _ _ => False
section
variable {ι : Type} {K : PySem.W.Frag} {Γ : List Fc} {S R : List Vo} {A : ι → List V} {Pr : ι → List Fc → Prop} {O : ι → List Vo} {Po : ι → V → List Fc → List Vo → Prop} {Ex : ι → Value → List Fc → List Vo → Prop} {Q : VK} {E : XK} {vs : List V}
theorem w_do (i : ι) (t : Takes' (O i) S R) (hp : Pr i Γ) (k : ∀ v Γ' S', Po i v Γ' S' → Wh K (Γ' ++ Γ) (S' ++ R) fun H => Q v H) (x : ∀ e Γ' S', Ex i e Γ' S' → Wh K (Γ' ++ Γ) (S' ++ R) fun H => E e none H) (hA : vs = A i := by rfl) :
    Wh K Γ S fun H => SpF K A Pr O Po Ex vs H Q E := fun _ z => ⟨i, Γ, R, hA, z.tk t, hp, fun v Γ' S' H' h z' => k v Γ' S' h H' z', fun e Γ' S' H' h z' => x e Γ' S' h H' z'⟩
theorem w_don {Q : VK} (i : ι) (t : Takes' (O i) S R) (hp : Pr i Γ) (k : ∀ v Γ' S', Po i v Γ' S' → Wh K (Γ' ++ Γ) (S' ++ R) fun H => Q v H) (hA : vs = A i := by rfl) : Wh K Γ S fun H => SpF K A Pr O Po noEx vs H Q E := w_do i t hp k (fun _ _ _ h => h.elim) hA
end
section
variable {P : Program} {w : World} {K : PySem.W.Frag} {mg : Str → Option Value} {base : Heap} {CX : CXT} {k : Nat} {f : Addr} {fd : FuncData} {ps : List Str} {a b : Sp}
theorem fn_imp (F : FnOk P w K mg base CX k f fd ps a) (h : ∀ vs H Q E, b vs H Q E → a vs H Q E) : FnOk P w K mg base CX k f fd ps b :=
  ⟨fun vs H Q E z => F.len vs H Q E (h _ _ _ _ z), fun A outer s H args us vs Q E hr he hb hv hs => F.run A outer s H args us vs Q E hr he hb hv (h _ _ _ _ hs)⟩
theorem fn_up {j : Nat} (F : FnOk P w K mg base CX k f fd ps a) (h : k ≤ j) : FnOk P w K mg base CX j f fd ps a :=
  ⟨F.len, fun A outer s H args us vs Q E hr he hb hv hs => F.run A outer s H args us vs Q E (hr.mono h) he hb hv hs⟩
end
end Mo
namespace Mo
open PySem PySem.Spec PyProof.Rows L2
/-! ### exceptions as values, lists joined, data looked at: by facts and segments -/
def exF (K : PySem.W.Frag) (c : Str) (a : Addr) : Fc := .gen (fun G => ∃ o, G a = some o ∧ IsEx (He.ga K c) a o) fun _ _ e ⟨o, h, x⟩ => ⟨o, e _ _ h, x⟩
section
variable {K : PySem.W.Frag} {Γ : List Fc} {S : List Vo} {σ : St} {Q : VK} {a : Addr} {c : Str} {A : Hp → Prop}
theorem Hg.exc {H : Hp} (z : Hg K Γ S H) (m : exF K c a ∈ Γ) : ∃ o, H a = some o ∧ IsEx (He.ga K c) a o := z.fact m
theorem isEx_O {D a : Addr} : IsEx D a (ExO (.ref D) a) := ⟨_, rfl, fun _ ⟨oe, vs, h1, h2, h3, _⟩ => ⟨oe, vs, h1, h2, h3⟩⟩
def mkX (D : Addr) (H : Hp) (Q : VK) : Prop := ∀ p, H p = none → Q (.ref p) (upd H p (ExO (.ref D) p))
theorem w_exc (k : ∀ p, Wh K (exF K c p :: Γ) S fun H => Q (.ref p) H) : Wh K Γ S fun H => mkX (He.ga K c) H Q := fun H z p hp =>
  k p _ (((z.fix (o := ExO (.ref (He.ga K c)) p) hp).learn (f := exF K c p) fun G b => ⟨_, b (.obj p _) List.mem_cons_self, isEx_O⟩).weak fun f m => by
    rcases List.mem_cons.mp m with e | m
    · rw [e]; exact List.mem_cons_self
    · exact List.mem_cons_of_mem _ (List.mem_cons_of_mem _ m))
theorem w_texc {D : Addr} {ta : TE} (k : Wh K Γ S fun H => ta σ H fun _ H1 => mkX D H1 Q) : Wh K Γ S fun H => tExc D ta σ H Q := k
theorem w_notInDt {x y : V} {d : PyData} {ds : List PyData} {b : Bool} (hx : DV K Γ x d) (m : .dat y (.list ds) ∈ Γ) (sd : SeqAt.shaped d = true) (sl : SeqAt.shaped (.list ds) = true) (e : (ds.any fun z => PyData.eqv z d) = b) (k : Wh K Γ S fun H => Q (.bl (!b)) H) : Wh K Γ S fun H => rNotInA K x y H Q := fun H z => by
  subst e
  obtain ⟨G, a, b⟩ := id z
  exact .inr (.inr ⟨d, ds, dp_mono a.ex (hx G b), z.dat m, sd, sl, k H z⟩)
theorem w_inDt {x y : V} {d : PyData} {ds : List PyData} {b : Bool} (hx : DV K Γ x d) (m : .dat y (.list ds) ∈ Γ) (sd : SeqAt.shaped d = true) (sl : SeqAt.shaped (.list ds) = true) (e : (ds.any fun z => PyData.eqv z d) = b) (k : Wh K Γ S fun H => Q (.bl b) H) : Wh K Γ S fun H => rInA K x y H Q := fun H z => by
  subst e
  obtain ⟨G, a, b⟩ := id z
  exact .inr (.inr ⟨d, ds, dp_mono a.ex (hx G b), z.dat m, sd, sl, k H z⟩)
/-- behind a suite: the exception is kept -/
theorem w_kept (k : Wh K (exF K c a :: Γ) S A) : Wh K Γ S fun H => H a = none → A (upd H a (ExV (He.ga K c) a)) := fun H z hp =>
  k _ (((z.fix (o := ExV (He.ga K c) a) hp).learn (f := exF K c a) fun G b => ⟨_, b (.obj a _) List.mem_cons_self, isEx_V⟩).weak fun f m => by
    rcases List.mem_cons.mp m with e | m
    · rw [e]; exact List.mem_cons_self
    · exact List.mem_cons_of_mem _ (List.mem_cons_of_mem _ m))
theorem w_keep {cv : Value} {i : Nat} {ts : Addr → Value → Option Addr → TS} {Wout : WX} {D : Ends} (hb : PySem.W.exmOne K (.ref (He.ga K c)) cv = some true)
    (k : ∀ a, Wh K Γ S fun H => ts a (.ref (He.ga K c)) none { nx := fun σ' H' => H' a = none → D.nx (σ'.set i none) (upd H' a (ExV (He.ga K c) a)), rt := fun v H' => H' a = none → D.rt v (upd H' a (ExV (He.ga K c) a)), bk := fun σ' H' => H' a = none → D.bk (σ'.set i none) (upd H' a (ExV (He.ga K c) a)), ct := fun σ' H' => H' a = none → D.ct (σ'.set i none) (upd H' a (ExV (He.ga K c) a)) } (σ.set i (some (.ref a))) H) :
    Wh K Γ S fun H => wKeep K cv i ts Wout D (.ref (He.ga K c)) none σ H := fun H z => ⟨true, hb, fun _ => ⟨_, rfl, fun a _ => k a H z⟩, fun h => nomatch h⟩
theorem w_isX {d : V} {cv : Value} {b : Bool} (m : exF K c a ∈ Γ) (C : ExcC K (He.ga K c)) (hc : ClsV d cv) (hk : PySem.W.kitOne K (.ref (He.ga K c)) cv = some b) (k : Wh K Γ S fun H => Q (.bl b) H) : Wh K Γ S fun H => rIsiX K [.ref a, d] H Q := fun H z => by
  obtain ⟨o, h, x⟩ := z.exc m
  exact .inr ⟨a, _, o, d, cv, b, rfl, h, x, C, hc, hk, k H z⟩
def wordQ (K : PySem.W.Frag) (ws : List (Str × Str)) (R : Addr → Addr → Hp → Prop) (x : V) (H : Hp) (Q : VK) : Prop := ∃ a p, x = .ref a ∧ p ∈ ws ∧ R a (He.ga K p.1) H ∧ Q (.str p.2) H
theorem w_word {ws : List (Str × Str)} {z : Str} (m : exF K c a ∈ Γ) (hp : (c, z) ∈ ws) (k : Wh K Γ S fun H => Q (.str z) H) : Wh K Γ S fun H => wordQ K ws keptEx (.ref a) H Q := fun H w => ⟨a, (c, z), rfl, hp, w.exc m, k H w⟩
theorem w_wordS {ws : List (Str × Str)} {z : Str} (hp : (c, z) ∈ ws) (k : Wh K Γ S fun H => Q (.str z) H) : Wh K Γ S fun H => wordQ K ws (suiteEx a (.ref (He.ga K c)) none) (.ref a) H Q := fun H w => ⟨a, (c, z), rfl, hp, ⟨rfl, rfl, rfl⟩, k H w⟩
theorem w_tword {ws : List (Str × Str)} {R : Addr → Addr → Hp → Prop} {ta : TE} (k : Wh K Γ S fun H => ta σ H fun x H1 => wordQ K ws R x H1 Q) : Wh K Γ S fun H => tWord K ws R ta σ H Q := k
/-! #### lists -/
theorem w_addL {p q : Addr} {xs ys : List V} (m : AtH K Γ S p (.lst xs)) (n : AtH K Γ S q (.lst ys)) (hl : xs.length + ys.length ≤ 100000) (k : ∀ r, Wh K Γ (own r (.lst (xs ++ ys)) :: S) fun H => Q (.ref r) H) : Wh K Γ S fun H => rAddA K (.ref p) (.ref q) H Q := fun H z =>
  go_addL (m H z) (n H z) (by rw [sizeLine_eq]; omega) fun r hr => k r _ (z.new hr)
theorem w_inL {p : Addr} {x : V} {xs : List V} {b : Bool} (m : AtH K Γ S p (.lst xs)) (fx : flatV x = true) (fs : xs.all flatV = true) (e : inV x xs = b) (k : Wh K Γ S fun H => Q (.bl b) H) : Wh K Γ S fun H => rInA K x (.ref p) H Q := fun H z => .inr (.inl ⟨p, xs, rfl, .inl (SqL.of (m H z)), fx, fs, by rw [e]; exact k H z⟩)
theorem w_eqH {x y : V} {d e : PyData} (ha : ∀ H, Hg K Γ S H → Dp K H x d) (hb : ∀ H, Hg K Γ S H → Dp K H y e) (sa : SeqAt.shaped d = true) (sb : SeqAt.shaped e = true) (k : Wh K Γ S fun H => Q (.bl (PyData.eqv d e)) H) : Wh K Γ S fun H => rEqA K x y H Q := fun H z => go_eqD (ha H z) (hb H z) sa sb (k H z)
theorem w_neH {x y : V} {d e : PyData} (ha : ∀ H, Hg K Γ S H → Dp K H x d) (hb : ∀ H, Hg K Γ S H → Dp K H y e) (sa : SeqAt.shaped d = true) (sb : SeqAt.shaped e = true) (k : Wh K Γ S fun H => Q (.bl (!PyData.eqv d e)) H) : Wh K Γ S fun H => rNeA K x y H Q := fun H z => go_neD (ha H z) (hb H z) sa sb (k H z)
theorem dpH_own {p : Addr} {xs : List V} {ds : List PyData} (m : AtH K Γ S p (.lst xs)) (h : DL K Γ xs ds) : ∀ H, Hg K Γ S H → Dp K H (.ref p) (.list ds) := fun H z => by
  have hp := m H z
  obtain ⟨G, a, b⟩ := z
  exact .lst (SqL.of hp) (dpa_mono a.ex (h G b))
theorem dpH_dv {v : V} {d : PyData} (h : DV K Γ v d) : ∀ H, Hg K Γ S H → Dp K H v d := fun H ⟨G, a, b⟩ => dp_mono a.ex (h G b)
theorem w_rng0 {j : Int} (n : Nat) (hj : j = (n : Int)) (hn : n ≤ 1000000) {g : TG} {tt : TT} {te : TE} {vs : List Nat} (k : Wh K Γ S fun H => LcA g tt te vs σ Q H (Itr 0 n)) : Wh K Γ S fun H => lcRng g tt te vs σ Q [.int j] H := w_lcR n hj hn k
end
end Mo
namespace Mo
open PySem PySem.Spec PyProof.Rows L2
/-! ### the order of tuples of ints -/
theorem lex_irr : ∀ a : List Int, HT.lexLt a a = false
  | [] => rfl
  | x :: r => by rw [HT.lexLt_cons, if_pos rfl]; exact lex_irr r
theorem lex_tri : ∀ {a b : List Int}, HT.lexLt a b = false → HT.lexLt b a = false → a = b
  | [], [], _, _ => rfl
  | [], y :: s, h, _ => by rw [HT.lexLt_nil_cons] at h; cases h
  | x :: r, [], _, h => by rw [HT.lexLt_nil_cons] at h; cases h
  | x :: r, y :: s, h, k => by
    rw [HT.lexLt_cons] at h k
    by_cases e : x = y
    · subst e
      rw [if_pos rfl] at h k
      rw [lex_tri h k]
    · rw [if_neg e] at h
      rw [if_neg (fun z => e z.symm)] at k
      have h1 := of_decide_eq_false h
      have h2 := of_decide_eq_false k
      omega
theorem lex_trans : ∀ {a b c : List Int}, HT.lexLt a b = true → HT.lexLt b c = true → HT.lexLt a c = true
  | [], [], _, h, _ => by rw [HT.lexLt_nil_nil] at h; cases h
  | _ :: _, [], _, h, _ => by rw [HT.lexLt_cons_nil] at h; cases h
  | _, _ :: _, [], _, k => by rw [HT.lexLt_cons_nil] at k; cases k
  | [], _ :: _, _ :: _, _, _ => HT.lexLt_nil_cons _ _
  | x :: r, y :: s, z :: t, h, k => by
    rw [HT.lexLt_cons] at h k ⊢
    by_cases e : x = y
    · subst e
      rw [if_pos rfl] at h
      by_cases f : x = z
      · subst f
        rw [if_pos rfl] at k ⊢
        exact lex_trans h k
      · rw [if_neg f] at k ⊢
        exact k
    · rw [if_neg e] at h
      have h1 := of_decide_eq_true h
      by_cases f : y = z
      · subst f
        rw [if_neg e]
        exact h
      · rw [if_neg f] at k
        have h2 := of_decide_eq_true k
        rw [if_neg (by omega)]
        exact decide_eq_true (by omega)
theorem lex_asym {a b : List Int} (h : HT.lexLt a b = true) : HT.lexLt b a = false := by
  cases e : HT.lexLt b a with
  | false => rfl
  | true =>
    have := lex_trans h e
    rw [lex_irr] at this
    cases this
theorem lex_ne {a b : List Int} (h : HT.lexLt a b = true) : a ≠ b := fun e => by
  rw [e, lex_irr] at h
  cases h
/-- a ≤ b < c -/
theorem lex_le_lt {a b c : List Int} (h : HT.lexLt b a = false) (k : HT.lexLt b c = true) : HT.lexLt a c = true := by
  cases e : HT.lexLt a b with
  | true => exact lex_trans e k
  | false => rw [lex_tri e h]; exact k
theorem lex_lt_le {a b c : List Int} (h : HT.lexLt a b = true) (k : HT.lexLt c b = false) : HT.lexLt a c = true := by
  cases e : HT.lexLt b c with
  | true => exact lex_trans h e
  | false => rw [← lex_tri e k]; exact h
/-- the least, found from the left -/
theorem best_least (f : Nat → List Int) : ∀ n, argBest (fun i j => HT.lexLt (f i) (f j)) n ≤ n ∧ ∀ j, j ≤ n → HT.lexLt (f j) (f (argBest (fun i j => HT.lexLt (f i) (f j)) n)) = false
  | 0 => ⟨Nat.le_refl _, fun j hj => by
    obtain rfl := Nat.le_zero.mp hj
    exact lex_irr _⟩
  | n + 1 => by
    obtain ⟨h1, h2⟩ := best_least f n
    have e : argBest (fun i j => HT.lexLt (f i) (f j)) (n + 1) = if HT.lexLt (f (n + 1)) (f (argBest (fun i j => HT.lexLt (f i) (f j)) n)) = true then n + 1 else argBest (fun i j => HT.lexLt (f i) (f j)) n := rfl
    rw [e]
    cases hb : HT.lexLt (f (n + 1)) (f (argBest (fun i j => HT.lexLt (f i) (f j)) n)) with
    | true =>
      rw [if_pos rfl]
      refine ⟨Nat.le_refl _, fun j hj => ?_⟩
      rcases Nat.lt_or_ge j (n + 1) with hj | hj
      · cases hc : HT.lexLt (f j) (f (n + 1)) with
        | false => rfl
        | true =>
          have := lex_trans hc hb
          rw [h2 j (by omega)] at this
          cases this
      · have : j = n + 1 := by omega
        subst this
        exact lex_irr _
    | false =>
      rw [if_neg Bool.false_ne_true]
      refine ⟨by omega, fun j hj => ?_⟩
      rcases Nat.lt_or_ge j (n + 1) with hj | hj
      · exact h2 j (by omega)
      · have : j = n + 1 := by omega
        subst this
        exact hb
/-! ### dicts: pop of what is there -/
/-- d.pop(y): v leaves, H' is left -/
def DPop (H : Hp) (a : Addr) (y v : V) (H' : Hp) : Prop :=
  (∃ kvs k, H a = some (.dK kvs) ∧ y = kV k ∧ valV kvs k = some v ∧ H' = upd H a (.dK (dropK kvs k))) ∨
  ∃ kvs k b, H a = some (.dT kvs) ∧ y = .ref b ∧ H b = some (.tup (k.map kV)) ∧ valV kvs k = some v ∧ H' = upd H a (.dT (dropK kvs k))
def rDPop1 : V → List V → Hp → VK → Prop := fun x xs H Q => ∃ a y v H', x = .ref a ∧ xs = [y] ∧ DPop H a y v H' ∧ Q v H'
theorem paired_get {α β : Type} {F : α → β → Prop} : ∀ {l : List α} {r : List β} {i : Nat} {b : β}, Paired F l r → r[i]? = some b → ∃ a, l[i]? = some a ∧ F a b
  | _, _, i, b, .nil, e => by simp at e
  | _, _, 0, b, .cons h _, e => by
    simp only [List.getElem?_cons_zero, Option.some.injEq] at e
    subst e
    exact ⟨_, rfl, h⟩
  | _, _, i + 1, b, .cons _ t, e => by
    rw [List.getElem?_cons_succ] at e
    obtain ⟨a, h1, h2⟩ := paired_get t e
    exact ⟨a, by rw [List.getElem?_cons_succ]; exact h1, h2⟩
theorem moved_eq {wr : List Addr} {s s' : Shared} (h : Moved wr (fun a b => b = a) s s') : s' = { s with heap := s'.heap, toks := s'.toks } := by
  obtain ⟨hp, g, d, tk, os⟩ := s
  obtain ⟨hp', g', d', tk', os'⟩ := s'
  obtain ⟨_, h2, h3, h4, _⟩ := h
  cases h2
  cases h3
  cases h4
  rfl
theorem withoutH_eq {K : Type} [DecidableEq K] (xs : List (K × Addr × Value)) (k : K) : withoutH xs k = DT.dropH xs k := rfl
section
variable {X : Cx}
theorem mt_dpop1 (hu : X.A.units + 1 < cLine) : MtR X "dict.pop" rDPop1 := by
  intro pins s σ H x xs v us Q I rx rxs h
  obtain ⟨a, y, w', H', rfl, rfl, g, q⟩ := h
  cases rx
  obtain ⟨u, rfl, ry⟩ := rxs.one
  rcases g with ⟨kvs, k, ea, rfl, l, rfl⟩ | ⟨kvs, k, b, ea, rfl, eb, l, rfl⟩
  · exact d_pop (more := []) I ea ry l (.inl rfl) fun w2 s3 I3 rw' => ⟨w', _, I3, rw', q⟩
  · cases ry
    obtain ⟨z, hd, xs', rel, dd⟩ := dt_of I.hok ea
    have hz : xs'.length ≤ sizeLine := by rw [← Paired.length rel]; exact z
    have r := rel.val k
    rw [l] at r
    obtain ⟨p, hp, rp⟩ : ∃ p, atKey xs' k = some p ∧ RelV w' p.2 := by
      cases e : atKey xs' k with
      | none =>
        rw [e] at r
        exact (show False from r).elim
      | some p =>
        rw [e] at r
        exact ⟨p, rfl, r⟩
    refine call_pop_heap (knd := tupleKind (mixKind X.prog X.w)) (more := []) (.inl rfl) (PySem.F.args_dict_pop_2 _ _) (tupleKind_room_in1 hu) (key_of I.hok eb) hd dd hp (fun h' dd' hs => ?_) hz
    obtain ⟨o, es, ep, hq, h2, h3, h4, _, h5⟩ := dd'
    have I2 : Inv X pins σ (upd H a (.dT (dropK kvs k))) { s with heap := h', toks := s.toks + (tupleKind (mixKind X.prog X.w)).draws k } :=
      d_write I (by rw [ea]; exact True.intro) hs ⟨o, hq⟩ ⟨Nat.le_trans (dropK_le kvs k) z, hd, _, (DX.KT_drop k rel).keeps (fun c ys ec => (by rw [upd_ne (ne_of ec ea (fun z => nomatch z))]; exact ec)), o, es, ep, hq, h2, h3, h4, h5⟩
    exact ⟨w', _, I2, rp, q⟩
/-! ### min of a dict whose keys are tuples of ints -/
def rMinT : List V → Hp → VK → Prop := fun vs H Q => ∃ (a : Addr) (kvs : List (List Key × V)) (F : List (List Int)), vs = [V.ref a] ∧ H a = some (.dT kvs) ∧ kvs.map (·.1) = F.map (fun ns => ns.map Sum.inl) ∧ F ≠ [] ∧
  ∀ (b : Addr) (ns : List Int), ns ∈ F → (∀ ms ∈ F, HT.lexLt ms ns = false) → H b = some (.tup (ns.map V.int)) → Q (.ref b) H
theorem map_kV_inl (ns : List Int) : (ns.map (Sum.inl : Int → Key)).map kV = ns.map V.int := by
  rw [List.map_map]
  rfl
theorem cr_minT (hc : X.calm = true) (hu : X.A.units + 1 < cLine) : CallR X (.builtin "min") rMinT := by
  intro pins s σ H vs us Q I r h
  obtain ⟨a, kvs, F, rfl, ha, hF, hne, q⟩ := h
  rw [Vals.ref1 r]
  obtain ⟨z, hs, ks, pr, o, es, ep, ho, hx, hdt, he, hn⟩ := (show ObjOk X.prog X.w H s.heap a (.dT kvs) from I.hok a _ ha)
  have l1 : es.size = ks.length := size_of_entries he
  have l2 : kvs.length = ks.length := Paired.length pr
  have l3 : kvs.length = F.length := by
    have e := congrArg List.length hF
    rw [List.length_map, List.length_map] at e
    exact e
  have hlt : a < s.heap.objs.size := Heap.lt_size ho
  have hpos : 0 < es.size := by
    have := List.length_pos_iff.mpr hne
    omega
  -- the key at a place
  have key : ∀ (i : Nat) (v : Value), (∃ en : DictEntry, es[i]? = some en ∧ v = en.key) → ∃ (b : Addr) (ns : List Int), v = .ref b ∧ F[i]? = some ns ∧ H b = some (.tup (ns.map V.int)) := fun i v ⟨en, hen, hv⟩ => by
    have qe := entry_at he i
    rw [hen] at qe
    cases hb : ks[i]? with
    | none => rw [hb] at qe; exact nomatch (show some en = none from qe)
    | some x =>
      rw [hb] at qe
      have e2 : en = entryOfKey (tupleKind (mixKind X.prog X.w)) x := Option.some.inj qe
      obtain ⟨p, hp, e3, e4, _⟩ : ∃ p, kvs[i]? = some p ∧ p.1 = x.1 ∧ H x.2.1 = some (.tup (p.1.map kV)) ∧ True := by
        obtain ⟨p, hp, h1, h2, _⟩ := paired_get pr hb
        exact ⟨p, hp, h1, h2, True.intro⟩
      have e5 : (kvs.map (·.1))[i]? = some p.1 := by rw [List.getElem?_map, hp] <;> rfl
      rw [hF, List.getElem?_map] at e5
      obtain ⟨ns, hns, e6⟩ := Option.map_eq_some_iff.mp e5
      refine ⟨x.2.1, ns, by rw [hv, e2] <;> rfl, hns, ?_⟩
      rw [e4, ← e6, map_kV_inl]
  have key2 : ∀ (b : Addr) (ns : List Int), H b = some (.tup (ns.map V.int)) → ∃ its : Array Value, IsTup s.heap b its ∧ IntsAre its.toList ns := fun b ns e => by
    obtain ⟨its, rv, hT, _⟩ := I.tuple (SqT.of e)
    exact ⟨its.toArray, hT, by simpa using rv.ints⟩
  refine call_min_walkH (iter_keys hs ho hx hdt ?_)
  refine ⟨_, _, _, _, _, _, _, s.heap, fun i j => HT.lexLt (F.getD i []) (F.getD j []), rfl, (walks_raw (A := X.A.in1) (I.ok.hd hc) s.heap.objs.size a (Nat.ne_of_lt hlt) hdt).toS,
    ⟨⟨_, Heap.get?_push_size _ rfl, rfl, rfl⟩, Heap.get?_push_of_some _ ho⟩, fun b hb => ?_, hpos, fun b u e hm => ?_, fun b u e => Heap.get?_push_of_some _ e, ?_, fun v s' hP hk => ?_⟩
  · show b < (s.heap.push _).objs.size
    rw [Heap.size_push]
    rcases List.mem_cons.mp hb with e | hb
    · rw [e]
      exact Nat.lt_succ_self _
    · rw [List.mem_singleton.mp hb]
      exact Nat.lt_succ_of_lt hlt
  · have e1 := List.mem_singleton.mp hm
    have e2 := Heap.lt_size e
    rw [e1] at e2
    exact absurd e2 (Nat.lt_irrefl _)
  · intro i j vi vj s2 Q2 E2 hkeep hi hj hq
    obtain ⟨b1, n1, rfl, f1, t1⟩ := key i vi hi
    obtain ⟨b2, n2, rfl, f2, t2⟩ := key j vj hj
    obtain ⟨its1, T1, a1⟩ := key2 b1 n1 t1
    obtain ⟨its2, T2, a2⟩ := key2 b2 n2 t2
    refine HT.lt_tupInts (let ⟨o, e, z⟩ := T1; ⟨o, hkeep _ o e, z⟩) (let ⟨o, e, z⟩ := T2; ⟨o, hkeep _ o e, z⟩) a1 a2 (show X.A.in1.units < cLine from by show X.A.units + 1 < cLine; exact hu) ?_
    have g1 : F.getD i [] = n1 := by rw [List.getD_eq_getElem?_getD, f1] <;> rfl
    have g2 : F.getD j [] = n2 := by rw [List.getD_eq_getElem?_getD, f2] <;> rfl
    have hq' : Q2 (Value.bool (HT.lexLt (F.getD i []) (F.getD j []))) s2 := hq
    rw [g1, g2] at hq'
    exact hq'
  · obtain ⟨b, ns, rfl, hf, hb⟩ := key _ v hP
    obtain ⟨b1, b2⟩ := best_least (fun i => F.getD i []) (es.size - 1)
    have g1 : F.getD (argBest (fun i j => HT.lexLt (F.getD i []) (F.getD j [])) (es.size - 1)) [] = ns := by rw [List.getD_eq_getElem?_getD, hf] <;> rfl
    rw [g1] at b2
    have I2 : Inv X pins σ H s' := by
      rw [moved_eq hk]
      exact I.kept (t' := s'.toks) fun b u e => hk.heap b u (fun hmem => by
        have e1 := List.mem_singleton.mp hmem
        have e2 := Heap.lt_size e
        rw [e1] at e2
        exact absurd e2 (Nat.lt_irrefl _)) (Heap.get?_push_of_some _ e)
    refine ⟨.ref b, H, I2, rfl, q b ns (List.mem_of_getElem? hf) (fun ms hm => ?_) hb⟩
    obtain ⟨j, hj, e⟩ := List.mem_iff_getElem.mp hm
    have := b2 j (by omega)
    rw [List.getD_eq_getElem?_getD, List.getElem?_eq_getElem hj] at this
    rw [← e]
    exact this
end
/-! ### d.copy() -/
def rDCopy : V → List V → Hp → VK → Prop := fun x xs H Q => ∃ a kvs, x = .ref a ∧ xs = [] ∧ H a = some (.dK kvs) ∧ ∀ p, H p = none → Q (.ref p) (upd H p (.dK kvs))
section
variable {X : Cx}
theorem mt_dcopy : MtR X "dict.copy" rDCopy := by
  intro pins s σ H x xs v us Q I rx rxs h
  obtain ⟨a, kvs, rfl, rfl, ha, q⟩ := h
  cases rx
  cases rxs
  obtain ⟨z, hd, vs, rel, dd⟩ := dk_of I.hok ha
  refine call_meetsIn PySem.F.slot_dict_copy dd.typeIs PySem.F.entry_dict_copy (PySem.F.args_dict_copy_1 _) (meets_dict_copy (mixKind X.prog X.w) a hd) ?_
  refine ⟨vs, dd, by rw [← rel.length]; exact z, fun h' d1 _ k => ?_⟩
  refine ⟨.ref s.heap.objs.size, upd H s.heap.objs.size (.dK kvs), I.laid (t' := s.toks) k (Nat.le_refl _) ?_, rfl, q _ (I.hok.fresh (Nat.le_refl _))⟩
  exact dk_new z (beq_eq_false_iff_ne.mpr (Nat.ne_of_gt I.big)) rel d1
end
theorem go_dcopy {H : Hp} {Q : VK} {a : Addr} {kvs : List (Key × V)} (h : H a = some (.dK kvs)) (k : ∀ p, H p = none → Q (.ref p) (upd H p (.dK kvs))) : rDCopy (.ref a) [] H Q := ⟨a, kvs, rfl, rfl, h, k⟩
end Mo
namespace Mo
open PySem PySem.Spec PyProof.Rows L2
/-! ### what a calendar keeps: plain Lean -/
structure Ent where
  k : List Int
  v : V
  t : V
abbrev Asc (es : List Ent) : Prop := es.Pairwise fun x y => HT.lexLt x.k y.k = true
def insE (e : Ent) : List Ent → List Ent
  | [] => [e]
  | x :: r => if HT.lexLt x.k e.k = true then x :: insE e r else e :: x :: r
def remE (k : List Int) (es : List Ent) : List Ent := es.filter fun e => decide (e.k ≠ k)
def getE (k : List Int) : List Ent → Option V
  | [] => none
  | x :: r => if x.k = k then some x.t else getE k r
theorem mem_insE {e x : Ent} : ∀ {es : List Ent}, x ∈ insE e es ↔ x = e ∨ x ∈ es
  | [] => by simp [insE]
  | y :: r => by
    unfold insE
    split
    · rw [List.mem_cons, mem_insE (es := r), List.mem_cons]
      constructor
      · rintro (h | h | h)
        · exact .inr (.inl h)
        · exact .inl h
        · exact .inr (.inr h)
      · rintro (h | h | h)
        · exact .inr (.inl h)
        · exact .inl h
        · exact .inr (.inr h)
    · rw [List.mem_cons]
theorem insE_perm (e : Ent) : ∀ es : List Ent, (insE e es).Perm (e :: es)
  | [] => .refl _
  | y :: r => by
    unfold insE
    split
    · exact ((insE_perm e r).cons y).trans (.swap _ _ _)
    · exact .refl _
theorem insE_len (e : Ent) (es : List Ent) : (insE e es).length = es.length + 1 := by rw [(insE_perm e es).length_eq]; rfl
theorem insE_asc {e : Ent} : ∀ {es : List Ent}, Asc es → e.k ∉ es.map (·.k) → Asc (insE e es)
  | [], _, _ => List.pairwise_singleton _ _
  | x :: r, h, n => by
    rw [List.map_cons, List.mem_cons, not_or] at n
    have h2 := List.pairwise_cons.mp h
    unfold insE
    split
    · rename_i hl
      refine List.pairwise_cons.mpr ⟨fun y hy => ?_, insE_asc h2.2 n.2⟩
      rcases mem_insE.mp hy with rfl | hy
      · exact hl
      · exact h2.1 y hy
    · rename_i hl
      have hl2 : HT.lexLt x.k e.k = false := by simpa using hl
      have h3 : HT.lexLt e.k x.k = true := by
        cases q : HT.lexLt e.k x.k with
        | true => rfl
        | false => exact absurd (lex_tri q hl2) n.1
      refine List.pairwise_cons.mpr ⟨fun y hy => ?_, h⟩
      rcases List.mem_cons.mp hy with rfl | hy
      · exact h3
      · exact lex_trans h3 (h2.1 y hy)
theorem insE_at {e : Ent} : ∀ {es : List Ent} {n : Nat}, n ≤ es.length → (∀ i x, i < n → es[i]? = some x → HT.lexLt x.k e.k = true) → (∀ i x, n ≤ i → es[i]? = some x → HT.lexLt x.k e.k = false) → insE e es = es.take n ++ e :: es.drop n
  | [], n, hn, _, _ => by
    obtain rfl : n = 0 := by simpa using hn
    rfl
  | x :: r, 0, _, _, h => by
    have := h 0 x (Nat.le_refl _) rfl
    unfold insE
    rw [this, if_neg Bool.false_ne_true]
    rfl
  | x :: r, n + 1, hn, h1, h2 => by
    have := h1 0 x (Nat.succ_pos _) rfl
    unfold insE
    rw [this, if_pos rfl, insE_at (n := n) (by simpa using hn) (fun i y hi hy => h1 (i + 1) y (by omega) (by simpa using hy)) (fun i y hi hy => h2 (i + 1) y (by omega) (by simpa using hy))]
    rfl
theorem asc_nodup {es : List Ent} (h : Asc es) : (es.map (·.k)).Nodup := by
  rw [List.nodup_iff_pairwise_ne, List.pairwise_map]
  exact h.imp fun q => lex_ne q
theorem remE_asc {k : List Int} {es : List Ent} (h : Asc es) : Asc (remE k es) := h.filter _
theorem mem_remE {k : List Int} {x : Ent} {es : List Ent} : x ∈ remE k es ↔ x ∈ es ∧ x.k ≠ k := by
  unfold remE
  rw [List.mem_filter, decide_eq_true_iff]
theorem getE_none {k : List Int} : ∀ {es : List Ent}, getE k es = none ↔ k ∉ es.map (·.k)
  | [] => by simp [getE]
  | x :: r => by
    unfold getE
    rw [List.map_cons, List.mem_cons, not_or]
    by_cases e : x.k = k
    · rw [if_pos e]
      constructor
      · intro z; cases z
      · intro z; exact absurd e.symm z.1
    · rw [if_neg e, getE_none (es := r)]
      exact ⟨fun z => ⟨fun q => e q.symm, z⟩, fun z => z.2⟩
theorem getE_mem {k : List Int} {t : V} : ∀ {es : List Ent}, getE k es = some t → ∃ x ∈ es, x.k = k ∧ x.t = t
  | [], h => by simp [getE] at h
  | x :: r, h => by
    unfold getE at h
    by_cases e : x.k = k
    · rw [if_pos e] at h
      exact ⟨x, List.mem_cons_self, e, Option.some.inj h⟩
    · rw [if_neg e] at h
      obtain ⟨y, h1, h2⟩ := getE_mem h
      exact ⟨y, List.mem_cons_of_mem _ h1, h2⟩
theorem getE_of {es : List Ent} {x : Ent} (h : (es.map (·.k)).Nodup) (m : x ∈ es) : getE x.k es = some x.t := by
  induction es with
  | nil => cases m
  | cons y r ih =>
    rw [List.map_cons, List.nodup_cons] at h
    unfold getE
    rcases List.mem_cons.mp m with rfl | m
    · rw [if_pos rfl]
    · rw [if_neg (fun e => h.1 (by rw [e]; exact List.mem_map_of_mem m))]
      exact ih h.2 m
theorem remE_none {k : List Int} {es : List Ent} (h : k ∉ es.map (·.k)) : remE k es = es := by
  unfold remE
  refine List.filter_eq_self.mpr fun y hy => ?_
  exact decide_eq_true fun z => h (by rw [← z]; exact List.mem_map_of_mem hy)
/-- the key at n leaves -/
theorem remE_at : ∀ {es : List Ent} {n : Nat} {x : Ent}, (es.map (·.k)).Nodup → es[n]? = some x → es.eraseIdx n = remE x.k es
  | [], n, x, _, h => by simp at h
  | y :: r, 0, x, hn, h => by
    obtain rfl : y = x := by simpa using h
    rw [List.map_cons, List.nodup_cons] at hn
    rw [List.eraseIdx_cons_zero]
    unfold remE
    rw [List.filter_cons_of_neg (by simp)]
    exact (remE_none hn.1).symm
  | y :: r, n + 1, x, hn, h => by
    have h2 : r[n]? = some x := by simpa using h
    rw [List.map_cons, List.nodup_cons] at hn
    have ne : y.k ≠ x.k := fun z => hn.1 (by rw [z]; exact List.mem_map_of_mem (List.mem_of_getElem? h2))
    rw [List.eraseIdx_cons_succ, remE_at hn.2 h2]
    unfold remE
    rw [List.filter_cons_of_pos (by simpa using ne)]
theorem remE_head {e : Ent} {r : List Ent} (h : Asc (e :: r)) : remE e.k (e :: r) = r := by
  have := remE_at (n := 0) (asc_nodup h) (x := e) rfl
  rw [← this]
  rfl
/-- where a key that is there stands -/
theorem place_at {es : List Ent} {k : List Int} {n : Nat} (h : Asc es) (h1 : ∀ i x, i < n → es[i]? = some x → HT.lexLt x.k k = true) (h2 : ∀ i x, n ≤ i → es[i]? = some x → HT.lexLt x.k k = false) {x : Ent} (m : x ∈ es) (hk : x.k = k) : es[n]? = some x := by
  obtain ⟨i, hi⟩ := List.mem_iff_getElem?.mp m
  rcases Nat.lt_trichotomy i n with z | z | z
  · have := h1 i x z hi
    rw [hk, lex_irr] at this
    cases this
  · rw [← z]; exact hi
  · have hil := (List.getElem?_eq_some_iff.mp hi).1
    have hn : es[n]? = some es[n] := List.getElem?_eq_getElem (by omega)
    have q := h2 n _ (Nat.le_refl _) hn
    have p := List.pairwise_iff_getElem.mp h n i (by omega) hil z
    rw [(List.getElem?_eq_some_iff.mp hi).2, hk, q] at p
    cases p
/-! #### dicts of them -/
section
variable {κ : Type} [DecidableEq κ]
theorem val_mem : ∀ {kvs : List (κ × V)} {k : κ} {v : V}, (kvs.map (·.1)).Nodup → ((k, v) ∈ kvs ↔ valV kvs k = some v)
  | [], k, v, _ => by
    constructor
    · intro z; cases z
    · intro z; cases (show (none : Option V) = some v from z)
  | (q, u) :: r, k, v, h => by
    rw [List.map_cons, List.nodup_cons] at h
    by_cases e : q = k
    · rw [valV_pos e]
      constructor
      · intro m
        rcases List.mem_cons.mp m with m | m
        · cases m; rfl
        · exact absurd (List.mem_map_of_mem (f := (·.1)) m) (by rw [← e]; exact h.1)
      · intro z
        cases z
        rw [← e]
        exact List.mem_cons_self
    · rw [valV_neg e, ← val_mem h.2]
      constructor
      · intro m
        rcases List.mem_cons.mp m with m | m
        · cases m; exact absurd rfl e
        · exact m
      · exact fun m => List.mem_cons_of_mem _ m
theorem val_perm {a b : List (κ × V)} {k : κ} (p : a.Perm b) (h : (b.map (·.1)).Nodup) : valV a k = valV b k := by
  have h2 : (a.map (·.1)).Nodup := (List.Perm.nodup_iff (p.map _)).mpr h
  apply Option.ext
  intro v
  rw [← val_mem h2, ← val_mem h]
  exact p.mem_iff
variable (f : Ent → κ)
theorem g_val {es : List Ent} {q : κ} {k : List Int} (hi : ∀ e ∈ es, f e = q ↔ e.k = k) : valV (es.map fun e => (f e, e.t)) q = getE k es := by
  induction es with
  | nil => rfl
  | cons x r ih =>
    have h := hi x List.mem_cons_self
    unfold getE
    rw [List.map_cons]
    by_cases e : x.k = k
    · rw [if_pos e]
      exact valV_pos (h.mpr e)
    · rw [if_neg e, valV_neg (fun z => e (h.mp z))]
      exact ih fun y hy => hi y (List.mem_cons_of_mem _ hy)
theorem g_put {kvs : List (κ × V)} {es : List Ent} {e : Ent} (p : kvs.Perm (es.map fun e => (f e, e.t))) (n : valV kvs (f e) = none) : (putK kvs (f e) e.t).Perm ((insE e es).map fun e => (f e, e.t)) := by
  rw [putK_new _ n]
  exact (List.perm_append_comm.trans (p.cons _)).trans ((insE_perm e es).map _).symm
theorem g_drop {kvs : List (κ × V)} {es : List Ent} {q : κ} {k : List Int} (hi : ∀ e ∈ es, f e = q ↔ e.k = k) (p : kvs.Perm (es.map fun e => (f e, e.t))) : (dropK kvs q).Perm ((remE k es).map fun e => (f e, e.t)) := by
  refine (p.filter _).trans (List.Perm.of_eq ?_)
  unfold remE
  rw [List.filter_map]
  congr 1
  refine List.filter_congr fun e he => ?_
  show decide (f e ≠ q) = decide (e.k ≠ k)
  exact decide_eq_decide.mpr (not_congr (hi e he))
end
/-! #### keys as values -/
def GoodK (b : Bool) (G : Hp) (e : Ent) : Prop := match b with
  | true => ∃ a, e.v = .ref a ∧ G a = some (.tup (e.k.map V.int))
  | false => ∃ i, e.v = .int i ∧ e.k = [i]
theorem GoodK.mono {b : Bool} {G G' : Hp} {e : Ent} (h : GoodK b G e) (x : Ext G G') : GoodK b G' e := by
  cases b with
  | true => obtain ⟨a, h1, h2⟩ := h; exact ⟨a, h1, x _ _ h2⟩
  | false => exact h
abbrev fT (e : Ent) : List Key := e.k.map Sum.inl
abbrev fK (e : Ent) : Key := Sum.inl (e.k.headD 0)
/-- the dict of things -/
def Thg (b : Bool) (es : List Ent) (o : HO) : Prop := match b with
  | true => ∃ kvs, o = .dT kvs ∧ kvs.Perm (es.map fun e => (fT e, e.t))
  | false => ∃ kvs, o = .dK kvs ∧ kvs.Perm (es.map fun e => (fK e, e.t))
theorem fT_inj {e x : Ent} : fT e = fT x ↔ e.k = x.k := ⟨fun h => (List.map_inj_right (fun _ _ q => Sum.inl.inj q)).mp h, fun h => by unfold fT; rw [h]⟩
theorem fK_inj {G G' : Hp} {e x : Ent} (h : GoodK false G e) (k : GoodK false G' x) : fK e = fK x ↔ e.k = x.k := by
  obtain ⟨i, _, h1⟩ := h
  obtain ⟨j, _, h2⟩ := k
  unfold fK
  rw [h1, h2]
  constructor
  · intro z
    have := Sum.inl.inj z
    simp only [List.headD_cons] at this
    rw [this]
  · intro z
    rw [z]
theorem fT_nodup {es : List Ent} (h : Asc es) : ((es.map fun e => (fT e, e.t)).map (·.1)).Nodup := by
  rw [List.map_map, List.nodup_iff_pairwise_ne, List.pairwise_map]
  exact h.imp fun q z => lex_ne q (fT_inj.mp z)
theorem fK_nodup {G : Hp} {es : List Ent} (h : Asc es) (g : ∀ e ∈ es, GoodK false G e) : ((es.map fun e => (fK e, e.t)).map (·.1)).Nodup := by
  rw [List.map_map, List.nodup_iff_pairwise_ne, List.pairwise_map]
  exact List.Pairwise.imp_of_mem (fun {a b} ha hb q z => lex_ne q ((fK_inj (g a ha) (g b hb)).mp z)) h
section
variable {b : Bool} {K : PySem.W.Frag} {G H : Hp} {x y e : Ent} {es : List Ent} {Q : VK} {th : Addr} {o : HO}
theorem go_ltE (xe : Ext G H) (ha : GoodK b G x) (hb : GoodK b G y) (k : Q (.bl (HT.lexLt x.k y.k)) H) : rLtA K x.v y.v H Q := by
  cases b with
  | true =>
    obtain ⟨a, e1, h1⟩ := ha
    obtain ⟨c, e2, h2⟩ := hb
    rw [e1, e2]
    exact go_ltT (SqT.of (xe _ _ h1)) (SqT.of (xe _ _ h2)) k
  | false =>
    obtain ⟨i, e1, h1⟩ := ha
    obtain ⟨j, e2, h2⟩ := hb
    rw [h1, h2, HT.lexLt_cons, HT.lexLt_nil_nil] at k
    rw [e1, e2]
    refine go_ltI ?_
    by_cases e : i = j
    · rw [if_pos e] at k
      rw [decide_eq_false (by omega)]
      exact k
    · rw [if_neg e] at k
      exact k
theorem thg_get (xe : Ext G H) (ht : H th = some o) (h : Thg b es o) (ha : Asc es) (hg : ∀ e ∈ es, GoodK b G e) (hx : GoodK b G x) : DGet H th x.v (getE x.k es) := by
  cases b with
  | true =>
    obtain ⟨kvs, rfl, p⟩ := h
    obtain ⟨a, e1, h1⟩ := hx
    have q := DGet.t (k := fT x) ht (b := a) (by rw [map_kV_inl]; exact xe _ _ h1)
    rw [e1]
    rw [val_perm p (fT_nodup ha), g_val fT (k := x.k) (fun e _ => fT_inj)] at q
    exact q
  | false =>
    obtain ⟨kvs, rfl, p⟩ := h
    have q := DGet.k (k := fK x) ht
    rw [val_perm p (fK_nodup ha hg), g_val fK (k := x.k) (fun e he => fK_inj (hg e he) hx)] at q
    obtain ⟨i, e1, h1⟩ := hx
    rw [e1]
    have e2 : kV (fK x) = .int i := by unfold fK; rw [h1]; rfl
    rw [e2] at q
    exact q
theorem thg_len {kvs : List (Key × V)} {n : Nat} (h : Thg b es o) : (∃ kvs : List (List Key × V), o = .dT kvs ∧ kvs.length = es.length) ∨ (∃ kvs : List (Key × V), o = .dK kvs ∧ kvs.length = es.length) := by
  cases b with
  | true =>
    obtain ⟨kvs, rfl, p⟩ := h
    exact .inl ⟨kvs, rfl, by rw [p.length_eq, List.length_map]⟩
  | false =>
    obtain ⟨kvs, rfl, p⟩ := h
    exact .inr ⟨kvs, rfl, by rw [p.length_eq, List.length_map]⟩
theorem thg_put (xe : Ext G H) (ht : H th = some o) (h : Thg b es o) (ha : Asc es) (hg : ∀ e ∈ es, GoodK b G e) (hx : GoodK b G x) (hn : x.k ∉ es.map (·.k)) (hl : es.length ≤ 10000) :
    ∃ o', Thg b (insE x es) o' ∧ DPut H th x.v x.t (upd H th o') := by
  have hn2 := getE_none.mpr hn
  cases b with
  | true =>
    obtain ⟨kvs, rfl, p⟩ := h
    obtain ⟨a, e1, h1⟩ := hx
    have hl2 : kvs.length < sizeLine := by rw [p.length_eq, List.length_map, sizeLine_eq]; omega
    have nn : valV kvs (fT x) = none := by rw [val_perm p (fT_nodup ha), g_val fT (k := x.k) (fun e _ => fT_inj)]; exact hn2
    refine ⟨.dT (putK kvs (fT x) x.t), ⟨_, rfl, g_put fT p nn⟩, ?_⟩
    rw [e1]
    exact DPut.t ht (by rw [map_kV_inl]; exact xe _ _ h1) hl2
  | false =>
    obtain ⟨kvs, rfl, p⟩ := h
    have hl2 : kvs.length < sizeLine := by rw [p.length_eq, List.length_map, sizeLine_eq]; omega
    have nn : valV kvs (fK x) = none := by rw [val_perm p (fK_nodup ha hg), g_val fK (k := x.k) (fun e he => fK_inj (hg e he) hx)]; exact hn2
    refine ⟨.dK (putK kvs (fK x) x.t), ⟨_, rfl, g_put fK p nn⟩, ?_⟩
    obtain ⟨i, e1, h1⟩ := hx
    have e2 : kV (fK x) = .int i := by unfold fK; rw [h1]; rfl
    rw [e1, ← e2]
    exact DPut.k ht hl2
theorem thg_pop {t : V} (xe : Ext G H) (ht : H th = some o) (h : Thg b es o) (ha : Asc es) (hg : ∀ e ∈ es, GoodK b G e) (hx : GoodK b G x) (hm : getE x.k es = some t) :
    ∃ o', Thg b (remE x.k es) o' ∧ DPop H th x.v t (upd H th o') := by
  cases b with
  | true =>
    obtain ⟨kvs, rfl, p⟩ := h
    obtain ⟨a, e1, h1⟩ := hx
    have nn : valV kvs (fT x) = some t := by rw [val_perm p (fT_nodup ha), g_val fT (k := x.k) (fun e _ => fT_inj)]; exact hm
    refine ⟨.dT (dropK kvs (fT x)), ⟨_, rfl, g_drop fT (fun e _ => fT_inj) p⟩, ?_⟩
    rw [e1]
    exact .inr ⟨kvs, fT x, a, ht, rfl, by rw [map_kV_inl]; exact xe _ _ h1, nn, rfl⟩
  | false =>
    obtain ⟨kvs, rfl, p⟩ := h
    have nn : valV kvs (fK x) = some t := by rw [val_perm p (fK_nodup ha hg), g_val fK (k := x.k) (fun e he => fK_inj (hg e he) hx)]; exact hm
    refine ⟨.dK (dropK kvs (fK x)), ⟨_, rfl, g_drop fK (fun e he => fK_inj (hg e he) hx) p⟩, ?_⟩
    obtain ⟨i, e1, h1⟩ := hx
    have e2 : kV (fK x) = .int i := by unfold fK; rw [h1]; rfl
    rw [e1, ← e2]
    exact .inl ⟨kvs, fK x, ht, rfl, nn, rfl⟩
end
theorem eqv_self {d : PyData} (h : SeqAt.shaped d = true) : PyData.eqv d d = true := SeqAt.eqv_refl d (SeqAt.canLay_of_shaped h)
end Mo
namespace Mo
open PySem PySem.Spec PyProof.Rows L2
/-! ### orders of the volatile objects -/
section
variable {α : Type} {A B X Y Z : List α} {a b : α}
theorem pm_step (h : Y.Perm (A ++ Z)) (k : X.Perm Z) : (A ++ X).Perm Y := (k.append_left A).trans h.symm
theorem pm_stepC (h : Y.Perm (a :: Z)) (k : X.Perm Z) : (a :: X).Perm Y := (k.cons a).trans h.symm
theorem pm_here : (A ++ Z).Perm (A ++ Z) := .refl _
theorem pm_last : A.Perm (A ++ []) := by rw [List.append_nil]
theorem pm_hereC : (a :: Z).Perm (a :: Z) := .refl _
theorem pm_skip (h : Y.Perm (A ++ Z)) : (B ++ Y).Perm (A ++ (B ++ Z)) := by
  refine (h.append_left B).trans ?_
  rw [← List.append_assoc, ← List.append_assoc]
  exact List.perm_append_comm.append_right Z
theorem pm_skipC (h : Y.Perm (A ++ Z)) : (b :: Y).Perm (A ++ (b :: Z)) := (h.cons b).trans List.perm_middle.symm
theorem pm_Cskip (h : Y.Perm (a :: Z)) : (B ++ Y).Perm (a :: (B ++ Z)) := (h.append_left B).trans List.perm_middle
theorem pm_CskipC (h : Y.Perm (a :: Z)) : (b :: Y).Perm (a :: (b :: Z)) := (h.cons b).trans (.swap _ _ _)
theorem pm_end : ([] : List α).Perm [] := .refl _
end
theorem Hd.dropA {G H : Hp} : ∀ {A L : Vo}, Hd G H (A ++ L) → Hd G H L
  | [], _, h => h
  | _ :: A, L, h => Hd.dropA (A := A) h.drop
/-! ### more steps -/
/-- a test, whatever way it is answered: what follows is shown once -/
theorem go_absT {c : TT} {σ : L2.St} {H : Hp} {F : Bool → Hp → Prop} (Pre : Bool → Hp → Prop) (k : ∀ X : Bool → Hp → Prop, (∀ b H1, Pre b H1 → X b H1) → c σ H X) (f : ∀ b H1, Pre b H1 → F b H1) : c σ H F := k F f
theorem go_absE {c : TE} {σ : L2.St} {H : Hp} {F : VK} (Pre : VK) (k : ∀ X : VK, (∀ v H1, Pre v H1 → X v H1) → c σ H X) (f : ∀ v H1, Pre v H1 → F v H1) : c σ H F := k F f
def rRev (K : PySem.W.Frag) : V → Hp → VK → Prop := fun x H Q => ∃ a xs, x = .ref a ∧ SqL K H a xs ∧ ∀ p, H p = none → Q (.ref p) (upd H p (.lst xs.reverse))
def rInsert : V → List V → Hp → VK → Prop := fun x vs H Q => ∃ (l : Addr) (xs : List V) (i : Int) (y : V), x = .ref l ∧ vs = [.int i, y] ∧ H l = some (.lst xs) ∧ xs.length < sizeLine ∧ 0 ≤ i ∧ i < 2 ^ 63 ∧ Q .non (upd H l (.lst (xs.take i.toNat ++ [y] ++ xs.drop i.toNat)))
theorem mt_insertN {X : Cx} : MtR X "list.insert" rInsert := mt_insert
section
variable {K : PySem.W.Frag} {σ : St} {H : Hp} {Q : VK} {ta te : TE} {v x y : V}
theorem go_insert {l : Addr} {xs : List V} {n : Nat} (h : H l = some (.lst xs)) (hn : n ≤ xs.length) (hl : xs.length ≤ 10000) (k : Q .non (upd H l (.lst (xs.take n ++ [y] ++ xs.drop n)))) : rInsert (.ref l) [.int (n : Int), y] H Q :=
  ⟨l, xs, (n : Int), y, rfl, rfl, h, by rw [sizeLine_eq]; omega, by omega, by omega, by rw [Int.toNat_natCast]; exact k⟩
theorem go_popAt {l : Addr} {xs : List V} {n : Nat} {j : Int} (hj : j = (n : Int)) (h : H l = some (.lst xs)) (hl : xs.length ≤ 10000) (e : xs[n]? = some y) (k : Q y (upd H l (.lst (xs.eraseIdx n)))) : rPopAt (.ref l) [.int j] H Q := by
  have hn := (List.getElem?_eq_some_iff.mp e).1
  subst hj
  refine ⟨l, xs, (n : Int), n, y, rfl, rfl, h, by omega, by omega, ?_, e, k⟩
  have h0 : ¬ ((n : Int) < 0) := by omega
  have h1 : (decide (0 ≤ (n : Int)) && decide ((n : Int) < (xs.length : Int))) = true := by simp; omega
  simp only [seqIndex?, h0, if_false, h1, if_true, Int.toNat_natCast]
theorem go_tyDT {p : Addr} {kvs : List (List Key × V)} {R : Prop} (h : H p = some (.dT kvs)) (k : R) : tyV K "dict" (.ref p) H ∧ R := ⟨.inr (.inr (.inl ⟨rfl, .inr ⟨kvs, h⟩⟩)), k⟩
theorem go_tyDK {p : Addr} {kvs : List (Key × V)} {R : Prop} (h : H p = some (.dK kvs)) (k : R) : tyV K "dict" (.ref p) H ∧ R := ⟨.inr (.inr (.inl ⟨rfl, .inl ⟨kvs, h⟩⟩)), k⟩
theorem go_dpop {p : Addr} {H' : Hp} (g : DPop H p y v H') (k : Q v H') : rDPop1 (.ref p) [y] H Q := ⟨p, y, v, H', rfl, rfl, g, k⟩
theorem go_inD {a : Addr} {o : Option V} (g : DGet H a x o) (k : Q (.bl o.isSome) H) : rInA K x (.ref a) H Q := .inl ⟨a, o, rfl, g, k⟩
theorem go_ninD {a : Addr} {o : Option V} (g : DGet H a x o) (k : Q (.bl (!o.isSome)) H) : rNotInA K x (.ref a) H Q := .inl ⟨a, o, rfl, g, k⟩
theorem go_strI {n : Int} {Q1 : Int → Prop} {A : Prop} (k : A) : A := k
theorem go_revL {a : Addr} {xs : List V} (h : SqL K H a xs) (k : ∀ p, H p = none → Q (.ref p) (upd H p (.lst xs.reverse))) : rRev K (.ref a) H Q := ⟨a, xs, rfl, h, k⟩
end
section
variable {X : Cx} {K : PySem.W.Frag}
theorem pe_revK {e : Expr} {te : TE} {k : Nat} {p1 p2 p3 pos : Pos} (hK : X.K = K) (he : PE X e te) : PE X (.Subscript e (.Slice none none (some (.UnaryOp .USub (.Constant (.int 1) k p1) p2)) p3) pos) (tUn (rRev K) te) := hK ▸ pe_revL he
end
theorem half (lo hi : Nat) : ((lo : Int) + (hi : Int)).fdiv 2 = (((lo + hi) / 2 : Nat) : Int) := by
  rw [Int.fdiv_eq_ediv_of_nonneg _ (by decide)]
  omega
end Mo
local macro_rules | `(tactic| k_extra "p") => `(tactic| ((try simp only [List.append_assoc, List.cons_append, List.nil_append, List.append_nil]); repeat (first
  | with_reducible exact List.Perm.refl _
  | with_reducible exact Mo.pm_last
  | (with_reducible apply Mo.pm_stepC; focus (repeat (first | with_reducible exact Mo.pm_hereC | with_reducible apply Mo.pm_CskipC | with_reducible apply Mo.pm_Cskip)))
  | (with_reducible apply Mo.pm_step; focus (repeat (first | with_reducible exact Mo.pm_here | with_reducible exact Mo.pm_last | with_reducible apply Mo.pm_skipC | with_reducible apply Mo.pm_skip))))))
namespace Mo
open PySem PySem.Spec PyProof.Rows L2
/-! #### dicts displayed; lists the other way about; texts asked for -/
section
variable {K : PySem.W.Frag} {Γ : List Fc} {S S' : List Vo} {σ : St} {Q : VK} {A : Hp → Prop} {te : TE}
theorem dpa_rev {H : Hp} : ∀ {vs : List V} {ds : List PyData}, DpAll K H vs ds → DpAll K H vs.reverse ds.reverse
  | _, _, .nil => .nil
  | _, _, .cons h r => by
    rw [List.reverse_cons, List.reverse_cons]
    exact dpa_app (dpa_rev r) (.cons h .nil)
/-- the list the other way about, as a new list -/
theorem w_revD {p : Addr} {ds : List PyData} (m : .dat (.ref p) (.list ds) ∈ Γ) (k : ∀ r vs, Wh K (.dats vs ds.reverse :: Γ) (own r (.lst vs) :: S) fun H => Q (.ref r) H) : Wh K Γ S fun H => rRev K (.ref p) H Q := fun H z => by
  obtain ⟨G, a, b⟩ := z
  obtain ⟨p', xs, ep, t1, t2⟩ := dp_lst (b _ m : Dp K G (.ref p) (.list ds))
  cases ep
  refine ⟨p, xs, rfl, ext_l a.ex t1, fun r hr => k r xs.reverse _ ?_⟩
  exact (Hg.new (o := .lst xs.reverse) (⟨G, a, cons_facts (f := .dats xs.reverse ds.reverse) (dpa_rev t2) b⟩ : Hg K (.dats xs.reverse ds.reverse :: Γ) S H) hr)
def mkD (p : Addr) (Q : VK) (ps : List (V × V)) (H : Hp) : Prop := H p = some (.dK []) ∧ ∃ kvs : List (Key × V), ps = kvs.map (fun kv => (kV kv.1, kv.2)) ∧ kvs.length ≤ 15 ∧ Q (.ref p) (upd H p (.dK (mergeK [] kvs)))
theorem w_disp {trs : List (TE × TE)} (k : ∀ p, Wh K Γ (own p (.dK []) :: S) fun H => tPairs trs σ H fun ps H2 => mkD p Q ps H2) : Wh K Γ S fun H => tDisp trs σ H Q := fun H z p hp => k p _ (z.new hp)
theorem w_pnil {Q : List (V × V) → Hp → Prop} (k : Wh K Γ S fun H => Q [] H) : Wh K Γ S fun H => tPairs [] σ H Q := k
theorem w_pcons {tk tv : TE} {r : List (TE × TE)} {Q : List (V × V) → Hp → Prop} (k : Wh K Γ S fun H => tk σ H fun x H1 => tv σ H1 fun y H2 => tPairs r σ H2 fun ps H3 => Q ((x, y) :: ps) H3) : Wh K Γ S fun H => tPairs ((tk, tv) :: r) σ H Q := k
theorem w_dispS {p : Addr} {ps : List (V × V)} (kvs : List (Key × V)) (m : Sw p (.dK []) (.dK (mergeK [] kvs)) S S') (e : ps = kvs.map fun kv => (kV kv.1, kv.2)) (hl : kvs.length ≤ 15) (k : Wh K Γ S' fun H => Q (.ref p) H) : Wh K Γ S fun H => mkD p Q ps H := fun H z => ⟨z.own m.mem, kvs, e, hl, k _ (z.sw m)⟩
/-- a list's last leaves -/
theorem w_pop {p : Addr} {xs : List V} {y : V} (m : Sw p (.lst (xs ++ [y])) (.lst xs) S S') (k : Wh K Γ S' fun H => Q y H) : Wh K Γ S fun H => rPop (.ref p) [] H Q := fun H z => by
  refine ⟨p, xs ++ [y], y, rfl, rfl, z.own m.mem, by simp, ?_⟩
  rw [List.dropLast_concat]
  exact k _ (z.sw m)
theorem w_clear {p : Addr} {xs : List V} (m : Sw p (.lst xs) (.lst []) S S') (k : Wh K Γ S' fun H => Q .non H) : Wh K Γ S fun H => rClear (.ref p) [] H Q := fun H z => ⟨p, xs, rfl, rfl, z.own m.mem, k _ (z.sw m)⟩
/-- what kind it is -/
theorem w_isi_ii {a : Int} (k : Wh K Γ S fun H => Q (.bl true) H) : Wh K Γ S fun H => rIsi K [.int a, .ty "int"] H Q := fun H z => go_isi_ii (k H z)
theorem w_isi_ib {a : Int} (k : Wh K Γ S fun H => Q (.bl false) H) : Wh K Γ S fun H => rIsi K [.int a, .ty "bool"] H Q := fun H z => go_isi_ib (k H z)
theorem w_isi_is {a : Int} (k : Wh K Γ S fun H => Q (.bl false) H) : Wh K Γ S fun H => rIsi K [.int a, .ty "str"] H Q := fun H z => go_isi_is (k H z)
theorem w_isi_ss {a : Str} (k : Wh K Γ S fun H => Q (.bl true) H) : Wh K Γ S fun H => rIsi K [.str a, .ty "str"] H Q := fun H z => go_isi_ss (k H z)
theorem w_isi_bb {a : Bool} (k : Wh K Γ S fun H => Q (.bl true) H) : Wh K Γ S fun H => rIsi K [.bl a, .ty "bool"] H Q := fun H z => go_isi_bb (k H z)
theorem w_isi_st {a : Str} (k : Wh K Γ S fun H => Q (.bl false) H) : Wh K Γ S fun H => rIsi K [.str a, .ty "tuple"] H Q := fun H z => go_isi (.ty _) (.base (.str _)) (kit_ty (by decide +kernel)) (k H z)
theorem w_isi_sl {a : Str} (k : Wh K Γ S fun H => Q (.bl false) H) : Wh K Γ S fun H => rIsi K [.str a, .ty "list"] H Q := fun H z => go_isi (.ty _) (.base (.str _)) (kit_ty (by decide +kernel)) (k H z)
theorem w_isi_il {a : Int} (k : Wh K Γ S fun H => Q (.bl false) H) : Wh K Γ S fun H => rIsi K [.int a, .ty "list"] H Q := fun H z => go_isi (.ty _) (.base (.int _)) (kit_ty (by decide +kernel)) (k H z)
theorem w_isi_tt {a : Addr} {xs : List V} (m : .obj a (.tup xs) ∈ Γ) (k : Wh K Γ S fun H => Q (.bl true) H) : Wh K Γ S fun H => rIsi K [.ref a, .ty "tuple"] H Q := fun H z => go_isi (.ty _) (.base (.tup (z.obj m))) (kit_ty (by decide +kernel)) (k H z)
theorem w_isi_ts {a : Addr} {xs : List V} (m : .obj a (.tup xs) ∈ Γ) (k : Wh K Γ S fun H => Q (.bl false) H) : Wh K Γ S fun H => rIsi K [.ref a, .ty "str"] H Q := fun H z => go_isi (.ty _) (.base (.tup (z.obj m))) (kit_ty (by decide +kernel)) (k H z)
theorem w_isi_ll {a : Addr} {xs : List V} (m : AtH K Γ S a (.lst xs)) (k : Wh K Γ S fun H => Q (.bl true) H) : Wh K Γ S fun H => rIsi K [.ref a, .ty "list"] H Q := fun H z => go_isi (.ty _) (.base (.lst (m H z))) (kit_ty (by decide +kernel)) (k H z)
end
section
variable {K : PySem.W.Frag} {Γ : List Fc} {S R S0 : List Vo} {A : Hp → Prop}
theorem Dr.glue {x y : Vo} (h : Dr S0 (x :: y :: R)) : Dr S0 ((x ++ y) :: R) := by
  obtain ⟨J, j⟩ := h
  refine ⟨J, j.trans ?_⟩
  rw [List.flatten_append, List.flatten_append, List.flatten_cons, List.flatten_cons, List.flatten_cons, List.append_assoc]
theorem w_thin {Γ' : List Fc} {S' : List Vo} (hΓ : ∀ f ∈ Γ', f ∈ Γ) (h : Dr S S') (k : Wh K Γ' S' A) : Wh K Γ S A := fun H z => k H (z.fit hΓ h)
end
/-! #### dicts that are walked: locked while the loop runs -/
def lkD (d : Addr) (od : Obj) (u : HO) (D : Ends) : Ends := ⟨fun σ' H' => H' d = some (.frz od u) ∧ D.nx σ' (upd H' d u), fun v H' => H' d = some (.frz od u) ∧ D.rt v (upd H' d u), fun σ' H' => H' d = some (.frz od u) ∧ D.bk σ' (upd H' d u), fun σ' H' => H' d = some (.frz od u) ∧ D.ct σ' (upd H' d u)⟩
def forKeys (g : TG) (tw : TS) (D : Ends) (σ : St) (x : V) (H : Hp) : Prop := ∃ d o, x = .ref d ∧ ((∃ kvs, H d = some (.frz o (.dK kvs)) ∧ LoopX g tw D σ H (Itk d o kvs)) ∨ ∃ kvs, H d = some (.frz o (.dT kvs)) ∧ LoopX g tw D σ H (Itkt d o kvs))
section
variable {K : PySem.W.Frag} {Γ : List Fc} {S R : List Vo} {σ : St} {D : Ends} {t tw : TS} {g : TG} {td : TE} {d : Addr} {od : Obj} {u : HO} {kvs : List (Key × V)} {Q : VK}
theorem w_lock (m : Take (own d u) S R) (mu : Mut (some u)) (k : ∀ od, Wh K Γ (own d (.frz od u) :: R) fun H => t (lkD d od u D) σ H) : Wh K Γ S fun H => tLock t D σ H := fun H z => ⟨d, u, (z.tk1 m).own List.mem_cons_self, mu, fun od => k od _ ((z.tk1 m).sw Sw.here)⟩
theorem w_unlock (m : Take (own d (.frz od u)) S R) (k : Wh K Γ (own d u :: R) fun H => D.nx σ H) : Wh K Γ S fun H => (lkD d od u D).nx σ H := fun H z => ⟨(z.tk1 m).own List.mem_cons_self, k _ ((z.tk1 m).sw Sw.here)⟩
theorem w_forKeys (k : Wh K Γ S fun H => td σ H fun x H1 => forKeys g tw D σ x H1) : Wh K Γ S fun H => tFor (iKeys td) g tw D σ H := k
theorem w_keys (m : own d (.frz od (.dK kvs)) ∈ S) (k : Wh K Γ S fun H => LoopX g tw D σ H (Itk d od kvs)) : Wh K Γ S fun H => forKeys g tw D σ (.ref d) H := fun H z => ⟨d, od, rfl, .inl ⟨kvs, z.own m, k H z⟩⟩
theorem w_loop_k {ι : Type} (C : Nat → ι → Prop) (sg : Nat → ι → St) (Γf : Nat → ι → List Fc) (Sf : Nat → ι → List Vo) (a0 : ι) (h0 : C 0 a0) (hσ : σ = sg 0 a0) (hΓ : ∀ f ∈ Γf 0 a0, f ∈ Γ) (hS : Dr S (Sf 0 a0))
    (hl : ∀ i a, own d (.frz od (.dK kvs)) ∈ Sf i a)
    (hs : ∀ (i : Nat) k v a, kvs[i]? = some (k, v) → C i a → Wh K (Γf i a) (Sf i a) fun H => g (kV k) (sg i a) H fun σ2 H2 => tw { D with nx := NX K (C (i + 1)) (sg (i + 1)) (Γf (i + 1)) (Sf (i + 1)), ct := NX K (C (i + 1)) (sg (i + 1)) (Γf (i + 1)) (Sf (i + 1)), bk := D.nx } σ2 H2)
    (hd : ∀ a, C kvs.length a → Wh K (Γf kvs.length a) (Sf kvs.length a) fun H => D.nx (sg kvs.length a) H) : Wh K Γ S fun H => LoopX g tw D σ H (Itk d od kvs) := fun H z => by
  refine ⟨fun i m σ H => m = kvs.length - i ∧ i ≤ kvs.length ∧ NX K (C i) (sg i) (Γf i) (Sf i) σ H, ⟨kvs.length, by simp, Nat.zero_le _, w_again a0 h0 hσ hΓ hS H z⟩, ?_⟩
  rintro i m σ' H' ⟨rfl, hi, a, hC, hσ, z'⟩
  subst hσ
  by_cases hlt : i < kvs.length
  · refine .inr ⟨⟨z'.own (hl i a), hlt⟩, NX K (C (i + 1)) (sg (i + 1)) (Γf (i + 1)) (Sf (i + 1)), fun σ'' H'' p' => ⟨kvs.length - (i + 1), by omega, rfl, hlt, p'⟩, fun x H'' y => ?_⟩
    obtain ⟨rfl, ky, v, e1, rfl⟩ := y
    exact hs i ky v a e1 hC H'' z'
  · have e : i = kvs.length := by omega
    subst e
    exact .inl ⟨⟨z'.own (hl _ a), Nat.le_refl _⟩, hd a hC H' z'⟩
/-- a dict that is locked is read -/
theorem w_subKf {z : Str} {v : V} (m : own d (.frz od (.dK kvs)) ∈ S) (e : valV kvs (Sum.inr z) = some v) (k : Wh K Γ S fun H => Q v H) : Wh K Γ S fun H => rSub K (.ref d) (.str z) H Q := fun H w => go_subD (y := .str z) (.inl ⟨kvs, Sum.inr z, .inr ⟨od, w.own m⟩, rfl, e.symm⟩) (k H w)
theorem w_dcopy (m : AtH K Γ S d (.dK kvs)) (k : ∀ p, Wh K Γ (own p (.dK kvs) :: S) fun H => Q (.ref p) H) : Wh K Γ S fun H => rDCopy (.ref d) [] H Q := fun H z => ⟨d, kvs, rfl, rfl, m H z, fun p hp => k p _ (z.new hp)⟩
theorem w_tyDK {A : Hp → Prop} (m : AtH K Γ S d (.dK kvs)) (k : Wh K Γ S A) : Wh K Γ S fun H => tyV K "dict" (.ref d) H ∧ A H := fun H z => ⟨.inr (.inr (.inl ⟨rfl, .inl ⟨kvs, m H z⟩⟩)), k H z⟩
theorem w_dclear (m : Sw d (.dK kvs) (.dK []) S R) (k : Wh K Γ R fun H => Q .non H) : Wh K Γ S fun H => rDClear (.ref d) [] H Q := fun H z => ⟨d, kvs, rfl, rfl, z.own m.mem, k _ (z.sw m)⟩
end
end Mo
local macro_rules | `(tactic| k_extra "m") => `(tactic| first
  | exact List.mem_cons_self
  | (with_reducible assumption)
  | (refine List.mem_cons_of_mem _ ?_; k_extra "m"))
local macro_rules | `(tactic| k_extra "mr") => `(tactic| with_reducible first
  | exact List.mem_cons_self
  | assumption
  | (refine List.mem_cons_of_mem _ ?_; k_extra "mr"))
local macro_rules | `(tactic| k_extra "t") => `(tactic| with_reducible first
  | exact Mo.Take.here
  | (apply Mo.Take.there; k_extra "t"))
local macro_rules | `(tactic| k_extra "ts1") => `(tactic| first
  | (with_reducible exact Mo.Takes'.nil)
  | (apply Mo.Takes'.cons; k_extra "t"; k_extra "ts1"))
local macro_rules | `(tactic| k_extra "ts") => `(tactic| ((try dsimp only [Mo.doS]); (try dsimp only); k_extra "ts1"))
local macro_rules | `(tactic| k_extra "sw") => `(tactic| with_reducible first
  | exact Mo.Sw.here
  | (apply Mo.Sw.there; k_extra "sw"))
local macro_rules | `(tactic| k_extra "at") => `(tactic| first
  | exact Mo.AtH.own (by k_extra "mr")
  | exact Mo.at_st (by k_extra "mr")
  | exact Mo.at_bx (by k_extra "mr")
  | exact Mo.at_qu (by k_extra "mr")
  | exact Mo.at_ls (by k_extra "mr")
  | exact Mo.at_lb (by k_extra "mr")
  | exact Mo.at_lq (by k_extra "mr")
  | exact Mo.AtH.obj (by k_extra "m"))
local macro_rules | `(tactic| k_extra "dv") => `(tactic| first
  | exact Mo.DV.int
  | exact Mo.DV.str
  | exact Mo.DV.bl
  | exact Mo.DV.non
  | exact Mo.DV.mem (by k_extra "m")
  | assumption)
local macro_rules | `(tactic| k_extra "dl") => `(tactic| first
  | exact Mo.DL.nil
  | (apply Mo.DL.cons; k_extra "dv"; k_extra "dl")
  | exact Mo.DL.ints
  | exact Mo.DL.strs
  | assumption)
local macro_rules | `(tactic| k_extra "sufx") => `(tactic| with_reducible first
  | exact Mo.sub_refl
  | (refine Mo.sub_cons ?_; k_extra "sufx"))
local macro_rules | `(tactic| k_extra "sub1") => `(tactic| first
  | k_extra "sufx"
  | ((with_reducible refine Mo.sub_put (by k_extra "m") ?_); k_extra "sub1")
  | exact Mo.sub_refl
  | ((with_reducible refine Mo.sub_cons ?_); k_extra "sub1")
  | exact Mo.sub_nil)
local macro_rules | `(tactic| k_extra "pr") => `(tactic| first
  | exact Mo.prm_refl
  | (apply Mo.prm_cons; k_extra "t"; k_extra "pr"))
local macro_rules | `(tactic| k_extra "dr1") => `(tactic| first
  | exact Mo.Dr.refl
  | (apply Mo.Dr.keep; k_extra "t"; k_extra "dr1")
  | ((with_reducible refine Mo.Dr.skip ?_); k_extra "dr1"))
local macro_rules | `(tactic| k_extra "W0") => `(tactic| with_reducible first
  | refine Mo.w_seq ?_
  | refine Mo.w_asg ?_
  | refine Mo.w_op ?_
  | refine Mo.w_c ?_
  | refine Mo.w_gn ?_
  | refine Mo.w_test ?_
  | refine Mo.w_bl ?_
  | refine Mo.w_iteT ?_
  | refine Mo.w_iteF ?_
  | refine Mo.w_I0 ?_
  | refine Mo.w_cons ?_
  | refine Mo.w_nil ?_
  | refine Mo.w_call ?_
  | refine Mo.w_ret ?_
  | refine Mo.w_eqi ?_
  | refine Mo.w_addI ?_
  | refine Mo.w_ltI ?_
  | refine Mo.w_leI ?_
  | refine Mo.w_geI ?_
  | refine Mo.w_truB ?_
  | refine Mo.w_truN ?_
  | refine Mo.w_isN_t ?_
  | refine Mo.w_notN_t ?_
  | refine Mo.w_isN_r ?_
  | refine Mo.w_notN_r ?_
  | refine Mo.w_isN_i ?_
  | refine Mo.w_notN_i ?_
  | refine Mo.w_nei ?_
  | refine Mo.w_cb ?_
  | refine Mo.w_drop ?_
  | refine Mo.w_tup ?_
  | refine Mo.w_lst ?_
  | refine Mo.w_next ?_
  | refine Mo.w_fld ?_
  | refine Mo.w_sfld ?_
  | refine Mo.w_meth ?_
  | refine Mo.w_make ?_
  | refine Mo.w_bm ?_
  | refine Mo.w_bm0 ?_
  | refine Mo.w_gsub ?_
  | refine Mo.w_gcons ?_
  | refine Mo.w_gnil ?_
  | refine Mo.w_and ?_
  | refine Mo.w_or ?_
  | refine Mo.w_not ?_
  | refine Mo.w_andV ?_
  | refine Mo.w_orV ?_
  | refine Mo.w_notV ?_
  | refine Mo.w_un ?_
  | refine Mo.w_rU ?_
  | refine Mo.w_sl ?_
  | refine Mo.w_nopart ?_
  | refine Mo.w_part ?_
  | refine Mo.w_int ?_
  | refine Mo.w_ifE ?_
  | refine Mo.w_tb ?_
  | refine Mo.w_ipI ?_
  | refine Mo.w_iteFn ?_
  | refine Mo.w_iteTn ?_
  | refine Mo.w_eqb ?_
  | refine Mo.w_neb ?_
  | refine Mo.w_brk ?_
  | refine Mo.w_forSeq ?_
  | refine Mo.w_forRng ?_
  | refine Mo.w_lcSeq ?_
  | refine Mo.w_lcRng ?_
  | refine Mo.w_yes ?_
  | refine Mo.w_cont ?_
  | refine Mo.w_pow15 ?_
  | refine Mo.w_pow12 ?_
  | refine Mo.w_pow6 ?_
  | refine Mo.w_fldaug ?_
  | refine Mo.w_addR ?_
  | refine Mo.w_subR ?_
  | refine Mo.w_eqsT ?_
  | refine Mo.w_nesT ?_
  | refine Mo.w_noned ?_
  | refine Mo.w_isi_ii ?_
  | refine Mo.w_isi_ib ?_
  | refine Mo.w_isi_is ?_
  | refine Mo.w_isi_ss ?_
  | refine Mo.w_isi_bb ?_
  | refine Mo.w_isi_st ?_
  | refine Mo.w_isi_sl ?_
  | refine Mo.w_isi_il ?_
  | refine Mo.w_forKeys ?_
  | refine Mo.w_pnil ?_
  | refine Mo.w_pcons ?_
  | refine Mo.w_texc ?_
  | refine Mo.w_tword ?_)
local macro_rules | `(tactic| k_extra "W1") => `(tactic| first
  | ((with_reducible refine' Mo.w_var ?k1 ?_); (case k1 => exact rfl))
  | k_extra "W0"
  | ((with_reducible refine' Mo.w_fldL ?k1 ?k2 ?k3 ?k4 ?_); (case k1 => k_extra "at"); (case k2 => k_extra "lk"); (case k3 => k_extra "cl"); (case k4 => k_extra "na"))
  | ((with_reducible refine' Mo.w_same ?k1 ?_); (case k1 => exact rfl))
  | ((with_reducible refine' Mo.w_eqsF ?k1 ?_); (case k1 => decide +kernel))
  | ((with_reducible refine' Mo.w_nesF ?k1 ?_); (case k1 => decide +kernel))
  | ((with_reducible refine' Mo.w_subDi ?k1 ?k2 ?_); (case k1 => k_extra "m"); (case k2 => exact rfl))
  | ((with_reducible refine' Mo.w_subDs ?k1 ?k2 ?_); (case k1 => k_extra "m"); (case k2 => exact rfl))
  | ((with_reducible refine' Mo.w_subD ?k1 ?k2 ?_); (case k1 => k_extra "m"); (case k2 => exact rfl); intro _; (try dsimp only [Mo.valOf_n, Mo.valOf_b, Mo.valOf_i, Mo.valOf_s, Mo.valOf_l, Mo.valOf_t]))
  | ((with_reducible refine' Mo.w_subO ?k1 ?k2 ?_); (case k1 => k_extra "m"); (case k2 => exact rfl))
  | ((with_reducible refine' Mo.w_subLi ?k1 ?k2 ?_); (case k1 => k_extra "m"); (case k2 => exact rfl))
  | ((with_reducible refine' Mo.w_subLs ?k1 ?k2 ?_); (case k1 => k_extra "m"); (case k2 => exact rfl))
  | ((with_reducible refine' Mo.w_sub ?k1 ?k2 ?_); (case k1 => k_extra "at"); (case k2 => exact rfl))
  | ((with_reducible refine' Mo.w_methL ?k1 ?k2 ?_); (case k1 => k_extra "at"); (case k2 => k_extra "nolk"))
  | ((with_reducible refine' Mo.w_tupD ?k1 ?k2 ?_); (case k1 => exact rfl); (case k2 => k_extra "dl"); intro _)
  | ((with_reducible refine' Mo.w_tupO ?k1 ?_); (case k1 => exact rfl); intro _)
  | ((with_reducible refine' Mo.w_lenD ?k1 ?_); (case k1 => k_extra "m"))
  | ((with_reducible refine' Mo.w_gt2 ?k1 ?_); (case k1 => k_extra "m"); intro _ _; (try dsimp only [Mo.valOf_n, Mo.valOf_b, Mo.valOf_i, Mo.valOf_s, Mo.valOf_l, Mo.valOf_t]))
  | ((with_reducible refine' Mo.w_gt3 ?k1 ?_); (case k1 => k_extra "m"); intro _ _ _; (try dsimp only [Mo.valOf_n, Mo.valOf_b, Mo.valOf_i, Mo.valOf_s, Mo.valOf_l, Mo.valOf_t]))
  | ((with_reducible refine' Mo.w_gt4 ?k1 ?_); (case k1 => k_extra "m"); intro _ _ _ _; (try dsimp only [Mo.valOf_n, Mo.valOf_b, Mo.valOf_i, Mo.valOf_s, Mo.valOf_l, Mo.valOf_t]))
  | ((with_reducible refine' Mo.w_gt5 ?k1 ?_); (case k1 => k_extra "m"); intro _ _ _ _ _; (try dsimp only [Mo.valOf_n, Mo.valOf_b, Mo.valOf_i, Mo.valOf_s, Mo.valOf_l, Mo.valOf_t]))
  | ((with_reducible refine' Mo.w_gt6 ?k1 ?_); (case k1 => k_extra "m"); intro _ _ _ _ _ _; (try dsimp only [Mo.valOf_n, Mo.valOf_b, Mo.valOf_i, Mo.valOf_s, Mo.valOf_l, Mo.valOf_t]))
  | ((with_reducible refine' Mo.w_gt7 ?k1 ?_); (case k1 => k_extra "m"); intro _ _ _ _ _ _ _; (try dsimp only [Mo.valOf_n, Mo.valOf_b, Mo.valOf_i, Mo.valOf_s, Mo.valOf_l, Mo.valOf_t]))
  | ((with_reducible refine' Mo.w_gtO ?k1 ?k2 ?_); (case k1 => k_extra "m"); (case k2 => exact rfl))
  | ((with_reducible refine' Mo.w_tyL ?k1 ?_); (case k1 => k_extra "at"))
  | ((with_reducible refine' Mo.w_draw ?k1 ?k2 ?k3 ?_); (case k1 => k_extra "mr"); (case k2 => (first | decide | omega)); (case k3 => (first | decide | omega)))
  | ((with_reducible refine' Mo.w_forD ?k1 ?_); (case k1 => k_extra "m"))
  | ((with_reducible refine' Mo.w_keys ?k1 ?_); (case k1 => k_extra "mr"))
  | ((with_reducible refine' Mo.w_tyDK ?k1 ?_); (case k1 => k_extra "at"))
  | ((with_reducible refine' Mo.w_dcopy ?k1 ?_); (case k1 => k_extra "at"); intro _)
  | ((with_reducible refine' Mo.w_isi_tt ?k1 ?_); (case k1 => k_extra "m"))
  | ((with_reducible refine' Mo.w_isi_ts ?k1 ?_); (case k1 => k_extra "m"))
  | ((with_reducible refine' Mo.w_isi_ll ?k1 ?_); (case k1 => k_extra "at"))
  | ((with_reducible refine' Mo.w_revD ?k1 ?_); (case k1 => k_extra "m"); intro _ _)
  | ((with_reducible refine' Mo.w_lcD ?k1 ?_); (case k1 => k_extra "m"))
  | ((with_reducible refine' Mo.w_forL ?k1 ?_); (case k1 => k_extra "at"))
  | ((with_reducible refine' Mo.w_lcL ?k1 ?_); (case k1 => k_extra "at"))
  | ((with_reducible refine' Mo.w_exc ?_); intro _)
  | (with_reducible refine Mo.w_intB ?_)
  | (with_reducible refine Mo.w_intI ?_)
  | (with_reducible refine Mo.w_ifS ?_))
local macro_rules | `(tactic| k_extra "W") => `(tactic| repeat k_extra "W1")
local macro_rules | `(tactic| k_extra "rp") => `(tactic| with_reducible first
  | exact Mo.Rp.here
  | (apply Mo.Rp.there; k_extra "rp"))
local macro_rules | `(tactic| k_extra "sub") => `(tactic| ((try dsimp only [List.nil_append, List.cons_append]); k_extra "sub1"))
local macro_rules | `(tactic| k_extra "dr") => `(tactic| ((try dsimp only [List.nil_append, List.cons_append]); k_extra "dr1"))
namespace Mo
open PySem PySem.Spec PyProof.Rows L2
/-! ### promises whose exceptions have data; words of a text -/
def SpE {ι : Type} (K : PySem.W.Frag) (A : ι → List V) (Pr : ι → List Fc → Prop) (O : ι → List Vo) (Po : ι → V → List Fc → List Vo → Prop) (Ex : ι → Value → Option Addr → List Fc → List Vo → Prop) : Sp := fun vs H Q E => ∃ (i : ι) (Γ : List Fc) (S : List Vo), vs = A i ∧ Hg K Γ (O i ++ S) H ∧ Pr i Γ ∧
  (∀ v Γ' S' H', Po i v Γ' S' → Hg K (Γ' ++ Γ) (S' ++ S) H' → Q v H') ∧ ∀ e d Γ' S' H', Ex i e d Γ' S' → Hg K (Γ' ++ Γ) (S' ++ S) H' → E e d H'
section
variable {ι : Type} {K : PySem.W.Frag} {Γ : List Fc} {S R : List Vo} {A : ι → List V} {Pr : ι → List Fc → Prop} {O : ι → List Vo} {Po : ι → V → List Fc → List Vo → Prop} {Ex : ι → Value → Option Addr → List Fc → List Vo → Prop} {Q : VK} {E : XK} {vs : List V}
theorem w_doE (i : ι) (t : Takes' (O i) S R) (hp : Pr i Γ) (k : ∀ v Γ' S', Po i v Γ' S' → Wh K (Γ' ++ Γ) (S' ++ R) fun H => Q v H) (x : ∀ e d Γ' S', Ex i e d Γ' S' → Wh K (Γ' ++ Γ) (S' ++ R) fun H => E e d H) (hA : vs = A i := by rfl) :
    Wh K Γ S fun H => SpE K A Pr O Po Ex vs H Q E := fun _ z => ⟨i, Γ, R, hA, z.tk t, hp, fun v Γ' S' H' h z' => k v Γ' S' h H' z', fun e d Γ' S' H' h z' => x e d Γ' S' h H' z'⟩
end
theorem spl_len (S : List Nat) : ∀ (l : List Nat) (k : Nat) (acc : List Nat), (TL.spl S k acc l).length ≤ l.length + 1 ∧ ∀ p ∈ TL.spl S k acc l, p.length ≤ acc.length + l.length
  | [], k, acc => by
    rw [TL.spl_nil]
    exact ⟨Nat.le_refl _, fun p hp => by rw [List.mem_singleton.mp hp]; exact Nat.le_add_right _ _⟩
  | c :: r, 0, acc => by
    cases h : TL.pre S (c :: r) with
    | true =>
      rw [TL.spl_hit h]
      obtain ⟨h1, h2⟩ := spl_len S r (S.length - 1) []
      refine ⟨by rw [List.length_cons, List.length_cons]; omega, fun p hp => ?_⟩
      rcases List.mem_cons.mp hp with rfl | hp
      · exact Nat.le_add_right _ _
      · have := h2 p hp
        rw [List.length_nil] at this
        rw [List.length_cons]
        omega
    | false =>
      rw [TL.spl_miss h]
      obtain ⟨h1, h2⟩ := spl_len S r 0 (acc ++ [c])
      refine ⟨by rw [List.length_cons]; omega, fun p hp => ?_⟩
      have := h2 p hp
      rw [List.length_append, List.length_singleton] at this
      rw [List.length_cons]
      omega
  | c :: r, k + 1, acc => by
    obtain ⟨h1, h2⟩ := spl_len S r k acc
    show (TL.spl S k acc r).length ≤ _ ∧ ∀ p ∈ TL.spl S k acc r, _
    exact ⟨by rw [List.length_cons]; omega, fun p hp => by have := h2 p hp; rw [List.length_cons]; omega⟩
def blank : Str := " "
theorem tl_blank : TL.tl blank = [32] := by decide +kernel
theorem split_len (x : Str) : (Txt.split x blank).length ≤ (TL.tl x).length + 1 ∧ ∀ p ∈ Txt.split x blank, (TL.tl p).length ≤ (TL.tl x).length := by
  have h := TL.split_spl x blank (by rw [tl_blank]; decide) (TL.kind_ok (by decide +kernel))
  obtain ⟨h1, h2⟩ := spl_len (TL.tl blank) (TL.tl x) 0 []
  rw [← h] at h1 h2
  rw [List.length_map] at h1
  refine ⟨h1, fun p hp => ?_⟩
  have := h2 _ (List.mem_map_of_mem hp)
  rw [List.length_nil] at this
  omega
end Mo
namespace Mo
open PySem PySem.Spec PyProof.Rows L2
/-! ### lines of models read: a plain reader (beginning) -/
section
variable (name : Str → Bool) (worth : Str → Option Int) (draw : Str → Option Int)
/-- the words of a line that stands so deep, else none -/
def hereM (ls : List Str) (i d : Nat) : List Str := match ls[i]? with
  | none => []
  | some x => if TL.pre (List.replicate (2 * d) 32) (TL.tl x) = true then Txt.split (cutS x (some ((2 * d : Nat) : Int)) none) blank else []
/-- a word and a name that isn't used yet -/
def namedM (ls : List Str) (i d : Nat) (w : Str) (used : List Str) : Option Str := match hereM ls i d with
  | [a, b] => if a = w ∧ name b = true ∧ b ∉ used then some b else none
  | _ => none
/-- at most so many boxes more -/
def boxesM (ls : List Str) : Nat → Nat → List (Str × Int) → List (Str × Int) × Nat
  | 0, i, bs => (bs, i)
  | n + 1, i, bs => match hereM ls i 1 with
    | [w, b, x] => if w = Str.ofString "box" ∧ name b = true ∧ b ∉ bs.map (·.1) then (match worth x with
      | some v => boxesM ls n (i + 1) (bs ++ [(b, v)])
      | none => (bs, i)) else (bs, i)
    | _ => (bs, i)
def queuesM (ls : List Str) (used : List Str) : Nat → Nat → List Str → List Str × Nat
  | 0, i, qs => (qs, i)
  | n + 1, i, qs => match namedM name ls i 1 (Str.ofString "queue") (used ++ qs) with
    | some q => queuesM ls used n (i + 1) (qs ++ [q])
    | none => (qs, i)
def drawsM (ls : List Str) (i : Nat) : List Int × Nat := match hereM ls i 1 with
  | w :: x :: r => if w = Str.ofString "draws" ∧ r.length ≤ 19 then (match (x :: r).mapM draw with
    | some ds => (ds, i + 1)
    | none => ([], i)) else ([], i)
  | _ => ([], i)
end
/-! #### deeds: by fuel; a refusal tells its line -/
section
variable (one : List Str → Option Dd) (cond : List Str → Option Fm) (name : Str → Bool)
mutual
def blockM (ls : List Str) : Nat → Nat → Nat → Nat → Nat → Except Nat (List Dd × Nat × Nat)
  | 0, _, _, i, k => .ok ([], i, k)
  | n + 1, d, e, i, k => if 5 < e then .ok ([], i, k) else match deedM ls n d e i k with
    | .error x => .error x
    | .ok (none, i1, k1) => .ok ([], i1, k1)
    | .ok (some x, i1, k1) => match blockM ls n d e i1 k1 with
      | .error y => .error y
      | .ok (ds, i2, k2) => .ok (x :: ds, i2, k2)
def deedM (ls : List Str) : Nat → Nat → Nat → Nat → Nat → Except Nat (Option Dd × Nat × Nat)
  | 0, _, _, i, k => .ok (none, i, k)
  | n + 1, d, e, i, k => match hereM ls i d with
    | [] => .ok (none, i, k)
    | w :: ws => if k = 20 then .ok (none, i, k) else
      if w = Str.ofString "if" then match cond ws with
        | none => .ok (none, i, k)
        | some f => match blockM ls n (d + 1) (e + 1) (i + 1) (k + 1) with
          | .error x => .error x
          | .ok (xs, i1, k1) => if hereM ls i1 d = [Str.ofString "else"] then (match blockM ls n (d + 1) (e + 1) (i1 + 1) k1 with
            | .error x => .error x
            | .ok (ys, i2, k2) => .ok (some (.iff f xs ys), i2, k2)) else .error (i1 + 1)
      else match (match w :: ws with
        | [p, a, b] => if p = Str.ofString "pull" ∧ name a = true ∧ name b = true then some (a, b) else none
        | _ => none) with
        | some (a, b) => match blockM ls n (d + 1) (e + 1) (i + 1) (k + 1) with
          | .error x => .error x
          | .ok (xs, i1, k1) => .ok (some (.pull a b xs), i1, k1)
        | none => match one (w :: ws) with
          | some x => .ok (some x, i + 1, k + 1)
          | none => .ok (none, i, k)
end
end
/-! #### what a machine hears, machines -/
section
variable (one : List Str → Option Dd) (cond : List Str → Option Fm) (name : Str → Bool) (worth draw : Str → Option Int)
def hearsM (ls : List Str) (f : Nat) : Nat → Nat → List (Str × List Dd) → Except Nat (List (Str × List Dd) × Nat)
  | 0, i, hs => .ok (hs, i)
  | n + 1, i, hs => match namedM name ls i 1 (Str.ofString "on") (hs.map (·.1)) with
    | none => .ok (hs, i)
    | some s => match blockM one cond name ls f 2 1 (i + 1) 0 with
      | .error x => .error x
      | .ok (ds, i1, _) => hearsM ls f n i1 (hs ++ [(s, ds)])
def machsM (ls : List Str) (f : Nat) : Nat → Nat → List Mach → Except Nat (List Mach × Nat)
  | 0, i, ms => .ok (ms, i)
  | n + 1, i, ms => match namedM name ls i 0 (Str.ofString "machine") (ms.map Mach.name) with
    | none => .ok (ms, i)
    | some x =>
      let b := boxesM name worth ls 6 (i + 1) []
      let q := queuesM name ls (b.1.map (·.1)) 3 b.2 []
      let d := drawsM draw ls q.2
      match hearsM one cond name ls f 4 d.2 [] with
      | .error y => .error y
      | .ok (hs, i1) => machsM ls f n i1 (ms ++ [⟨x, b.1, q.1, d.1, hs⟩])
/-- the machines that all lines write, or the line that is refused -/
def modelM (ls : List Str) (f : Nat) : Except Nat (List Mach) := match machsM one cond name worth draw ls f 6 0 [] with
  | .error x => .error x
  | .ok (ms, i) => if ms.isEmpty = true ∨ i < ls.length then .error (i + 1) else .ok ms
end
end Mo
namespace Mo
open PySem PySem.Spec PyProof.Rows L2
/-! ### texts: signs, heads, numbers written -/
def rInSign : R2 := fun x y H Q => ∃ (c : Nat) (z : Str), x = .str ⟨#[c]⟩ ∧ y = .str z ∧ Q (.bl (decide (c ∈ z.cps.toList))) H
theorem op_inSign {X : Cx} : OpR X (compareOp .In) rInSign := op_in_sign
theorem cr_allK {X : Cx} {K : PySem.W.Frag} (hK : X.K = K) (hc : X.calm = true) : CallR X (.builtin "all") (rAll K) := hK ▸ cr_all hc
def rSws : V → List V → Hp → VK → Prop := fun x xs H Q => ∃ a b, x = .str a ∧ xs = [.str b] ∧ Q (.bl (Txt.startswith a b)) H
theorem mt_sws {X : Cx} : MtR X "str.startswith" rSws := mt_startswith
def rSpl : V → List V → Hp → VK → Prop := fun x xs H Q => ∃ a b, x = .str a ∧ xs = [.str b] ∧ (b.length == 0) = false ∧ a.length + 2 ≤ sizeLine ∧ rNewStrs (Txt.split a b) H Q
theorem mt_spl {X : Cx} : MtR X "str.split" rSpl := mt_split
def rIntS : List V → Hp → VK → Prop := fun xs H Q => ∃ a n, xs = [.str a] ∧ PySem.intText? a = some n ∧ a.length ≤ 640 ∧ Q (.int n) H
theorem cr_intS {X : Cx} : CallR X (.type "int") rIntS := call_int_str
def lcTxt (g : TG) (tt : TT) (te : TE) (vs : List Nat) (σ : St) (Q : VK) (x : V) (H : Hp) : Prop := ∃ z, x = .str z ∧ LcA g tt te vs σ Q H (Its z)
section
variable {K : PySem.W.Frag} {Γ : List Fc} {S : List Vo} {Q : VK} {σ : St} {g : TG} {tt : TT} {te tx : TE} {vs : List Nat} {ι : Type}
theorem w_chain {r r' : R2} {ta tb tc : TE} (k : Wh K Γ S fun H => ta σ H fun x H1 => tb σ H1 fun y H2 => r x y H2 fun z H3 => ∃ k, z = .bl k ∧ (if k = true then tc σ H3 fun w' H4 => r' y w' H4 Q else Q (.bl false) H3)) : Wh K Γ S fun H => tChain r r' ta tb tc σ H Q := k
theorem w_lcTxt (k : Wh K Γ S fun H => tx σ H fun x H1 => lcTxt g tt te vs σ Q x H1) : Wh K Γ S fun H => tLc (iStr tx) g tt te vs σ H Q := k
theorem w_lcS {z : Str} (k : Wh K Γ S fun H => LcA g tt te vs σ Q H (Its z)) : Wh K Γ S fun H => lcTxt g tt te vs σ Q (.str z) H := fun H y => ⟨z, rfl, k H y⟩
theorem w_inSign {c : Nat} {z : Str} (k : Wh K Γ S fun H => Q (.bl (decide (c ∈ TL.tl z))) H) : Wh K Γ S fun H => rInSign (.str ⟨#[c]⟩) (.str z) H Q := fun H y => ⟨c, z, rfl, rfl, k H y⟩
theorem w_lc_s (z : Str) (C : Nat → ι → Prop) (ac : Nat → ι → List V) (Γf : Nat → ι → List Fc) (Sf : Nat → ι → List Vo) (a0 : ι) (h0 : C 0 a0) (ha : ac 0 a0 = []) (hΓ : ∀ f ∈ Γf 0 a0, f ∈ Γ) (hS : Dr S (Sf 0 a0))
    (hs : ∀ Dl (i : Nat) c a, (TL.tl z)[i]? = some c → C i a → Wh K (Γf i a) (own Dl (.lst (ac i a)) :: Sf i a) fun H => g (.str ⟨#[c]⟩) (wipe σ vs) H fun σ2 H2 => wipe σ2 vs = wipe σ vs ∧ tt σ2 H2 fun b H3 =>
      if b = true then te σ2 H3 fun y H4 => ∃ acc, H4 Dl = some (.lst acc) ∧ acc.length < sizeLine ∧ NL K Dl (C (i + 1)) (ac (i + 1)) (Γf (i + 1)) (Sf (i + 1)) (upd H4 Dl (.lst (acc ++ [y]))) else NL K Dl (C (i + 1)) (ac (i + 1)) (Γf (i + 1)) (Sf (i + 1)) H3)
    (hd : ∀ Dl a, C (TL.tl z).length a → Wh K (Γf (TL.tl z).length a) (own Dl (.lst (ac (TL.tl z).length a)) :: Sf (TL.tl z).length a) fun H => Q (.ref Dl) H) : Wh K Γ S fun H => LcA g tt te vs σ Q H (Its z) := fun H zz Dl hD => by
  have hsz : z.cps.size = (TL.tl z).length := TL.len_tl z
  refine ⟨fun i m H => m = (TL.tl z).length - i ∧ i ≤ (TL.tl z).length ∧ NL K Dl (C i) (ac i) (Γf i) (Sf i) H, ⟨(TL.tl z).length, by simp, Nat.zero_le _, a0, h0, by rw [ha]; exact (zz.fit hΓ hS).new hD⟩, ?_⟩
  rintro i m H' ⟨rfl, hi, a, hC, z'⟩
  by_cases hlt : i < (TL.tl z).length
  · refine .inr ⟨(show i < z.cps.size by omega), NL K Dl (C (i + 1)) (ac (i + 1)) (Γf (i + 1)) (Sf (i + 1)), fun H'' p' => ⟨(TL.tl z).length - (i + 1), by omega, rfl, hlt, p'⟩, fun x H'' y => ?_⟩
    obtain ⟨rfl, c, hc, rfl⟩ := y
    exact hs Dl i c a (by show z.cps.toList[i]? = some c; rw [Array.getElem?_toList]; exact hc) hC H'' z'
  · have e : i = (TL.tl z).length := by omega
    subst e
    exact .inl ⟨(show z.cps.size ≤ (TL.tl z).length by omega), hd Dl a hC H' z'⟩
theorem w_all {p : Addr} {xs : List V} {bs : List Bool} (m : AtH K Γ S p (.lst xs)) (e : xs = bs.map V.bl) (k : Wh K Γ S fun H => Q (.bl (bs.all id)) H) : Wh K Γ S fun H => rAll K [.ref p] H Q := fun H z => ⟨p, bs, rfl, by rw [← e]; exact SqL.of (m H z), k H z⟩
end
open TL PySem.Builtin PySem.Builtin.Str PySem.StrLaws in
/-- x.startswith(y) -/
theorem sw_pre (x y : Str) : Txt.startswith x y = TL.pre (tl y) (tl x) := by
  have h1 := len_tl x
  have h2 := len_tl y
  show (decide (0 + y.length ≤ x.length) && subAt x y 0) = _
  rw [subAt_eq, h2]
  unfold pre
  show (decide (0 + (tl y).length ≤ x.length) && ((tl x).drop 0).take (tl y).length == tl y) = _
  rw [List.drop_zero]
  by_cases h : (tl y).length ≤ (tl x).length
  · rw [decide_eq_true (by omega), Bool.true_and]
  · rw [decide_eq_false (by omega), Bool.false_and]
    symm
    rw [beq_eq_false_iff_ne]
    intro e
    have := congrArg List.length e
    rw [List.length_take] at this
    omega
theorem tl_cutS (x : Str) (n : Nat) : TL.tl (cutS x (some (n : Int)) none) = (TL.tl x).drop n := by
  show (x.cps.toList.drop (HT.sIx x.length 0 (some (n : Int)))).take (x.length - HT.sIx x.length 0 (some (n : Int))) = x.cps.toList.drop n
  rw [HT.sIx_nat]
  have h : x.length = x.cps.toList.length := TL.len_tl x
  rcases Nat.le_total n x.length with h1 | h1
  · rw [Nat.min_eq_left h1, List.take_of_length_le (by rw [List.length_drop]; omega)]
  · rw [Nat.min_eq_right h1, List.drop_eq_nil_of_le (by omega), List.drop_eq_nil_of_le (by omega), List.take_nil]
section
variable {K : PySem.W.Frag} {Γ : List Fc} {S : List Vo} {Q : VK}
theorem w_intS {a : Str} {n : Int} (h : PySem.intText? a = some n) (hl : a.length ≤ 640) (k : Wh K Γ S fun H => Q (.int n) H) : Wh K Γ S fun H => rIntS [.str a] H Q := fun H z => ⟨a, n, rfl, h, hl, k H z⟩
end
section
variable {K : PySem.W.Frag} {Γ : List Fc} {S : List Vo} {Q : VK}
theorem w_sws {a b : Str} (k : Wh K Γ S fun H => Q (.bl (TL.pre (TL.tl b) (TL.tl a))) H) : Wh K Γ S fun H => rSws (.str a) [.str b] H Q := fun H z => ⟨a, b, rfl, rfl, by rw [sw_pre]; exact k H z⟩
theorem w_subS {z : Str} {j : Int} {c : Nat} (hl : (TL.tl z).length ≤ 100000) (e : atI (TL.tl z) j = some c) (k : Wh K Γ S fun H => Q (.str ⟨#[c]⟩) H) : Wh K Γ S fun H => rSub K (.str z) (.int j) H Q := fun H y => go_subS (by rw [sizeLine_eq, TL.len_tl z]; omega) e (k H y)
theorem w_slS {z : Str} {lo hi : Option Int} (hl : (TL.tl z).length ≤ 100000) (k : Wh K Γ S fun H => Q (.str (cutS z lo hi)) H) : Wh K Γ S fun H => rSli K (.str z) lo hi H Q := fun H y => .inr (.inr ⟨z, rfl, by rw [sizeLine_eq, TL.len_tl z]; omega, k H y⟩)
theorem w_lenT {z : Str} (hl : (TL.tl z).length ≤ 100000) (k : Wh K Γ S fun H => Q (.int ((TL.tl z).length : Int)) H) : Wh K Γ S fun H => rLenA K [.str z] H Q := w_lenS (by rw [TL.len_tl z]; exact hl) (by rw [TL.len_tl z]; exact k)
end
theorem w_addTx {K : PySem.W.Frag} {Γ : List Fc} {S : List Vo} {Q : VK} {a b : Str} (h : (TL.tl (a ++ b)).length ≤ 100000) (k : Wh K Γ S fun H => Q (.str (a ++ b)) H) : Wh K Γ S fun H => rAddA K (.str a) (.str b) H Q := w_addS (by rw [sizeLine_eq, TL.len_tl, TL.len_tl]; rw [TL.tl_append, List.length_append] at h; omega) k
end Mo
namespace Mo
open PySem PySem.Spec PyProof.Rows L2
/-! ### names -/
def letters : Str := "abcdefghijklmnopqrstuvwxyz"
theorem letters_eq : ("abcdefghijklmnopqrstuvwxyz" : Str) = letters := rfl
theorem letters_at (i : Nat) (h : i < 26) : letters.cps.toList[i]? = some (97 + i) := by
  have q : ∀ i : Fin 26, letters.cps.toList[i.1]? = some (97 + i.1) := by decide +kernel
  exact q ⟨i, h⟩
theorem letters_len : letters.length = 26 := by decide +kernel
def sign (c : Nat) : Str := ⟨#[c]⟩
structure NameOk (x : Str) : Prop where
  pos : 1 ≤ x.length
  len : x.length ≤ 6
  let_ : ∀ c ∈ x.cps.toList, 97 ≤ c ∧ c < 123
/-- the first sign -/
def fst1 (x : Str) : Nat := x.cps.toList.headD 0
theorem app_list (a b : Str) : (a ++ b).cps.toList = a.cps.toList ++ b.cps.toList := by
  show (a.cps ++ b.cps).toList = _
  rw [Array.toList_append]
theorem app_len (a b : Str) : (a ++ b).length = a.length + b.length := by
  show (a.cps ++ b.cps).size = _
  rw [Array.size_append]
  rfl
theorem len_list (a : Str) : a.length = a.cps.toList.length := by
  show a.cps.size = _
  rw [Array.length_toList]
theorem sign_list (c : Nat) : (sign c).cps.toList = [c] := rfl
theorem sign_len (c : Nat) : (sign c).length = 1 := rfl
theorem fst1_app {a b : Str} (h : 1 ≤ a.length) : fst1 (a ++ b) = fst1 a := by
  unfold fst1
  rw [app_list]
  rw [len_list] at h
  cases e : a.cps.toList with
  | nil => rw [e] at h; cases h
  | cons x r => rfl
theorem go_letter {K : PySem.W.Frag} {H : Hp} {Q : VK} {j : Int} {n : Nat} (hj : j = (n : Int)) (hn : n < 26) (k : Q (.str (sign (97 + n))) H) : rSub K (.str letters) (.int j) H Q := by
  subst hj
  exact go_subS (by rw [letters_len, sizeLine_eq]; decide) (atI_nat (letters_at n hn)) k
/-- names that are apart by their first signs -/
theorem apart {xs : List Str} {f : Nat → Nat} (h : ∀ i x, xs[i]? = some x → fst1 x = f i) (inj : ∀ i j, i < xs.length → j < xs.length → f i = f j → i = j) : xs.Nodup := by
  rw [List.nodup_iff_pairwise_ne, List.pairwise_iff_getElem]
  intro i j hi hj hij e
  have h1 := h i _ (List.getElem?_eq_getElem hi)
  have h2 := h j _ (List.getElem?_eq_getElem hj)
  rw [← e, h1] at h2
  have := inj i j hi hj h2
  omega
def spNames : Sp := fun vs H Q _ => ∃ (G : Hp) (L : Vo) (pu : Addr) (n : Nat), vs = [.ref pu, .int (n : Int)] ∧ Hd G H L ∧ (pu, Purse) ∈ L ∧ n ≤ 9 ∧
  ∀ lp (ns : List Str) G' H', ns.length = n → ns.Nodup → (∀ x ∈ ns, NameOk x) → Ext G G' → Hd G' H' L → G' lp = some (.lst (ns.map V.str)) → Q (.ref lp) H'
/-- of the same list, cut -/
theorem names_take {ns : List Str} (h : ns.Nodup) (i : Nat) : (ns.take i).Nodup := h.sublist (List.take_sublist _ _)
end Mo
namespace Mo
open PySem PySem.Spec PyProof.Rows L2
/-! ### texts joined -/
def rJoin (K : PySem.W.Frag) : V → List V → Hp → VK → Prop := fun x xs H Q => ∃ a p, ∃ ys : List Str, x = .str a ∧ xs = [.ref p] ∧ (SqL K H p (ys.map V.str) ∨ SqT K H p (ys.map V.str)) ∧
    (ys.map (·.length)).sum + ys.length * a.length ≤ 16777216 ∧ Q (.str (Txt.join a ys)) H
theorem mt_joinK {X : Cx} {K : PySem.W.Frag} (hK : X.K = K) : MtR X "str.join" (rJoin K) := hK ▸ mt_join
theorem sum_le {n : Nat} : ∀ {ys : List Str}, (∀ y ∈ ys, y.length ≤ n) → (ys.map (·.length)).sum ≤ ys.length * n
  | [], _ => Nat.zero_le _
  | y :: ys, h => by
    have h1 := h y List.mem_cons_self
    have h2 := sum_le fun z m => h z (List.mem_cons_of_mem _ m)
    rw [List.map_cons, List.sum_cons, List.length_cons, Nat.succ_mul]
    omega
section
variable {K : PySem.W.Frag} {Γ : List Fc} {S : List Vo} {σ : St} {Q : VK} {A : Hp → Prop}
theorem w_tyS {z : Str} (k : Wh K Γ S A) : Wh K Γ S fun H => tyV K "str" (.str z) H ∧ A H := fun H h => ⟨rfl, k H h⟩
theorem w_joinT {a : Str} {p : Addr} {xs : List V} {ys : List Str} (n : Nat) (m : AtH K Γ S p (.lst xs)) (e : xs = ys.map V.str) (hl : ys.length ≤ 1000) (hy : ∀ y ∈ ys, y.length ≤ n) (hn : n ≤ 1000) (ha : a.length ≤ 1000) (k : Wh K Γ S fun H => Q (.str (Txt.join a ys)) H) :
    Wh K Γ S fun H => rJoin K (.str a) [.ref p] H Q := fun H z => by
  subst e
  have h1 := sum_le hy
  have h2 : ys.length * n ≤ 1000 * 1000 := Nat.mul_le_mul hl hn
  have h3 : ys.length * a.length ≤ 1000 * 1000 := Nat.mul_le_mul hl ha
  exact ⟨a, p, ys, rfl, rfl, .inl (SqL.of (m H z)), by omega, k H z⟩
end
theorem joinL_nil : ∀ ps : List (List Nat), TL.joinL [] ps = ps.flatten
  | [] => rfl
  | [p] => by rw [List.flatten_cons, List.flatten_nil, List.append_nil]; rfl
  | p :: q :: r => by
    show p ++ ([] ++ TL.joinL [] (q :: r)) = _
    rw [joinL_nil (q :: r), List.nil_append, List.flatten_cons (l := p)]
theorem join_list (ys : List Str) : (Txt.join "" ys).cps.toList = (ys.map fun y => y.cps.toList).flatten := by
  rw [TL.join_eq]
  refine (TL.tl_join "" ys).trans ?_
  rw [show TL.tl "" = ([] : List Nat) from rfl, joinL_nil]
theorem join_len1 {ys : List Str} (h : ∀ y ∈ ys, y.length = 1) : (Txt.join "" ys).length = ys.length := by
  rw [len_list, join_list]
  induction ys with
  | nil => rfl
  | cons y ys ih =>
    have h1 := h y List.mem_cons_self
    rw [len_list] at h1
    rw [List.map_cons, List.flatten_cons, List.length_append, ih (fun z m => h z (List.mem_cons_of_mem _ m)), h1, List.length_cons]
    omega
/-! ### lists taken apart -/
theorem pg_unlK {X : Cx} {K : PySem.W.Frag} {es : List Expr} {k : Nat} {t : TGs} {n : Nat} {pos : Pos} (hK : X.K = K) (hc : X.calm = true) (h : PGs X es t) (hn : (assignEach es X.env).length = n) (hst : (assignEach es X.env).findIdx? (·.1) = none) : PG X (.Tuple es k pos) (gLst K n t) := hK ▸ pg_lst hc h hn hst
section
variable {K : PySem.W.Frag} {Γ : List Fc} {S : List Vo} {σ : St} {v : V} {tgs : TGs} {Q : St → Hp → Prop} {d1 d2 d3 d4 : PyData}
theorem w_unO {n : Nat} {a : Addr} {xs : List V} (m : AtH K Γ S a (.lst xs)) (hn : xs.length = n) (k : Wh K Γ S fun H => tgs xs σ H Q) : Wh K Γ S fun H => gLst K n tgs (.ref a) σ H Q := fun H z => ⟨a, xs, rfl, SqL.of (m H z), hn, k H z⟩
theorem w_unD {n : Nat} {ds : List PyData} (m : .dat v (.list ds) ∈ Γ) (hn : ds.length = n) (k : ∀ as : List Addr, as.length = ds.length → Wh K (zipF (valsOf ds as) ds ++ Γ) S fun H => tgs (valsOf ds as) σ H Q) : Wh K Γ S fun H => gLst K n tgs v σ H Q := fun H z => by
  obtain ⟨G, h1, h2⟩ := z
  obtain ⟨a, xs, rfl, t1, t2⟩ := dp_lst (h2 _ m : Dp K G v (.list ds))
  obtain ⟨as, l1, rfl⟩ := dpa_vals t2
  have hl := dpa_len t2
  refine ⟨a, valsOf ds as, rfl, ext_l h1.ex t1, hl.trans hn, k as l1 H ⟨G, h1, fun f m => ?_⟩⟩
  rcases List.mem_append.mp m with m | m
  · exact zipF_ok t2 f m
  · exact h2 f m
theorem w_un2 (m : .dat v (.list [d1, d2]) ∈ Γ) (k : ∀ a b, Wh K (.dat (valOf d1 a) d1 :: .dat (valOf d2 b) d2 :: Γ) S fun H => tgs [valOf d1 a, valOf d2 b] σ H Q) : Wh K Γ S fun H => gLst K 2 tgs v σ H Q := w_unD m rfl fun _ h => len2 (P := fun as => Wh K (zipF (valsOf [d1, d2] as) [d1, d2] ++ Γ) S fun H => tgs (valsOf [d1, d2] as) σ H Q) k h
theorem w_un4 (m : .dat v (.list [d1, d2, d3, d4]) ∈ Γ) (k : ∀ a b c d, Wh K (.dat (valOf d1 a) d1 :: .dat (valOf d2 b) d2 :: .dat (valOf d3 c) d3 :: .dat (valOf d4 d) d4 :: Γ) S fun H => tgs [valOf d1 a, valOf d2 b, valOf d3 c, valOf d4 d] σ H Q) : Wh K Γ S fun H => gLst K 4 tgs v σ H Q := w_unD m rfl fun _ h => len4 (P := fun as => Wh K (zipF (valsOf [d1, d2, d3, d4] as) [d1, d2, d3, d4] ++ Γ) S fun H => tgs (valsOf [d1, d2, d3, d4] as) σ H Q) k h
end
end Mo
namespace Mo
open PySem PySem.Spec PyProof.Rows L2
/-! ### names and numbers written -/
def lettersS : Str := "abcdefghijklmnopqrstuvwxyz"
def figuresS : Str := "0123456789"
def nameB (x : Str) : Bool := decide (1 ≤ (TL.tl x).length) && (decide ((TL.tl x).length ≤ 6) && (TL.tl x).all fun c => decide (c ∈ TL.tl lettersS))
def spIsName (K : PySem.W.Frag) : Sp := SpF K (fun x : Str => [.str x]) (fun x _ => (TL.tl x).length ≤ 50000) (fun _ => []) (fun x v Γ' S' => v = .bl (nameB x) ∧ Γ' = [] ∧ S' = []) noEx
def rowL (l : List Nat) : List Nat := if TL.pre [45] l = true then l.drop 1 else l
def wholeB (x : Str) (k : Int) : Option Int :=
  if 1 ≤ (rowL (TL.tl x)).length ∧ ((rowL (TL.tl x)).length : Int) ≤ k ∧ (rowL (TL.tl x)).all (fun c => decide (c ∈ TL.tl figuresS)) = true ∧ ¬ ((rowL (TL.tl x))[0]? = some 48 ∧ TL.tl x ≠ [48]) then
    some (if TL.pre [45] (TL.tl x) = true then -((NumText.digitsVal (rowL (TL.tl x)) : Nat) : Int) else ((NumText.digitsVal (rowL (TL.tl x)) : Nat) : Int)) else none
def intV : Option Int → V
  | none => .non
  | some n => .int n
def withinB (x : Str) (a b : Int) : Option Int := (wholeB x 20).bind fun n => if n < a ∨ n > b then none else some n
def spWhole (K : PySem.W.Frag) : Sp := SpF K (fun i : Str × Int => [.str i.1, .int i.2]) (fun i _ => (TL.tl i.1).length ≤ 50000 ∧ i.2 ≤ 600) (fun _ => []) (fun i v Γ' S' => v = intV (wholeB i.1 i.2) ∧ Γ' = [] ∧ S' = []) noEx
def spWithin (K : PySem.W.Frag) : Sp := SpF K (fun i : Str × Int × Int => [.str i.1, .int i.2.1, .int i.2.2]) (fun i _ => (TL.tl i.1).length ≤ 50000) (fun _ => []) (fun i v Γ' S' => v = intV (withinB i.1 i.2.1 i.2.2) ∧ Γ' = [] ∧ S' = []) noEx
def worthB (x : Str) : Option Int := withinB x (-1000000000000000) 1000000000000000
def spWorthW (K : PySem.W.Frag) : Sp := SpF K (fun i : Str => [.str i]) (fun i _ => (TL.tl i).length ≤ 50000) (fun _ => []) (fun i v Γ' S' => v = intV (worthB i) ∧ Γ' = [] ∧ S' = []) noEx
theorem figs_digit {c : Nat} (h : c ∈ TL.tl figuresS) : 48 ≤ c ∧ c ≤ 57 := by
  have e : TL.tl figuresS = [48, 49, 50, 51, 52, 53, 54, 55, 56, 57] := by decide +kernel
  rw [e] at h
  simp only [List.mem_cons, List.not_mem_nil, or_false] at h
  omega
theorem pre45 {l : List Nat} : TL.pre [45] l = true ↔ l.head? = some 45 := by
  cases l with
  | nil => exact ⟨fun h => (nomatch h), fun h => (nomatch h)⟩
  | cons c r =>
    unfold TL.pre
    show ([c] == [45]) = true ↔ some c = some 45
    rw [beq_iff_eq]
    simp
theorem tl_dash : TL.tl (Str.ofString "-") = [45] := by decide +kernel
theorem tl_zero : TL.tl (Str.ofString "0") = [48] := by decide +kernel
theorem sign_is {c n : Nat} {t : Str} (h : TL.tl t = [n]) : (⟨#[c]⟩ : Str) = t ↔ c = n := ⟨fun e => by
  have h1 : TL.tl (⟨#[c]⟩ : Str) = [c] := rfl
  rw [e, h] at h1
  exact (List.cons.inj h1).1.symm, fun e => TL.ext_tl (by rw [h, ← e])⟩
theorem text_is {x t : Str} {l : List Nat} (h : TL.tl t = l) : x = t ↔ TL.tl x = l := ⟨fun e => by rw [e, h], fun e => TL.ext_tl (by rw [h, e])⟩
/-- what int(word) tells -/
theorem whole_int {x : Str} {k : Int} {n : Int} (hk : k ≤ 600) (h : wholeB x k = some n) : PySem.intText? x = some n ∧ x.length ≤ 640 := by
  unfold wholeB at h
  split at h
  · rename_i hc
    obtain ⟨h1, h2, h3, _⟩ := hc
    have hd : NumText.AllDigits (rowL (TL.tl x)) := fun c hc => figs_digit (of_decide_eq_true (List.all_eq_true.mp h3 c hc))
    have hne : rowL (TL.tl x) ≠ [] := fun e => by rw [e] at h1; exact absurd h1 (by decide)
    have hlx := TL.len_tl x
    by_cases hp : TL.pre [45] (TL.tl x) = true
    · rw [if_pos hp] at h
      cases h
      obtain ⟨r, hr⟩ : ∃ r, TL.tl x = 45 :: r := by
        cases e : TL.tl x with
        | nil => rw [e] at hp; exact nomatch hp
        | cons c r => rw [e] at hp; have := pre45.mp hp; rw [List.head?_cons] at this; cases this; exact ⟨r, rfl⟩
      have hrow : rowL (TL.tl x) = r := by unfold rowL; rw [if_pos hp, hr]; rfl
      rw [hrow] at hd hne h2 ⊢
      have hl : x.length ≤ 640 := by rw [hlx, hr, List.length_cons]; omega
      exact ⟨intText_neg hr hd hne (by omega), hl⟩
    · rw [if_neg hp] at h
      cases h
      have hrow : rowL (TL.tl x) = TL.tl x := by unfold rowL; rw [if_neg hp]
      rw [hrow] at hd hne h2 ⊢
      have hl : x.length ≤ 640 := by rw [hlx]; omega
      exact ⟨intText_digits hd hne (by omega), hl⟩
  · cases h
section
variable {P : Program} {w : World} {K : PySem.W.Frag} {mg : Str → Option Value} {base : Heap}
theorem ok_is_name (T : Tx K mg) : OkG P w K mg base 1 "is_name" ["word"] (spIsName K) := by
  refine T.f_is_name.okX sc_is_name (fun vs H Q E h => ?_) (fun cdv A outer s H vs Q E hr h => ?_)
  · obtain ⟨i, _, _, rfl, _⟩ := h
    rfl
  · have hu1 := hu_of hr; have hu0 := hr.units0; have hu64 := hr.units; have hu65 := hu65_of hr; have nd := sc_is_name.nd
    obtain ⟨z, Γ, S, rfl, y, hl, q, x⟩ := h
    dsimp only at y hl q x
    refine ⟨_, (pss_one (ps_ret (pe_and (pe_chain (op_leK (K := K) rfl hu0) (op_leK (K := K) rfl hu0) pe_int (pe_callB (call_lenK (K := K) rfl) (by rfl) T.b_len (by decide +kernel) (pa_cons (pv 0) pa_nil)) pe_int) (pe_one (pe_callB (cr_allK (K := K) rfl rfl) (by rfl) T.b_all (by decide +kernel) (pa_cons (pe_lc (own := [("letter", 1)]) rfl nd (pi_str (pv 0)) (blkOk_by (own := [("letter", 1)]) (N := nm_is_name) (sc := defScope s_is_name) (by decide +kernel)) (fun _ _ _ _ _ => (pg_name (i := 1) nd rfl (Or.inl rfl) (Or.inr rfl))) (fun _ _ _ _ _ => pts_nil) (fun _ _ _ _ _ => (pe_cmpR (op_inSign) (pv 1) (T.v_LETTERS) rfl))) pa_nil)))))), ?_⟩
    refine w_start (σ' := [some (.str z), none]) rfl y ?_
    dsimp only [List.nil_append] at q ⊢
    have hlen : (z.length : Int) = ((TL.tl z).length : Int) := by rw [TL.len_tl z]
    k_extra "W"
    refine w_chain ?_
    k_extra "W"
    refine w_lenS (by rw [TL.len_tl z]; omega) ?_
    rw [TL.len_tl z]
    k_extra "W"
    refine w_ite (fun h1 => ?_) (fun h1 => ?_)
    rotate_left
    · k_extra "W"
      refine fun H y => q _ _ _ H ⟨?_, rfl, rfl⟩ y
      unfold nameB
      rw [decide_eq_false (by omega), Bool.false_and]
    k_extra "W"
    refine w_ite (fun h2 => ?_) (fun h2 => ?_)
    rotate_left
    · k_extra "W"
      refine fun H y => q _ _ _ H ⟨?_, rfl, rfl⟩ y
      unfold nameB
      rw [decide_eq_true (by omega), decide_eq_false (by omega)]
      rfl
    k_extra "W"
    refine w_lcTxt ?_
    k_extra "W"
    refine w_lcS ?_
    refine w_lc_s (ι := Unit) z (fun _ _ => True) (fun i _ => ((TL.tl z).take i).map fun c => V.bl (decide (c ∈ TL.tl lettersS))) (fun _ _ => Γ) (fun _ _ => S) () True.intro rfl sub_refl Dr.refl ?_ ?_
    · rintro Dl i c _ hc _
      have hil := (List.getElem?_eq_some_iff.mp hc).1
      k_extra "W"
      refine w_inSign ?_
      k_extra "W"
      refine w_lcp () True.intro ?_ (by k_extra "t") (by rw [List.length_map, List.length_take]; omega) (by k_extra "sub") (by k_extra "dr")
      rw [List.take_add_one, hc, Option.toList_some, List.map_append]
      rfl
    rintro Dl _ _
    k_extra "W"
    refine w_all (bs := (TL.tl z).map fun c => decide (c ∈ TL.tl lettersS)) (by k_extra "at") (by rw [List.take_of_length_le (Nat.le_refl _), List.map_map]; rfl) ?_
    k_extra "W"
    refine fun H y => q _ _ _ H ⟨?_, rfl, rfl⟩ (y.fit (by k_extra "sub") (by k_extra "dr"))
    unfold nameB
    rw [decide_eq_true (by omega), decide_eq_true (by omega), List.all_map]
    rfl
theorem ok_whole_of (T : Tx K mg) : OkG P w K mg base 1 "whole_of" ["word", "figures"] (spWhole K) := by
  refine T.f_whole_of.okX sc_whole_of (fun vs H Q E h => ?_) (fun cdv A outer s H vs Q E hr h => ?_)
  · obtain ⟨i, _, _, rfl, _⟩ := h
    rfl
  · have hu1 := hu_of hr; have hu0 := hr.units0; have hu64 := hr.units; have hu65 := hu65_of hr; have nd := sc_whole_of.nd
    obtain ⟨⟨z, k⟩, Γ, S, rfl, y, ⟨hl, hk⟩, q, x⟩ := h
    dsimp only at y hl hk q x
    refine ⟨_, (pss_cons (ps_set (i := 2) nd rfl (Or.inl rfl) (pv 0))
      (Evl.pss_cut (ps_if (pt_truthK (K := K) rfl (pe_bmK (K := K) rfl PySem.F.plainAttrs_str PySem.F.slot_str_startswith PySem.F.type_str_startswith mt_sws (pv 0) (pa_cons pe_str pa_nil)) (by intro _; rfl)) (pss_one (ps_set (i := 2) nd rfl (Or.inl rfl) (pe_slice (sl_anyK (K := K) rfl) (pv 0) (po_some pe_int) po_none)))
      pss_nil)
      (pss_cons (ps_if (PW.pt (pw_or (pt_not (pt_chain (op_leK (K := K) rfl hu0) (op_leK (K := K) rfl hu0) pe_int (pe_callB (call_lenK (K := K) rfl) (by rfl) T.b_len (by decide +kernel) (pa_cons (pv 2) pa_nil)) (pv 1))) (pw_or1 (pt_not (pt_truthK (K := K) rfl (pe_callB (cr_allK (K := K) rfl rfl) (by rfl) T.b_all (by decide +kernel) (pa_cons (pe_lc (own := [("figure", 3)]) rfl nd (pi_str (pv 2)) (blkOk_by (own := [("figure", 3)]) (N := nm_whole_of) (sc := defScope s_whole_of) (by decide +kernel)) (fun _ _ _ _ _ => (pg_name (i := 3) nd rfl (Or.inl rfl) (Or.inr rfl))) (fun _ _ _ _ _ => pts_nil) (fun _ _ _ _ _ => (pe_cmpR (op_inSign) (pv 3) (T.v_FIGURES) rfl))) pa_nil)) (by intro _; rfl)))))) (pss_one (ps_ret pe_non))
      pss_nil)
      (pss_cons (ps_if (PW.pt (pw_and (pt_cmpR (op_eqK (K := K) rfl hu64) (pe_ix (ix_anyK (K := K) rfl hu1) (pv 2) pe_int (fun _ _ => rfl)) pe_str (nomark _)) (pw_and1 (pt_cmpR (op_neK (K := K) rfl hu64) (pv 0) pe_str (nomark _))))) (pss_one (ps_ret pe_non))
      pss_nil)
      (pss_one (ps_ret (pe_callTy cr_intS (by rfl) T.b_int (by decide +kernel) (pa_cons (pv 0) pa_nil)))))))), ?_⟩
    refine w_start (σ' := [some (.str z), some (.int k), none, none]) rfl y ?_
    dsimp only [List.nil_append] at q ⊢
    k_extra "W"
    refine w_cut (ι := Str) (fun r => TL.tl r = rowL (TL.tl z)) (fun r => [some (.str z), some (.int k), some (.str r), none]) (fun _ => Γ) (fun _ => S) ?_ ?_
    · k_extra "W"
      refine w_tyS ?_
      k_extra "W"
      refine w_sws ?_
      rw [tl_dash]
      cases hp : TL.pre [45] (TL.tl z) with
      | true =>
        k_extra "W"
        refine w_slS (by omega) ?_
        k_extra "W"
        refine w_again (cutS z (some ((1 : Nat) : Int)) none) (by rw [tl_cutS]; unfold rowL; rw [if_pos hp]) rfl (by k_extra "sub") (by k_extra "dr")
      | false =>
        k_extra "W"
        refine w_again z (by unfold rowL; rw [if_neg (by rw [hp]; decide)]) rfl (by k_extra "sub") (by k_extra "dr")
    rintro r hr
    have hrl : (TL.tl r).length ≤ 50000 := by
      rw [hr]
      unfold rowL
      split
      · rw [List.length_drop]; omega
      · exact hl
    k_extra "W"
    refine w_chain ?_
    k_extra "W"
    refine w_lenT (by omega) ?_
    k_extra "W"
    have non : ∀ (_ : wholeB z k = none) (Γ2 : List Fc) (S2 : List Vo), (∀ f ∈ Γ, f ∈ Γ2) → Dr S2 S → Wh K Γ2 S2 fun H => Q .non H := fun h Γ2 S2 hs hd H y => q _ _ _ H ⟨by rw [h]; rfl, rfl, rfl⟩ (y.fit hs hd)
    have hwn : ∀ (_ : ¬ (1 ≤ (rowL (TL.tl z)).length ∧ ((rowL (TL.tl z)).length : Int) ≤ k ∧ (rowL (TL.tl z)).all (fun c => decide (c ∈ TL.tl figuresS)) = true ∧ ¬ ((rowL (TL.tl z))[0]? = some 48 ∧ TL.tl z ≠ [48]))), wholeB z k = none := fun h => if_neg h
    refine w_ite (fun h1 => ?_) (fun h1 => ?_)
    rotate_left
    · k_extra "W"
      exact non (hwn fun h => by rw [← hr] at h; omega) _ _ (by k_extra "sub") (by k_extra "dr")
    k_extra "W"
    refine w_iteN (fun h2 => ?_) (fun h2 => ?_)
    · k_extra "W"
      exact non (hwn fun h => by rw [← hr] at h; omega) _ _ (by k_extra "sub") (by k_extra "dr")
    k_extra "W"
    refine w_lcTxt ?_
    k_extra "W"
    refine w_lcS ?_
    refine w_lc_s (ι := Unit) r (fun _ _ => True) (fun i _ => ((TL.tl r).take i).map fun c => V.bl (decide (c ∈ TL.tl figuresS))) (fun _ _ => Γ) (fun _ _ => S) () True.intro rfl sub_refl Dr.refl ?_ ?_
    · rintro Dl i c _ hc _
      have hil := (List.getElem?_eq_some_iff.mp hc).1
      k_extra "W"
      refine w_inSign ?_
      k_extra "W"
      refine w_lcp () True.intro ?_ (by k_extra "t") (by rw [List.length_map, List.length_take]; omega) (by k_extra "sub") (by k_extra "dr")
      rw [List.take_add_one, hc, Option.toList_some, List.map_append]
      rfl
    rintro Dl _ _
    k_extra "W"
    refine w_all (bs := (TL.tl r).map fun c => decide (c ∈ TL.tl figuresS)) (by k_extra "at") (by rw [List.take_of_length_le (Nat.le_refl _), List.map_map]; rfl) ?_
    rw [List.all_map, show (id ∘ fun c => decide (c ∈ TL.tl figuresS)) = fun c => decide (c ∈ TL.tl figuresS) from rfl, hr]
    cases hall : (rowL (TL.tl z)).all (fun c => decide (c ∈ TL.tl figuresS)) with
    | false =>
      k_extra "W"
      exact non (hwn fun h => by rw [hall] at h; exact nomatch h.2.2.1) _ _ (by k_extra "sub") (by k_extra "dr")
    | true =>
      k_extra "W"
      have hrp : 0 < (TL.tl r).length := by omega
      obtain ⟨c0, hc0⟩ : ∃ c0, (TL.tl r)[0]? = some c0 := ⟨_, List.getElem?_eq_getElem hrp⟩
      have hc1 := hc0
      rw [hr] at hc1
      refine w_subS (c := c0) (by omega) (show atI (TL.tl r) ((0 : Nat) : Int) = some c0 from atI_nat hc0) ?_
      k_extra "W"
      refine w_eqs ?_
      rw [show decide ((⟨#[c0]⟩ : Str) = Str.ofString "0") = decide (c0 = 48) from decide_eq_decide.mpr (sign_is tl_zero)]
      have ok : ¬ ((rowL (TL.tl z))[0]? = some 48 ∧ TL.tl z ≠ [48]) → ∃ n, wholeB z k = some n := fun h => ⟨_, if_pos ⟨by rw [← hr]; omega, by rw [← hr]; exact Int.not_lt.mp (by omega), hall, h⟩⟩
      k_extra "W"
      refine w_ite (fun h3 => ?_) (fun h3 => ?_)
      · k_extra "W"
        refine w_nes ?_
        rw [show decide (z = Str.ofString "0") = decide (TL.tl z = [48]) from decide_eq_decide.mpr (text_is tl_zero)]
        k_extra "W"
        refine w_iteN (fun h4 => ?_) (fun h4 => ?_)
        · k_extra "W"
          exact non (hwn fun h => h.2.2.2 ⟨by rw [hc1, h3], h4⟩) _ _ (by k_extra "sub") (by k_extra "dr")
        · k_extra "W"
          obtain ⟨n, hn⟩ := ok fun h => h.2 h4
          refine w_intS (whole_int hk hn).1 (whole_int hk hn).2 ?_
          k_extra "W"
          exact fun H y => q _ _ _ H ⟨by rw [hn]; rfl, rfl, rfl⟩ (y.fit (by k_extra "sub") (by k_extra "dr"))
      · k_extra "W"
        obtain ⟨n, hn⟩ := ok fun h => h3 (by rw [hc1] at h; exact Option.some.inj h.1)
        refine w_intS (whole_int hk hn).1 (whole_int hk hn).2 ?_
        k_extra "W"
        exact fun H y => q _ _ _ H ⟨by rw [hn]; rfl, rfl, rfl⟩ (y.fit (by k_extra "sub") (by k_extra "dr"))
theorem ok_within (T : Tx K mg) : OkG P w K mg base 2 "within" ["word", "least", "most"] (spWithin K) := by
  have G_whole_of := ok_whole_of (P := P) (w := w) (base := base) T
  refine T.f_within.okX sc_within (fun vs H Q E h => ?_) (fun cdv A outer s H vs Q E hr h => ?_)
  · obtain ⟨i, _, _, rfl, _⟩ := h
    rfl
  · have hu1 := hu_of hr; have hu0 := hr.units0; have hu64 := hr.units; have hu65 := hu65_of hr; have nd := sc_within.nd
    obtain ⟨⟨z, a, b⟩, Γ, S, rfl, y, hl, q, x⟩ := h
    dsimp only at y hl q x
    refine ⟨_, (pss_cons (ps_set (i := 3) nd rfl (Or.inl rfl) (pcl T.g_whole_of G_whole_of hr (takes_of rfl rfl rfl rfl) (pa_cons (pv 0) (pa_cons pe_int pa_nil))))
      (pss_cons (ps_if (PW.pt (pw_or (pt_cmpR op_isN1 (pv 3) pe_non (nomark _)) (pw_or (pt_cmpR (op_ltK (K := K) rfl hu0) (pv 3) (pv 1) (nomark _)) (pw_or1 (pt_cmpR (op_gt) (pv 3) (pv 2) (nomark _)))))) (pss_one (ps_ret pe_non))
      pss_nil)
      (pss_one (ps_ret (pv 3))))), ?_⟩
    refine w_start (σ' := [some (.str z), some (.int a), some (.int b), none]) rfl y ?_
    dsimp only [List.nil_append] at q ⊢
    k_extra "W"
    refine w_don (z, 20) (by k_extra "ts") ⟨hl, by show (20 : Int) ≤ 600; decide⟩ ?_
    rintro _ Γ' S' ⟨rfl, rfl, rfl⟩
    dsimp only [List.cons_append, List.nil_append]
    have hw : withinB z a b = (wholeB z 20).bind fun n => if n < a ∨ n > b then none else some n := rfl
    cases hn : wholeB z 20 with
    | none =>
      rw [hn] at hw
      unfold intV
      k_extra "W"
      exact fun H y => q _ _ _ H ⟨by rw [hw]; rfl, rfl, rfl⟩ (y.fit (by k_extra "sub") (by k_extra "dr"))
    | some n =>
      rw [hn] at hw
      unfold intV
      k_extra "W"
      refine w_ite (fun h1 => ?_) (fun h1 => ?_)
      · k_extra "W"
        exact fun H y => q _ _ _ H ⟨by rw [hw, Option.bind_some, if_pos (.inl h1)]; rfl, rfl, rfl⟩ (y.fit (by k_extra "sub") (by k_extra "dr"))
      · k_extra "W"
        refine w_ite (fun h2 => ?_) (fun h2 => ?_)
        · k_extra "W"
          exact fun H y => q _ _ _ H ⟨by rw [hw, Option.bind_some, if_pos (.inr (by omega))]; rfl, rfl, rfl⟩ (y.fit (by k_extra "sub") (by k_extra "dr"))
        · k_extra "W"
          exact fun H y => q _ _ _ H ⟨by rw [hw, Option.bind_some, if_neg (by omega)]; rfl, rfl, rfl⟩ (y.fit (by k_extra "sub") (by k_extra "dr"))
theorem ok_worth_word (T : Tx K mg) : OkG P w K mg base 3 "worth_word" ["word"] (spWorthW K) := by
  have G_within := ok_within (P := P) (w := w) (base := base) T
  refine T.f_worth_word.okX sc_worth_word (fun vs H Q E h => ?_) (fun cdv A outer s H vs Q E hr h => ?_)
  · obtain ⟨i, _, _, rfl, _⟩ := h
    rfl
  · have hu1 := hu_of hr; have hu0 := hr.units0; have hu64 := hr.units; have hu65 := hu65_of hr; have nd := sc_worth_word.nd
    obtain ⟨z, Γ, S, rfl, y, hl, q, x⟩ := h
    dsimp only at y hl q x
    refine ⟨_, (pss_one (ps_ret (pcl T.g_within G_within hr (takes_of rfl rfl rfl rfl) (pa_cons (pv 0) (pa_cons (pe_un un_neg (T.v_GREATEST_formulatext)) (pa_cons (T.v_GREATEST_formulatext) pa_nil)))))), ?_⟩
    refine w_start (σ' := [some (.str z)]) rfl y ?_
    dsimp only [List.nil_append] at q ⊢
    k_extra "W"
    refine w_don (z, -1000000000000000, 1000000000000000) (by k_extra "ts") hl ?_
    rintro _ Γ' S' ⟨rfl, rfl, rfl⟩
    dsimp only [List.cons_append, List.nil_append]
    k_extra "W"
    exact fun H y => q _ _ _ H ⟨rfl, rfl, rfl⟩ (y.fit (by k_extra "sub") (by k_extra "dr"))
end
end Mo
namespace Mo
open PySem PySem.Spec PyProof.Rows L2
/-! ### formulas as texts: plain Lean -/
def Op.mark : Op → Str
  | .plus => "+" | .less => "-" | .times => "*" | .part => "/" | .rest => "|" | .below => "<" | .same => "="
def Op.num : Op → Nat
  | .plus => 0 | .less => 1 | .times => 2 | .part => 3 | .rest => 4 | .below => 5 | .same => 6
def opNames : List Str := ["plus", "less", "times", "part", "rest", "below", "same"]
def opMarks : List Str := ["+", "-", "*", "/", "|", "<", "="]
def Fm.text : Fm → Str
  | .num n => Str.ofString (toString n)
  | .box x => Str.ofString "." ++ x
  | .long x => Str.ofString "#" ++ x
  | .got j => Str.ofString "$" ++ Str.ofString (toString (j : Int))
  | .now => Str.ofString "@"
  | .two o f g => (((o.mark ++ Str.ofString " ") ++ f.text) ++ Str.ofString " ") ++ g.text
def Fm.words : Fm → List Str
  | .two o f g => o.mark :: (f.words ++ g.words)
  | f => [f.text]
theorem op_name_at (o : Op) : opNames[o.num]? = some o.name ∧ ∀ m, m < o.num → opNames[m]? ≠ some o.name := by
  cases o <;> exact ⟨rfl, by decide +kernel⟩
theorem op_mark_at (o : Op) : opMarks[o.num]? = some o.mark ∧ ∀ m, m < o.num → opMarks[m]? ≠ some o.mark := by
  cases o <;> exact ⟨rfl, by decide +kernel⟩
/-- what a text is made of, by its signs -/
def Fm.sg : Fm → List Nat
  | .two o f g => TL.tl o.mark ++ 32 :: (f.sg ++ 32 :: g.sg)
  | f => TL.tl f.text
theorem tl_text : ∀ f : Fm, TL.tl f.text = f.sg
  | .num _ => rfl
  | .box _ => rfl
  | .long _ => rfl
  | .got _ => rfl
  | .now => rfl
  | .two o f g => by
    have e32 : TL.tl (Str.ofString " ") = [32] := by decide +kernel
    rw [Fm.text, TL.tl_append, TL.tl_append, TL.tl_append, TL.tl_append, tl_text f, tl_text g, e32, Fm.sg]
    simp
theorem len_text (f : Fm) : f.text.length = f.sg.length := by rw [TL.len_tl, tl_text]
/-- numbers that are not great -/
def Fm.Nb : Fm → Prop
  | .num n => Bd 64 n
  | .got j => Bd 64 (j : Int)
  | .two _ f g => f.Nb ∧ g.Nb
  | _ => True
theorem log_bd {n : Int} (h : Bd 64 n) : n.natAbs.log2 < 1920 := by
  by_cases h0 : n.natAbs = 0
  · rw [h0]; decide
  · have := (Nat.log2_lt h0).mpr h
    omega
end Mo
namespace Mo
open PySem PySem.Spec PyProof.Rows L2
/-! ### formulas as words -/
def rTix (K : PySem.W.Frag) : V → List V → Hp → VK → Prop := fun x xs H Q => ∃ p, ∃ ys : List Str, ∃ z j, x = .ref p ∧ xs = [.str z] ∧ SqT K H p (ys.map V.str) ∧ ys[j]? = some z ∧ (∀ m, m < j → ys[m]? ≠ some z) ∧ Q (.int (j : Nat)) H
theorem mt_tix {X : Cx} {K : PySem.W.Frag} (hK : X.K = K) : MtR X "tuple.index" (rTix K) := hK ▸ mt_tup_index
section
variable {K : PySem.W.Frag} {Γ : List Fc} {S : List Vo} {Q : VK} {A : Hp → Prop}
theorem w_tyTu {p : Addr} (m : ∀ H, tyV K "tuple" (.ref p) H) (k : Wh K Γ S A) : Wh K Γ S fun H => tyV K "tuple" (.ref p) H ∧ A H := fun H h => ⟨m H, k H h⟩
theorem w_tix {p : Addr} {xs : List V} {ys : List Str} {z : Str} {j : Nat} (m : ∀ H, SqT K H p xs) (e : xs = ys.map V.str) (h1 : ys[j]? = some z) (h2 : ∀ m, m < j → ys[m]? ≠ some z) (k : Wh K Γ S fun H => Q (.int (j : Int)) H) : Wh K Γ S fun H => rTix K (.ref p) [.str z] H Q := fun H h => ⟨p, ys, z, j, rfl, rfl, e ▸ m H, h1, h2, k H h⟩
theorem w_subTu {p : Addr} {xs : List V} {j : Int} {v : V} (m : ∀ H, SqT K H p xs) (e : atI xs j = some v) (k : Wh K Γ S fun H => Q v H) : Wh K Γ S fun H => rSub K (.ref p) (.int j) H Q := fun H h => go_subT (m H) e (k H h)
end
def rStrI : List V → Hp → VK → Prop := fun xs H Q => ∃ i, xs = [.int i] ∧ i.natAbs.log2 < 1920 ∧ Q (.str (Str.ofString (toString i))) H
theorem cr_strI {X : Cx} : CallR X (.type "str") rStrI := call_str_int
theorem w_strI {K : PySem.W.Frag} {Γ : List Fc} {S : List Vo} {Q : VK} {i : Int} (h : Bd 64 i) (k : Wh K Γ S fun H => Q (.str (Str.ofString (toString i))) H) : Wh K Γ S fun H => rStrI [.int i] H Q := fun H z => ⟨i, rfl, log_bd h, k H z⟩
def spFw (n : Nat) (K : PySem.W.Frag) : Sp := SpF K (fun i : V × Fm => [i.1]) (fun i Γ => .dat i.1 i.2.data ∈ Γ ∧ i.2.depth < n ∧ i.2.sg.length ≤ 50000 ∧ i.2.Nb) (fun _ => [])
  (fun i v Γ' S' => v = .str i.2.text ∧ Γ' = [] ∧ S' = []) noEx
section
variable {P : Program} {w : World} {K : PySem.W.Frag} {mg : Str → Option Value} {base : Heap}
theorem ok_formula_words (T : Tx K mg) : ∀ n, OkG P w K mg base (n + 1) "formula_words" ["formula"] (spFw n K) := by
  intro n
  induction n with
  | zero =>
    refine T.f_formula_words.okX sc_formula_words (fun vs H Q E h => ?_) (fun cdv A outer s H vs Q E hr h => ?_)
    · obtain ⟨i, _, _, rfl, _⟩ := h
      rfl
    · obtain ⟨i, _, _, rfl, z, h1, _⟩ := h
      exact absurd h1.2.1 (Nat.not_lt_zero _)
  | succ n G_formula_words =>
    refine T.f_formula_words.okX sc_formula_words (fun vs H Q E h => ?_) (fun cdv A outer s H vs Q E hr h => ?_)
    · obtain ⟨i, _, _, rfl, _⟩ := h
      rfl
    · have hu1 := hu_of hr; have hu0 := hr.units0; have hu64 := hr.units; have hu65 := hu65_of hr; have nd := sc_formula_words.nd
      obtain ⟨⟨v, f⟩, Γ, S, rfl, z, ⟨hv, hd, hl, hnb⟩, q, x⟩ := h
      dsimp only at z hv hd hl hnb q x
      refine ⟨_, (pss_cons (ps_set (i := 1) nd rfl (Or.inl rfl) (pe_ix (ix_anyK (K := K) rfl hu1) (pv 0) pe_int (fun _ _ => rfl)))
      (pss_cons (ps_if (pt_cmpR (op_eqK (K := K) rfl hu64) (pv 1) pe_str (nomark _)) (pss_one (ps_ret (pe_callTy cr_strI (by rfl) T.b_str (by decide +kernel) (pa_cons (pe_ix (ix_anyK (K := K) rfl hu1) (pv 0) pe_int (fun _ _ => rfl)) pa_nil))))
      pss_nil)
      (pss_cons (ps_if (pt_cmpR (op_eqK (K := K) rfl hu64) (pv 1) pe_str (nomark _)) (pss_one (ps_ret (pe_op (op_addK (K := K) rfl) pe_str (pe_ix (ix_anyK (K := K) rfl hu1) (pv 0) pe_int (fun _ _ => rfl)))))
      pss_nil)
      (pss_cons (ps_if (pt_cmpR (op_eqK (K := K) rfl hu64) (pv 1) pe_str (nomark _)) (pss_one (ps_ret (pe_op (op_addK (K := K) rfl) pe_str (pe_ix (ix_anyK (K := K) rfl hu1) (pv 0) pe_int (fun _ _ => rfl)))))
      pss_nil)
      (pss_cons (ps_if (pt_cmpR (op_eqK (K := K) rfl hu64) (pv 1) pe_str (nomark _)) (pss_one (ps_ret (pe_op (op_addK (K := K) rfl) pe_str (pe_callTy cr_strI (by rfl) T.b_str (by decide +kernel) (pa_cons (pe_ix (ix_anyK (K := K) rfl hu1) (pv 0) pe_int (fun _ _ => rfl)) pa_nil)))))
      pss_nil)
      (pss_cons (ps_if (pt_cmpR (op_eqK (K := K) rfl hu64) (pv 1) pe_str (nomark _)) (pss_one (ps_ret pe_str))
      pss_nil)
      (pss_cons (ps_set (i := 2) nd rfl (Or.inl rfl) (pe_ix (ix_anyK (K := K) rfl hu1) (T.v_MARKS) (pe_bmK (K := K) rfl PySem.F.plainAttrs_tuple PySem.F.slot_tuple_index PySem.F.type_tuple_index (mt_tix (K := K) rfl) (T.v_WORDS) (pa_cons (pv 1) pa_nil)) (fun _ _ => rfl)))
      (pss_one (ps_ret (pe_op (op_addK (K := K) rfl) (pe_op (op_addK (K := K) rfl) (pe_op (op_addK (K := K) rfl) (pe_op (op_addK (K := K) rfl) (pv 2) pe_str) (pcl T.g_formula_words G_formula_words hr (takes_of rfl rfl rfl rfl) (pa_cons (pe_ix (ix_anyK (K := K) rfl hu1) (pv 0) pe_int (fun _ _ => rfl)) pa_nil))) pe_str) (pcl T.g_formula_words G_formula_words hr (takes_of rfl rfl rfl rfl) (pa_cons (pe_ix (ix_anyK (K := K) rfl hu1) (pv 0) pe_int (fun _ _ => rfl)) pa_nil)))))))))))), ?_⟩
      refine w_start (σ' := [some v, none, none]) rfl z ?_
      dsimp only [List.cons_append, List.nil_append]
      cases f with
      | num m =>
        replace q : ∀ v Γ' S' H, (v = .str (Str.ofString (toString m)) ∧ Γ' = [] ∧ S' = []) → Hg K (Γ' ++ Γ) (S' ++ S) H → Q v H := q
        unfold Fm.data at hv
        k_extra "W"
        refine w_strI hnb ?_
        exact fun H z => q _ _ _ H ⟨rfl, rfl, rfl⟩ z
      | got j =>
        replace q : ∀ v Γ' S' H, (v = .str (Str.ofString "$" ++ Str.ofString (toString (j : Int))) ∧ Γ' = [] ∧ S' = []) → Hg K (Γ' ++ Γ) (S' ++ S) H → Q v H := q
        replace hl : (TL.tl (Str.ofString "$" ++ Str.ofString (toString (j : Int)))).length ≤ 50000 := hl
        unfold Fm.data at hv
        k_extra "W"
        refine w_strI hnb ?_
        k_extra "W"
        refine w_addTx (by omega) ?_
        exact fun H z => q _ _ _ H ⟨rfl, rfl, rfl⟩ z
      | now =>
        replace q : ∀ v Γ' S' H, (v = .str (Str.ofString "@") ∧ Γ' = [] ∧ S' = []) → Hg K (Γ' ++ Γ) (S' ++ S) H → Q v H := q
        unfold Fm.data at hv
        k_extra "W"
        exact fun H z => q _ _ _ H ⟨rfl, rfl, rfl⟩ z
      | box y =>
        replace q : ∀ v Γ' S' H, (v = .str (Str.ofString "." ++ y) ∧ Γ' = [] ∧ S' = []) → Hg K (Γ' ++ Γ) (S' ++ S) H → Q v H := q
        replace hl : (TL.tl (Str.ofString "." ++ y)).length ≤ 50000 := hl
        unfold Fm.data at hv
        k_extra "W"
        refine w_addTx (by omega) ?_
        exact fun H z => q _ _ _ H ⟨rfl, rfl, rfl⟩ z
      | long y =>
        replace q : ∀ v Γ' S' H, (v = .str (Str.ofString "#" ++ y) ∧ Γ' = [] ∧ S' = []) → Hg K (Γ' ++ Γ) (S' ++ S) H → Q v H := q
        replace hl : (TL.tl (Str.ofString "#" ++ y)).length ≤ 50000 := hl
        unfold Fm.data at hv
        k_extra "W"
        refine w_addTx (by omega) ?_
        exact fun H z => q _ _ _ H ⟨rfl, rfl, rfl⟩ z
      | two o f g =>
        replace q : ∀ v Γ' S' H, (v = .str ((((o.mark ++ Str.ofString " ") ++ f.text) ++ Str.ofString " ") ++ g.text) ∧ Γ' = [] ∧ S' = []) → Hg K (Γ' ++ Γ) (S' ++ S) H → Q v H := q
        have hlt := hl
        rw [← tl_text] at hlt
        replace hlt : (TL.tl ((((o.mark ++ Str.ofString " ") ++ f.text) ++ Str.ofString " ") ++ g.text)).length ≤ 50000 := hlt
        have hl2 := hlt
        rw [TL.tl_append, TL.tl_append, TL.tl_append, TL.tl_append, List.length_append, List.length_append, List.length_append, List.length_append, tl_text, tl_text] at hl2
        have hn1 := op_name_at o
        have hm1 := op_mark_at o
        unfold Fm.data at hv
        have hne : ∀ t : Str, t ∉ opNames → ¬ o.name = t := fun t ht e => ht (by rw [← e]; exact List.mem_of_getElem? hn1.1)
        k_extra "W"
        refine w_eqsF (hne _ (by decide +kernel)) ?_
        k_extra "W"
        refine w_eqsF (hne _ (by decide +kernel)) ?_
        k_extra "W"
        refine w_eqsF (hne _ (by decide +kernel)) ?_
        k_extra "W"
        refine w_eqsF (hne _ (by decide +kernel)) ?_
        k_extra "W"
        refine w_eqsF (hne _ (by decide +kernel)) ?_
        k_extra "W"
        refine w_tyTu T.y_WORDS ?_
        k_extra "W"
        refine w_tix (ys := opNames) T.l_WORDS rfl hn1.1 hn1.2 ?_
        k_extra "W"
        refine w_subTu (v := .str o.mark) T.l_MARKS (atI_nat (show (opMarks.map V.str)[o.num]? = some (.str o.mark) by rw [List.getElem?_map, hm1.1]; rfl)) ?_
        k_extra "W"
        have hdf : f.depth < n ∧ g.depth < n := by unfold Fm.depth at hd; omega
        have hnb2 : f.Nb ∧ g.Nb := hnb
        refine w_addTx (by rw [TL.tl_append, List.length_append]; omega) ?_
        k_extra "W"
        rename_i a1
        refine w_don (⟨_, f⟩ : V × Fm) (by k_extra "ts") ⟨by k_extra "m", hdf.1, (show f.sg.length ≤ 50000 by omega), hnb2.1⟩ ?_
        rintro _ Γ' S' ⟨rfl, rfl, rfl⟩
        dsimp only [List.cons_append, List.nil_append]
        refine w_addTx (by rw [TL.tl_append, TL.tl_append, List.length_append, List.length_append, tl_text]; omega) ?_
        k_extra "W"
        refine w_addTx (by rw [TL.tl_append, TL.tl_append, TL.tl_append, List.length_append, List.length_append, List.length_append, tl_text]; omega) ?_
        k_extra "W"
        refine w_don (⟨_, g⟩ : V × Fm) (by k_extra "ts") ⟨by k_extra "m", hdf.2, (show g.sg.length ≤ 50000 by omega), hnb2.2⟩ ?_
        rintro _ Γ' S' ⟨rfl, rfl, rfl⟩
        dsimp only [List.cons_append, List.nil_append]
        refine w_addTx (by omega) ?_
        exact fun H z => q _ _ _ H ⟨rfl, rfl, rfl⟩ (z.fit (by k_extra "sub") (by k_extra "dr"))
end
end Mo
namespace Mo
open PySem PySem.Spec PyProof.Rows L2
/-! ### an exception with one own field made and raised -/
/-- what its __init__ does: self.f = y -/
def spNT (C : Addr) (f : Str) : Sp := fun vs H Q _ => ∃ a y, vs = [.ref a, y] ∧ H a = some (exo a C none) ∧ ∀ d, H d = none → d ≠ a → Q .non (upd (upd H d (exd d [(f, y)])) a (exo a C (some d)))
section
variable {X : Cx} {K : PySem.W.Frag} {o e : Expr} {es : List Expr} {to te : TE} {ta : TA} {f c : Str} {fs : List Str} {p p' pos : Pos} {k j : Nat} {W : WX} {ps : List Str} {sp : Sp}
theorem ps_ostK (hK : X.K = K) (ho : PE X o to) (he : PE X e te) (hs : swapsWith e (some (.Attribute o f p')) pos.line X.env = pure false := by rfl) : PS X (.Assign [.Attribute o f p'] e pos) (tOst K f to te) := hK ▸ ps_ost ho he hs
theorem mk_oexK (hK : X.K = K) (T : OexF X.K c fs) (bd : Binds X.K (fdA X.K (He.fAd X.K (c, some "__init__"))) ps []) (G : X.mg c = some (.ref (He.ga X.K c))) (F : OkM X.prog X.w X.K X.mg X.base k c "__init__" ps sp) (hr : Room j X.A) (tk : Takes X W) (ha : PA X (e :: es) ta) (hj : k + 1 ≤ j := by omega) (hg : Gl X c := by rfl)
    (hdb : (c == ("__debug__" : Str)) = false := by decide) (he : starEach (e :: es) X.env = (false, eval e X.env) :: starEach es X.env := by rfl) (hpl : (backTo pos (starEach es X.env)).any (·.1) = false := by rfl) :
    PMk X (.Call (.Name c p) (e :: es) [] pos) (tMkO (He.ga K c) sp [] ta) := hK ▸ pmk_oex T.c T.i T.t F (hr.mono hj) bd .nil (fun _ _ _ _ e s' I q => tk e s' (XE.of_call I (fun _ _ _ h => h.elim) q)) hg G ha hdb he hpl
end
section
variable {K : PySem.W.Frag} {Γ : List Fc} {S : List Vo} {Q : XK} {C : Addr} {f : Str} {y : V}
/-- C(y), its data at d -/
theorem w_mkO (k : ∀ d, Wh K Γ (own d (.xd [(f, y)]) :: S) fun H => Q (.ref C) (some d) H) : Wh K Γ S fun H1 => [y].length ≤ 1000 ∧ ∀ a, H1 a = none → spNT C f (.ref a :: ([y] ++ [])) (upd H1 a (exo a C none))
    (fun v H2 => v = .non ∧ ∃ (d : Addr) (fs : List (Str × V)), H2 a = some (exo a C (some d)) ∧ H2 d = some (exd d fs) ∧ H1 d = none ∧ Q (.ref C) (some d) (upd (del H2 a) d (.xd fs))) (fun _ _ _ => False) := fun H1 z => by
  refine ⟨(show (1 : Nat) ≤ 1000 by decide), fun a ha => ⟨a, y, rfl, upd_same, fun d hd hne => ⟨rfl, d, [(f, y)], upd_same, ?_, ?_, ?_⟩⟩⟩
  · rw [upd_ne hne]; exact upd_same
  · rw [upd_ne hne] at hd; exact hd
  · have h1 : H1 d = none := by rw [upd_ne hne] at hd; exact hd
    have e : upd (del (upd (upd (upd H1 a (exo a C none)) d (exd d [(f, y)])) a (exo a C (some d))) a) d (.xd [(f, y)]) = upd H1 d (.xd [(f, y)]) := by
      funext b
      by_cases hb : b = d
      · subst hb
        rw [upd_same, upd_same]
      · rw [upd_ne hb, upd_ne hb]
        by_cases hba : b = a
        · subst hba
          rw [del_same, ha]
        · rw [del_ne hba, upd_ne hba, upd_ne hb, upd_ne hba]
    rw [e]
    exact k d _ (z.new h1)
def mkOQ (C : Addr) (sp : Sp) (dvs : List V) (vs : List V) (H1 : Hp) (Q : XK) : Prop := vs.length ≤ 1000 ∧ ∀ a, H1 a = none → sp (.ref a :: (vs ++ dvs)) (upd H1 a (exo a C none))
    (fun v H2 => v = .non ∧ ∃ (d : Addr) (fs : List (Str × V)), H2 a = some (exo a C (some d)) ∧ H2 d = some (exd d fs) ∧ H1 d = none ∧ Q (.ref C) (some d) (upd (del H2 a) d (.xd fs))) (fun _ _ _ => False)
theorem w_tmkO {sp : Sp} {dvs : List V} {ta : TA} {σ : St} (k : Wh K Γ S fun H => ta σ H fun vs H1 => mkOQ C sp dvs vs H1 Q) : Wh K Γ S fun H => tMkO C sp dvs ta σ H Q := k
theorem w_mkO2 (k : ∀ d, Wh K Γ (own d (.xd [(f, y)]) :: S) fun H => Q (.ref C) (some d) H) : Wh K Γ S fun H1 => mkOQ C (spNT C f) [] [y] H1 Q := w_mkO k
end
end Mo
namespace Mo
open PySem PySem.Spec PyProof.Rows L2
/-! ### NoText, texts split -/
def noTextX (K : PySem.W.Frag) (n : Int) (e : Value) (d : Option Addr) (Γ' : List Fc) (S' : List Vo) : Prop := e = .ref (He.ga K "NoText") ∧ ∃ x, d = some x ∧ Γ' = [] ∧ S' = [own x (.xd [("line", .int n)])]
theorem w_spl {K : PySem.W.Frag} {Γ : List Fc} {S : List Vo} {Q : VK} {x y : Str} (h0 : (y.length == 0) = false) (hl : x.length ≤ 90000) (k : ∀ p, Wh K Γ (own p (.lst ((Txt.split x y).map V.str)) :: S) fun H => Q (.ref p) H) : Wh K Γ S fun H => rSpl (.str x) [.str y] H Q := fun H z => ⟨x, y, rfl, rfl, h0, by rw [sizeLine_eq]; omega, fun p hp => k p _ (z.new hp)⟩
/-- a told thing, or None -/
def OptD (v : V) (o : Option PyData) (Γ' : List Fc) : Prop := match o with
  | none => v = .non ∧ Γ' = []
  | some d => ∃ a, v = .ref a ∧ Γ' = [.dat (.ref a) d]
end Mo
namespace Mo
open PySem PySem.Spec PyProof.Rows L2
/-! ### one word's formula -/
def tailS (x : Str) : Str := cutS x (some ((1 : Nat) : Int)) none
theorem tl_tailS (x : Str) : TL.tl (tailS x) = (TL.tl x).drop 1 := tl_cutS x 1
def loneB (x : Str) : Option Fm :=
  if TL.tl x = [64] then some .now
  else if TL.pre [46] (TL.tl x) = true ∧ nameB (tailS x) = true then some (.box (tailS x))
  else if TL.pre [35] (TL.tl x) = true ∧ nameB (tailS x) = true then some (.long (tailS x))
  else if TL.tl x = [36, 48] then some (.got 0)
  else if TL.tl x = [36, 49] then some (.got 1)
  else (worthB x).map .num
def spLone (K : PySem.W.Frag) : Sp := SpF K (fun x : Str => [.str x]) (fun x _ => (TL.tl x).length ≤ 50000) (fun _ => []) (fun x v Γ' S' => OptD v ((loneB x).map Fm.data) Γ' ∧ S' = []) noEx
section
variable {P : Program} {w : World} {K : PySem.W.Frag} {mg : Str → Option Value} {base : Heap}
theorem ok_lone_formula (T : Tx K mg) : OkG P w K mg base 4 "lone_formula" ["word"] (spLone K) := by
  have G_is_name := ok_is_name (P := P) (w := w) (base := base) T
  have G_worth_word := ok_worth_word (P := P) (w := w) (base := base) T
  refine T.f_lone_formula.okX sc_lone_formula (fun vs H Q E h => ?_) (fun cdv A outer s H vs Q E hr h => ?_)
  · obtain ⟨i, _, _, rfl, _⟩ := h
    rfl
  · have hu1 := hu_of hr; have hu0 := hr.units0; have hu64 := hr.units; have hu65 := hu65_of hr; have nd := sc_lone_formula.nd
    obtain ⟨z, Γ, S, rfl, y, hl, q, x⟩ := h
    dsimp only at y hl q x
    refine ⟨_, (pss_cons (ps_if (pt_cmpR (op_eqK (K := K) rfl hu64) (pv 0) pe_str (nomark _)) (pss_one (ps_ret (pe_tup (pa_cons pe_str pa_nil))))
      pss_nil)
      (Evl.pss_cut (ps_if (PW.pt (pw_and (pt_truthK (K := K) rfl (pe_bmK (K := K) rfl PySem.F.plainAttrs_str PySem.F.slot_str_startswith PySem.F.type_str_startswith mt_sws (pv 0) (pa_cons pe_str pa_nil)) (by intro _; rfl)) (pw_and1 (pt_truthK (K := K) rfl (pcl T.g_is_name G_is_name hr (takes_of rfl rfl rfl rfl) (pa_cons (pe_slice (sl_anyK (K := K) rfl) (pv 0) (po_some pe_int) po_none) pa_nil)) (by intro _; rfl))))) (pss_one (ps_ret (pe_tup (pa_cons pe_str (pa_cons (pe_slice (sl_anyK (K := K) rfl) (pv 0) (po_some pe_int) po_none) pa_nil)))))
      pss_nil)
      (Evl.pss_cut (ps_if (PW.pt (pw_and (pt_truthK (K := K) rfl (pe_bmK (K := K) rfl PySem.F.plainAttrs_str PySem.F.slot_str_startswith PySem.F.type_str_startswith mt_sws (pv 0) (pa_cons pe_str pa_nil)) (by intro _; rfl)) (pw_and1 (pt_truthK (K := K) rfl (pcl T.g_is_name G_is_name hr (takes_of rfl rfl rfl rfl) (pa_cons (pe_slice (sl_anyK (K := K) rfl) (pv 0) (po_some pe_int) po_none) pa_nil)) (by intro _; rfl))))) (pss_one (ps_ret (pe_tup (pa_cons pe_str (pa_cons (pe_slice (sl_anyK (K := K) rfl) (pv 0) (po_some pe_int) po_none) pa_nil)))))
      pss_nil)
      (pss_cons (ps_if (PW.pt (pw_or (pt_cmpR (op_eqK (K := K) rfl hu64) (pv 0) pe_str (nomark _)) (pw_or1 (pt_cmpR (op_eqK (K := K) rfl hu64) (pv 0) pe_str (nomark _))))) (pss_one (ps_ret (pe_tup (pa_cons pe_str (pa_cons (pe_callTy cr_intS (by rfl) T.b_int (by decide +kernel) (pa_cons (pe_slice (sl_anyK (K := K) rfl) (pv 0) (po_some pe_int) po_none) pa_nil)) pa_nil)))))
      pss_nil)
      (pss_cons (ps_set (i := 1) nd rfl (Or.inl rfl) (pcl T.g_worth_word G_worth_word hr (takes_of rfl rfl rfl rfl) (pa_cons (pv 0) pa_nil)))
      (pss_cons (ps_if (pt_cmpR op_isN1 (pv 1) pe_non (nomark _)) (pss_one (ps_ret pe_non))
      pss_nil)
      (pss_one (ps_ret (pe_tup (pa_cons pe_str (pa_cons (pv 1) pa_nil))))))))))), ?_⟩
    refine w_start (σ' := [some (.str z), none]) rfl y ?_
    dsimp only [List.nil_append] at q ⊢
    have hlt : (TL.tl (tailS z)).length ≤ 50000 := by rw [tl_tailS, List.length_drop]; omega
    have yes : ∀ (a : Addr) (f : Fm) (_ : loneB z = some f) (Γ2 : List Fc) (S2 : List Vo), Fc.dat (.ref a) f.data ∈ Γ2 → (∀ g ∈ Γ, g ∈ Γ2) → Dr S2 S → Wh K Γ2 S2 fun H => Q (.ref a) H := fun a f h Γ2 S2 m hs hd H y => q _ [.dat (.ref a) f.data] [] H ⟨by rw [h]; exact ⟨a, rfl, rfl⟩, rfl⟩ (y.fit (List.forall_mem_cons.mpr ⟨m, hs⟩) hd)
    have e1 : TL.tl (Str.ofString "@") = [64] := by decide +kernel
    have e2 : TL.tl (Str.ofString ".") = [46] := by decide +kernel
    have e3 : TL.tl (Str.ofString "#") = [35] := by decide +kernel
    have e4 : TL.tl (Str.ofString "$0") = [36, 48] := by decide +kernel
    have e5 : TL.tl (Str.ofString "$1") = [36, 49] := by decide +kernel
    k_extra "W"
    refine w_eqs ?_
    rw [show decide (z = Str.ofString "@") = decide (TL.tl z = [64]) from decide_eq_decide.mpr (text_is e1)]
    k_extra "W"
    refine w_ite (fun h1 => ?_) (fun h1 => ?_)
    · k_extra "W"
      exact yes _ .now (if_pos h1) _ _ (by k_extra "m") (by k_extra "sub") (by k_extra "dr")
    k_extra "W"
    refine w_cut (ι := Unit) (fun _ => ¬ (TL.pre [46] (TL.tl z) = true ∧ nameB (tailS z) = true)) (fun _ => [some (.str z), none]) (fun _ => Γ) (fun _ => S) ?_ ?_
    · k_extra "W"
      refine w_tyS ?_
      k_extra "W"
      refine w_sws ?_
      rw [e2]
      cases hp : TL.pre [46] (TL.tl z) with
      | false =>
        k_extra "W"
        exact w_again () (fun h => nomatch h.1) rfl (by k_extra "sub") (by k_extra "dr")
      | true =>
        k_extra "W"
        refine w_slS (by omega) ?_
        rw [show cutS z (some (1 : Int)) none = tailS z from rfl]
        k_extra "W"
        refine w_don (tailS z) (by k_extra "ts") hlt ?_
        rintro _ Γ' S' ⟨rfl, rfl, rfl⟩
        dsimp only [List.cons_append, List.nil_append]
        cases hn : nameB (tailS z) with
        | false =>
          k_extra "W"
          exact w_again () (fun h => nomatch h.2) rfl (by k_extra "sub") (by k_extra "dr")
        | true =>
          k_extra "W"
          refine w_slS (by omega) ?_
          rw [show cutS z (some (1 : Int)) none = tailS z from rfl]
          k_extra "W"
          exact yes _ (.box (tailS z)) (by unfold loneB; rw [if_neg h1, if_pos ⟨hp, hn⟩]) _ _ (by unfold Fm.data; k_extra "m") (by k_extra "sub") (by k_extra "dr")
    rintro _ h2
    refine w_cut (ι := Unit) (fun _ => ¬ (TL.pre [35] (TL.tl z) = true ∧ nameB (tailS z) = true)) (fun _ => [some (.str z), none]) (fun _ => Γ) (fun _ => S) ?_ ?_
    · k_extra "W"
      refine w_tyS ?_
      k_extra "W"
      refine w_sws ?_
      rw [e3]
      cases hp : TL.pre [35] (TL.tl z) with
      | false =>
        k_extra "W"
        exact w_again () (fun h => nomatch h.1) rfl (by k_extra "sub") (by k_extra "dr")
      | true =>
        k_extra "W"
        refine w_slS (by omega) ?_
        rw [show cutS z (some (1 : Int)) none = tailS z from rfl]
        k_extra "W"
        refine w_don (tailS z) (by k_extra "ts") hlt ?_
        rintro _ Γ' S' ⟨rfl, rfl, rfl⟩
        dsimp only [List.cons_append, List.nil_append]
        cases hn : nameB (tailS z) with
        | false =>
          k_extra "W"
          exact w_again () (fun h => nomatch h.2) rfl (by k_extra "sub") (by k_extra "dr")
        | true =>
          k_extra "W"
          refine w_slS (by omega) ?_
          rw [show cutS z (some (1 : Int)) none = tailS z from rfl]
          k_extra "W"
          exact yes _ (.long (tailS z)) (by unfold loneB; rw [if_neg h1, if_neg h2, if_pos ⟨hp, hn⟩]) _ _ (by unfold Fm.data; k_extra "m") (by k_extra "sub") (by k_extra "dr")
    rintro _ h3
    k_extra "W"
    refine w_eqs ?_
    rw [show decide (z = Str.ofString "$0") = decide (TL.tl z = [36, 48]) from decide_eq_decide.mpr (text_is e4)]
    k_extra "W"
    refine w_ite (fun h4 => ?_) (fun h4 => ?_)
    · k_extra "W"
      refine w_slS (by omega) ?_
      rw [show cutS z (some (1 : Int)) none = tailS z from rfl]
      k_extra "W"
      have ht : TL.tl (tailS z) = [48] := by rw [tl_tailS, h4]; rfl
      refine w_intS (n := 0) (by rw [intText_digits (by rw [show (tailS z).cps.toList = [48] from ht]; intro c hc; rw [List.mem_singleton.mp hc]; decide) (by rw [show (tailS z).cps.toList = [48] from ht]; decide) (by rw [TL.len_tl, ht]; decide), show (tailS z).cps.toList = [48] from ht]; rfl) (by rw [TL.len_tl, ht]; decide) ?_
      k_extra "W"
      exact yes _ (.got 0) (by unfold loneB; rw [if_neg h1, if_neg h2, if_neg h3, if_pos h4]) _ _ (by unfold Fm.data; k_extra "m") (by k_extra "sub") (by k_extra "dr")
    k_extra "W"
    refine w_eqs ?_
    rw [show decide (z = Str.ofString "$1") = decide (TL.tl z = [36, 49]) from decide_eq_decide.mpr (text_is e5)]
    k_extra "W"
    refine w_ite (fun h5 => ?_) (fun h5 => ?_)
    · k_extra "W"
      refine w_slS (by omega) ?_
      rw [show cutS z (some (1 : Int)) none = tailS z from rfl]
      k_extra "W"
      have ht : TL.tl (tailS z) = [49] := by rw [tl_tailS, h5]; rfl
      refine w_intS (n := 1) (by rw [intText_digits (by rw [show (tailS z).cps.toList = [49] from ht]; intro c hc; rw [List.mem_singleton.mp hc]; decide) (by rw [show (tailS z).cps.toList = [49] from ht]; decide) (by rw [TL.len_tl, ht]; decide), show (tailS z).cps.toList = [49] from ht]; rfl) (by rw [TL.len_tl, ht]; decide) ?_
      k_extra "W"
      exact yes _ (.got 1) (by unfold loneB; rw [if_neg h1, if_neg h2, if_neg h3, if_neg h4, if_pos h5]) _ _ (by unfold Fm.data; k_extra "m") (by k_extra "sub") (by k_extra "dr")
    k_extra "W"
    have hlb : loneB z = (worthB z).map .num := by unfold loneB; rw [if_neg h1, if_neg h2, if_neg h3, if_neg h4, if_neg h5]
    refine w_don z (by k_extra "ts") hl ?_
    rintro _ Γ' S' ⟨rfl, rfl, rfl⟩
    dsimp only [List.cons_append, List.nil_append]
    cases hw : worthB z with
    | none =>
      unfold intV
      k_extra "W"
      exact fun H y => q _ _ _ H ⟨by rw [hlb, hw]; exact ⟨rfl, rfl⟩, rfl⟩ (y.fit (by k_extra "sub") (by k_extra "dr"))
    | some n =>
      unfold intV
      k_extra "W"
      exact yes _ (.num n) (by rw [hlb, hw]; rfl) _ _ (by unfold Fm.data; k_extra "m") (by k_extra "sub") (by k_extra "dr")
end
end Mo
namespace Mo
open PySem PySem.Spec PyProof.Rows L2
/-! ### words read as formulas: plain Lean -/
/-- the formula that begins at a place; parts counted -/
def pF (lone : Str → Option Fm) : Nat → List Str → Nat → Nat → Option Fm × Nat × Nat
  | 0, _, i, c => (none, i, c)
  | n + 1, ws, i, c =>
    if 15 < c + 1 then (none, i, c + 1) else
    match ws[i]? with
    | none => (none, i, c + 1)
    | some x =>
      match opOf x with
      | none => (lone x, i + 1, c + 1)
      | some o =>
        match pF lone n ws (i + 1) (c + 1) with
        | (none, j, d) => (none, j, d)
        | (some f, j, d) =>
          match pF lone n ws j d with
          | (none, j2, d2) => (none, j2, d2)
          | (some g, j2, d2) => (some (.two o f g), j2, d2)
where
  opOf (x : Str) : Option Op := [Op.plus, .less, .times, .part, .rest, .below, .same].find? fun o => decide (o.mark = x)
end Mo
namespace Mo
open PySem PySem.Spec PyProof.Rows L2
/-! ### Words: formulas read -/
theorem pF_some {lone : Str → Option Fm} : ∀ {n : Nat} {ws : List Str} {i c : Nat} {f : Fm} {j d : Nat}, pF lone n ws i c = (some f, j, d) → c < d ∧ d ≤ 15 ∧ i < j ∧ j ≤ ws.length
  | 0, ws, i, c, f, j, d, h => by rw [pF] at h; cases h
  | n + 1, ws, i, c, f, j, d, h => by
    rw [pF] at h
    split at h
    · cases h
    · rename_i hc
      split at h
      · cases h
      · rename_i x hx
        have hil := (List.getElem?_eq_some_iff.mp hx).1
        split at h
        · injection h with _ h
          injection h with h1 h2
          omega
        · split at h
          · cases h
          · rename_i f1 j1 d1 h1
            have g1 := pF_some h1
            split at h
            · cases h
            · rename_i f2 j2 d2 h2
              have g2 := pF_some h2
              injection h with _ h
              injection h with h3 h4
              omega
theorem inV_strs (x : Str) (xs : List Str) : inV (.str x) (xs.map V.str) = decide (x ∈ xs) := by
  unfold inV
  rw [List.any_map]
  induction xs with
  | nil => rfl
  | cons y xs ih =>
    rw [List.any_cons, ih]
    have e : ((fun y => eqV y (V.str x)) ∘ V.str) y = decide (y = x) := rfl
    rw [e]
    by_cases h : y = x
    · subst h
      rw [decide_eq_true rfl, Bool.true_or, decide_eq_true List.mem_cons_self]
    · rw [decide_eq_false h, Bool.false_or]
      exact decide_eq_decide.mpr ⟨List.mem_cons_of_mem _, fun k => (List.mem_cons.mp k).resolve_left fun z => h z.symm⟩
theorem w_ninT {K : PySem.W.Frag} {Γ : List Fc} {S : List Vo} {Q : VK} {p : Addr} {x : Str} {xs : List V} {ys : List Str} (m : ∀ H, SqT K H p xs) (e : xs = ys.map V.str) (k : Wh K Γ S fun H => Q (.bl (!decide (x ∈ ys))) H) : Wh K Γ S fun H => rNotInA K (.str x) (.ref p) H Q := fun H z => by
  subst e
  exact .inr (.inl ⟨p, _, rfl, .inr (m H), rfl, by rw [List.all_map]; exact List.all_eq_true.mpr fun _ _ => rfl, by rw [inV_strs]; exact k H z⟩)
theorem opOf_some {x : Str} {o : Op} (h : pF.opOf x = some o) : x = o.mark := by
  have := List.find?_some h
  exact (of_decide_eq_true this).symm
theorem opOf_none {x : Str} (h : pF.opOf x = none) : x ∉ opMarks := fun hm => by
  have h1 := List.find?_eq_none.mp h
  have : ∃ o : Op, o ∈ [Op.plus, .less, .times, .part, .rest, .below, .same] ∧ o.mark = x := by
    simp only [opMarks, List.mem_cons, List.not_mem_nil, or_false] at hm
    rcases hm with rfl | rfl | rfl | rfl | rfl | rfl | rfl
    · exact ⟨.plus, by decide, rfl⟩
    · exact ⟨.less, by decide, rfl⟩
    · exact ⟨.times, by decide, rfl⟩
    · exact ⟨.part, by decide, rfl⟩
    · exact ⟨.rest, by decide, rfl⟩
    · exact ⟨.below, by decide, rfl⟩
    · exact ⟨.same, by decide, rfl⟩
  obtain ⟨o, ho, he⟩ := this
  exact absurd (decide_eq_true he) (h1 o ho)
structure WdI where
  p : Addr
  dx : Addr
  l : Addr
  ws : List Str
  i : Nat
  c : Nat
def wdS (K : PySem.W.Frag) (w : WdI) (i c : Nat) : List Vo := [own w.p (.ins (He.ga K "Words") w.dx (fl_Words (.ref w.l) (.int (i : Int)) (.int (c : Int)))), own w.l (.lst (w.ws.map V.str))]
structure WdI.Ok (w : WdI) (n : Nat) : Prop where
  il : w.i ≤ w.ws.length
  wl : w.ws.length ≤ 50000
  ww : ∀ x ∈ w.ws, (TL.tl x).length ≤ 50000
  c1 : w.c ≤ 15
  c2 : 15 < w.c + n
def spWdF (n : Nat) (K : PySem.W.Frag) : Sp := SpF K (fun i : WdI => [.ref i.p]) (fun i _ => i.Ok n) (fun i => wdS K i i.i i.c)
  (fun i v Γ' S' => OptD v ((pF loneB n i.ws i.i i.c).1.map Fm.data) Γ' ∧ S' = wdS K i (pF loneB n i.ws i.i i.c).2.1 (pF loneB n i.ws i.i i.c).2.2) noEx
def spWdI (K : PySem.W.Frag) : Sp := SpF K (fun i : (Addr × Addr) × Addr => [.ref i.1.1, .ref i.2]) (fun _ _ => True) (fun i => [own i.1.1 (.ins (He.ga K "Words") i.1.2 [])])
  (fun i v Γ' S' => v = .non ∧ Γ' = [] ∧ S' = [own i.1.1 (.ins (He.ga K "Words") i.1.2 (fl_Words (.ref i.2) (.int 0) (.int 0)))]) noEx
section
variable {P : Program} {w : World} {K : PySem.W.Frag} {mg : Str → Option Value} {base : Heap}
theorem ok_Words_init (T : Tx K mg) : OkM P w K mg base 1 "Words" "__init__" ["self", "words"] (spWdI K) := by
  refine T.f_Words_init.okX sc_Words_init (fun vs H Q E h => ?_) (fun cdv A outer s H vs Q E hr h => ?_)
  · obtain ⟨i, _, _, rfl, _⟩ := h
    rfl
  · have hu1 := hu_of hr; have hu0 := hr.units0; have hu64 := hr.units; have hu65 := hu65_of hr; have nd := sc_Words_init.nd
    obtain ⟨⟨⟨p, dx⟩, d⟩, Γ, S, rfl, z, _, q, x⟩ := h
    dsimp only at z q x
    refine ⟨_, (pss_cons (ps_fldK (K := K) rfl (pv 0) (pv 1) rfl)
      (pss_cons (ps_fldK (K := K) rfl (pv 0) pe_int rfl)
      (pss_one (ps_fldK (K := K) rfl (pv 0) pe_int rfl)))), ?_⟩
    refine w_start (σ' := [some (.ref p), some (.ref d)]) rfl z ?_
    dsimp only [List.cons_append, List.nil_append]
    k_extra "W"
    refine w_sfldL (by k_extra "sw") in_Words_0 T.c_Words T.n_Words_words rfl ?_
    k_extra "W"
    refine w_sfldL (by k_extra "sw") in_Words_1 T.c_Words T.n_Words_at rfl ?_
    k_extra "W"
    refine w_sfldL (by k_extra "sw") (show _ = fl_Words _ _ _ from in_Words_2) T.c_Words T.n_Words_counted rfl ?_
    exact fun H z => q _ _ _ H ⟨rfl, rfl, rfl⟩ (z.fit (by k_extra "sub") (by k_extra "dr"))
theorem ok_Words_formula (T : Tx K mg) : ∀ n, OkM P w K mg base (n + 5) "Words" "formula" ["self"] (spWdF n K) := by
  have G_lone_formula := ok_lone_formula (P := P) (w := w) (base := base) T
  intro n
  induction n with
  | zero =>
    refine T.f_Words_formula.okX sc_Words_formula (fun vs H Q E h => ?_) (fun cdv A outer s H vs Q E hr h => ?_)
    · obtain ⟨i, _, _, rfl, _⟩ := h
      rfl
    · obtain ⟨i, _, _, rfl, z, h1, _⟩ := h
      have := h1.c1
      have := h1.c2
      omega
  | succ n G_Words_formula =>
    refine T.f_Words_formula.okX sc_Words_formula (fun vs H Q E h => ?_) (fun cdv A outer s H vs Q E hr h => ?_)
    · obtain ⟨i, _, _, rfl, _⟩ := h
      rfl
    · have hu1 := hu_of hr; have hu0 := hr.units0; have hu64 := hr.units; have hu65 := hu65_of hr; have nd := sc_Words_formula.nd
      obtain ⟨⟨p, dx, l, ws, i, c⟩, Γ, S, rfl, z, ⟨hil, hwl, hww, hc1, hc2⟩, q, x⟩ := h
      dsimp only at z hil hwl hww hc1 hc2 q x
      refine ⟨_, (pss_cons (ps_fldaugK (K := K) rfl (pv 0) pe_int in_add)
      (pss_cons (ps_if (PW.pt (pw_or (pt_cmpR (op_eqK (K := K) rfl hu64) (pe_fldK (K := K) rfl (pv 0) rfl) (pe_callB (call_lenK (K := K) rfl) (by rfl) T.b_len (by decide +kernel) (pa_cons (pe_fldK (K := K) rfl (pv 0) rfl) pa_nil)) (nomark _)) (pw_or1 (pt_cmpR (op_gt) (pe_fldK (K := K) rfl (pv 0) rfl) (T.v_PARTS) (nomark _))))) (pss_one (ps_ret pe_non))
      pss_nil)
      (pss_cons (ps_set (i := 1) nd rfl (Or.inl rfl) (pe_ix (ix_anyK (K := K) rfl hu1) (pe_fldK (K := K) rfl (pv 0) rfl) (pe_fldK (K := K) rfl (pv 0) rfl) (fun _ _ => rfl)))
      (pss_cons (ps_fldaugK (K := K) rfl (pv 0) pe_int in_add)
      (pss_cons (ps_if (pt_cmpR (op_notInK (K := K) rfl hu65) (pv 1) (T.v_MARKS) rfl) (pss_one (ps_ret (pcl T.g_lone_formula G_lone_formula hr (takes_of rfl rfl rfl rfl) (pa_cons (pv 1) pa_nil))))
      pss_nil)
      (pss_cons (ps_set (i := 2) nd rfl (Or.inl rfl) (pme0K (K := K) rfl T.m_Words_formula T.c_Words G_Words_formula hr (takes_of rfl rfl rfl rfl) (pv 0)))
      (pss_cons (ps_if (pt_cmpR op_isN1 (pv 2) pe_non (nomark _)) (pss_one (ps_ret pe_non))
      pss_nil)
      (pss_cons (ps_set (i := 3) nd rfl (Or.inl rfl) (pme0K (K := K) rfl T.m_Words_formula T.c_Words G_Words_formula hr (takes_of rfl rfl rfl rfl) (pv 0)))
      (pss_cons (ps_if (pt_cmpR op_isN1 (pv 3) pe_non (nomark _)) (pss_one (ps_ret pe_non))
      pss_nil)
      (pss_one (ps_ret (pe_tup (pa_cons (pe_ix (ix_anyK (K := K) rfl hu1) (T.v_WORDS) (pe_bmK (K := K) rfl PySem.F.plainAttrs_tuple PySem.F.slot_tuple_index PySem.F.type_tuple_index (mt_tix (K := K) rfl) (T.v_MARKS) (pa_cons (pv 1) pa_nil)) (fun _ _ => rfl)) (pa_cons (pv 2) (pa_cons (pv 3) pa_nil))))))))))))))), ?_⟩
      refine w_start (σ' := [some (.ref p), none, none, none]) rfl z ?_
      dsimp only [wdS, List.cons_append, List.nil_append] at q ⊢
      k_extra "W"
      refine w_fldaugL (by k_extra "at") lk_Words_counted T.c_Words T.n_Words_counted ?_
      k_extra "W"
      refine w_putL (by k_extra "sw") pt_Words_counted rfl ?_
      rw [show (c : Int) + 1 = ((c + 1 : Nat) : Int) by omega]
      k_extra "W"
      refine w_lenL (by k_extra "at") ?_
      rw [List.length_map]
      k_extra "W"
      have hend : i = ws.length → pF loneB (n + 1) ws i c = (none, i, c + 1) := fun h => by
        rw [pF, List.getElem?_eq_none (by omega)]
        split <;> rfl
      have hover : 15 < c + 1 → pF loneB (n + 1) ws i c = (none, i, c + 1) := fun h => by rw [pF, if_pos h]
      refine w_ite (fun h1 => ?_) (fun h1 => ?_)
      · k_extra "W"
        exact fun H y => q _ _ _ H ⟨by rw [hend (by omega)]; exact ⟨rfl, rfl⟩, by rw [hend (by omega)]⟩ (y.fit (by k_extra "sub") (by k_extra "dr"))
      k_extra "W"
      refine w_ite (fun h2 => ?_) (fun h2 => ?_)
      · k_extra "W"
        exact fun H y => q _ _ _ H ⟨by rw [hover (by omega)]; exact ⟨rfl, rfl⟩, by rw [hover (by omega)]⟩ (y.fit (by k_extra "sub") (by k_extra "dr"))
      obtain ⟨x, hx⟩ : ∃ x, ws[i]? = some x := ⟨_, List.getElem?_eq_getElem (by omega)⟩
      have hxl := hww x (List.mem_of_getElem? hx)
      k_extra "W"
      refine w_sub (v := .str x) (by k_extra "at") (atI_nat (by rw [List.getElem?_map, hx]; rfl)) ?_
      k_extra "W"
      refine w_fldaugL (by k_extra "at") lk_Words_at T.c_Words T.n_Words_at ?_
      k_extra "W"
      refine w_putL (by k_extra "sw") pt_Words_at rfl ?_
      rw [show (i : Int) + 1 = ((i + 1 : Nat) : Int) by omega]
      k_extra "W"
      refine w_ninT (ys := opMarks) T.l_MARKS rfl ?_
      cases hop : pF.opOf x with
      | none =>
        rw [decide_eq_false (opOf_none hop)]
        k_extra "W"
        have hp : pF loneB (n + 1) ws i c = (loneB x, i + 1, c + 1) := by rw [pF, if_neg (by omega), hx]; dsimp only; rw [hop]
        refine w_don x (by k_extra "ts") hxl ?_
        rintro v Γ' S' ⟨hO, rfl⟩
        exact fun H y => q _ Γ' _ H ⟨by rw [hp]; exact hO, by rw [hp]⟩ (y.fit (fun f hf => hf) (by k_extra "dr"))
      | some o =>
        have hxo := opOf_some hop
        have hm1 := op_mark_at o
        have hn1 := op_name_at o
        rw [decide_eq_true (show x ∈ opMarks by rw [hxo]; exact List.mem_of_getElem? hm1.1)]
        k_extra "W"
        have hp : pF loneB (n + 1) ws i c = (match pF loneB n ws (i + 1) (c + 1) with
          | (none, j, d) => (none, j, d)
          | (some f, j, d) => match pF loneB n ws j d with
            | (none, j2, d2) => (none, j2, d2)
            | (some g, j2, d2) => (some (.two o f g), j2, d2)) := by rw [pF, if_neg (by omega), hx]; dsimp only; rw [hop]; first | done | rfl
        refine w_don (⟨p, dx, l, ws, i + 1, c + 1⟩ : WdI) (by dsimp only [wdS]; k_extra "ts") ⟨by dsimp only; omega, hwl, hww, by dsimp only; omega, by dsimp only; omega⟩ ?_
        rintro v Γ' S' ⟨hO, rfl⟩
        dsimp only [wdS, List.cons_append, List.nil_append] at hO ⊢
        obtain ⟨⟨r1, j, d⟩, hr1⟩ : ∃ r, pF loneB n ws (i + 1) (c + 1) = r := ⟨_, rfl⟩
        rw [hr1] at hO hp ⊢
        dsimp only at hO hp ⊢
        cases r1 with
        | none =>
          obtain ⟨rfl, rfl⟩ := hO
          dsimp only [List.nil_append]
          k_extra "W"
          exact fun H y => q _ _ _ H ⟨by rw [hp]; exact ⟨rfl, rfl⟩, by rw [hp]⟩ (y.fit (by k_extra "sub") (by k_extra "dr"))
        | some f =>
          obtain ⟨a, rfl, rfl⟩ := hO
          have g1 := pF_some hr1
          dsimp only [List.cons_append, List.nil_append] at hp ⊢
          k_extra "W"
          refine w_don (⟨p, dx, l, ws, j, d⟩ : WdI) (by dsimp only [wdS]; k_extra "ts") ⟨by dsimp only; omega, hwl, hww, by dsimp only; omega, by dsimp only; omega⟩ ?_
          rintro v Γ' S' ⟨hO, rfl⟩
          dsimp only [wdS, List.cons_append, List.nil_append] at hO ⊢
          obtain ⟨⟨r2, j2, d2⟩, hr2⟩ : ∃ r, pF loneB n ws j d = r := ⟨_, rfl⟩
          rw [hr2] at hO hp ⊢
          dsimp only at hO hp ⊢
          cases r2 with
          | none =>
            obtain ⟨rfl, rfl⟩ := hO
            dsimp only [List.nil_append]
            k_extra "W"
            exact fun H y => q _ _ _ H ⟨by rw [hp]; exact ⟨rfl, rfl⟩, by rw [hp]⟩ (y.fit (by k_extra "sub") (by k_extra "dr"))
          | some g =>
            obtain ⟨b, rfl, rfl⟩ := hO
            dsimp only [List.cons_append, List.nil_append] at hp ⊢
            subst hxo
            k_extra "W"
            refine w_tyTu T.y_MARKS ?_
            k_extra "W"
            refine w_tix (ys := opMarks) T.l_MARKS rfl hm1.1 hm1.2 ?_
            k_extra "W"
            refine w_subTu (v := .str o.name) T.l_WORDS (atI_nat (show (opNames.map V.str)[o.num]? = some (.str o.name) by rw [List.getElem?_map, hn1.1]; rfl)) ?_
            k_extra "W"
            rename_i t
            exact fun H y => q _ [.dat (.ref t) (Fm.two o f g).data] _ H ⟨by rw [hp]; exact ⟨t, rfl, rfl⟩, by rw [hp]⟩ (y.fit (by rw [show (Fm.two o f g).data = .tuple [.str o.name, f.data, g.data] from rfl]; k_extra "sub") (by k_extra "dr"))
theorem ok_Words_next_formula (T : Tx K mg) : OkM P w K mg base 22 "Words" "next_formula" ["self"] (SpF K (fun i : WdI => [.ref i.p]) (fun i _ => i.i ≤ i.ws.length ∧ i.ws.length ≤ 50000 ∧ ∀ x ∈ i.ws, (TL.tl x).length ≤ 50000) (fun i => wdS K i i.i i.c)
    (fun i v Γ' S' => OptD v ((pF loneB 16 i.ws i.i 0).1.map Fm.data) Γ' ∧ S' = wdS K i (pF loneB 16 i.ws i.i 0).2.1 (pF loneB 16 i.ws i.i 0).2.2) noEx) := by
  have G_Words_formula := ok_Words_formula (P := P) (w := w) (base := base) T 16
  refine T.f_Words_next_formula.okX sc_Words_next_formula (fun vs H Q E h => ?_) (fun cdv A outer s H vs Q E hr h => ?_)
  · obtain ⟨i, _, _, rfl, _⟩ := h
    rfl
  · have hu1 := hu_of hr; have hu0 := hr.units0; have hu64 := hr.units; have hu65 := hu65_of hr; have nd := sc_Words_next_formula.nd
    obtain ⟨⟨p, dx, l, ws, i, c⟩, Γ, S, rfl, z, ⟨hil, hwl, hww⟩, q, x⟩ := h
    dsimp only at z hil hwl hww q x
    refine ⟨_, (pss_cons (ps_fldK (K := K) rfl (pv 0) pe_int rfl)
      (pss_one (ps_ret (pme0K (K := K) rfl T.m_Words_formula T.c_Words G_Words_formula hr (takes_of rfl rfl rfl rfl) (pv 0))))), ?_⟩
    refine w_start (σ' := [some (.ref p)]) rfl z ?_
    dsimp only [wdS, List.cons_append, List.nil_append] at q ⊢
    k_extra "W"
    refine w_sfldL (by k_extra "sw") pt_Words_counted T.c_Words T.n_Words_counted rfl ?_
    k_extra "W"
    rw [show V.int (0 : Int) = V.int ((0 : Nat) : Int) from rfl]
    refine w_don (⟨p, dx, l, ws, i, 0⟩ : WdI) (by dsimp only [wdS]; k_extra "ts") ⟨hil, hwl, hww, by dsimp only; omega, by dsimp only; omega⟩ ?_
    rintro v Γ' S' ⟨hO, rfl⟩
    exact fun H y => q _ Γ' _ H ⟨hO, rfl⟩ (y.fit (fun f hf => hf) (by dsimp only [wdS]; k_extra "dr"))
end
end Mo
namespace Mo
open PySem PySem.Spec PyProof.Rows L2
/-! ### formulas_of, formula_of -/
def fsOf (ws : List Str) : Nat → Nat → Option (List Fm × Nat)
  | 0, i => some ([], i)
  | m + 1, i => match pF loneB 16 ws i 0 with
    | (none, _, _) => none
    | (some f, j, _) => (fsOf ws m j).map fun r => (f :: r.1, r.2)
def fsB (ws : List Str) (many : Nat) : Option (List Fm) := (fsOf ws many 0).bind fun r => if r.2 < ws.length then none else some r.1
structure FsI where
  l : Addr
  ws : List Str
  many : Nat
def FsI.Post (i : FsI) (v : V) (Γ' : List Fc) (S' : List Vo) : Prop := match fsB i.ws i.many with
  | none => v = .non ∧ Γ' = [] ∧ S' = [own i.l (.lst (i.ws.map V.str))]
  | some fs => ∃ lf vs, v = .ref lf ∧ Γ' = [.dats vs (fs.map Fm.data)] ∧ S' = [own lf (.lst vs), own i.l (.lst (i.ws.map V.str))]
def spFsOf (K : PySem.W.Frag) : Sp := SpF K (fun i : FsI => [.ref i.l, .int (i.many : Int)]) (fun i _ => i.many ≤ 100 ∧ i.ws.length ≤ 50000 ∧ ∀ x ∈ i.ws, (TL.tl x).length ≤ 50000) (fun i => [own i.l (.lst (i.ws.map V.str))])
  (fun i v Γ' S' => i.Post v Γ' S') noEx
section
variable {P : Program} {w : World} {K : PySem.W.Frag} {mg : Str → Option Value} {base : Heap}
theorem ok_formulas_of (T : Tx K mg) : OkG P w K mg base 24 "formulas_of" ["words", "many"] (spFsOf K) := by
  have G_Words_init := ok_Words_init (P := P) (w := w) (base := base) T
  have G_Words_next_formula := ok_Words_next_formula (P := P) (w := w) (base := base) T
  refine T.f_formulas_of.okX sc_formulas_of (fun vs H Q E h => ?_) (fun cdv A outer s H vs Q E hr h => ?_)
  · obtain ⟨i, _, _, rfl, _⟩ := h
    rfl
  · have hu1 := hu_of hr; have hu0 := hr.units0; have hu64 := hr.units; have hu65 := hu65_of hr; have nd := sc_formulas_of.nd
    obtain ⟨⟨l, ws, many⟩, Γ, S, rfl, z, ⟨hmy, hwl, hww⟩, q, x⟩ := h
    dsimp only at z hmy hwl hww q x
    refine ⟨_, (pss_cons (ps_set (i := 2) nd rfl (Or.inl rfl) (pmkK (K := K) rfl T.k_Words G_Words_init hr (takes_of rfl rfl rfl rfl) (pa_cons (pv 0) pa_nil)))
      (pss_cons (ps_set (i := 3) nd rfl (Or.inl rfl) (pe_lst pa_nil))
      (pss_cons (ps_for (passes_of rfl) rfl (pi_range1 rfl T.b_range (pa_cons (pv 1) pa_nil)) (pg_name (i := 4) nd rfl (Or.inl rfl))
      (pss_cons (ps_set (i := 5) nd rfl (Or.inl rfl) (pme0K (K := K) rfl T.m_Words_next_formula T.c_Words G_Words_next_formula hr (takes_of rfl rfl rfl rfl) (pv 2)))
      (pss_cons (ps_if (pt_cmpR op_isN1 (pv 5) pe_non (nomark _)) (pss_one (ps_ret pe_non))
      pss_nil)
      (pss_one (ps_expr (pe_bmK (K := K) rfl PySem.F.plainAttrs_list PySem.F.slot_list_append PySem.F.type_list_append mt_append (pv 3) (pa_cons (pv 5) pa_nil)))))))
      (pss_cons (ps_if (pt_cmpR (op_ltK (K := K) rfl hu0) (pe_fldK (K := K) rfl (pv 2) rfl) (pe_callB (call_lenK (K := K) rfl) (by rfl) T.b_len (by decide +kernel) (pa_cons (pv 0) pa_nil)) (nomark _)) (pss_one (ps_ret pe_non))
      pss_nil)
      (pss_one (ps_ret (pv 3))))))), ?_⟩
    refine w_start (σ' := [some (.ref l), some (.int (many : Int)), none, none, none, none]) rfl z ?_
    dsimp only [List.cons_append, List.nil_append] at q ⊢
    have non : ∀ (_ : fsB ws many = none) (S2 : List Vo) (Γ2 : List Fc), (∀ f ∈ Γ, f ∈ Γ2) → Dr S2 (own l (.lst (ws.map V.str)) :: S) → Wh K Γ2 S2 fun H => Q .non H := fun h S2 Γ2 hs hd H y => q _ [] _ H (by unfold FsI.Post; dsimp only; rw [h]; exact ⟨rfl, rfl, rfl⟩) (y.fit hs hd)
    k_extra "W"
    refine w_made fun p dx => ?_
    refine w_don ((p, dx), l) (by k_extra "ts") True.intro ?_
    rintro _ Γ' S' ⟨rfl, rfl, rfl⟩
    dsimp only [List.cons_append, List.nil_append]
    k_extra "W"
    refine w_lstO fun lf => ?_
    k_extra "W"
    refine w_forR many rfl (by omega) ?_
    refine w_dats (vs := []) (ds := []) DL.nil ?_
    refine w_loop_r (ι := (Option V × Option V) × List V × List Fm × Nat × Nat) many (fun k a => a.2.2.1.length = k ∧ a.2.2.2.1 ≤ ws.length ∧ fsOf ws many 0 = (fsOf ws (many - k) a.2.2.2.1).map fun r => (a.2.2.1 ++ r.1, r.2))
      (fun _ a => [some (.ref l), some (.int (many : Int)), some (.ref p), some (.ref lf), a.1.1, a.1.2]) (fun _ a => .dats a.2.1 (a.2.2.1.map Fm.data) :: Γ) (fun _ a => own lf (.lst a.2.1) :: own p (.ins (He.ga K "Words") dx (fl_Words (.ref l) (.int (a.2.2.2.1 : Int)) (.int (a.2.2.2.2 : Int)))) :: own l (.lst (ws.map V.str)) :: S)
      ((none, none), [], [], 0, 0) ⟨rfl, Nat.zero_le _, by rw [Nat.sub_zero]; cases fsOf ws many 0 <;> rfl⟩ rfl (by k_extra "sub") (by k_extra "dr") ?_ ?_
    · rintro k ⟨⟨u1, u2⟩, vs, fs, i, c⟩ hk ⟨h1, h2, h3⟩
      dsimp only at h1 h2 h3 ⊢
      refine w_lenv (vs := vs) (by k_extra "m") fun hvl => ?_
      rw [List.length_map] at hvl
      k_extra "W"
      refine w_don (⟨p, dx, l, ws, i, c⟩ : WdI) (by dsimp only [wdS]; k_extra "ts") ⟨h2, hwl, hww⟩ ?_
      rintro v Γ' S' ⟨hO, rfl⟩
      dsimp only [wdS, List.cons_append, List.nil_append] at hO ⊢
      have hst : fsOf ws (many - k) i = match pF loneB 16 ws i 0 with
          | (none, _, _) => none
          | (some f, j, _) => (fsOf ws (many - (k + 1)) j).map fun r => (f :: r.1, r.2) := by
        rw [show many - k = (many - (k + 1)) + 1 by omega, fsOf]
      obtain ⟨⟨r1, j, d⟩, hr1⟩ : ∃ r, pF loneB 16 ws i 0 = r := ⟨_, rfl⟩
      rw [hr1] at hO hst ⊢
      dsimp only at hO hst ⊢
      cases r1 with
      | none =>
        obtain ⟨rfl, rfl⟩ := hO
        dsimp only [List.nil_append]
        k_extra "W"
        exact non (by unfold fsB; rw [h3, hst]; rfl) _ _ (by k_extra "sub") (by k_extra "dr")
      | some f =>
        obtain ⟨a, rfl, rfl⟩ := hO
        have g1 := pF_some hr1
        dsimp only [List.cons_append, List.nil_append] at hst ⊢
        k_extra "W"
        refine w_app (by k_extra "sw") (by omega) ?_
        k_extra "W"
        refine w_dats (vs := vs ++ [.ref a]) (ds := (fs ++ [f]).map Fm.data) (by rw [List.map_append]; exact DL.snoc (DL.mem (by k_extra "m")) (DV.mem (by k_extra "m"))) ?_
        refine w_again ((_, _), vs ++ [.ref a], fs ++ [f], j, d) ⟨by dsimp only; rw [List.length_append, h1]; rfl, g1.2.2.2, ?_⟩ rfl (by k_extra "sub") (by k_extra "dr")
        dsimp only
        rw [h3, hst, Option.map_map]
        congr 1
        funext r
        simp
    rintro ⟨⟨u1, u2⟩, vs, fs, i, c⟩ ⟨h1, h2, h3⟩
    dsimp only at h1 h2 h3 ⊢
    rw [Nat.sub_self, fsOf, Option.map_some, List.append_nil] at h3
    have hb : fsB ws many = if i < ws.length then none else some fs := by unfold fsB; rw [h3]; rfl
    k_extra "W"
    refine w_lenL (by k_extra "at") ?_
    rw [List.length_map]
    k_extra "W"
    refine w_ite (fun h4 => ?_) (fun h4 => ?_)
    · k_extra "W"
      exact non (by rw [hb, if_pos (by omega)]) _ _ (by k_extra "sub") (by k_extra "dr")
    · k_extra "W"
      exact fun H y => q _ [.dats vs (fs.map Fm.data)] _ H (by unfold FsI.Post; dsimp only; rw [hb, if_neg (by omega)]; exact ⟨lf, vs, rfl, rfl, rfl⟩) (y.fit (by k_extra "sub") (by k_extra "dr"))
end
end Mo
namespace Mo
open PySem PySem.Spec PyProof.Rows L2
/-! ### NoText made -/
section
variable {P : Program} {w : World} {K : PySem.W.Frag} {mg : Str → Option Value} {base : Heap}
theorem ok_NoText_init (T : Tx K mg) : OkM P w K mg base 1 "NoText" "__init__" ["self", "line"] (spNT (He.ga K "NoText") "line") := by
  refine T.f_NoText_init.okX sc_NoText_init (fun vs H Q E h => ?_) (fun cdv A outer s H vs Q E hr h => ?_)
  · obtain ⟨a, y, rfl, _⟩ := h
    rfl
  · have hu1 := hu_of hr; have hu0 := hr.units0; have hu64 := hr.units; have hu65 := hu65_of hr; have nd := sc_NoText_init.nd
    obtain ⟨a, y, rfl, ha, q⟩ := h
    refine ⟨_, (pss_one (ps_ostK (K := K) rfl (pv 0) (pv 1))), ?_⟩
    refine go_start (σ' := [some (.ref a), some y]) rfl ?_
    exact ⟨y, rfl, .ref a, rfl, a, He.ga K "NoText", rfl, T.o_NoText.c, T.o_NoText.n "line" List.mem_cons_self, .inl ⟨ha, fun dx hd hne => q dx hd hne⟩⟩
end
end Mo
namespace Mo
open PySem PySem.Spec PyProof.Rows L2
/-! ### states compared; slices -/
section
variable {K : PySem.W.Frag} {H : Hp} {Q : VK} {a b : Addr}
theorem go_eqV {x y : V} (h : EqR K H (EqV K H 2) x y) (k : Q (.bl true) H) : rEqA K x y H Q := .inr (.inr ⟨2, by decide, h, k⟩)
theorem go_eqVn {x y : V} (n : Nat) (hn : n ≤ 60) (h : EqR K H (EqV K H n) x y) (k : Q (.bl true) H) : rEqA K x y H Q := .inr (.inr ⟨n, hn, h, k⟩)
theorem eqr_boxes {bs : List (Str × Int)} (h1 : H a = some (.dK (boxesV bs))) (h2 : H b = some (.dK (boxesV bs))) (nd : (bs.map (·.1)).Nodup) {n : Nat} : EqR K H (EqV K H (n + 1)) (.ref a) (.ref b) := by
  refine .inr ⟨a, b, _, _, rfl, rfl, h1, h2, rfl, fun p hp => ⟨p.2, ?_, ?_⟩⟩
  · refine (val_mem ?_).mp hp
    rw [boxesV_keys]
    have : (bs.map fun p => (Sum.inr p.1 : Key)) = (bs.map (·.1)).map Sum.inr := by rw [List.map_map]; rfl
    rw [this]
    rw [List.nodup_iff_pairwise_ne] at nd ⊢
    rw [List.pairwise_map]
    exact nd.imp fun h z => h (Sum.inr.inj z)
  · unfold boxesV at hp
    obtain ⟨q, _, rfl⟩ := List.mem_map.mp hp
    exact .inl ⟨rfl, rfl⟩
theorem paired_ints (ns : List Int) {n : Nat} : Paired (EqV K H (n + 1)) (ns.map V.int) (ns.map V.int) := by
  induction ns with
  | nil => exact .nil
  | cons i r ih => exact .cons (.inl ⟨rfl, rfl⟩) ih
theorem eqr_queues {qs : List (Str × List Int)} {as cs : List Addr} (h1 : H a = some (.dK (queuesV qs as))) (h2 : H b = some (.dK (queuesV qs cs))) (nd : (qs.map (·.1)).Nodup) (l1 : qs.length = as.length) (l2 : qs.length = cs.length)
    (ha : ∀ (i : Nat) (x : Addr) (y : Str × List Int), qs[i]? = some y → as[i]? = some x → H x = some (.lst (y.2.map V.int))) (hc : ∀ (i : Nat) (x : Addr) (y : Str × List Int), qs[i]? = some y → cs[i]? = some x → H x = some (.lst (y.2.map V.int))) {n : Nat} : EqR K H (EqV K H (n + 2)) (.ref a) (.ref b) := by
  refine .inr ⟨a, b, _, _, rfl, rfl, h1, h2, ?_, fun p hp => ?_⟩
  · unfold queuesV
    rw [List.length_map, List.length_map, List.length_zip, List.length_zip]
    omega
  · unfold queuesV at hp
    obtain ⟨e, he, rfl⟩ := List.mem_map.mp hp
    obtain ⟨i, hi⟩ := List.mem_iff_getElem?.mp he
    obtain ⟨e1, e2⟩ := List.getElem?_zip_eq_some.mp hi
    have hil := (List.getElem?_eq_some_iff.mp e1).1
    obtain ⟨c, hc1⟩ : ∃ c, cs[i]? = some c := ⟨_, List.getElem?_eq_getElem (by omega)⟩
    refine ⟨.ref c, ?_, ?_⟩
    · refine (val_mem ?_).mp ?_
      · unfold queuesV
        rw [List.map_map]
        have : ((·.1) ∘ fun p : (Str × List Int) × Addr => ((Sum.inr p.1.1 : Key), V.ref p.2)) = fun p => (Sum.inr p.1.1 : Key) := rfl
        rw [this]
        have e3 : (qs.zip cs).map (fun p => (Sum.inr p.1.1 : Key)) = (qs.map (·.1)).map Sum.inr := by
          have : (qs.zip cs).map (fun p => (Sum.inr p.1.1 : Key)) = ((qs.zip cs).map (·.1)).map fun p => Sum.inr p.1 := by rw [List.map_map]; rfl
          rw [this, List.map_fst_zip (by omega), List.map_map]
          rfl
        rw [e3, List.nodup_iff_pairwise_ne, List.pairwise_map]
        rw [List.nodup_iff_pairwise_ne] at nd
        exact nd.imp fun h z => h (Sum.inr.inj z)
      · unfold queuesV
        exact List.mem_map.mpr ⟨(e.1, c), List.mem_of_getElem? (i := i) (List.getElem?_zip_eq_some.mpr ⟨e1, hc1⟩), rfl⟩
    · exact .inr (.inr (.inl ⟨_, _, _, _, rfl, rfl, SqL.of (ha i _ _ e1 e2), SqL.of (hc i _ _ e1 hc1), paired_ints _⟩))
/-! #### slices of lists -/
theorem go_slL {xs : List V} {lo hi : Option Int} (h : SqL K H a xs) (k : ∀ p, H p = none → Q (.ref p) (upd H p (.lst (cutV xs lo hi)))) : rSli K (.ref a) lo hi H Q := .inl ⟨a, xs, rfl, h, k⟩
theorem cut_take (xs : List V) (n : Nat) : cutV xs none (some (n : Int)) = xs.take n := by
  unfold cutV
  have e1 : HT.sIx xs.length 0 none = 0 := rfl
  rw [e1, HT.sIx_nat, List.drop_zero, Nat.sub_zero, ← List.take_take, List.take_of_length_le (Nat.le_refl _)] <;> rfl
theorem cut_mid (xs : List V) (m n : Nat) (h : m ≤ xs.length) : cutV xs (some (m : Int)) (some ((m + n : Nat) : Int)) = (xs.drop m).take n := by
  unfold cutV
  rw [HT.sIx_nat, HT.sIx_nat, Nat.min_eq_left h]
  rcases Nat.le_total (m + n) xs.length with z | z
  · rw [Nat.min_eq_left z, Nat.add_sub_cancel_left]
  · rw [Nat.min_eq_right z, List.take_of_length_le (by rw [List.length_drop]; exact Nat.le_refl _), List.take_of_length_le (by rw [List.length_drop]; omega)]
end
end Mo
namespace Mo
open PySem PySem.Spec PyProof.Rows L2
/-! ### more steps by facts and segments -/
section
variable {K : PySem.W.Frag} {Γ : List Fc} {S S' R : List Vo} {σ σ' : St} {H : Hp} {Q : VK} {D : Ends} {t tw : TS} {g : TG} {tA : TA} {A : Hp → Prop} {v y : V} {c : Str}
/-- what a clause 'except .. as x' catches -/
theorem w_as {cv : Value} {i : Nat} {ts : Addr → Value → Option Addr → TS} {Wout : WX} (hb : PySem.W.exmOne K (.ref (He.ga K c)) cv = some true)
    (k : ∀ a, Wh K Γ S fun H => ts a (.ref (He.ga K c)) none { nx := fun σ' H' => D.nx (σ'.set i none) H', rt := D.rt, bk := fun σ' H' => D.bk (σ'.set i none) H', ct := fun σ' H' => D.ct (σ'.set i none) H' } (σ.set i (some (.ref a))) H) :
    Wh K Γ S fun H => wAs K cv i ts Wout D (.ref (He.ga K c)) none σ H := fun H z => ⟨true, hb, fun _ a _ => k a H z, fun h => nomatch h⟩
theorem w_only {cv : Value} {ts : Addr → Value → Option Addr → TS} {Wout : WX} (hb : PySem.W.exmOne K (.ref (He.ga K c)) cv = some true)
    (k : ∀ a, Wh K Γ S fun H => ts a (.ref (He.ga K c)) none D σ H) :
    Wh K Γ S fun H => wOnly K cv ts Wout D (.ref (He.ga K c)) none σ H := fun H z => ⟨true, hb, fun _ a _ => k a H z, fun h => nomatch h⟩
/-- one leaves from its place -/
theorem w_popAt {p : Addr} {xs : List V} {j : Int} {n : Nat} (m : Sw p (.lst xs) (.lst (xs.eraseIdx n)) S S') (hj : j = (n : Int)) (hy : xs[n]? = some y) (hl : xs.length ≤ 1000000) (k : Wh K Γ S' fun H => Q y H) : Wh K Γ S fun H => rPopAt (.ref p) [.int j] H Q := fun H z => by
  subst hj
  have hn := (List.getElem?_eq_some_iff.mp hy).1
  refine ⟨p, xs, (n : Int), n, y, rfl, rfl, z.own m.mem, by omega, by omega, ?_, hy, k _ (z.sw m)⟩
  unfold seqIndex?
  simp
  omega
theorem dpa_erase {H : Hp} : ∀ {vs : List V} {ds : List PyData} (i : Nat), DpAll K H vs ds → DpAll K H (vs.eraseIdx i) (ds.eraseIdx i)
  | _, _, _, .nil => .nil
  | _, _, 0, .cons _ r => r
  | _, _, i + 1, .cons h r => .cons h (dpa_erase i r)
theorem DL.erase {vs : List V} {ds : List PyData} (i : Nat) (h : DL K Γ vs ds) : DL K Γ (vs.eraseIdx i) (ds.eraseIdx i) := fun G b => dpa_erase i (h G b)
theorem dpa_take' {H : Hp} : ∀ {vs : List V} {ds : List PyData} (n : Nat), DpAll K H vs ds → DpAll K H (vs.take n) (ds.take n)
  | _, _, 0, _ => .nil
  | _, _, _ + 1, .nil => .nil
  | _, _, n + 1, .cons h r => .cons h (dpa_take' n r)
theorem DL.take {vs : List V} {ds : List PyData} (i : Nat) (h : DL K Γ vs ds) : DL K Γ (vs.take i) (ds.take i) := fun G b => dpa_take' i (h G b)
/-- the data of one of them -/
theorem w_datsAt {vs : List V} {ds : List PyData} {j : Nat} {d : PyData} (m : .dats vs ds ∈ Γ) (h : ds[j]? = some d) (k : ∀ y, vs[j]? = some y → Wh K (.dat y d :: Γ) S A) : Wh K Γ S A := fun H z => by
  obtain ⟨G, a, b⟩ := z
  have t : DpAll K G vs ds := b _ m
  obtain ⟨y, e1, e2⟩ := dpa_get t h
  exact k y e1 H ⟨G, a, cons_facts (f := .dat y _) e2 b⟩
theorem w_datsGet {vs : List V} {ds : List PyData} {j : Nat} {y : V} {A : Hp → Prop} (m : .dats vs ds ∈ Γ) (h : vs[j]? = some y) (k : ∀ d, ds[j]? = some d → Wh K (.dat y d :: Γ) S A) : Wh K Γ S A := fun H z => by
  obtain ⟨G, a, b⟩ := z
  have t : DpAll K G vs ds := b _ m
  have hl := dpa_len t
  have hj := (List.getElem?_eq_some_iff.mp h).1
  obtain ⟨v, e1, e2⟩ := dpa_get t (List.getElem?_eq_getElem (show j < ds.length by omega))
  rw [h] at e1
  cases e1
  exact k _ (List.getElem?_eq_getElem (by omega)) H ⟨G, a, cons_facts (f := .dat y _) e2 b⟩
theorem w_lenO {K : PySem.W.Frag} {Γ : List Fc} {S : List Vo} {Q : VK} {a : Addr} {xs : List V} (m : .obj a (.tup xs) ∈ Γ) (k : Wh K Γ S fun H => Q (.int (xs.length : Int)) H) : Wh K Γ S fun H => rLenA K [.ref a] H Q := fun H z => go_lenT (SqT.of (z.obj m)) (k H z)
/-- slices of tuples, not the whole -/
theorem dpa_drop' {H : Hp} : ∀ {vs : List V} {ds : List PyData} (n : Nat), DpAll K H vs ds → DpAll K H (vs.drop n) (ds.drop n)
  | _, _, 0, h => h
  | _, _, _ + 1, .nil => .nil
  | _, _, n + 1, .cons _ r => dpa_drop' n r
theorem w_slTD {x : V} {ds es : List PyData} {lo hi : Option Int} (m : .dat x (.tuple ds) ∈ Γ) (hn : ¬ (HT.sIx ds.length 0 lo = 0 ∧ HT.sIx ds.length ds.length hi = ds.length)) (he : (ds.drop (HT.sIx ds.length 0 lo)).take (HT.sIx ds.length ds.length hi - HT.sIx ds.length 0 lo) = es) (k : ∀ p, Wh K (.dat (.ref p) (.tuple es) :: Γ) S fun H => Q (.ref p) H) : Wh K Γ S fun H => rSli K x lo hi H Q := fun H z => by
  obtain ⟨G, a, b⟩ := z
  obtain ⟨p, xs, rfl, t1, t2⟩ := dp_tup (b _ m : Dp K G x (.tuple ds))
  have hl := dpa_len t2
  refine .inr (.inl ⟨p, xs, rfl, ext_t a.ex t1, by rw [hl]; exact hn, fun q hq => k q _ ⟨_, a.fix hq, fun g mg => ?_⟩⟩)
  rcases List.mem_cons.mp mg with e | mg
  · rw [e, ← he]
    refine .tup (SqT.of upd_same) (dpa_mono (Ext.new (a.gno hq)) ?_)
    unfold cutV
    rw [hl]
    exact dpa_take' _ (dpa_drop' _ t2)
  · exact Fc.mono (Ext.new (a.gno hq)) (b g mg)
theorem w_slTO {a : Addr} {xs ys : List V} {lo hi : Option Int} (m : .obj a (.tup xs) ∈ Γ) (hn : ¬ (HT.sIx xs.length 0 lo = 0 ∧ HT.sIx xs.length xs.length hi = xs.length)) (he : cutV xs lo hi = ys) (k : ∀ p, Wh K (.obj p (.tup ys) :: Γ) S fun H => Q (.ref p) H) : Wh K Γ S fun H => rSli K (.ref a) lo hi H Q := fun H z =>
  .inr (.inl ⟨a, xs, rfl, SqT.of (z.obj m), hn, fun q hq => by rw [he]; exact k q _ (z.fix hq)⟩)
/-- a list cut, as a new list -/
theorem cut_drop {xs : List V} {n : Nat} : cutV xs (some (n : Int)) none = xs.drop n := by
  unfold cutV
  rw [HT.sIx_nat, show HT.sIx xs.length xs.length none = xs.length from rfl, List.take_of_length_le (by rw [List.length_drop]; omega)]
  rcases Nat.le_total n xs.length with h | h
  · rw [Nat.min_eq_left h]
  · rw [Nat.min_eq_right h, List.drop_of_length_le (Nat.le_refl _), List.drop_of_length_le h]
theorem w_slLD {p : Addr} {xs : List V} {j : Int} (n : Nat) (hj : j = (n : Int)) (m : AtH K Γ S p (.lst xs)) (k : ∀ l, Wh K Γ (own l (.lst (xs.drop n)) :: S) fun H => Q (.ref l) H) : Wh K Γ S fun H => rSli K (.ref p) (some j) none H Q := fun H z => by
  subst hj
  refine go_slL (SqL.of (m H z)) fun l hl => ?_
  rw [cut_drop]
  exact k l _ (z.new hl)
theorem w_slLT {p : Addr} {xs : List V} {j : Int} (n : Nat) (hj : j = (n : Int)) (m : AtH K Γ S p (.lst xs)) (k : ∀ l, Wh K Γ (own l (.lst (xs.take n)) :: S) fun H => Q (.ref l) H) : Wh K Γ S fun H => rSli K (.ref p) none (some j) H Q := fun H z => by
  subst hj
  refine go_slL (SqL.of (m H z)) fun l hl => ?_
  rw [cut_take]
  exact k l _ (z.new hl)
/-- a tuple, by its data -/
theorem tyx_t {H : Hp} {a : Addr} {xs : List V} (h : SqT K H a xs) : TyX K H (.ref a) (.type "tuple") := by
  rcases h with (h | ⟨o, h⟩) | ⟨o, its, n, h1, h2, _⟩
  · exact .base (.tup h)
  · exact .fTuple h
  · exact .kTuple h1 h2
theorem w_isi_tD {a : Addr} {ds : List PyData} (m : .dat (.ref a) (.tuple ds) ∈ Γ) (k : Wh K Γ S fun H => Q (.bl true) H) : Wh K Γ S fun H => rIsi K [.ref a, .ty "tuple"] H Q := fun H z => by
  obtain ⟨b, xs, e, h1, _⟩ := dp_tup (z.dat m)
  cases e
  exact go_isi (.ty _) (tyx_t h1) (kit_ty (by decide +kernel)) (k H z)
theorem w_nonv (m : .dat v .none ∈ Γ) (k : v = .non → Wh K Γ S A) : Wh K Γ S A := fun H z => k (dp_non (z.dat m)) H z
theorem w_tupv {ds : List PyData} (m : .dat v (.tuple ds) ∈ Γ) (k : ∀ a, v = .ref a → Wh K Γ S A) : Wh K Γ S A := fun H z => by
  obtain ⟨a, xs, e, _⟩ := dp_tup (z.dat m)
  exact k a e H z
theorem w_lstv {ds : List PyData} (m : .dat v (.list ds) ∈ Γ) (k : ∀ a, v = .ref a → Wh K Γ S A) : Wh K Γ S A := fun H z => by
  obtain ⟨a, xs, e, _⟩ := dp_lst (z.dat m)
  exact k a e H z
theorem erase_map {α β : Type} (f : α → β) : ∀ (l : List α) (i : Nat), (l.map f).eraseIdx i = (l.eraseIdx i).map f
  | [], _ => rfl
  | _ :: _, 0 => rfl
  | _ :: r, i + 1 => by
    rw [List.map_cons, List.eraseIdx_cons_succ, List.eraseIdx_cons_succ, List.map_cons, erase_map f r i]
/-! #### enumerate -/
def forEnum (K : PySem.W.Frag) (g : TG) (tw : TS) (D : Ends) (σ : St) (vs : List V) (H : Hp) : Prop := ∃ a xs, vs = [.ref a] ∧ SqL K H a xs ∧ LoopX g tw D σ H (Ite K a)
theorem w_forEnum (k : Wh K Γ S fun H => tA σ H fun vs H1 => forEnum K g tw D σ vs H1) : Wh K Γ S fun H => tFor (iEnum K tA) g tw D σ H := k
theorem w_enumD {p : Addr} {ds : List PyData} (m : .dat (.ref p) (.list ds) ∈ Γ) (k : Wh K Γ S fun H => LoopX g tw D σ H (Ite K p)) : Wh K Γ S fun H => forEnum K g tw D σ [.ref p] H := fun H z => by
  obtain ⟨a, xs, ea, h1, h2⟩ := dp_lst (z.dat m)
  cases ea
  exact ⟨p, xs, rfl, h1, k H z⟩
theorem w_enumL {p : Addr} {xs : List V} (m : AtH K Γ S p (.lst xs)) (k : Wh K Γ S fun H => LoopX g tw D σ H (Ite K p)) : Wh K Γ S fun H => forEnum K g tw D σ [.ref p] H := fun H z => ⟨p, xs, rfl, SqL.of (m H z), k H z⟩
theorem fixT {T : Addr} {xs : List V} (z : Hg K Γ S H) (hT : H T = none) : Hg K (.obj T (.tup xs) :: Γ) S (upd H T (.tup xs)) := z.fix hT
theorem w_loop_eD {ι : Type} {p : Addr} (ds : List PyData) (C : Nat → ι → Prop) (sg : Nat → ι → St) (Γf : Nat → ι → List Fc) (Sf : Nat → ι → List Vo) (a0 : ι) (h0 : C 0 a0) (hσ : σ = sg 0 a0) (hΓ : ∀ f ∈ Γf 0 a0, f ∈ Γ) (hS : Dr S (Sf 0 a0))
    (hl : ∀ i a, .dat (.ref p) (.list ds) ∈ Γf i a)
    (hs : ∀ (i : Nat) d v T a, ds[i]? = some d → C i a → Wh K (.obj T (.tup [.int (i : Int), v]) :: .dat v d :: Γf i a) (Sf i a) fun H => g (.ref T) (sg i a) H fun σ2 H2 => tw { D with nx := NX K (C (i + 1)) (sg (i + 1)) (Γf (i + 1)) (Sf (i + 1)), ct := NX K (C (i + 1)) (sg (i + 1)) (Γf (i + 1)) (Sf (i + 1)), bk := D.nx } σ2 H2)
    (hd : ∀ a, C ds.length a → Wh K (Γf ds.length a) (Sf ds.length a) fun H => D.nx (sg ds.length a) H) : Wh K Γ S fun H => LoopX g tw D σ H (Ite K p) := fun H z => by
  refine ⟨fun i m σ H => m = ds.length - i ∧ i ≤ ds.length ∧ NX K (C i) (sg i) (Γf i) (Sf i) σ H, ⟨ds.length, by simp, Nat.zero_le _, w_again a0 h0 hσ hΓ hS H z⟩, ?_⟩
  rintro i m σ' H' ⟨rfl, hi, a, hC, hσ, z'⟩
  subst hσ
  obtain ⟨G, z1, z2⟩ := id z'
  obtain ⟨b, ys, ea, t1, t2⟩ := dp_lst (z2 _ (hl i a) : Dp K G (.ref p) (.list ds))
  cases ea
  have hlen := dpa_len t2
  by_cases hlt : i < ds.length
  · obtain ⟨v, e1, e2⟩ := dpa_get t2 (List.getElem?_eq_getElem hlt)
    refine .inr ⟨⟨ys, v, ext_l z1.ex t1, e1⟩, NX K (C (i + 1)) (sg (i + 1)) (Γf (i + 1)) (Sf (i + 1)), fun σ'' H'' p' => ⟨ds.length - (i + 1), by omega, rfl, hlt, p'⟩, fun x H'' y => ?_⟩
    obtain ⟨T, w, rfl, hT, rfl, y2⟩ := y
    have zz : Hg K (.dat w (ds[i]) :: Γf i a) (Sf i a) H' := ⟨G, z1, cons_facts (f := .dat w _) (go_Q (xs := ys) (z2 _ (hl i a)) z1.ex y2 (List.getElem?_eq_getElem hlt)) z2⟩
    exact hs i _ w T a (List.getElem?_eq_getElem hlt) hC _ (fixT zz hT)
  · have e : i = ds.length := by omega
    subst e
    exact .inl ⟨⟨ys, ext_l z1.ex t1, by omega⟩, hd a hC H' z'⟩
theorem w_loop_eL {ι : Type} {p : Addr} (xs : List V) (C : Nat → ι → Prop) (sg : Nat → ι → St) (Γf : Nat → ι → List Fc) (Sf : Nat → ι → List Vo) (a0 : ι) (h0 : C 0 a0) (hσ : σ = sg 0 a0) (hΓ : ∀ f ∈ Γf 0 a0, f ∈ Γ) (hS : Dr S (Sf 0 a0))
    (hl : ∀ i a, AtH K (Γf i a) (Sf i a) p (.lst xs))
    (hs : ∀ (i : Nat) v T a, xs[i]? = some v → C i a → Wh K (.obj T (.tup [.int (i : Int), v]) :: Γf i a) (Sf i a) fun H => g (.ref T) (sg i a) H fun σ2 H2 => tw { D with nx := NX K (C (i + 1)) (sg (i + 1)) (Γf (i + 1)) (Sf (i + 1)), ct := NX K (C (i + 1)) (sg (i + 1)) (Γf (i + 1)) (Sf (i + 1)), bk := D.nx } σ2 H2)
    (hd : ∀ a, C xs.length a → Wh K (Γf xs.length a) (Sf xs.length a) fun H => D.nx (sg xs.length a) H) : Wh K Γ S fun H => LoopX g tw D σ H (Ite K p) := fun H z => by
  refine ⟨fun i m σ H => m = xs.length - i ∧ i ≤ xs.length ∧ NX K (C i) (sg i) (Γf i) (Sf i) σ H, ⟨xs.length, by simp, Nat.zero_le _, w_again a0 h0 hσ hΓ hS H z⟩, ?_⟩
  rintro i m σ' H' ⟨rfl, hi, a, hC, hσ, z'⟩
  subst hσ
  have hx := SqL.of (K := K) (hl i a H' z')
  by_cases hlt : i < xs.length
  · refine .inr ⟨⟨xs, xs[i], hx, List.getElem?_eq_getElem hlt⟩, NX K (C (i + 1)) (sg (i + 1)) (Γf (i + 1)) (Sf (i + 1)), fun σ'' H'' p' => ⟨xs.length - (i + 1), by omega, rfl, hlt, p'⟩, fun x H'' y => ?_⟩
    obtain ⟨T, w, rfl, hT, rfl, y2⟩ := y
    exact hs i w T a (y2 xs hx) hC _ (fixT z' hT)
  · have e : i = xs.length := by omega
    subst e
    exact .inl ⟨⟨xs, hx, Nat.le_refl _⟩, hd a hC H' z'⟩
/-! #### comprehensions over enumerate -/
variable {tt : TT} {te : TE} {wv : List Nat}
def lcEnum (K : PySem.W.Frag) (g : TG) (tt : TT) (te : TE) (wv : List Nat) (σ : St) (Q : VK) (vs : List V) (H : Hp) : Prop := ∃ a xs, vs = [.ref a] ∧ SqL K H a xs ∧ LcA g tt te wv σ Q H (Ite K a)
theorem w_lcEnum (k : Wh K Γ S fun H => tA σ H fun vs H1 => lcEnum K g tt te wv σ Q vs H1) : Wh K Γ S fun H => tLc (iEnum K tA) g tt te wv σ H Q := k
theorem w_lcEnumL {p : Addr} {xs : List V} (m : AtH K Γ S p (.lst xs)) (k : Wh K Γ S fun H => LcA g tt te wv σ Q H (Ite K p)) : Wh K Γ S fun H => lcEnum K g tt te wv σ Q [.ref p] H := fun H z => ⟨p, xs, rfl, SqL.of (m H z), k H z⟩
theorem w_lc_eL {ι : Type} {p : Addr} (xs : List V) (C : Nat → ι → Prop) (ac : Nat → ι → List V) (Γf : Nat → ι → List Fc) (Sf : Nat → ι → List Vo) (a0 : ι) (h0 : C 0 a0) (ha : ac 0 a0 = []) (hΓ : ∀ f ∈ Γf 0 a0, f ∈ Γ) (hS : Dr S (Sf 0 a0))
    (hl : ∀ i a, AtH K (Γf i a) (Sf i a) p (.lst xs))
    (hs : ∀ Dl (i : Nat) v T a, xs[i]? = some v → C i a → Wh K (.obj T (.tup [.int (i : Int), v]) :: Γf i a) (own Dl (.lst (ac i a)) :: Sf i a) fun H => g (.ref T) (wipe σ wv) H fun σ2 H2 => wipe σ2 wv = wipe σ wv ∧ tt σ2 H2 fun b H3 =>
      if b = true then te σ2 H3 fun y H4 => ∃ acc, H4 Dl = some (.lst acc) ∧ acc.length < sizeLine ∧ NL K Dl (C (i + 1)) (ac (i + 1)) (Γf (i + 1)) (Sf (i + 1)) (upd H4 Dl (.lst (acc ++ [y]))) else NL K Dl (C (i + 1)) (ac (i + 1)) (Γf (i + 1)) (Sf (i + 1)) H3)
    (hd : ∀ Dl a, C xs.length a → Wh K (Γf xs.length a) (own Dl (.lst (ac xs.length a)) :: Sf xs.length a) fun H => Q (.ref Dl) H) : Wh K Γ S fun H => LcA g tt te wv σ Q H (Ite K p) := fun H z Dl hD => by
  refine ⟨fun i m H => m = xs.length - i ∧ i ≤ xs.length ∧ NL K Dl (C i) (ac i) (Γf i) (Sf i) H, ⟨xs.length, by simp, Nat.zero_le _, a0, h0, by rw [ha]; exact (z.fit hΓ hS).new hD⟩, ?_⟩
  rintro i m H' ⟨rfl, hi, a, hC, z'⟩
  have hx := SqL.of (K := K) (hl i a H' z'.pop)
  by_cases hlt : i < xs.length
  · refine .inr ⟨⟨xs, xs[i], hx, List.getElem?_eq_getElem hlt⟩, NL K Dl (C (i + 1)) (ac (i + 1)) (Γf (i + 1)) (Sf (i + 1)), fun H'' p' => ⟨xs.length - (i + 1), by omega, rfl, hlt, p'⟩, fun x H'' y => ?_⟩
    obtain ⟨T, w, rfl, hT, rfl, y2⟩ := y
    exact hs Dl i w T a (y2 xs hx) hC _ (fixT z' hT)
  · have e : i = xs.length := by omega
    subst e
    exact .inl ⟨⟨xs, hx, Nat.le_refl _⟩, hd Dl a hC H' z'⟩
end
section
variable {K : PySem.W.Frag} {Γ : List Fc} {S : List Vo} {σ : St} {D : Ends} {t u : TS}
/-- a part behind which all is as ahead of it, but for the slots -/
theorem w_cutS (σ1 : St) (h1 : Wh K Γ S fun H => t { D with nx := NX K (fun _ : Unit => True) (fun _ => σ1) (fun _ => Γ) (fun _ => S) } σ H) (h2 : Wh K Γ S fun H => u D σ1 H) : Wh K Γ S fun H => Evl.tCut t u D σ H :=
  w_cut (ι := Unit) (fun _ => True) (fun _ => σ1) (fun _ => Γ) (fun _ => S) h1 fun _ _ => h2
end
section
variable {K : PySem.W.Frag} {Γ : List Fc} {S : List Vo} {σ : St} {D : Ends} {t u : TS} {Q : VK}
theorem w_cutD (d : PyData) (sg : V → St) (h1 : Wh K Γ S fun H => t { D with nx := NX K (fun _ : V => True) sg (fun v => .dat v d :: Γ) (fun _ => S) } σ H) (h2 : ∀ v, Wh K (.dat v d :: Γ) S fun H => u D (sg v) H) : Wh K Γ S fun H => Evl.tCut t u D σ H :=
  w_cut (ι := V) (fun _ => True) sg (fun v => .dat v d :: Γ) (fun _ => S) h1 fun v _ => h2 v
theorem w_ij {a b : Int} {A : Int → Int → Hp → Prop} (k : Wh K Γ S fun H => A a b H) : Wh K Γ S fun H => ∃ i j, [V.int a, V.int b] = [V.int i, V.int j] ∧ A i j H := fun H z => ⟨a, b, rfl, k H z⟩
/-- one of a list, by what it is -/
theorem w_pick {p : Addr} {xs : List V} {j : Int} {d : PyData} (m : AtH K Γ S p (.lst xs)) (h : ∃ v, atI xs j = some v ∧ DV K Γ v d) (k : ∀ v, Wh K (.dat v d :: Γ) S fun H => Q v H) : Wh K Γ S fun H => rSub K (.ref p) (.int j) H Q := by
  obtain ⟨v, e, hd⟩ := h
  exact w_sub m e (w_dat hd (k v))
end
/-! #### promises for any of a kind -/
def spEx {α : Type} (f : α → Sp) : Sp := fun vs H Q E => ∃ a, f a vs H Q E
theorem fn_ex {α : Type} {f : α → Sp} {P : Program} {w : World} {K : PySem.W.Frag} {mg : Str → Option Value} {base : Heap} {CX : CXT} {k : Nat} {fa : Addr} {fd : FuncData} {ps : List Str} (F : ∀ a, FnOk P w K mg base CX k fa fd ps (f a)) : FnOk P w K mg base CX k fa fd ps (spEx f) :=
  ⟨fun vs H Q E ⟨a, h⟩ => (F a).len vs H Q E h, fun A outer s H args us vs Q E hr he hb hv ⟨a, hs⟩ => (F a).run A outer s H args us vs Q E hr he hb hv hs⟩
theorem w_ex {α : Type} {f : α → Sp} {K : PySem.W.Frag} {Γ : List Fc} {S : List Vo} {vs : List V} {Q : VK} {E : XK} (a : α) (k : Wh K Γ S fun H => f a vs H Q E) : Wh K Γ S fun H => spEx f vs H Q E := fun H z => ⟨a, k H z⟩
end Mo
namespace Mo
open PySem PySem.Spec PyProof.Rows L2
/-! ### formula_of -/
def fofB (x : Str) : Option (List Fm) := fsB (Txt.split x blank) 1
def spFof (K : PySem.W.Frag) : Sp := SpE K (fun x : Str => [.str x]) (fun x _ => (TL.tl x).length ≤ 40000) (fun _ => [])
  (fun x v Γ' S' => ∃ f fs a, fofB x = some (f :: fs) ∧ v = .ref a ∧ Γ' = [.dat (.ref a) f.data] ∧ S' = []) (fun x e d Γ' S' => fofB x = none ∧ noTextX K 1 e d Γ' S')
theorem fsB_one {ws : List Str} {fs : List Fm} (h : fsB ws 1 = some fs) : ∃ f, fs = [f] := by
  unfold fsB at h
  rw [fsOf] at h
  split at h
  · cases h
  · rename_i f j d _
    rw [fsOf, Option.map_some, Option.bind_some] at h
    split at h
    · cases h
    · injection h with h
      exact ⟨f, h.symm⟩
theorem w_fref {K : PySem.W.Frag} {Γ : List Fc} {S : List Vo} {A : Hp → Prop} {v : V} {f : Fm} (m : .dat v f.data ∈ Γ) (k : ∀ a, v = .ref a → Wh K Γ S A) : Wh K Γ S A := fun H z => by
  have ht : ∃ ds, f.data = .tuple ds := by cases f <;> exact ⟨_, rfl⟩
  obtain ⟨ds, hd⟩ := ht
  have h := z.dat m
  rw [hd] at h
  obtain ⟨a, xs, rfl, _⟩ := dp_tup h
  exact k a rfl H z
section
variable {P : Program} {w : World} {K : PySem.W.Frag} {mg : Str → Option Value} {base : Heap}
end
end Mo
namespace Mo
open PySem PySem.Spec PyProof.Rows L2
/-! ### words and numbers, written -/
inductive Wd where
  | i (n : Int)
  | s (x : Str)
  deriving DecidableEq
def Wd.v : Wd → V
  | .i n => .int n
  | .s x => .str x
def Wd.d : Wd → PyData
  | .i n => .int n
  | .s x => .str x
def Wd.t : Wd → Str
  | .i n => Str.ofString (toString n)
  | .s x => x
/-- not long -/
def Wd.Ok : Wd → Prop
  | .i n => Bd 128 n
  | .s x => x.length ≤ 900
theorem log_bdW {n : Int} (h : Bd 128 n) : n.natAbs.log2 < 1920 := by
  by_cases h0 : n.natAbs = 0
  · rw [h0]; decide
  · have := (Nat.log2_lt h0).mpr h
    omega
def rStrIS : List V → Hp → VK → Prop := fun xs H Q => (∃ i, xs = [.int i] ∧ i.natAbs.log2 < 1920 ∧ Q (.str (Str.ofString (toString i))) H) ∨ ∃ a, xs = [.str a] ∧ Q (.str a) H
theorem cr_strIS {X : Cx} : CallR X (.type "str") rStrIS := call_str_int.or SkE.call_str_str
theorem w_strW {K : PySem.W.Frag} {Γ : List Fc} {S : List Vo} {Q : VK} {w : Wd} (h : w.Ok) (k : Wh K Γ S fun H => Q (.str w.t) H) : Wh K Γ S fun H => rStrIS [w.v] H Q := fun H z => by
  cases w with
  | i n => exact .inl ⟨n, rfl, log_bdW h, k H z⟩
  | s x => exact .inr ⟨x, rfl, k H z⟩
def nl : Str := "\n"
theorem tl_nl : TL.tl nl = [10] := by decide +kernel
/-- words joined by blanks -/
def wrT (ws : List Wd) : Str := Txt.join blank (ws.map Wd.t)
/-- signs of a whole number -/
theorem tl_intW (n : Int) : TL.tl (Str.ofString (toString n)) = if n < 0 then 45 :: TL.numL n.natAbs else TL.numL n.natAbs := by
  cases n with
  | ofNat m =>
    rw [if_neg (by show ¬ ((m : Int) < 0); omega)]
    exact TL.tl_num m
  | negSucc m =>
    rw [if_pos (Int.negSucc_lt_zero m)]
    rw [TL.tl_ofString]
    show (("-" ++ toString (m + 1) : String)).toList.map Char.toNat = _
    rw [String.toList_append, List.map_append]
    have h := TL.tl_num (m + 1)
    rw [TL.tl_ofString] at h
    exact congrArg (45 :: ·) h
theorem Wd.Ok.len {w : Wd} (h : w.Ok) : w.t.length ≤ 900 := by
  cases w with
  | s x => exact h
  | i n =>
    have h : n.natAbs < 2 ^ 128 := h
    have hl := TL.numL_len (n := n.natAbs) (k := 40) (by decide) (Nat.lt_trans h (by decide))
    show (Str.ofString (toString n)).length ≤ 900
    rw [TL.len_tl, tl_intW]
    split
    · rw [List.length_cons]; omega
    · omega
end Mo
namespace Mo
open PySem PySem.Spec PyProof.Rows L2
/-! ### words and numbers as data -/
def Wd.tup (ws : List Wd) : PyData := .tuple (ws.map Wd.d)
theorem dpa_wdv {K : PySem.W.Frag} {H : Hp} : ∀ ws : List Wd, DpAll K H (ws.map Wd.v) (ws.map Wd.d)
  | [] => .nil
  | .i n :: ws => .cons (.int n) (dpa_wdv ws)
  | .s x :: ws => .cons (.str x) (dpa_wdv ws)
theorem dpa_wds {K : PySem.W.Frag} {H : Hp} : ∀ {ws : List Wd} {vs : List V}, DpAll K H vs (ws.map Wd.d) → vs = ws.map Wd.v
  | [], _, .nil => rfl
  | .i n :: ws, _, .cons h t => by rw [dp_int h, dpa_wds t]; rfl
  | .s x :: ws, _, .cons h t => by rw [dp_str h, dpa_wds t]; rfl
theorem DL.wds {K : PySem.W.Frag} {Γ : List Fc} {ws : List Wd} : DL K Γ (ws.map Wd.v) (ws.map Wd.d) := fun _ _ => dpa_wdv ws
theorem wdv_flat : ∀ ws : List Wd, (ws.map Wd.v).all flatV = true
  | [] => rfl
  | .i _ :: ws => wdv_flat ws
  | .s _ :: ws => wdv_flat ws
theorem wdv_noN : ∀ ws : List Wd, inV .non (ws.map Wd.v) = false
  | [] => rfl
  | .i _ :: ws => wdv_noN ws
  | .s _ :: ws => wdv_noN ws
section
variable {K : PySem.W.Frag} {Γ : List Fc} {S S' : List Vo} {Q : VK} {A : Hp → Prop}
theorem w_listW {v : V} {ws : List Wd} (m : .dat v (Wd.tup ws) ∈ Γ) (k : ∀ l, Wh K Γ (own l (.lst (ws.map Wd.v)) :: S) fun H => Q (.ref l) H) : Wh K Γ S fun H => rListOf K [v] H Q := fun H z => by
  obtain ⟨a, xs, rfl, h1, h2⟩ := dp_tup (z.dat m)
  have e := dpa_wds h2
  subst e
  exact go_listT h1 fun l hl => k l _ (z.new hl)
theorem w_objW {a : Addr} {xs : List V} {ws : List Wd} (m : .obj a (.tup xs) ∈ Γ) (e : xs = ws.map Wd.v) (k : Wh K (.dat (.ref a) (Wd.tup ws) :: Γ) S A) : Wh K Γ S A := Wh.learn (f := .dat (.ref a) (Wd.tup ws)) (by subst e; exact DV.tup m DL.wds) k
theorem w_inTo {a : Addr} {x : V} {xs : List V} {b : Bool} (m : .obj a (.tup xs) ∈ Γ) (fx : flatV x = true) (fs : xs.all flatV = true) (e : inV x xs = b) (k : Wh K Γ S fun H => Q (.bl b) H) : Wh K Γ S fun H => rInA K x (.ref a) H Q := fun H z => .inr (.inl ⟨a, xs, rfl, .inr (SqT.of (z.obj m)), fx, fs, by rw [e]; exact k H z⟩)
end
end Mo
namespace Mo
open PySem PySem.Spec PyProof.Rows L2
/-! ### many segments as one -/
def segsV {α : Type} (f : α → Vo) (es : List α) : Vo := (es.map f).flatten
section
variable {α : Type} {f : α → Vo} {K : PySem.W.Frag} {Γ : List Fc} {S R S0 : List Vo} {A B es : List α} {e : α} {P : Hp → Prop}
theorem segsV_app (A B : List α) : segsV f (A ++ B) = segsV f A ++ segsV f B := by
  unfold segsV
  rw [List.map_append, List.flatten_append]
theorem segsV_mid (A : List α) (e : α) (B : List α) : segsV f (A ++ e :: B) = segsV f A ++ (f e ++ segsV f B) := by
  rw [segsV_app]
  rfl
theorem segsV_snoc (A : List α) (e : α) : segsV f (A ++ [e]) = segsV f A ++ f e := by
  rw [segsV_mid]
  show _ ++ (_ ++ []) = _
  rw [List.append_nil]
theorem w_segOpen (m : Take (segsV f (A ++ e :: B)) S R) (k : Wh K Γ (f e :: segsV f A :: segsV f B :: R) P) : Wh K Γ S P := fun H z =>
  k H ((z.tk1 m).cong (by
    rw [segsV_mid, List.flatten_cons, List.flatten_cons, List.flatten_cons, List.flatten_cons, List.append_assoc, List.append_assoc, ← List.append_assoc, ← List.append_assoc (segsV f A)]
    exact List.Perm.append_right _ List.perm_append_comm))
theorem Dr.seg (h : Dr S0 (f e :: segsV f A :: segsV f B :: R)) : Dr S0 (segsV f (A ++ e :: B) :: R) := by
  obtain ⟨J, j⟩ := h
  refine ⟨J, j.trans ?_⟩
  rw [List.flatten_append, List.flatten_append, segsV_mid, List.flatten_cons, List.flatten_cons, List.flatten_cons, List.flatten_cons, List.append_assoc, List.append_assoc, ← List.append_assoc (f e), ← List.append_assoc (segsV f A)]
  exact List.Perm.append_left _ (List.Perm.append_right _ List.perm_append_comm)
theorem Dr.segNil (h : Dr S0 R) : Dr S0 (segsV f [] :: R) := by
  obtain ⟨J, j⟩ := h
  refine ⟨J, j.trans ?_⟩
  rw [List.flatten_append, List.flatten_append]
  exact List.Perm.refl _
theorem Dr.segSnoc (h : Dr S0 (segsV f A :: f e :: R)) : Dr S0 (segsV f (A ++ [e]) :: R) := by
  obtain ⟨J, j⟩ := h
  refine ⟨J, j.trans ?_⟩
  rw [List.flatten_append, List.flatten_append, segsV_snoc, List.flatten_cons, List.flatten_cons, List.flatten_cons, List.append_assoc]
/-- an item at its place -/
theorem at_split {i : Nat} (h : es[i]? = some e) : es = es.take i ++ e :: es.drop (i + 1) := by
  obtain ⟨hi, rfl⟩ := List.getElem?_eq_some_iff.mp h
  rw [← List.drop_eq_getElem_cons hi, List.take_append_drop]
theorem set_split {i : Nat} {y : α} (h : es[i]? = some e) : es.set i y = es.take i ++ y :: es.drop (i + 1) := by
  have hi := (List.getElem?_eq_some_iff.mp h).1
  rw [List.set_eq_take_append_cons_drop, if_pos hi]
theorem w_segAt {i : Nat} (h : es[i]? = some e) (m : Take (segsV f es) S R) (k : Wh K Γ (f e :: segsV f (es.take i) :: segsV f (es.drop (i + 1)) :: R) P) : Wh K Γ S P := by
  refine w_segOpen (A := es.take i) (B := es.drop (i + 1)) (e := e) ?_ k
  rw [← at_split h]
  exact m
theorem Dr.segBack {i : Nat} (h : es[i]? = some e) (d : Dr S0 (f e :: segsV f (es.take i) :: segsV f (es.drop (i + 1)) :: R)) : Dr S0 (segsV f es :: R) := by
  have z := Dr.seg d
  rw [← at_split h] at z
  exact z
theorem Dr.segSet {i : Nat} {y : α} (h : es[i]? = some e) (d : Dr S0 (f y :: segsV f (es.take i) :: segsV f (es.drop (i + 1)) :: R)) : Dr S0 (segsV f (es.set i y) :: R) := by
  rw [set_split h]
  exact Dr.seg d
end
/-! ### by names: facts of many -/
def allF {α : Type} (K : PySem.W.Frag) (f : α → List Fc) (es : List α) : Fc := .gen (fun G => ∀ e ∈ es, ∀ x ∈ f e, x.In K G) fun _ _ z h e he x hx => Fc.mono z (h e he x hx)
section
variable {α : Type} {f : α → List Fc} {K : PySem.W.Frag} {Γ : List Fc} {S : List Vo} {es : List α} {e : α} {P : Hp → Prop}
/-- the facts of one of them -/
theorem w_allGet (m : allF K f es ∈ Γ) (h : e ∈ es) (k : Wh K (f e ++ Γ) S P) : Wh K Γ S P := fun H ⟨G, a, b⟩ => k H ⟨G, a, fun g hg => by
  rcases List.mem_append.mp hg with hg | hg
  · exact (b _ m : ∀ e ∈ es, ∀ x ∈ f e, x.In K G) e h g hg
  · exact b g hg⟩
theorem w_allNil (k : Wh K (allF K f [] :: Γ) S P) : Wh K Γ S P := Wh.learn (f := allF K f []) (fun _ _ => fun _ h => nomatch h) k
theorem w_allSnoc (m : allF K f es ∈ Γ) (h : ∀ x ∈ f e, x ∈ Γ) (k : Wh K (allF K f (es ++ [e]) :: Γ) S P) : Wh K Γ S P := Wh.learn (f := allF K f (es ++ [e])) (fun G b => by
  show ∀ y ∈ es ++ [e], ∀ x ∈ f y, x.In K G
  intro y hy x hx
  rcases List.mem_append.mp hy with hy | hy
  · exact (b _ m : ∀ e ∈ es, ∀ x ∈ f e, x.In K G) y hy x hx
  · rw [List.mem_singleton.mp hy] at hx
    exact b x (h x hx)) k
end
end Mo
namespace Mo
open PySem PySem.Spec PyProof.Rows L2
/-! ### data that stands as a tree: lists of our own, tuples told -/
theorem map_snoc {α β : Type} {f : α → β} {l : List α} {x : α} : (l ++ [x]).map f = l.map f ++ [f x] := by rw [List.map_append]; rfl
inductive Tr where
  | wd (x : Wd)
  | dt (v : V) (d : PyData)
  | ls (p : Addr) (ts : List Tr)
  | tu (p : Addr) (ts : List Tr)
def Tr.v : Tr → V
  | .wd x => x.v
  | .dt v _ => v
  | .ls p _ => .ref p
  | .tu p _ => .ref p
mutual
def Tr.dat : Tr → PyData
  | .wd x => x.d
  | .dt _ d => d
  | .ls _ ts => .list (Tr.dats ts)
  | .tu _ ts => .tuple (Tr.dats ts)
def Tr.dats : List Tr → List PyData
  | [] => []
  | t :: ts => t.dat :: Tr.dats ts
end
mutual
def Tr.F : Tr → List Fc
  | .wd _ => []
  | .dt v d => [.dat v d]
  | .ls _ ts => Tr.FF ts
  | .tu p ts => .obj p (.tup (ts.map Tr.v)) :: Tr.FF ts
def Tr.FF : List Tr → List Fc
  | [] => []
  | t :: ts => t.F ++ Tr.FF ts
end
mutual
def Tr.S : Tr → Vo
  | .wd _ => []
  | .dt _ _ => []
  | .ls p ts => own p (.lst (ts.map Tr.v)) ++ Tr.SS ts
  | .tu _ ts => Tr.SS ts
def Tr.SS : List Tr → Vo
  | [] => []
  | t :: ts => t.S ++ Tr.SS ts
end
theorem Tr.dats_map : ∀ ts : List Tr, Tr.dats ts = ts.map Tr.dat
  | [] => by rw [Tr.dats, List.map_nil]
  | t :: ts => by rw [Tr.dats, Tr.dats_map ts, List.map_cons]
theorem Tr.SS_segs : ∀ ts : List Tr, Tr.SS ts = segsV Tr.S ts
  | [] => by rw [Tr.SS]; rfl
  | t :: ts => by rw [Tr.SS, Tr.SS_segs ts]; rfl
theorem Tr.FF_mem {f : Fc} : ∀ {ts : List Tr}, f ∈ Tr.FF ts ↔ ∃ t ∈ ts, f ∈ t.F
  | [] => by rw [Tr.FF]; simp
  | t :: ts => by rw [Tr.FF, List.mem_append, Tr.FF_mem (ts := ts)]; simp
section
variable {K : PySem.W.Frag} {G H : Hp}
mutual
theorem Tr.dp : ∀ (t : Tr) (L : Vo), (∀ f ∈ t.F, f.In K G) → Hd G H (t.S ++ L) → Dp K H t.v t.dat
  | .wd (.i n), _, _, _ => .int n
  | .wd (.s x), _, _, _ => .str x
  | .dt v d, _, hf, z => by
    have h : Dp K G v d := hf (.dat v d) (by rw [Tr.F]; exact List.mem_singleton.mpr rfl)
    rw [Tr.dat]
    exact dp_mono z.ex h
  | .ls p ts, L, hf, z => by
    rw [Tr.F] at hf
    rw [Tr.S, List.append_assoc] at z
    rw [Tr.dat]
    have hp : H p = some (.lst (ts.map Tr.v)) := z.eq List.mem_cons_self
    exact .lst (SqL.of hp) (Tr.dps ts L hf z.drop)
  | .tu p ts, L, hf, z => by
    rw [Tr.F] at hf
    rw [Tr.S] at z
    rw [Tr.dat]
    have hp : G p = some (.tup (ts.map Tr.v)) := hf (.obj p _) List.mem_cons_self
    exact .tup (SqT.of (z.ex _ _ hp)) (Tr.dps ts L (fun f m => hf f (List.mem_cons_of_mem _ m)) z)
theorem Tr.dps : ∀ (ts : List Tr) (L : Vo), (∀ f ∈ Tr.FF ts, f.In K G) → Hd G H (Tr.SS ts ++ L) → DpAll K H (ts.map Tr.v) (Tr.dats ts)
  | [], _, _, _ => by rw [Tr.dats]; exact .nil
  | t :: ts, L, hf, z => by
    rw [Tr.FF] at hf
    rw [Tr.SS, List.append_assoc] at z
    rw [Tr.dats, List.map_cons]
    refine .cons (Tr.dp t (Tr.SS ts ++ L) (fun f m => hf f (List.mem_append_left _ m)) z) (Tr.dps ts (t.S ++ L) (fun f m => hf f (List.mem_append_right _ m)) (z.perm ?_))
    rw [← List.append_assoc, ← List.append_assoc]
    exact List.Perm.append_right _ List.perm_append_comm
end
end
/-- the facts of a tree -/
def trF (K : PySem.W.Frag) (t : Tr) : Fc := .gen (fun G => ∀ f ∈ t.F, f.In K G) fun _ _ z h f m => Fc.mono z (h f m)
def trsF (K : PySem.W.Frag) (ts : List Tr) : Fc := .gen (fun G => ∀ f ∈ Tr.FF ts, f.In K G) fun _ _ z h f m => Fc.mono z (h f m)
section
variable {K : PySem.W.Frag} {Γ : List Fc} {S R S0 : List Vo} {A : Hp → Prop} {t : Tr} {ts : List Tr} {p : Addr}
theorem dpH_tr (m : trF K t ∈ Γ) (n : Take t.S S R) : ∀ H, Hg K Γ S H → Dp K H t.v t.dat := fun H z => by
  obtain ⟨G, a, b⟩ := z.tk1 n
  exact Tr.dp t R.flatten (b _ m) a
theorem dpH_trs {p : Addr} (m : trsF K ts ∈ Γ) (h : own p (.lst (ts.map Tr.v)) ∈ S) (n : Take (Tr.SS ts) S R) : ∀ H, Hg K Γ S H → Dp K H (.ref p) (.list (ts.map Tr.dat)) := fun H z => by
  have hp := z.own h
  obtain ⟨G, a, b⟩ := z.tk1 n
  rw [← Tr.dats_map]
  exact .lst (SqL.of hp) (Tr.dps ts R.flatten (b _ m) a)
/-- facts of trees learnt -/
theorem w_trF (h : ∀ f ∈ t.F, f ∈ Γ) (k : Wh K (trF K t :: Γ) S A) : Wh K Γ S A := Wh.learn (f := trF K t) (fun _ b => fun f m => b f (h f m)) k
theorem w_trsNil (k : Wh K (trsF K [] :: Γ) S A) : Wh K Γ S A := Wh.learn (f := trsF K []) (fun _ _ => fun f m => by rw [Tr.FF] at m; exact nomatch m) k
theorem ff_app (as bs : List Tr) : ∀ f, f ∈ Tr.FF (as ++ bs) ↔ f ∈ Tr.FF as ∨ f ∈ Tr.FF bs := fun f => by
  rw [Tr.FF_mem, Tr.FF_mem, Tr.FF_mem]
  constructor
  · rintro ⟨t, h, k⟩
    rcases List.mem_append.mp h with h | h
    · exact .inl ⟨t, h, k⟩
    · exact .inr ⟨t, h, k⟩
  · rintro (⟨t, h, k⟩ | ⟨t, h, k⟩)
    · exact ⟨t, List.mem_append_left _ h, k⟩
    · exact ⟨t, List.mem_append_right _ h, k⟩
theorem w_trsSnoc (m : trsF K ts ∈ Γ) (n : trF K t ∈ Γ) (k : Wh K (trsF K (ts ++ [t]) :: Γ) S A) : Wh K Γ S A := Wh.learn (f := trsF K (ts ++ [t])) (fun G b => by
  intro f hf
  rcases (ff_app ts [t] f).mp hf with h | h
  · exact (b _ m : ∀ f ∈ Tr.FF ts, f.In K G) f h
  · obtain ⟨u, hu, hk⟩ := Tr.FF_mem.mp h
    rw [List.mem_singleton.mp hu] at hk
    exact (b _ n : ∀ f ∈ t.F, f.In K G) f hk) k
theorem w_trsGet (m : trsF K ts ∈ Γ) (h : t ∈ ts) (k : Wh K (trF K t :: Γ) S A) : Wh K Γ S A := Wh.learn (f := trF K t) (fun G b => fun f hf => (b _ m : ∀ f ∈ Tr.FF ts, f.In K G) f (Tr.FF_mem.mpr ⟨t, h, hf⟩)) k
theorem w_trL (m : trsF K ts ∈ Γ) (k : Wh K (trF K (.ls p ts) :: Γ) S A) : Wh K Γ S A := Wh.learn (f := trF K (.ls p ts)) (fun G b => fun f hf => by rw [Tr.F] at hf; exact (b _ m : ∀ f ∈ Tr.FF ts, f.In K G) f hf) k
theorem w_trT (m : trsF K ts ∈ Γ) (n : .obj p (.tup (ts.map Tr.v)) ∈ Γ) (k : Wh K (trF K (.tu p ts) :: Γ) S A) : Wh K Γ S A := Wh.learn (f := trF K (.tu p ts)) (fun G b => fun f hf => by
  rw [Tr.F] at hf
  rcases List.mem_cons.mp hf with e | hf
  · rw [e]; exact b _ n
  · exact (b _ m : ∀ f ∈ Tr.FF ts, f.In K G) f hf) k
theorem w_trLo (m : trF K (.ls p ts) ∈ Γ) (k : Wh K (trsF K ts :: Γ) S A) : Wh K Γ S A := Wh.learn (f := trsF K ts) (fun G b => fun f hf => (b _ m : ∀ f ∈ (Tr.ls p ts).F, f.In K G) f (by rw [Tr.F]; exact hf)) k
theorem w_trTo (m : trF K (.tu p ts) ∈ Γ) (k : Wh K (.obj p (.tup (ts.map Tr.v)) :: trsF K ts :: Γ) S A) : Wh K Γ S A := by
  refine Wh.learn (f := trsF K ts) (fun G b => fun f hf => (b _ m : ∀ f ∈ (Tr.tu p ts).F, f.In K G) f (by rw [Tr.F]; exact List.mem_cons_of_mem _ hf)) ?_
  exact Wh.learn (f := .obj p (.tup (ts.map Tr.v))) (fun G b => (b _ (List.mem_cons_of_mem _ m) : ∀ f ∈ (Tr.tu p ts).F, f.In K G) _ (by rw [Tr.F]; exact List.mem_cons_self)) k
theorem w_trD {v : V} {d : PyData} (m : trF K (.dt v d) ∈ Γ) (k : Wh K (.dat v d :: Γ) S A) : Wh K Γ S A := Wh.learn (f := .dat v d) (fun G b => (b _ m : ∀ f ∈ (Tr.dt v d).F, f.In K G) _ (by rw [Tr.F]; exact List.mem_singleton.mpr rfl)) k
theorem w_trDm {v : V} {d : PyData} (m : .dat v d ∈ Γ) (k : Wh K (trF K (.dt v d) :: Γ) S A) : Wh K Γ S A := w_trF (fun f hf => by rw [Tr.F] at hf; rw [List.mem_singleton.mp hf]; exact m) k
theorem w_trW {x : Wd} (k : Wh K (trF K (.wd x) :: Γ) S A) : Wh K Γ S A := w_trF (fun f hf => by rw [Tr.F] at hf; exact nomatch hf) k
/-- segments opened and closed -/
theorem w_trOpenL (m : Take (Tr.ls p ts).S S R) (k : Wh K Γ (own p (.lst (ts.map Tr.v)) :: segsV Tr.S ts :: R) A) : Wh K Γ S A := fun H z => k H ((z.tk1 m).cong (by
  rw [List.flatten_cons, List.flatten_cons, List.flatten_cons, Tr.S, Tr.SS_segs, List.append_assoc]))
theorem Dr.trL (h : Dr S0 (own p (.lst (ts.map Tr.v)) :: segsV Tr.S ts :: R)) : Dr S0 ((Tr.ls p ts).S :: R) := by
  obtain ⟨J, j⟩ := h
  refine ⟨J, j.trans ?_⟩
  rw [List.flatten_append, List.flatten_append, List.flatten_cons, List.flatten_cons, List.flatten_cons, Tr.S, Tr.SS_segs, List.append_assoc]
theorem trT_S : (Tr.tu p ts).S = segsV Tr.S ts := by rw [Tr.S, Tr.SS_segs]
end
end Mo
namespace Mo
open PySem PySem.Spec PyProof.Rows L2
/-! ### trees walked: loops over told tuples, what kind a thing is -/
inductive SpD : Nat → PyData → Prop where
  | int {n i} : SpD (n + 1) (.int i)
  | str {n x} : SpD (n + 1) (.str x)
  | tup {n ds} (h : ∀ d ∈ ds, SpD n d) : SpD (n + 1) (.tuple ds)
inductive SpOk : Nat → Tr → Prop where
  | wd {n x} : SpOk (n + 1) (.wd x)
  | dt {n v d} (h : SpD n d) : SpOk n (.dt v d)
  | ls {n p ts} (h : ∀ t ∈ ts, SpOk n t) (l : ts.length ≤ 10000) : SpOk (n + 1) (.ls p ts)
  | tu {n p ts} (h : ∀ t ∈ ts, SpOk n t) : SpOk (n + 1) (.tu p ts)
theorem SpD.up : ∀ {n : Nat} {d : PyData}, SpD n d → ∀ {m}, n ≤ m → SpD m d
  | _, _, .int, m + 1, _ => .int
  | _, _, .str, m + 1, _ => .str
  | n + 1, _, .tup h, m + 1, k => .tup fun d hd => SpD.up (h d hd) (by omega)
  | _, _, .int, 0, h => absurd h (by omega)
  | _, _, .str, 0, h => absurd h (by omega)
  | _, _, .tup _, 0, h => absurd h (by omega)
theorem SpOk.up {n : Nat} {t : Tr} (h : SpOk n t) : ∀ {m}, n ≤ m → SpOk m t := by
  induction h with
  | wd => intro m k; cases m with
    | zero => omega
    | succ m => exact .wd
  | dt h => intro m k; exact .dt (h.up k)
  | ls _ l ih => intro m k; cases m with
    | zero => omega
    | succ m => exact .ls (fun t ht => ih t ht (by omega)) l
  | tu _ ih => intro m k; cases m with
    | zero => omega
    | succ m => exact .tu fun t ht => ih t ht (by omega)
theorem Take.nil {S : List Vo} : Take [] S S := List.Perm.refl _
section
variable {K : PySem.W.Frag} {Γ : List Fc} {S R S0 : List Vo} {σ : St} {D : Ends} {g : TG} {tw : TS} {Q : VK} {ι : Type} {A : Hp → Prop}
theorem w_isi_it {a : Int} (k : Wh K Γ S fun H => Q (.bl false) H) : Wh K Γ S fun H => rIsi K [.int a, .ty "tuple"] H Q := fun H z => go_isi (.ty _) (.base (.int _)) (kit_ty (by decide +kernel)) (k H z)
theorem w_isi_tl {a : Addr} {xs : List V} (m : .obj a (.tup xs) ∈ Γ) (k : Wh K Γ S fun H => Q (.bl false) H) : Wh K Γ S fun H => rIsi K [.ref a, .ty "list"] H Q := fun H z => go_isi (.ty _) (.base (.tup (z.obj m))) (kit_ty (by decide +kernel)) (k H z)
theorem w_isi_lt {a : Addr} {xs : List V} (m : AtH K Γ S a (.lst xs)) (k : Wh K Γ S fun H => Q (.bl false) H) : Wh K Γ S fun H => rIsi K [.ref a, .ty "tuple"] H Q := fun H z => go_isi (.ty _) (.base (.lst (m H z))) (kit_ty (by decide +kernel)) (k H z)
theorem w_isi_tlD {a : Addr} {ds : List PyData} (m : .dat (.ref a) (.tuple ds) ∈ Γ) (k : Wh K Γ S fun H => Q (.bl false) H) : Wh K Γ S fun H => rIsi K [.ref a, .ty "list"] H Q := fun H z => by
  obtain ⟨b, xs, e, h1, h2⟩ := dp_tup (z.dat m)
  cases e
  exact go_isi (.ty _) (tyx_t h1) (kit_ty (by decide +kernel)) (k H z)
theorem w_forO {p : Addr} {xs : List V} (m : .obj p (.tup xs) ∈ Γ) (k : Wh K Γ S fun H => LoopX g tw D σ H (Itt K p)) : Wh K Γ S fun H => forSeq K g tw D σ (.ref p) H := fun H z => ⟨p, rfl, .inr ⟨⟨xs, SqT.of (z.obj m)⟩, k H z⟩⟩
theorem w_forDT {p : Addr} {ds : List PyData} (m : .dat (.ref p) (.tuple ds) ∈ Γ) (k : Wh K Γ S fun H => LoopX g tw D σ H (Itt K p)) : Wh K Γ S fun H => forSeq K g tw D σ (.ref p) H := fun H z => by
  obtain ⟨a, xs, ea, h1, h2⟩ := dp_tup (z.dat m)
  cases ea
  exact ⟨p, rfl, .inr ⟨⟨xs, h1⟩, k H z⟩⟩
/-- over a tuple that is told -/
theorem w_loop_o {p : Addr} (xs : List V) (C : Nat → ι → Prop) (sg : Nat → ι → St) (Γf : Nat → ι → List Fc) (Sf : Nat → ι → List Vo) (a0 : ι) (h0 : C 0 a0) (hσ : σ = sg 0 a0) (hΓ : ∀ f ∈ Γf 0 a0, f ∈ Γ) (hS : Dr S (Sf 0 a0))
    (hl : ∀ i a, .obj p (.tup xs) ∈ Γf i a)
    (hs : ∀ (i : Nat) x a, xs[i]? = some x → C i a → Wh K (Γf i a) (Sf i a) fun H => g x (sg i a) H fun σ2 H2 => tw { D with nx := NX K (C (i + 1)) (sg (i + 1)) (Γf (i + 1)) (Sf (i + 1)), ct := NX K (C (i + 1)) (sg (i + 1)) (Γf (i + 1)) (Sf (i + 1)), bk := D.nx } σ2 H2)
    (hd : ∀ a, C xs.length a → Wh K (Γf xs.length a) (Sf xs.length a) fun H => D.nx (sg xs.length a) H) : Wh K Γ S fun H => LoopX g tw D σ H (Itt K p) := fun H z =>
  loop_t (xs := xs) (fun i => NX K (C i) (sg i) (Γf i) (Sf i)) (w_again a0 h0 hσ hΓ hS H z) (fun i σ' H' _ ⟨a, hC, hσ, z⟩ => SqT.of (z.obj (hl i a))) (fun i x σ' H' hi ⟨a, hC, hσ, z⟩ => by subst hσ; exact hs i x a hi hC H' z) fun σ' H' ⟨a, hC, hσ, z⟩ => by subst hσ; exact hd a hC H' z
theorem go_QT {p : Addr} {ds : List PyData} {xs : List V} {G H : Hp} {i : Nat} {v : V} (h : Dp K G (.ref p) (.tuple ds)) (e : Ext G H) (q : ∀ xs, SqT K H p xs → xs[i]? = some v) {d : PyData} (hd : ds[i]? = some d) : Dp K G v d := by
  obtain ⟨a, ys, ea, h1, h2⟩ := dp_tup h
  cases ea
  obtain ⟨w, e1, e2⟩ := dpa_get h2 hd
  have := (q ys (ext_t e h1)).symm.trans e1
  cases this
  exact e2
/-- over a tuple that is data -/
theorem w_loop_DT {p : Addr} (ds : List PyData) (C : Nat → ι → Prop) (sg : Nat → ι → St) (Γf : Nat → ι → List Fc) (Sf : Nat → ι → List Vo) (a0 : ι) (h0 : C 0 a0) (hσ : σ = sg 0 a0) (hΓ : ∀ f ∈ Γf 0 a0, f ∈ Γ) (hS : Dr S (Sf 0 a0))
    (hl : ∀ i a, .dat (.ref p) (.tuple ds) ∈ Γf i a)
    (hs : ∀ (i : Nat) d v a, ds[i]? = some d → C i a → Wh K (.dat v d :: Γf i a) (Sf i a) fun H => g v (sg i a) H fun σ2 H2 => tw { D with nx := NX K (C (i + 1)) (sg (i + 1)) (Γf (i + 1)) (Sf (i + 1)), ct := NX K (C (i + 1)) (sg (i + 1)) (Γf (i + 1)) (Sf (i + 1)), bk := D.nx } σ2 H2)
    (hd : ∀ a, C ds.length a → Wh K (Γf ds.length a) (Sf ds.length a) fun H => D.nx (sg ds.length a) H) : Wh K Γ S fun H => LoopX g tw D σ H (Itt K p) := fun H z => by
  refine ⟨fun i m σ H => m = ds.length - i ∧ i ≤ ds.length ∧ NX K (C i) (sg i) (Γf i) (Sf i) σ H, ⟨ds.length, by simp, Nat.zero_le _, w_again a0 h0 hσ hΓ hS H z⟩, ?_⟩
  rintro i m σ' H' ⟨rfl, hi, a, hC, hσ, z'⟩
  subst hσ
  obtain ⟨G, z1, z2⟩ := id z'
  obtain ⟨b, ys, ea, t1, t2⟩ := dp_tup (z2 _ (hl i a) : Dp K G (.ref p) (.tuple ds))
  cases ea
  have hlen := dpa_len t2
  by_cases hlt : i < ds.length
  · obtain ⟨v, e1, e2⟩ := dpa_get t2 (List.getElem?_eq_getElem hlt)
    refine .inr ⟨⟨ys, v, ext_t z1.ex t1, e1⟩, NX K (C (i + 1)) (sg (i + 1)) (Γf (i + 1)) (Sf (i + 1)), fun σ'' H'' p' => ⟨ds.length - (i + 1), by omega, rfl, hlt, p'⟩, fun x H'' y => ?_⟩
    obtain ⟨rfl, y2⟩ := y
    exact hs i _ x a (List.getElem?_eq_getElem hlt) hC H'' ⟨G, z1, cons_facts (f := .dat x _) (go_QT (xs := ys) (z2 _ (hl i a)) z1.ex y2 (List.getElem?_eq_getElem hlt)) z2⟩
  · have e : i = ds.length := by omega
    subst e
    exact .inl ⟨⟨ys, ext_t z1.ex t1, by omega⟩, hd a hC H' z'⟩
theorem w_segCons {t : Tr} {ts : List Tr} (k : Wh K Γ (t.S :: segsV Tr.S ts :: R) A) : Wh K Γ (segsV Tr.S (t :: ts) :: R) A := fun H z => k H (z.cong (by
  have e : segsV Tr.S (t :: ts) = t.S ++ segsV Tr.S ts := rfl
  rw [List.flatten_cons, List.flatten_cons, List.flatten_cons, e, List.append_assoc]))
theorem w_intD {v : V} {i : Int} (m : .dat v (.int i) ∈ Γ) (k : v = .int i → Wh K Γ S A) : Wh K Γ S A := fun H z => k (dp_int (z.dat m)) H z
theorem w_tupDr {v : V} {ds : List PyData} (m : .dat v (.tuple ds) ∈ Γ) (k : ∀ a, v = .ref a → Wh K Γ S A) : Wh K Γ S A := fun H z => by
  obtain ⟨a, xs, rfl, _⟩ := dp_tup (z.dat m)
  exact k a rfl H z
theorem dpH_t2 {t : Addr} {x y : V} {d e : PyData} (m : .obj t (.tup [x, y]) ∈ Γ) (hx : ∀ H, Hg K Γ S H → Dp K H x d) (hy : ∀ H, Hg K Γ S H → Dp K H y e) : ∀ H, Hg K Γ S H → Dp K H (.ref t) (.tuple [d, e]) := fun H z => .tup (SqT.of (z.obj m)) (.cons (hx H z) (.cons (hy H z) .nil))
end
end Mo
namespace Mo
open PySem PySem.Spec PyProof.Rows L2
/-! ### lines of texts: plain Lean -/
def linesB (x : Str) : List Str := if TL.tl x = [] then [] else Txt.split x nl
theorem joinL_ne {S : List Nat} : ∀ {ps : List (List Nat)}, S ≠ [] → ps ≠ [] → ps ≠ [[]] → TL.joinL S ps ≠ []
  | [], _, h, _ => absurd rfl h
  | [p], _, _, h => fun e => h (by rw [show p = [] from e])
  | p :: q :: r, hS, _, _ => fun e => by
    have : p ++ (S ++ TL.joinL S (q :: r)) = [] := e
    have := (List.append_eq_nil_iff.mp this).2
    exact hS (List.append_eq_nil_iff.mp this).1
/-- lines put together, and taken apart again -/
theorem linesB_join {ls : List Str} (h : ls ≠ [Str.ofString ""]) (hf : ∀ x ∈ ls, 10 ∉ TL.tl x) : linesB (Txt.join nl ls) = ls := by
  unfold linesB
  by_cases h0 : ls = []
  · subst h0
    rw [if_pos (by rw [TL.join_eq, TL.tl_join]; rfl)]
  · have hne : TL.tl (Txt.join nl ls) ≠ [] := by
      rw [TL.join_eq, TL.tl_join, tl_nl]
      refine joinL_ne (by decide) (fun e => h0 (List.map_eq_nil_iff.mp e)) fun e => h ?_
      refine TL.map_tl_inj ?_
      rw [e]
      first | done | rfl
    rw [if_neg hne]
    exact TL.split_join tl_nl (by decide +kernel) h0 hf
theorem joinL_len {S : List Nat} {n : Nat} : ∀ {ps : List (List Nat)}, (∀ p ∈ ps, p.length ≤ n) → (TL.joinL S ps).length ≤ ps.length * (n + S.length)
  | [], _ => Nat.zero_le _
  | [p], h => by
    have := h p List.mem_cons_self
    show p.length ≤ 1 * (n + S.length)
    omega
  | p :: q :: r, h => by
    have h1 := h p List.mem_cons_self
    have h2 := joinL_len (S := S) (n := n) (ps := q :: r) fun z m => h z (List.mem_cons_of_mem _ m)
    show (p ++ (S ++ TL.joinL S (q :: r))).length ≤ (q :: r).length.succ * (n + S.length)
    rw [List.length_append, List.length_append, Nat.succ_mul]
    omega
theorem join_len {y : Str} {ls : List Str} {n : Nat} (h : ∀ x ∈ ls, (TL.tl x).length ≤ n) : (TL.tl (Txt.join y ls)).length ≤ ls.length * (n + (TL.tl y).length) := by
  rw [TL.join_eq, TL.tl_join]
  have := joinL_len (S := TL.tl y) (n := n) (ps := ls.map TL.tl) fun p hp => by
    obtain ⟨x, hx, rfl⟩ := List.mem_map.mp hp
    exact h x hx
  rw [List.length_map] at this
  exact this
theorem joinL_free {S : List Nat} {c : Nat} (hS : c ∉ S) : ∀ {ps : List (List Nat)}, (∀ p ∈ ps, c ∉ p) → c ∉ TL.joinL S ps
  | [], _ => fun m => nomatch m
  | [p], h => h p List.mem_cons_self
  | p :: q :: r, h => fun m => by
    have m : c ∈ p ++ (S ++ TL.joinL S (q :: r)) := m
    rcases List.mem_append.mp m with m | m
    · exact h p List.mem_cons_self m
    · rcases List.mem_append.mp m with m | m
      · exact hS m
      · exact joinL_free hS (ps := q :: r) (fun z hz => h z (List.mem_cons_of_mem _ hz)) m
theorem join_free {y : Str} {ls : List Str} {c : Nat} (hy : c ∉ TL.tl y) (h : ∀ x ∈ ls, c ∉ TL.tl x) : c ∉ TL.tl (Txt.join y ls) := by
  rw [TL.join_eq, TL.tl_join]
  exact joinL_free hy fun p hp => by
    obtain ⟨x, hx, rfl⟩ := List.mem_map.mp hp
    exact h x hx
theorem joinL_cons' (S p : List Nat) {b : List (List Nat)} (h : b ≠ []) : TL.joinL S (p :: b) = p ++ (S ++ TL.joinL S b) := by
  cases b with
  | nil => exact absurd rfl h
  | cons q b => rfl
theorem linesB_len (x : Str) : (linesB x).length ≤ (TL.tl x).length + 1 ∧ ∀ p ∈ linesB x, (TL.tl p).length ≤ (TL.tl x).length := by
  unfold linesB
  split
  · exact ⟨Nat.zero_le _, fun p hp => nomatch hp⟩
  · have h := TL.split_spl x nl (by rw [tl_nl]; decide) (TL.kind_ok (by decide +kernel))
    obtain ⟨h1, h2⟩ := spl_len (TL.tl nl) (TL.tl x) 0 []
    rw [← h] at h1 h2
    rw [List.length_map] at h1
    refine ⟨h1, fun p hp => ?_⟩
    have := h2 _ (List.mem_map_of_mem hp)
    rw [List.length_nil] at this
    omega
end Mo
namespace Mo
open PySem PySem.Spec PyProof.Rows L2
/-! ### data that may be compared: texts of signs that there are, not deep -/
structure Shp (n : Nat) (d : PyData) : Prop where
  lay : d.canLay0 = true
  dep : d.depth ≤ n
structure Shps (n : Nat) (ds : List PyData) : Prop where
  lay : PyData.canLayAll0 ds = true
  dep : PyData.depthAll ds ≤ n
section
variable {n m : Nat} {d : PyData} {ds es : List PyData}
theorem Shp.shaped (h : Shp n d) (hn : n ≤ 64) : SeqAt.shaped d = true := by
  unfold SeqAt.shaped
  rw [Bool.and_eq_true]
  exact ⟨h.lay, decide_eq_true (Nat.le_trans h.dep hn)⟩
theorem Shp.int {i : Int} : Shp n (.int i) := ⟨rfl, by simp only [PyData.depth]; exact Nat.zero_le _⟩
theorem Shp.bool {i : Bool} : Shp n (.bool i) := ⟨rfl, by simp only [PyData.depth]; exact Nat.zero_le _⟩
theorem Shp.none : Shp n .none := ⟨rfl, by simp only [PyData.depth]; exact Nat.zero_le _⟩
theorem Shp.str {x : Str} (h : PyData.strOk x = true) : Shp n (.str x) := ⟨h, by simp only [PyData.depth]; exact Nat.zero_le _⟩
theorem Shps.nil : Shps n [] := ⟨rfl, by simp only [PyData.depthAll]; exact Nat.zero_le _⟩
theorem Shps.cons (h : Shp n d) (t : Shps n ds) : Shps n (d :: ds) := ⟨by show (PyData.canLay0 d && PyData.canLayAll0 ds) = true; rw [h.lay, t.lay]; rfl, by have h1 := h.dep; have h2 := t.dep; simp only [PyData.depthAll]; omega⟩
theorem Shps.app (h : Shps n ds) (t : Shps n es) : Shps n (ds ++ es) := by
  induction ds with
  | nil => exact t
  | cons d ds ih =>
    have h1 := h.lay
    have h2 := h.dep
    have h1' : (PyData.canLay0 d && PyData.canLayAll0 ds) = true := h1
    rw [Bool.and_eq_true] at h1'
    simp only [PyData.depthAll] at h2
    exact .cons ⟨h1'.1, by omega⟩ (ih ⟨h1'.2, by omega⟩)
theorem Shp.tup (h : Shps n ds) : Shp (n + 1) (.tuple ds) := ⟨h.lay, by have := h.dep; simp only [PyData.depth]; omega⟩
theorem Shp.lst (h : Shps n ds) : Shp (n + 1) (.list ds) := ⟨h.lay, by have := h.dep; simp only [PyData.depth]; omega⟩
theorem Shps.map {α : Type} {f : α → PyData} : ∀ {xs : List α}, (∀ x ∈ xs, Shp n (f x)) → Shps n (xs.map f)
  | [], _ => .nil
  | x :: xs, h => .cons (h x List.mem_cons_self) (Shps.map fun y hy => h y (List.mem_cons_of_mem _ hy))
theorem Shps.ints {ns : List Int} : Shps n (ns.map PyData.int) := .map fun _ _ => .int
end
/-- texts of signs that there are -/
def SOk (x : Str) : Prop := PyData.strOk x = true
theorem NameOk.sok {x : Str} (h : NameOk x) : SOk x := by
  show x.cps.all (· < 0x110000) = true
  rw [Array.all_eq_true_iff_forall_mem]
  intro c hc
  have := h.let_ c (by rw [Array.mem_toList_iff]; exact hc)
  exact decide_eq_true (by omega)
end Mo
namespace Mo
open PySem PySem.Spec PyProof.Rows L2
/-! ### whole numbers of truths, lists of texts beside the empty list -/
section
variable {K : PySem.W.Frag} {Γ : List Fc} {S : List Vo} {σ : St} {Q : VK} {p l : Addr} {xs : List Str}
theorem w_toB {c : Bool} {A : Int → Hp → Prop} {B : Bool → Hp → Prop} (k : Wh K Γ S fun H => B c H) : Wh K Γ S fun H => (∃ i, [V.bl c] = [V.int i] ∧ A i H) ∨ (∃ d, [V.bl c] = [V.bl d] ∧ B d H) := fun H z => .inr ⟨c, rfl, k H z⟩
theorem eqv_empty {xs : List Str} : PyData.eqv (.list (xs.map PyData.str)) (.list []) = decide (xs.length = 0) := by
  cases xs with
  | nil => rfl
  | cons x xs => rfl
theorem shaped_texts {xs : List Str} (h : ∀ x ∈ xs, SOk x) : SeqAt.shaped (.list (xs.map PyData.str)) = true := (Shp.lst (n := 0) (.map fun x hx => .str (h x hx))).shaped (by decide)
theorem w_eqE (m : .dat (.ref p) (.list (xs.map PyData.str)) ∈ Γ) (n : AtH K Γ S l (.lst [])) (h : ∀ x ∈ xs, SOk x) (k : Wh K Γ S fun H => Q (.bl (decide (xs.length = 0))) H) : Wh K Γ S fun H => rEqA K (.ref p) (.ref l) H Q :=
  w_eqH (dpH_dv (DV.mem m)) (dpH_own n .nil) (shaped_texts h) (shaped_texts (xs := []) (fun _ z => nomatch z)) (by rw [eqv_empty]; exact k)
theorem w_neE (m : .dat (.ref p) (.list (xs.map PyData.str)) ∈ Γ) (n : AtH K Γ S l (.lst [])) (h : ∀ x ∈ xs, SOk x) (k : Wh K Γ S fun H => Q (.bl (!decide (xs.length = 0))) H) : Wh K Γ S fun H => rNeA K (.ref p) (.ref l) H Q :=
  w_neH (dpH_dv (DV.mem m)) (dpH_own n .nil) (shaped_texts h) (shaped_texts (xs := []) (fun _ z => nomatch z)) (by rw [eqv_empty]; exact k)
end
end Mo
namespace Mo
open PySem PySem.Spec PyProof.Rows L2
/-! ### models read: the plain reader with its words; texts of signs that there are -/
theorem sok_tl {x : Str} : SOk x ↔ ∀ c ∈ TL.tl x, c < 0x110000 := by
  show x.cps.all (· < 0x110000) = true ↔ _
  rw [Array.all_eq_true_iff_forall_mem]
  constructor
  · intro h c hc
    exact of_decide_eq_true (h c (Array.mem_toList_iff.mp hc))
  · intro h c hc
    exact decide_eq_true (h c (Array.mem_toList_iff.mpr hc))
theorem spl_mem (S : List Nat) : ∀ (l : List Nat) (k : Nat) (acc : List Nat), ∀ p ∈ TL.spl S k acc l, ∀ c ∈ p, c ∈ acc ∨ c ∈ l
  | [], k, acc => by
    rw [TL.spl_nil]
    exact fun p hp c hc => by rw [List.mem_singleton.mp hp] at hc; exact .inl hc
  | d :: r, 0, acc => by
    cases h : TL.pre S (d :: r) with
    | true =>
      rw [TL.spl_hit h]
      intro p hp c hc
      rcases List.mem_cons.mp hp with rfl | hp
      · exact .inl hc
      · rcases spl_mem S r (S.length - 1) [] p hp c hc with m | m
        · exact nomatch m
        · exact .inr (List.mem_cons_of_mem _ m)
    | false =>
      rw [TL.spl_miss h]
      intro p hp c hc
      rcases spl_mem S r 0 (acc ++ [d]) p hp c hc with m | m
      · rcases List.mem_append.mp m with m | m
        · exact .inl m
        · rw [List.mem_singleton.mp m]; exact .inr List.mem_cons_self
      · exact .inr (List.mem_cons_of_mem _ m)
  | d :: r, k + 1, acc => by
    intro p hp c hc
    rcases spl_mem S r k acc p hp c hc with m | m
    · exact .inl m
    · exact .inr (List.mem_cons_of_mem _ m)
theorem split_sok {x : Str} (hx : SOk x) : ∀ p ∈ Txt.split x blank, SOk p := by
  have h := TL.split_spl x blank (by rw [tl_blank]; decide) (TL.kind_ok (by decide +kernel))
  intro p hp
  refine sok_tl.mpr fun c hc => ?_
  rcases spl_mem (TL.tl blank) (TL.tl x) 0 [] (TL.tl p) (by rw [← h]; exact List.mem_map_of_mem hp) c hc with m | m
  · exact nomatch m
  · exact sok_tl.mp hx c m
theorem lines_sok {x : Str} (hx : SOk x) : ∀ p ∈ linesB x, SOk p := by
  intro p hp
  unfold linesB at hp
  split at hp
  · exact nomatch hp
  have h := TL.split_spl x nl (by decide +kernel) (TL.kind_ok (by decide +kernel))
  refine sok_tl.mpr fun c hc => ?_
  rcases spl_mem (TL.tl nl) (TL.tl x) 0 [] (TL.tl p) (by rw [← h]; exact List.mem_map_of_mem hp) c hc with m | m
  · exact nomatch m
  · exact sok_tl.mp hx c m
theorem cut_sok {x : Str} (hx : SOk x) (n : Nat) : SOk (cutS x (some (n : Int)) none) := sok_tl.mpr fun c hc => by
  rw [tl_cutS] at hc
  exact sok_tl.mp hx c (List.mem_of_mem_drop hc)
theorem eqvAll_strs : ∀ xs ys : List Str, PyData.eqvAll (xs.map PyData.str) (ys.map PyData.str) = decide (xs = ys)
  | [], [] => rfl
  | [], _ :: _ => rfl
  | _ :: _, [] => rfl
  | n :: ns, m :: ms => by
    rw [List.map_cons, List.map_cons]
    show (PyData.eqv (.str n) (.str m) && PyData.eqvAll (ns.map PyData.str) (ms.map PyData.str)) = _
    rw [eqvAll_strs ns ms]
    show ((n == m) && decide (ns = ms)) = _
    by_cases h : n = m
    · subst h
      simp
    · have h1 : (n == m) = false := beq_eq_false_iff_ne.mpr h
      rw [h1, decide_eq_false (fun z => h (List.cons.inj z).1)]
      rfl
section
variable {K : PySem.W.Frag} {Γ : List Fc} {S : List Vo} {Q : VK} {p l : Addr} {xs ys : List Str}
theorem w_eqW (m : AtH K Γ S p (.lst (xs.map V.str))) (n : AtH K Γ S l (.lst (ys.map V.str))) (hx : ∀ x ∈ xs, SOk x) (hy : ∀ x ∈ ys, SOk x) (k : Wh K Γ S fun H => Q (.bl (decide (xs = ys))) H) : Wh K Γ S fun H => rEqA K (.ref p) (.ref l) H Q :=
  w_eqH (dpH_own m DL.strs) (dpH_own n DL.strs) (shaped_texts hx) (shaped_texts hy) (by rw [show PyData.eqv (.list (xs.map PyData.str)) (.list (ys.map PyData.str)) = decide (xs = ys) from eqvAll_strs xs ys]; exact k)
theorem w_neW (m : AtH K Γ S p (.lst (xs.map V.str))) (n : AtH K Γ S l (.lst (ys.map V.str))) (hx : ∀ x ∈ xs, SOk x) (hy : ∀ x ∈ ys, SOk x) (k : Wh K Γ S fun H => Q (.bl (!decide (xs = ys))) H) : Wh K Γ S fun H => rNeA K (.ref p) (.ref l) H Q :=
  w_neH (dpH_own m DL.strs) (dpH_own n DL.strs) (shaped_texts hx) (shaped_texts hy) (by rw [show PyData.eqv (.list (xs.map PyData.str)) (.list (ys.map PyData.str)) = decide (xs = ys) from eqvAll_strs xs ys]; exact k)
end
/-! #### the words of deeds -/
def drawB (x : Str) : Option Int := withinB x 0 1000000000000000
def condB (ws : List Str) : Option Fm := match fsB ws 1 with
  | some [f] => some f
  | _ => none
def namedD (ws : List Str) : Option Dd := match ws with
  | w :: b :: r => if r ≠ [] ∧ (w = Str.ofString "put" ∨ w = Str.ofString "push" ∨ w = Str.ofString "draw") ∧ nameB b = true then
      (condB r).map fun f => if w = Str.ofString "put" then .put b f else if w = Str.ofString "push" then .push b f else .draw b f
    else none
  | _ => none
def sendD (ws : List Str) : Option Dd := match ws with
  | w :: t :: s :: rk :: r => if w = Str.ofString "send" ∧ nameB s = true then
      (match withinB t 0 5, withinB rk 0 9, fsB r 3 with
        | some to, some rank, some [a, b, c] => some (.send to s a rank b c)
        | _, _, _ => none) else none
  | _ => none
def oneB (ws : List Str) : Option Dd := if ws = [Str.ofString "end"] then some .fin else match sendD ws with
  | some d => some d
  | none => namedD ws
theorem fsOf_len {ws : List Str} : ∀ {m i : Nat} {fs : List Fm} {j : Nat}, fsOf ws m i = some (fs, j) → fs.length = m
  | 0, i, fs, j, h => by rw [fsOf] at h; cases h; rfl
  | m + 1, i, fs, j, h => by
    rw [fsOf] at h
    split at h
    · cases h
    · rename_i f j2 _ _
      cases h2 : fsOf ws m j2 with
      | none => rw [h2] at h; cases h
      | some r =>
        rw [h2, Option.map_some] at h
        injection h with h
        injection h with h3 h4
        rw [← h3, List.length_cons, fsOf_len (j := r.2) (fs := r.1) h2]
theorem fsB_len {ws : List Str} {m : Nat} {fs : List Fm} (h : fsB ws m = some fs) : fs.length = m := by
  unfold fsB at h
  cases h2 : fsOf ws m 0 with
  | none => rw [h2] at h; cases h
  | some r =>
    rw [h2, Option.bind_some] at h
    split at h
    · cases h
    · injection h with h
      rw [← h, fsOf_len (j := r.2) (fs := r.1) h2]
/-! #### formulas that are read may be gone through -/
theorem lone_spd {x : Str} {f : Fm} (h : loneB x = some f) : SpD 2 f.data := by
  have k2 : ∀ (a : Str) (d : PyData), (∃ n, d = .int n) ∨ (∃ y, d = .str y) → SpD 2 (.tuple [.str a, d]) := fun a d hd => .tup fun e he => by
    simp only [List.mem_cons, List.not_mem_nil, or_false] at he
    rcases he with rfl | rfl
    · exact .str
    · rcases hd with ⟨n, rfl⟩ | ⟨y, rfl⟩
      · exact .int
      · exact .str
  unfold loneB at h
  split at h
  · cases h
    exact .tup fun e he => by rw [List.mem_singleton.mp he]; exact .str
  split at h
  · cases h; exact k2 _ _ (.inr ⟨_, rfl⟩)
  split at h
  · cases h; exact k2 _ _ (.inr ⟨_, rfl⟩)
  split at h
  · cases h; exact k2 _ _ (.inl ⟨_, rfl⟩)
  split at h
  · cases h; exact k2 _ _ (.inl ⟨_, rfl⟩)
  · cases hw : worthB x with
    | none => rw [hw] at h; cases h
    | some n => rw [hw] at h; cases h; exact k2 _ _ (.inl ⟨_, rfl⟩)
theorem pF_spd : ∀ {n : Nat} {ws : List Str} {i c : Nat} {f : Fm} {j d : Nat}, pF loneB n ws i c = (some f, j, d) → SpD (n + 2) f.data
  | 0, ws, i, c, f, j, d, h => by rw [pF] at h; cases h
  | n + 1, ws, i, c, f, j, d, h => by
    rw [pF] at h
    split at h
    · cases h
    · split at h
      · cases h
      · rename_i x hx
        split at h
        · injection h with h1 h2
          exact (lone_spd h1).up (by omega)
        · split at h
          · cases h
          · rename_i f1 j1 d1 h1
            have g1 := pF_spd h1
            split at h
            · cases h
            · rename_i f2 j2 d2 h2
              have g2 := pF_spd h2
              injection h with h3 h4
              cases h3
              rw [Fm.data]
              refine .tup fun e he => ?_
              simp only [List.mem_cons, List.not_mem_nil, or_false] at he
              rcases he with rfl | rfl | rfl
              · exact .str
              · exact g1.up (by omega)
              · exact g2.up (by omega)
theorem fsOf_spd {ws : List Str} : ∀ {m i : Nat} {fs : List Fm} {j : Nat}, fsOf ws m i = some (fs, j) → ∀ f ∈ fs, SpD 18 f.data
  | 0, i, fs, j, h => by rw [fsOf] at h; cases h; exact fun _ h => nomatch h
  | m + 1, i, fs, j, h => by
    rw [fsOf] at h
    split at h
    · cases h
    · rename_i f j2 _ hf
      cases h2 : fsOf ws m j2 with
      | none => rw [h2] at h; cases h
      | some r =>
        rw [h2, Option.map_some] at h
        injection h with h
        injection h with h3 h4
        rw [← h3]
        exact List.forall_mem_cons.mpr ⟨pF_spd hf, fsOf_spd (j := r.2) (fs := r.1) h2⟩
theorem fsB_spd {ws : List Str} {m : Nat} {fs : List Fm} (h : fsB ws m = some fs) : ∀ f ∈ fs, SpD 18 f.data := by
  unfold fsB at h
  cases h2 : fsOf ws m 0 with
  | none => rw [h2] at h; cases h
  | some r =>
    rw [h2, Option.bind_some] at h
    split at h
    · cases h
    · injection h with h
      rw [← h]
      exact fsOf_spd (j := r.2) (fs := r.1) h2
theorem cond_spd {ws : List Str} {f : Fm} (h : condB ws = some f) : SpD 18 f.data := by
  unfold condB at h
  split at h
  · rename_i g hg
    cases h
    exact fsB_spd hg _ List.mem_cons_self
  · cases h
theorem cond_some {ws : List Str} {fs : List Fm} (h : fsB ws 1 = some fs) : ∃ f, fs = [f] ∧ condB ws = some f := by
  obtain ⟨f, rfl⟩ := fsB_one h
  exact ⟨f, rfl, by unfold condB; rw [h]⟩
theorem cond_none {ws : List Str} (h : fsB ws 1 = none) : condB ws = none := by unfold condB; rw [h]
theorem one_spd {ws : List Str} {x : Dd} (h : oneB ws = some x) : SpD 19 x.data := by
  have named : ∀ {a b : Str} {f : Fm}, SpD 18 f.data → SpD 19 (.tuple [.str a, .str b, f.data]) := fun hf => .tup fun e he => by
    simp only [List.mem_cons, List.not_mem_nil, or_false] at he
    rcases he with rfl | rfl | rfl
    · exact .str
    · exact .str
    · exact hf
  unfold oneB at h
  split at h
  · cases h
    rw [Dd.data]
    exact .tup fun e he => by rw [List.mem_singleton.mp he]; exact .str
  split at h
  · rename_i d hd
    cases h
    unfold sendD at hd
    split at hd
    · split at hd
      · split at hd
        · rename_i to rank a b c _ _ hf
          cases hd
          have k := fsB_spd hf
          rw [Dd.data]
          refine .tup fun e he => ?_
          simp only [List.mem_cons, List.not_mem_nil, or_false] at he
          rcases he with rfl | rfl | rfl | rfl | rfl | rfl | rfl
          · exact .str
          · exact .int
          · exact .str
          · exact k _ List.mem_cons_self
          · exact .int
          · exact k _ (List.mem_cons_of_mem _ List.mem_cons_self)
          · exact k _ (List.mem_cons_of_mem _ (List.mem_cons_of_mem _ List.mem_cons_self))
        · cases hd
      · cases hd
    · cases hd
  · unfold namedD at h
    split at h
    · split at h
      · rename_i w b r _ _ _
        cases hc : condB r with
        | none => rw [hc] at h; cases h
        | some f =>
          rw [hc, Option.map_some] at h
          injection h with h
          rw [← h]
          have k := cond_spd hc
          split
          · rw [Dd.data]; exact named k
          · split
            · rw [Dd.data]; exact named k
            · rw [Dd.data]; exact named k
      · cases h
    · cases h
/-! #### the reader at its place -/
structure MrI where
  p : Addr
  dx : Addr
  l : Addr
  ls : List Str
def mrS (K : PySem.W.Frag) (b : MrI) (i k : Nat) : List Vo := [own b.p (.ins (He.ga K "ModelReader") b.dx (fl_ModelReader (.ref b.l) (.int (i : Int)) (.int (k : Int)))), own b.l (.lst (b.ls.map V.str))]
structure MrI.Ok (b : MrI) : Prop where
  wl : b.ls.length ≤ 40000
  ww : ∀ x ∈ b.ls, (TL.tl x).length ≤ 40000
  so : ∀ x ∈ b.ls, SOk x
theorem here_some {ls : List Str} {i d : Nat} (h : hereM ls i d ≠ []) : i < ls.length := by
  unfold hereM at h
  split at h
  · exact absurd rfl h
  · rename_i x hx
    exact (List.getElem?_eq_some_iff.mp hx).1
theorem hereM_len {ls : List Str} {n i d : Nat} (h : ∀ x ∈ ls, (TL.tl x).length ≤ n) (hs : ∀ x ∈ ls, SOk x) : (hereM ls i d).length ≤ n + 1 ∧ ∀ y ∈ hereM ls i d, (TL.tl y).length ≤ n ∧ SOk y := by
  unfold hereM
  split
  · exact ⟨Nat.zero_le _, fun _ h => nomatch h⟩
  · rename_i x hx
    have hm := List.mem_of_getElem? hx
    have hl := h x hm
    split
    · obtain ⟨s1, s2⟩ := split_len (cutS x (some ((2 * d : Nat) : Int)) none)
      rw [tl_cutS, List.length_drop] at s1 s2
      exact ⟨by omega, fun y hy => ⟨by have := s2 y hy; omega, split_sok (cut_sok (hs x hm) _) y hy⟩⟩
    · exact ⟨Nat.zero_le _, fun _ h => nomatch h⟩
theorem tl_mul2 : ∀ d : Fin 9, TL.tl (Txt.mul (Str.ofString "  ") ((d.val : Nat) : Int)) = List.replicate (2 * d.val) 32 := by decide +kernel
def optS : Option Str → V
  | none => .non
  | some x => .str x
end Mo
namespace Mo
open PySem PySem.Spec PyProof.Rows L2
/-! ### a text so many times -/
def rMulT : R2 := fun x y H Q => ∃ (a : Str) (n : Nat), x = .str a ∧ y = .int (n : Int) ∧ a.length ≤ 16 ∧ n ≤ 1000 ∧ Q (.str (Txt.mul a (n : Int))) H
theorem op_mulT {X : Cx} : OpR X (binaryOp .Mult) rMulT := by
  intro pins s σ H x y v u Q I rx ry h
  obtain ⟨a, n, rfl, rfl, h1, h2, q⟩ := h
  obtain ⟨t, rfl⟩ := rx
  obtain ⟨t', rfl⟩ := ry
  exact PySem.SB.mul (PyProof.Rows.mulOk_of 16 1048576 h1 (by omega) (by omega) (by decide) (by decide)) fun t2 k => ⟨.str (Txt.mul a (n : Int)), H, I.tok _, ⟨_, rfl⟩, q⟩
section
variable {K : PySem.W.Frag} {Γ : List Fc} {S : List Vo} {Q : VK}
theorem w_mulT {a b : Str} {j : Int} (n : Nat) (hj : j = (n : Int)) (h1 : a.length ≤ 16) (h2 : n ≤ 1000) (e : Txt.mul a (n : Int) = b) (k : Wh K Γ S fun H => Q (.str b) H) : Wh K Γ S fun H => rMulT (.str a) (.int j) H Q := fun H z => by
  subst hj e
  exact ⟨a, n, rfl, rfl, h1, h2, k H z⟩
end
end Mo
namespace Mo
open PySem PySem.Spec PyProof.Rows L2
/-! ### ModelReader: its place, names -/
structure MrA where
  b : MrI
  i : Nat
  k : Nat
def MrA.S (K : PySem.W.Frag) (a : MrA) : List Vo := mrS K a.b a.i a.k
structure MrA.Ok (a : MrA) : Prop where
  b : a.b.Ok
  il : a.i ≤ a.b.ls.length
def spMrI (K : PySem.W.Frag) : Sp := SpF K (fun i : (Addr × Addr) × Addr => [.ref i.1.1, .ref i.2]) (fun _ _ => True) (fun i => [own i.1.1 (.ins (He.ga K "ModelReader") i.1.2 [])])
  (fun i v Γ' S' => v = .non ∧ Γ' = [] ∧ S' = [own i.1.1 (.ins (He.ga K "ModelReader") i.1.2 (fl_ModelReader (.ref i.2) (.int 0) (.int 0)))]) noEx
def spRefM (K : PySem.W.Frag) : Sp := SpE K (fun a : MrA => [.ref a.b.p]) (fun _ _ => True) (fun a => a.S K) (fun _ _ _ _ => False) (fun a e d Γ' S' => noTextX K ((a.i + 1 : Nat) : Int) e d Γ' S')
def spGoM (K : PySem.W.Frag) : Sp := SpF K (fun a : MrA => [.ref a.b.p]) (fun _ _ => True) (fun a => a.S K) (fun a v Γ' S' => v = .non ∧ Γ' = [] ∧ S' = mrS K a.b (a.i + 1) (a.k + 1)) noEx
def spHereM (K : PySem.W.Frag) : Sp := SpF K (fun x : MrA × Nat => [.ref x.1.b.p, .int (x.2 : Int)]) (fun x _ => x.1.Ok ∧ x.2 ≤ 8) (fun x => x.1.S K)
  (fun x v Γ' S' => ∃ lw : Addr, v = .ref lw ∧ Γ' = [] ∧ S' = own lw (.lst ((hereM x.1.b.ls x.1.i x.2).map V.str)) :: x.1.S K) noEx
structure NamI where
  a : MrA
  d : Nat
  w : Str
  lu : Addr
  us : List Str
def NamI.r (x : NamI) : Option Str := namedM nameB x.a.b.ls x.a.i x.d x.w x.us
def optJ (i : Nat) (o : Option Str) : Nat := match o with
  | none => i
  | some _ => i + 1
def spNamedM (K : PySem.W.Frag) : Sp := SpF K (fun x : NamI => [.ref x.a.b.p, .int (x.d : Int), .str x.w, .ref x.lu]) (fun x _ => x.a.Ok ∧ x.d ≤ 8 ∧ x.us.length ≤ 1000) (fun x => x.a.S K ++ [own x.lu (.lst (x.us.map V.str))])
  (fun x v Γ' S' => v = optS x.r ∧ Γ' = [] ∧ optJ x.a.i x.r ≤ x.a.b.ls.length ∧ S' = mrS K x.a.b (optJ x.a.i x.r) x.a.k ++ [own x.lu (.lst (x.us.map V.str))]) noEx
theorem named_no {ls : List Str} {i d : Nat} {w : Str} {us : List Str} (h : ∀ a b, hereM ls i d = [a, b] → ¬ (a = w ∧ nameB b = true ∧ b ∉ us)) : namedM nameB ls i d w us = none := by
  unfold namedM
  split
  · rename_i a b e
    rw [if_neg (h a b e)]
  · rfl
theorem named_yes {ls : List Str} {i d : Nat} {w a b : Str} {us : List Str} (e : hereM ls i d = [a, b]) (h : a = w ∧ nameB b = true ∧ b ∉ us) : namedM nameB ls i d w us = some b := by
  unfold namedM
  rw [e]
  dsimp only
  rw [if_pos h]
theorem strs_flat : ∀ ws : List Str, (ws.map V.str).all flatV = true
  | [] => rfl
  | x :: ws => by rw [List.map_cons, List.all_cons, strs_flat ws]; rfl
section
variable {P : Program} {w : World} {K : PySem.W.Frag} {mg : Str → Option Value} {base : Heap}
theorem ok_ModelReader_init (T : Tx K mg) : OkM P w K mg base 1 "ModelReader" "__init__" ["self", "lines"] (spMrI K) := by
  refine T.f_ModelReader_init.okX sc_ModelReader_init (fun vs H Q E h => ?_) (fun cdv A outer s H vs Q E hr h => ?_)
  · obtain ⟨i, _, _, rfl, _⟩ := h
    rfl
  · have hu1 := hu_of hr; have hu0 := hr.units0; have hu64 := hr.units; have hu65 := hu65_of hr; have nd := sc_ModelReader_init.nd
    obtain ⟨⟨⟨p, dx⟩, d⟩, Γ, S, rfl, z, _, q, x⟩ := h
    dsimp only at z q x
    refine ⟨_, (pss_cons (ps_fldK (K := K) rfl (pv 0) (pv 1) rfl)
      (pss_cons (ps_fldK (K := K) rfl (pv 0) pe_int rfl)
      (pss_one (ps_fldK (K := K) rfl (pv 0) pe_int rfl)))), ?_⟩
    refine w_start (σ' := [some (.ref p), some (.ref d)]) rfl z ?_
    dsimp only [List.cons_append, List.nil_append]
    k_extra "W"
    refine w_sfldL (by k_extra "sw") in_ModelReader_0 T.c_ModelReader T.n_ModelReader_lines rfl ?_
    k_extra "W"
    refine w_sfldL (by k_extra "sw") in_ModelReader_1 T.c_ModelReader T.n_ModelReader_at rfl ?_
    k_extra "W"
    refine w_sfldL (by k_extra "sw") (show _ = fl_ModelReader _ _ _ from in_ModelReader_2) T.c_ModelReader T.n_ModelReader_deeds rfl ?_
    exact fun H z => q _ _ _ H ⟨rfl, rfl, rfl⟩ (z.fit (by k_extra "sub") (by k_extra "dr"))
theorem ok_ModelReader_refuse (T : Tx K mg) : OkM P w K mg base 3 "ModelReader" "refuse" ["self"] (spRefM K) := by
  have G_NoText_init := ok_NoText_init (P := P) (w := w) (base := base) T
  refine T.f_ModelReader_refuse.okX sc_ModelReader_refuse (fun vs H Q E h => ?_) (fun cdv A outer s H vs Q E hr h => ?_)
  · obtain ⟨i, _, _, rfl, _⟩ := h
    rfl
  · have hu1 := hu_of hr; have hu0 := hr.units0; have hu64 := hr.units; have hu65 := hu65_of hr; have nd := sc_ModelReader_refuse.nd
    obtain ⟨⟨⟨p, dx, l, ls⟩, i, k⟩, Γ, S, rfl, z, _, q, x⟩ := h
    dsimp only [MrA.S, mrS] at z q x
    refine ⟨_, (pss_one (ps_raise rfl (takes_of rfl rfl rfl rfl) (mk_oexK (K := K) rfl T.o_NoText T.bd_NoText T.G_NoText G_NoText_init hr (takes_of rfl rfl rfl rfl) (pa_cons (pe_op (op_addK (K := K) rfl) (pe_fldK (K := K) rfl (pv 0) rfl) pe_int) pa_nil)))), ?_⟩
    refine (?_ : Wh K Γ _ fun H => tMkO _ _ _ _ [some (V.ref p)] H _) H z
    dsimp only [List.cons_append, List.nil_append]
    k_extra "W"
    refine w_tmkO ?_
    k_extra "W"
    refine w_mkO2 fun d => ?_
    exact fun H y => x _ _ _ _ H ⟨rfl, d, rfl, rfl, by rw [show ((i + 1 : Nat) : Int) = (i : Int) + 1 by omega]⟩ (y.fit (by k_extra "sub") (by k_extra "dr"))
theorem ok_ModelReader_go_on (T : Tx K mg) : OkM P w K mg base 1 "ModelReader" "go_on" ["self"] (spGoM K) := by
  refine T.f_ModelReader_go_on.okX sc_ModelReader_go_on (fun vs H Q E h => ?_) (fun cdv A outer s H vs Q E hr h => ?_)
  · obtain ⟨i, _, _, rfl, _⟩ := h
    rfl
  · have hu1 := hu_of hr; have hu0 := hr.units0; have hu64 := hr.units; have hu65 := hu65_of hr; have nd := sc_ModelReader_go_on.nd
    obtain ⟨⟨⟨p, dx, l, ls⟩, i, k⟩, Γ, S, rfl, z, _, q, x⟩ := h
    dsimp only [MrA.S, mrS] at z q x
    refine ⟨_, (pss_cons (ps_fldaugK (K := K) rfl (pv 0) pe_int in_add)
      (pss_one (ps_fldaugK (K := K) rfl (pv 0) pe_int in_add))), ?_⟩
    refine w_start (σ' := [some (.ref p)]) rfl z ?_
    dsimp only [List.cons_append, List.nil_append] at q ⊢
    k_extra "W"
    refine w_fldaugL (by k_extra "at") lk_ModelReader_deeds T.c_ModelReader T.n_ModelReader_deeds ?_
    k_extra "W"
    refine w_putL (by k_extra "sw") pt_ModelReader_deeds rfl ?_
    k_extra "W"
    refine w_fldaugL (by k_extra "at") lk_ModelReader_at T.c_ModelReader T.n_ModelReader_at ?_
    k_extra "W"
    refine w_putL (by k_extra "sw") pt_ModelReader_at rfl ?_
    rw [show (i : Int) + 1 = ((i + 1 : Nat) : Int) by omega, show (k : Int) + 1 = ((k + 1 : Nat) : Int) by omega]
    exact fun H z => q _ _ _ H ⟨rfl, rfl, rfl⟩ (z.fit (by k_extra "sub") (by k_extra "dr"))
theorem ok_ModelReader_here (T : Tx K mg) : OkM P w K mg base 1 "ModelReader" "here" ["self", "depth"] (spHereM K) := by
  refine T.f_ModelReader_here.okX sc_ModelReader_here (fun vs H Q E h => ?_) (fun cdv A outer s H vs Q E hr h => ?_)
  · obtain ⟨i, _, _, rfl, _⟩ := h
    rfl
  · have hu1 := hu_of hr; have hu0 := hr.units0; have hu64 := hr.units; have hu65 := hu65_of hr; have nd := sc_ModelReader_here.nd
    obtain ⟨⟨⟨⟨p, dx, l, ls⟩, i, k⟩, d⟩, Γ, S, rfl, z, ⟨⟨⟨hwl, hww, _⟩, hil⟩, hd⟩, q, x⟩ := h
    dsimp only [MrA.S, mrS] at z hil hwl hww hd q x
    refine ⟨_, (pss_cons (ps_set (i := 2) nd rfl (Or.inl rfl) (pe_op op_mulT pe_str (pv 1)))
      (pss_cons (ps_if (PW.pt (pw_or (pt_cmpR (op_eqK (K := K) rfl hu64) (pe_fldK (K := K) rfl (pv 0) rfl) (pe_callB (call_lenK (K := K) rfl) (by rfl) T.b_len (by decide +kernel) (pa_cons (pe_fldK (K := K) rfl (pv 0) rfl) pa_nil)) (nomark _)) (pw_or1 (pt_not (pt_truthK (K := K) rfl (pe_bmK (K := K) rfl PySem.F.plainAttrs_str PySem.F.slot_str_startswith PySem.F.type_str_startswith mt_sws (pe_ix (ix_anyK (K := K) rfl hu1) (pe_fldK (K := K) rfl (pv 0) rfl) (pe_fldK (K := K) rfl (pv 0) rfl) (fun _ _ => rfl)) (pa_cons (pv 2) pa_nil)) (by intro _; rfl)))))) (pss_one (ps_ret (pe_lst pa_nil)))
      pss_nil)
      (pss_one (ps_ret (pe_bmK (K := K) rfl PySem.F.plainAttrs_str PySem.F.slot_str_split PySem.F.type_str_split mt_spl (pe_slice (sl_anyK (K := K) rfl) (pe_ix (ix_anyK (K := K) rfl hu1) (pe_fldK (K := K) rfl (pv 0) rfl) (pe_fldK (K := K) rfl (pv 0) rfl) (fun _ _ => rfl)) (po_some (pe_callB (call_lenK (K := K) rfl) (by rfl) T.b_len (by decide +kernel) (pa_cons (pv 2) pa_nil))) po_none) (pa_cons pe_str pa_nil)))))), ?_⟩
    refine w_start (σ' := [some (.ref p), some (.int (d : Int)), none]) rfl z ?_
    dsimp only [List.cons_append, List.nil_append] at q ⊢
    k_extra "W"
    obtain ⟨ah, hah⟩ : ∃ ah, Txt.mul (Str.ofString "  ") (d : Int) = ah := ⟨_, rfl⟩
    have htl : TL.tl ah = List.replicate (2 * d) 32 := by rw [← hah]; exact tl_mul2 ⟨d, by omega⟩
    have hal : (TL.tl ah).length = 2 * d := by rw [htl, List.length_replicate]
    refine w_mulT d rfl (by decide +kernel) (by omega) hah ?_
    k_extra "W"
    refine w_lenL (by k_extra "at") ?_
    rw [List.length_map]
    k_extra "W"
    refine w_ite (fun h1 => ?_) (fun h1 => ?_)
    · k_extra "W"
      refine w_lstO fun lw => ?_
      refine fun H z => q _ _ _ H ⟨lw, rfl, rfl, rfl⟩ (z.fit (by k_extra "sub") ?_)
      have e : hereM ls i d = [] := by unfold hereM; rw [List.getElem?_eq_none (by omega)]
      rw [e]
      k_extra "dr"
    obtain ⟨y, hy⟩ : ∃ y, ls[i]? = some y := ⟨_, List.getElem?_eq_getElem (by omega)⟩
    have hyl := hww y (List.mem_of_getElem? hy)
    have e : hereM ls i d = if TL.pre (TL.tl ah) (TL.tl y) = true then Txt.split (cutS y (some ((2 * d : Nat) : Int)) none) blank else [] := by unfold hereM; rw [hy, htl]
    rw [e] at q
    k_extra "W"
    refine w_sub (v := .str y) (by k_extra "at") (atI_nat (by rw [List.getElem?_map, hy]; rfl)) ?_
    k_extra "W"
    refine w_tyS ?_
    k_extra "W"
    refine w_sws ?_
    cases hp : TL.pre (TL.tl ah) (TL.tl y) with
    | false =>
      rw [if_neg (by rw [hp]; decide)] at q
      k_extra "W"
      refine w_lstO fun lw => ?_
      exact fun H z => q _ _ _ H ⟨lw, rfl, rfl, rfl⟩ (z.fit (by k_extra "sub") (by k_extra "dr"))
    | true =>
      rw [if_pos hp] at q
      k_extra "W"
      refine w_sub (v := .str y) (by k_extra "at") (atI_nat (by rw [List.getElem?_map, hy]; rfl)) ?_
      k_extra "W"
      refine w_lenT (by omega) ?_
      rw [hal]
      k_extra "W"
      refine w_slS (by omega) ?_
      k_extra "W"
      refine w_tyS ?_
      k_extra "W"
      refine w_spl (by decide +kernel) (by rw [TL.len_tl, tl_cutS, List.length_drop]; omega) fun lw => ?_
      rw [show Txt.split (cutS y (some ((2 * d : Nat) : Int)) none) (Str.ofString " ") = Txt.split (cutS y (some ((2 * d : Nat) : Int)) none) blank from rfl]
      exact fun H z => q _ _ _ H ⟨lw, rfl, rfl, rfl⟩ (z.fit (by k_extra "sub") (by k_extra "dr"))
theorem ok_ModelReader_named (T : Tx K mg) : OkM P w K mg base 3 "ModelReader" "named" ["self", "depth", "word", "used"] (spNamedM K) := by
  have G_ModelReader_here := ok_ModelReader_here (P := P) (w := w) (base := base) T
  have G_is_name := ok_is_name (P := P) (w := w) (base := base) T
  refine T.f_ModelReader_named.okX sc_ModelReader_named (fun vs H Q E h => ?_) (fun cdv A outer s H vs Q E hr h => ?_)
  · obtain ⟨i, _, _, rfl, _⟩ := h
    rfl
  · have hu1 := hu_of hr; have hu0 := hr.units0; have hu64 := hr.units; have hu65 := hu65_of hr; have nd := sc_ModelReader_named.nd
    obtain ⟨⟨⟨⟨p, dx, l, ls⟩, i, k⟩, d, wd, lu, us⟩, Γ, S, rfl, z, ⟨hok, hd, hul⟩, q, x⟩ := h
    obtain ⟨⟨hwl, hww, hso⟩, hil⟩ := id hok
    dsimp only [MrA.S, mrS, NamI.r] at z hil hwl hww hso hd hul q x
    refine ⟨_, (pss_cons (ps_set (i := 4) nd rfl (Or.inl rfl) (pmeK (K := K) rfl T.m_ModelReader_here T.c_ModelReader G_ModelReader_here hr (takes_of rfl rfl rfl rfl) (pv 0) (pa_cons (pv 1) pa_nil)))
      (pss_cons (ps_if (PW.pt (pw_or (pt_cmpR (op_neK (K := K) rfl hu64) (pe_callB (call_lenK (K := K) rfl) (by rfl) T.b_len (by decide +kernel) (pa_cons (pv 4) pa_nil)) pe_int (nomark _)) (pw_or (pt_cmpR (op_neK (K := K) rfl hu64) (pe_ix (ix_anyK (K := K) rfl hu1) (pv 4) pe_int (fun _ _ => rfl)) (pv 2) (nomark _)) (pw_or (pt_not (pt_truthK (K := K) rfl (pcl T.g_is_name G_is_name hr (takes_of rfl rfl rfl rfl) (pa_cons (pe_ix (ix_anyK (K := K) rfl hu1) (pv 4) pe_int (fun _ _ => rfl)) pa_nil)) (by intro _; rfl))) (pw_or1 (pt_cmpR (op_inK (K := K) rfl hu65) (pe_ix (ix_anyK (K := K) rfl hu1) (pv 4) pe_int (fun _ _ => rfl)) (pv 3) rfl)))))) (pss_one (ps_ret pe_non))
      pss_nil)
      (pss_cons (ps_fldaugK (K := K) rfl (pv 0) pe_int in_add)
      (pss_one (ps_ret (pe_ix (ix_anyK (K := K) rfl hu1) (pv 4) pe_int (fun _ _ => rfl))))))), ?_⟩
    refine w_start (σ' := [some (.ref p), some (.int (d : Int)), some (.str wd), some (.ref lu), none]) rfl z ?_
    dsimp only [List.cons_append, List.nil_append] at q ⊢
    have non : ∀ (_ : namedM nameB ls i d wd us = none) (Γ2 : List Fc) (S2 : List Vo), (∀ f ∈ Γ, f ∈ Γ2) → Dr S2 (own p (.ins (He.ga K "ModelReader") dx (fl_ModelReader (.ref l) (.int (i : Int)) (.int (k : Int)))) :: own l (.lst (ls.map V.str)) :: own lu (.lst (us.map V.str)) :: S) → Wh K Γ2 S2 fun H => Q .non H := fun h Γ2 S2 hs hd H y => q _ [] _ H ⟨by rw [h]; rfl, rfl, by rw [h]; exact hil, rfl⟩ (by rw [h]; exact y.fit hs hd)
    k_extra "W"
    refine w_don ((⟨⟨p, dx, l, ls⟩, i, k⟩, d) : MrA × Nat) (by dsimp only [MrA.S, mrS]; k_extra "ts") ⟨hok, hd⟩ ?_
    rintro _ Γ' S' ⟨lw, rfl, rfl, rfl⟩
    dsimp only [MrA.S, mrS, List.cons_append, List.nil_append]
    obtain ⟨hbl, hbw⟩ := hereM_len (i := i) (d := d) hww hso
    obtain ⟨ws, hws⟩ : ∃ ws, hereM ls i d = ws := ⟨_, rfl⟩
    rw [hws] at hbl hbw ⊢
    k_extra "W"
    refine w_lenL (by k_extra "at") ?_
    rw [List.length_map]
    k_extra "W"
    refine w_iteN (fun h1 => ?_) (fun h1 => ?_)
    · k_extra "W"
      exact non (named_no fun a b e => by rw [hws] at e; rw [e] at h1; exact absurd rfl h1) _ _ (by k_extra "sub") (by k_extra "dr")
    obtain ⟨a, c, rfl⟩ : ∃ a c, ws = [a, c] := by
      rcases ws with _ | ⟨a, _ | ⟨c, _ | ⟨e, r⟩⟩⟩
      · exfalso; rw [List.length_nil] at h1; omega
      · exfalso; rw [List.length_singleton] at h1; omega
      · exact ⟨a, c, rfl⟩
      · exfalso; rw [List.length_cons, List.length_cons, List.length_cons] at h1; omega
    dsimp only [List.map_cons, List.map_nil]
    k_extra "W"
    refine w_nes ?_
    k_extra "W"
    refine w_iteN (fun h2 => ?_) (fun h2 => ?_)
    · k_extra "W"
      exact non (named_no fun a' b e h => by rw [hws] at e; cases e; exact h2 h.1) _ _ (by k_extra "sub") (by k_extra "dr")
    k_extra "W"
    refine w_don c (by k_extra "ts") (by have := (hbw c (by simp)).1; show (TL.tl c).length ≤ 50000; omega) ?_
    rintro _ Γ' S' ⟨rfl, rfl, rfl⟩
    dsimp only [List.cons_append, List.nil_append]
    cases hn : nameB c with
    | false =>
      k_extra "W"
      exact non (named_no fun a' b e h => by rw [hws] at e; cases e; have := h.2.1; rw [hn] at this; cases this) _ _ (by k_extra "sub") (by k_extra "dr")
    | true =>
      k_extra "W"
      refine w_inL (xs := us.map V.str) (by k_extra "at") rfl (strs_flat us) (inV_strs c us) ?_
      k_extra "W"
      refine w_ite (fun h3 => ?_) (fun h3 => ?_)
      · k_extra "W"
        exact non (named_no fun a' b e h => by rw [hws] at e; cases e; exact h.2.2 h3) _ _ (by k_extra "sub") (by k_extra "dr")
      k_extra "W"
      refine w_fldaugL (by k_extra "at") lk_ModelReader_at T.c_ModelReader T.n_ModelReader_at ?_
      k_extra "W"
      refine w_putL (by k_extra "sw") pt_ModelReader_at rfl ?_
      rw [show (i : Int) + 1 = ((i + 1 : Nat) : Int) by omega]
      k_extra "W"
      have hy : namedM nameB ls i d wd us = some c := named_yes hws ⟨h2, hn, h3⟩
      rw [hy] at q
      have hlt : i < ls.length := here_some (d := d) (by rw [hws]; exact List.cons_ne_nil _ _)
      exact fun H z => q _ [] _ H ⟨rfl, rfl, hlt, rfl⟩ (z.fit (by k_extra "sub") (by k_extra "dr"))
end
end Mo
namespace Mo
open PySem PySem.Spec PyProof.Rows L2
/-! ### ModelReader: words of deeds, boxes, queues, draws -/
theorem dpa_strsI {K : PySem.W.Frag} {H : Hp} : ∀ {xs : List V} {ys : List Str}, DpAll K H xs (ys.map PyData.str) → xs = ys.map V.str
  | _, [], h => by cases h; rfl
  | _, y :: ys, h => by
    cases h with
    | cons h t =>
      cases h
      rw [dpa_strsI t]
      rfl
theorem w_ninTs {K : PySem.W.Frag} {Γ : List Fc} {S : List Vo} {Q : VK} {a : Addr} {x : Str} {ds : List PyData} (ys : List Str) (m : .dat (.ref a) (.tuple ds) ∈ Γ) (e : ds = ys.map PyData.str) (k : Wh K Γ S fun H => Q (.bl (!decide (x ∈ ys))) H) : Wh K Γ S fun H => rNotInA K (.str x) (.ref a) H Q := fun H z => by
  subst e
  obtain ⟨b, xs, eb, h1, h2⟩ := dp_tup (z.dat m)
  cases eb
  have e := dpa_strsI h2
  subst e
  exact .inr (.inl ⟨a, _, rfl, .inr h1, rfl, strs_flat ys, by rw [inV_strs]; exact k H z⟩)
theorem atW {ws : List Str} {n : Nat} {x : Str} {j : Int} (hj : j = (n : Int)) (h : ws[n]? = some x) : atI (ws.map V.str) j = some (.str x) := by
  subst hj
  exact atI_nat (by rw [List.getElem?_map, h]; rfl)
structure WdsI where
  l : Addr
  ws : List Str
def WdsI.Ok (x : WdsI) : Prop := x.ws.length ≤ 50000 ∧ ∀ y ∈ x.ws, (TL.tl y).length ≤ 50000
def spDeedWd (f : List Str → Option Dd) (K : PySem.W.Frag) : Sp := SpF K (fun x : WdsI => [.ref x.l]) (fun x _ => x.Ok) (fun x => [own x.l (.lst (x.ws.map V.str))])
  (fun x v Γ' S' => OptD v ((f x.ws).map Dd.data) Γ' ∧ S' = [own x.l (.lst (x.ws.map V.str))]) noEx
theorem namedD_no {ws : List Str} (h : ∀ w b r, ws = w :: b :: r → ¬ (r ≠ [] ∧ (w = Str.ofString "put" ∨ w = Str.ofString "push" ∨ w = Str.ofString "draw") ∧ nameB b = true) ∨ condB r = none) : namedD ws = none := by
  unfold namedD
  split
  · rename_i w b r
    split
    · rename_i hc
      rcases h w b r rfl with h | h
      · exact absurd hc h
      · rw [h]; rfl
    · rfl
  · rfl
theorem sendD_no {ws : List Str} (h : ∀ w t s rk r, ws = w :: t :: s :: rk :: r → ¬ (w = Str.ofString "send" ∧ nameB s = true) ∨ withinB t 0 5 = none ∨ withinB rk 0 9 = none ∨ fsB r 3 = none) : sendD ws = none := by
  unfold sendD
  split
  · rename_i w t s rk r
    split
    · rename_i hc
      rcases h w t s rk r rfl with h | h | h | h
      · exact absurd hc h
      · rw [h]
      · rw [h]; split <;> first | rfl | (rename_i e _; cases e) | (rename_i _ e _; cases e)
      · rw [h]; split <;> first | rfl | (rename_i _ _ e; cases e)
    · rfl
  · rfl
section
variable {P : Program} {w : World} {K : PySem.W.Frag} {mg : Str → Option Value} {base : Heap}
theorem ok_named_deed (T : Tx K mg) : OkG P w K mg base 26 "named_deed" ["words"] (spDeedWd namedD K) := by
  have G_is_name := ok_is_name (P := P) (w := w) (base := base) T
  have G_formulas_of := ok_formulas_of (P := P) (w := w) (base := base) T
  refine T.f_named_deed.okX sc_named_deed (fun vs H Q E h => ?_) (fun cdv A outer s H vs Q E hr h => ?_)
  · obtain ⟨i, _, _, rfl, _⟩ := h
    rfl
  · have hu1 := hu_of hr; have hu0 := hr.units0; have hu64 := hr.units; have hu65 := hu65_of hr; have nd := sc_named_deed.nd
    obtain ⟨⟨l, ws⟩, Γ, S, rfl, z, ⟨hwl, hww⟩, q, x⟩ := h
    dsimp only at z hwl hww q x
    refine ⟨_, (pss_cons (ps_if (PW.pt (pw_or (pt_cmpR (op_ltK (K := K) rfl hu0) (pe_callB (call_lenK (K := K) rfl) (by rfl) T.b_len (by decide +kernel) (pa_cons (pv 0) pa_nil)) pe_int (nomark _)) (pw_or (pt_cmpR (op_notInK (K := K) rfl hu65) (pe_ix (ix_anyK (K := K) rfl hu1) (pv 0) pe_int (fun _ _ => rfl)) (pe_tup (pa_cons pe_str (pa_cons pe_str (pa_cons pe_str pa_nil)))) rfl) (pw_or1 (pt_not (pt_truthK (K := K) rfl (pcl T.g_is_name G_is_name hr (takes_of rfl rfl rfl rfl) (pa_cons (pe_ix (ix_anyK (K := K) rfl hu1) (pv 0) pe_int (fun _ _ => rfl)) pa_nil)) (by intro _; rfl))))))) (pss_one (ps_ret pe_non))
      pss_nil)
      (pss_cons (ps_set (i := 1) nd rfl (Or.inl rfl) (pcl T.g_formulas_of G_formulas_of hr (takes_of rfl rfl rfl rfl) (pa_cons (pe_slice (sl_anyK (K := K) rfl) (pv 0) (po_some pe_int) po_none) (pa_cons pe_int pa_nil))))
      (pss_cons (ps_if (pt_cmpR op_isN1 (pv 1) pe_non (nomark _)) (pss_one (ps_ret pe_non))
      pss_nil)
      (pss_one (ps_ret (pe_tup (pa_cons (pe_ix (ix_anyK (K := K) rfl hu1) (pv 0) pe_int (fun _ _ => rfl)) (pa_cons (pe_ix (ix_anyK (K := K) rfl hu1) (pv 0) pe_int (fun _ _ => rfl)) (pa_cons (pe_ix (ix_anyK (K := K) rfl hu1) (pv 1) pe_int (fun _ _ => rfl)) pa_nil))))))))), ?_⟩
    refine w_start (σ' := [some (.ref l), none]) rfl z ?_
    dsimp only [List.cons_append, List.nil_append] at q ⊢
    have non : ∀ (_ : namedD ws = none) (Γ2 : List Fc) (S2 : List Vo), (∀ f ∈ Γ, f ∈ Γ2) → Dr S2 (own l (.lst (ws.map V.str)) :: S) → Wh K Γ2 S2 fun H => Q .non H := fun h Γ2 S2 hs hd H y => q _ [] _ H ⟨by rw [h]; exact ⟨rfl, rfl⟩, rfl⟩ (y.fit hs hd)
    k_extra "W"
    refine w_lenL (by k_extra "at") ?_
    rw [List.length_map]
    k_extra "W"
    refine w_ite (fun h1 => ?_) (fun h1 => ?_)
    · k_extra "W"
      exact non (namedD_no fun a b r e => by
        subst e
        refine .inl fun h => h.1 (List.length_eq_zero_iff.mp ?_)
        rw [List.length_cons, List.length_cons] at h1
        omega) _ _ (by k_extra "sub") (by k_extra "dr")
    obtain ⟨a, b, c, r, rfl⟩ : ∃ a b c r, ws = a :: b :: c :: r := by
      rcases ws with _ | ⟨a, _ | ⟨b, _ | ⟨c, r⟩⟩⟩
      · exfalso; rw [List.length_nil] at h1; omega
      · exfalso; rw [List.length_singleton] at h1; omega
      · exfalso; rw [List.length_cons, List.length_singleton] at h1; omega
      · exact ⟨a, b, c, r, rfl⟩
    k_extra "W"
    refine w_sub (v := .str a) (by k_extra "at") (atW (n := 0) rfl rfl) ?_
    k_extra "W"
    refine w_ninTs [Str.ofString "put", Str.ofString "push", Str.ofString "draw"] (by k_extra "m") rfl ?_
    k_extra "W"
    refine w_iteN (fun h2 => ?_) (fun h2 => ?_)
    · k_extra "W"
      exact non (namedD_no fun a' b' r' e => by
        cases e
        exact .inl fun h => h2 (by simp only [List.mem_cons, List.not_mem_nil, or_false]; exact h.2.1)) _ _ (by k_extra "sub") (by k_extra "dr")
    k_extra "W"
    refine w_sub (v := .str b) (by k_extra "at") (atW (n := 1) rfl rfl) ?_
    k_extra "W"
    refine w_don b (by k_extra "ts") (hww b (by simp)) ?_
    rintro _ Γ' S' ⟨rfl, rfl, rfl⟩
    dsimp only [List.cons_append, List.nil_append]
    cases hn : nameB b with
    | false =>
      k_extra "W"
      exact non (namedD_no fun a' b' r' e => by cases e; exact .inl fun h => by have := h.2.2; rw [hn] at this; cases this) _ _ (by k_extra "sub") (by k_extra "dr")
    | true =>
      k_extra "W"
      refine w_slLD 2 rfl (by k_extra "at") fun l2 => ?_
      rw [show ((a :: b :: c :: r).map V.str).drop 2 = (c :: r).map V.str from rfl]
      k_extra "W"
      refine w_don (⟨l2, c :: r, 1⟩ : FsI) (by k_extra "ts") ⟨by show (1 : Nat) ≤ 100; decide, by rw [List.length_cons, List.length_cons] at hwl; dsimp only; omega, fun p hp => hww p (List.mem_cons_of_mem _ (List.mem_cons_of_mem _ hp))⟩ ?_
      rintro v Γ' S' hP
      unfold FsI.Post at hP
      dsimp only at hP
      cases hf : fsB (c :: r) 1 with
      | none =>
        rw [hf] at hP
        obtain ⟨rfl, rfl, rfl⟩ := hP
        dsimp only [List.cons_append, List.nil_append]
        k_extra "W"
        exact non (namedD_no fun a' b' r' e => by cases e; exact .inr (cond_none hf)) _ _ (by k_extra "sub") (by k_extra "dr")
      | some fs =>
        rw [hf] at hP
        obtain ⟨lf, vs, rfl, rfl, rfl⟩ := hP
        obtain ⟨f, rfl, hc⟩ := cond_some hf
        dsimp only [List.cons_append, List.nil_append]
        refine w_datsAt (vs := vs) (ds := [f].map Fm.data) (j := 0) (d := f.data) (by k_extra "m") rfl fun v2 hv2 => ?_
        k_extra "W"
        refine w_sub (v := .str a) (by k_extra "at") (atW (n := 0) rfl rfl) ?_
        k_extra "W"
        refine w_sub (v := .str b) (by k_extra "at") (atW (n := 1) rfl rfl) ?_
        k_extra "W"
        refine w_sub (v := v2) (by k_extra "at") (show atI vs ((0 : Nat) : Int) = _ from atI_nat hv2) ?_
        k_extra "W"
        rename_i tp
        have hd : namedD (a :: b :: c :: r) = some (if a = Str.ofString "put" then .put b f else if a = Str.ofString "push" then .push b f else .draw b f) := by
          unfold namedD
          dsimp only
          rw [if_pos ⟨List.cons_ne_nil _ _, by simpa only [List.mem_cons, List.not_mem_nil, or_false] using h2, hn⟩, hc]
          rfl
        have hdd : (if a = Str.ofString "put" then Dd.put b f else if a = Str.ofString "push" then .push b f else .draw b f).data = .tuple [.str a, .str b, f.data] := by
          simp only [List.mem_cons, List.not_mem_nil, or_false] at h2
          by_cases e1 : a = Str.ofString "put"
          · rw [if_pos e1, e1, Dd.data]
          · rw [if_neg e1]
            by_cases e2 : a = Str.ofString "push"
            · rw [if_pos e2, e2, Dd.data]
            · rw [if_neg e2]
              rcases h2 with h2 | h2 | h2
              · exact absurd h2 e1
              · exact absurd h2 e2
              · rw [h2, Dd.data]
        exact fun H z => q _ [.dat (.ref tp) (.tuple [.str a, .str b, f.data])] _ H ⟨by rw [hd, Option.map_some, hdd]; exact ⟨tp, rfl, rfl⟩, rfl⟩ (z.fit (by k_extra "sub") (by k_extra "dr"))
theorem ok_send_deed (T : Tx K mg) : OkG P w K mg base 26 "send_deed" ["words"] (spDeedWd sendD K) := by
  have G_is_name := ok_is_name (P := P) (w := w) (base := base) T
  have G_within := ok_within (P := P) (w := w) (base := base) T
  have G_formulas_of := ok_formulas_of (P := P) (w := w) (base := base) T
  refine T.f_send_deed.okX sc_send_deed (fun vs H Q E h => ?_) (fun cdv A outer s H vs Q E hr h => ?_)
  · obtain ⟨i, _, _, rfl, _⟩ := h
    rfl
  · have hu1 := hu_of hr; have hu0 := hr.units0; have hu64 := hr.units; have hu65 := hu65_of hr; have nd := sc_send_deed.nd
    obtain ⟨⟨l, ws⟩, Γ, S, rfl, z, ⟨hwl, hww⟩, q, x⟩ := h
    dsimp only at z hwl hww q x
    refine ⟨_, (pss_cons (ps_if (PW.pt (pw_or (pt_cmpR (op_ltK (K := K) rfl hu0) (pe_callB (call_lenK (K := K) rfl) (by rfl) T.b_len (by decide +kernel) (pa_cons (pv 0) pa_nil)) pe_int (nomark _)) (pw_or (pt_cmpR (op_neK (K := K) rfl hu64) (pe_ix (ix_anyK (K := K) rfl hu1) (pv 0) pe_int (fun _ _ => rfl)) pe_str (nomark _)) (pw_or1 (pt_not (pt_truthK (K := K) rfl (pcl T.g_is_name G_is_name hr (takes_of rfl rfl rfl rfl) (pa_cons (pe_ix (ix_anyK (K := K) rfl hu1) (pv 0) pe_int (fun _ _ => rfl)) pa_nil)) (by intro _; rfl))))))) (pss_one (ps_ret pe_non))
      pss_nil)
      (pss_cons (ps_set (i := 1) nd rfl (Or.inl rfl) (pcl T.g_within G_within hr (takes_of rfl rfl rfl rfl) (pa_cons (pe_ix (ix_anyK (K := K) rfl hu1) (pv 0) pe_int (fun _ _ => rfl)) (pa_cons pe_int (pa_cons (pe_op op_sub (T.v_MACHINES) pe_int) pa_nil)))))
      (pss_cons (ps_set (i := 2) nd rfl (Or.inl rfl) (pcl T.g_within G_within hr (takes_of rfl rfl rfl rfl) (pa_cons (pe_ix (ix_anyK (K := K) rfl hu1) (pv 0) pe_int (fun _ _ => rfl)) (pa_cons pe_int (pa_cons pe_int pa_nil)))))
      (pss_cons (ps_set (i := 3) nd rfl (Or.inl rfl) (pcl T.g_formulas_of G_formulas_of hr (takes_of rfl rfl rfl rfl) (pa_cons (pe_slice (sl_anyK (K := K) rfl) (pv 0) (po_some pe_int) po_none) (pa_cons pe_int pa_nil))))
      (pss_cons (ps_if (PW.pt (pw_or (pt_cmpR op_isN1 (pv 1) pe_non (nomark _)) (pw_or (pt_cmpR op_isN1 (pv 2) pe_non (nomark _)) (pw_or1 (pt_cmpR op_isN1 (pv 3) pe_non (nomark _)))))) (pss_one (ps_ret pe_non))
      pss_nil)
      (pss_one (ps_ret (pe_tup (pa_cons pe_str (pa_cons (pv 1) (pa_cons (pe_ix (ix_anyK (K := K) rfl hu1) (pv 0) pe_int (fun _ _ => rfl)) (pa_cons (pe_ix (ix_anyK (K := K) rfl hu1) (pv 3) pe_int (fun _ _ => rfl)) (pa_cons (pv 2) (pa_cons (pe_ix (ix_anyK (K := K) rfl hu1) (pv 3) pe_int (fun _ _ => rfl)) (pa_cons (pe_ix (ix_anyK (K := K) rfl hu1) (pv 3) pe_int (fun _ _ => rfl)) pa_nil))))))))))))))), ?_⟩
    refine w_start (σ' := [some (.ref l), none, none, none]) rfl z ?_
    dsimp only [List.cons_append, List.nil_append] at q ⊢
    have non : ∀ (_ : sendD ws = none) (Γ2 : List Fc) (S2 : List Vo), (∀ f ∈ Γ, f ∈ Γ2) → Dr S2 (own l (.lst (ws.map V.str)) :: S) → Wh K Γ2 S2 fun H => Q .non H := fun h Γ2 S2 hs hd H y => q _ [] _ H ⟨by rw [h]; exact ⟨rfl, rfl⟩, rfl⟩ (y.fit hs hd)
    k_extra "W"
    refine w_lenL (by k_extra "at") ?_
    rw [List.length_map]
    k_extra "W"
    refine w_ite (fun h1 => ?_) (fun h1 => ?_)
    · k_extra "W"
      exact non (sendD_no fun a t s rk r e => by
        subst e
        exfalso
        rw [List.length_cons, List.length_cons, List.length_cons, List.length_cons] at h1
        omega) _ _ (by k_extra "sub") (by k_extra "dr")
    obtain ⟨a, t, s, rk, r, rfl⟩ : ∃ a t s rk r, ws = a :: t :: s :: rk :: r := by
      rcases ws with _ | ⟨a, _ | ⟨b, _ | ⟨c, _ | ⟨d, r⟩⟩⟩⟩
      · exfalso; rw [List.length_nil] at h1; omega
      · exfalso; rw [List.length_singleton] at h1; omega
      · exfalso; rw [List.length_cons, List.length_singleton] at h1; omega
      · exfalso; rw [List.length_cons, List.length_cons, List.length_singleton] at h1; omega
      · exact ⟨a, b, c, d, r, rfl⟩
    k_extra "W"
    refine w_sub (v := .str a) (by k_extra "at") (atW (n := 0) rfl rfl) ?_
    k_extra "W"
    refine w_nes ?_
    k_extra "W"
    refine w_iteN (fun h2 => ?_) (fun h2 => ?_)
    · k_extra "W"
      exact non (sendD_no fun a' t' s' rk' r' e => by cases e; exact .inl fun h => h2 h.1) _ _ (by k_extra "sub") (by k_extra "dr")
    k_extra "W"
    refine w_sub (v := .str s) (by k_extra "at") (atW (n := 2) rfl rfl) ?_
    k_extra "W"
    refine w_don s (by k_extra "ts") (hww s (by simp)) ?_
    rintro _ Γ' S' ⟨rfl, rfl, rfl⟩
    dsimp only [List.cons_append, List.nil_append]
    cases hn : nameB s with
    | false =>
      k_extra "W"
      exact non (sendD_no fun a' t' s' rk' r' e => by cases e; exact .inl fun h => by have := h.2; rw [hn] at this; cases this) _ _ (by k_extra "sub") (by k_extra "dr")
    | true =>
      k_extra "W"
      refine w_sub (v := .str t) (by k_extra "at") (atW (n := 1) rfl rfl) ?_
      k_extra "W"
      refine w_don (t, 0, 5) (by k_extra "ts") (hww t (by simp)) ?_
      rintro _ Γ' S' ⟨rfl, rfl, rfl⟩
      dsimp only [List.cons_append, List.nil_append]
      k_extra "W"
      refine w_sub (v := .str rk) (by k_extra "at") (atW (n := 3) rfl rfl) ?_
      k_extra "W"
      refine w_don (rk, 0, 9) (by k_extra "ts") (hww rk (by simp)) ?_
      rintro _ Γ' S' ⟨rfl, rfl, rfl⟩
      dsimp only [List.cons_append, List.nil_append]
      k_extra "W"
      refine w_slLD 4 rfl (by k_extra "at") fun l2 => ?_
      rw [show ((a :: t :: s :: rk :: r).map V.str).drop 4 = r.map V.str from rfl]
      k_extra "W"
      refine w_don (⟨l2, r, 3⟩ : FsI) (by k_extra "ts") ⟨by show (3 : Nat) ≤ 100; decide, by rw [List.length_cons, List.length_cons, List.length_cons, List.length_cons] at hwl; dsimp only; omega, fun p hp => hww p (by simp [hp])⟩ ?_
      rintro v Γ' S' hP
      unfold FsI.Post at hP
      dsimp only at hP
      cases hf : fsB r 3 with
      | none =>
        rw [hf] at hP
        obtain ⟨rfl, rfl, rfl⟩ := hP
        dsimp only [List.cons_append, List.nil_append]
        have hno : sendD (a :: t :: s :: rk :: r) = none := sendD_no fun a' t' s' rk' r' e => by cases e; exact .inr (.inr (.inr hf))
        cases withinB t 0 5 with
        | none =>
          dsimp only [intV]
          k_extra "W"
          exact non hno _ _ (by k_extra "sub") (by k_extra "dr")
        | some to =>
          cases withinB rk 0 9 with
          | none =>
            dsimp only [intV]
            k_extra "W"
            exact non hno _ _ (by k_extra "sub") (by k_extra "dr")
          | some rank =>
            dsimp only [intV]
            k_extra "W"
            exact non hno _ _ (by k_extra "sub") (by k_extra "dr")
      | some fs =>
        rw [hf] at hP
        obtain ⟨lf, vs, rfl, rfl, rfl⟩ := hP
        dsimp only [List.cons_append, List.nil_append]
        cases ht : withinB t 0 5 with
        | none =>
          dsimp only [intV]
          k_extra "W"
          exact non (sendD_no fun a' t' s' rk' r' e => by cases e; exact .inr (.inl ht)) _ _ (by k_extra "sub") (by k_extra "dr")
        | some to =>
          cases hr : withinB rk 0 9 with
          | none =>
            dsimp only [intV]
            k_extra "W"
            exact non (sendD_no fun a' t' s' rk' r' e => by cases e; exact .inr (.inr (.inl hr))) _ _ (by k_extra "sub") (by k_extra "dr")
          | some rank =>
            dsimp only [intV]
            have hfl := fsB_len hf
            obtain ⟨f1, f2, f3, rfl⟩ : ∃ f1 f2 f3, fs = [f1, f2, f3] := by
              rcases fs with _ | ⟨a, _ | ⟨b, _ | ⟨c, _ | ⟨d, r⟩⟩⟩⟩
              · cases hfl
              · cases hfl
              · cases hfl
              · exact ⟨a, b, c, rfl⟩
              · rw [List.length_cons, List.length_cons, List.length_cons, List.length_cons] at hfl; omega
            refine w_datsAt (vs := vs) (ds := [f1, f2, f3].map Fm.data) (j := 0) (d := f1.data) (by k_extra "m") rfl fun v1 hv1 => ?_
            refine w_datsAt (vs := vs) (ds := [f1, f2, f3].map Fm.data) (j := 1) (d := f2.data) (by k_extra "m") rfl fun v2 hv2 => ?_
            refine w_datsAt (vs := vs) (ds := [f1, f2, f3].map Fm.data) (j := 2) (d := f3.data) (by k_extra "m") rfl fun v3 hv3 => ?_
            k_extra "W"
            refine w_sub (v := .str s) (by k_extra "at") (atW (n := 2) rfl rfl) ?_
            k_extra "W"
            refine w_sub (v := v1) (by k_extra "at") (show atI vs ((0 : Nat) : Int) = _ from atI_nat hv1) ?_
            k_extra "W"
            refine w_sub (v := v2) (by k_extra "at") (show atI vs ((1 : Nat) : Int) = _ from atI_nat hv2) ?_
            k_extra "W"
            refine w_sub (v := v3) (by k_extra "at") (show atI vs ((2 : Nat) : Int) = _ from atI_nat hv3) ?_
            k_extra "W"
            rename_i tp
            have hd : sendD (a :: t :: s :: rk :: r) = some (.send to s f1 rank f2 f3) := by
              unfold sendD
              dsimp only
              rw [if_pos ⟨h2, hn⟩, ht, hr, hf]
            exact fun H z => q _ [.dat (.ref tp) (.tuple [.str "send", .int to, .str s, f1.data, .int rank, f2.data, f3.data])] _ H ⟨by rw [hd, Option.map_some, Dd.data]; exact ⟨tp, rfl, rfl⟩, rfl⟩ (z.fit (by k_extra "sub") (by k_extra "dr"))
end
end Mo
namespace Mo
open PySem PySem.Spec PyProof.Rows L2
/-! ### ModelReader: boxes, queues, draws -/
theorem boxes_no {ls : List Str} {n i : Nat} {bs : List (Str × Int)} (h : ∀ w b x, hereM ls i 1 = [w, b, x] → w = Str.ofString "box" → nameB b = true → b ∉ bs.map (·.1) → worthB x = none) : boxesM nameB worthB ls n i bs = (bs, i) := by
  cases n with
  | zero => rw [boxesM]
  | succ n =>
    rw [boxesM]
    split
    · rename_i w b x e
      split
      · rename_i hc
        rw [h w b x e hc.1 hc.2.1 hc.2.2]
      · rfl
    · rfl
theorem boxes_yes {ls : List Str} {n i : Nat} {bs : List (Str × Int)} {w b x : Str} {v : Int} (e : hereM ls i 1 = [w, b, x]) (h1 : w = Str.ofString "box") (h2 : nameB b = true) (h3 : b ∉ bs.map (·.1)) (h4 : worthB x = some v) : boxesM nameB worthB ls (n + 1) i bs = boxesM nameB worthB ls n (i + 1) (bs ++ [(b, v)]) := by
  rw [boxesM, e]
  dsimp only
  rw [if_pos ⟨h1, h2, h3⟩, h4]
theorem queues_no {ls us : List Str} {n i : Nat} {qs : List Str} (h : namedM nameB ls i 1 (Str.ofString "queue") (us ++ qs) = none) : queuesM nameB ls us n i qs = (qs, i) := by
  cases n with
  | zero => rw [queuesM]
  | succ n => rw [queuesM, h]
theorem queues_yes {ls us : List Str} {n i : Nat} {qs : List Str} {q : Str} (h : namedM nameB ls i 1 (Str.ofString "queue") (us ++ qs) = some q) : queuesM nameB ls us (n + 1) i qs = queuesM nameB ls us n (i + 1) (qs ++ [q]) := by
  rw [queuesM, h]
def spBoxesM (K : PySem.W.Frag) : Sp := SpF K (fun x : MrA => [.ref x.b.p]) (fun x _ => x.Ok) (fun x => x.S K)
  (fun x v Γ' S' => ∃ (lf : Addr) (vs : List V) (bs : List (Str × Int)) (j : Nat), boxesM nameB worthB x.b.ls 6 x.i [] = (bs, j) ∧ j ≤ x.b.ls.length ∧ bs.length ≤ 6 ∧ v = .ref lf ∧ Γ' = [.dats vs (bs.map boxD)] ∧ S' = own lf (.lst vs) :: mrS K x.b j x.k) noEx
structure QuI where
  a : MrA
  lu : Addr
  us : List Str
def spQueuesM (K : PySem.W.Frag) : Sp := SpF K (fun x : QuI => [.ref x.a.b.p, .ref x.lu]) (fun x _ => x.a.Ok ∧ x.us.length ≤ 900) (fun x => x.a.S K ++ [own x.lu (.lst (x.us.map V.str))])
  (fun x v Γ' S' => ∃ (lf : Addr) (qs : List Str) (j : Nat), queuesM nameB x.a.b.ls x.us 3 x.a.i [] = (qs, j) ∧ j ≤ x.a.b.ls.length ∧ qs.length ≤ 3 ∧ v = .ref lf ∧ Γ' = [] ∧ S' = own lf (.lst (qs.map V.str)) :: mrS K x.a.b j x.a.k) noEx
def spDrawsM (K : PySem.W.Frag) : Sp := SpF K (fun x : MrA => [.ref x.b.p]) (fun x _ => x.Ok) (fun x => x.S K)
  (fun x v Γ' S' => ∃ (lf : Addr) (ds : List Int) (j : Nat), drawsM drawB x.b.ls x.i = (ds, j) ∧ j ≤ x.b.ls.length ∧ ds.length ≤ 20 ∧ v = .ref lf ∧ Γ' = [] ∧ S' = own lf (.lst (ds.map V.int)) :: mrS K x.b j x.k) noEx
theorem mapM_cons' {f : Str → Option Int} {x : Str} {r : List Str} : (x :: r).mapM f = match f x, r.mapM f with
    | some n, some ns => some (n :: ns)
    | _, _ => none := by
  rw [List.mapM_cons]
  cases f x with
  | none => rfl
  | some n => cases r.mapM f <;> rfl
theorem mapM_none {f : Str → Option Int} : ∀ {ws : List Str}, ws.mapM f = none → inV .non (ws.map fun x => intV (f x)) = true
  | [], h => by rw [List.mapM_nil] at h; cases h
  | x :: r, h => by
    show (eqV (intV (f x)) .non || inV .non (r.map fun x => intV (f x))) = true
    rw [mapM_cons'] at h
    cases h1 : f x with
    | none => rfl
    | some n =>
      cases h2 : r.mapM f with
      | none => rw [mapM_none h2, Bool.or_true]
      | some ns => rw [h1, h2] at h; cases h
theorem mapM_some {f : Str → Option Int} : ∀ {ws : List Str} {ns : List Int}, ws.mapM f = some ns → (ws.map fun x => intV (f x)) = ns.map V.int
  | [], ns, h => by
    rw [List.mapM_nil] at h
    cases h; rfl
  | x :: r, ns, h => by
    rw [mapM_cons'] at h
    cases h1 : f x with
    | none => rw [h1] at h; cases h
    | some n =>
      cases h2 : r.mapM f with
      | none => rw [h1, h2] at h; cases h
      | some ms =>
        rw [h1, h2] at h
        cases h
        rw [List.map_cons, List.map_cons, h1, mapM_some h2]
        rfl
theorem inV_intsM : ∀ ns : List Int, inV .non (ns.map V.int) = false
  | [] => rfl
  | _ :: ns => inV_intsM ns
theorem ints_flatM : ∀ ns : List Int, (ns.map V.int).all flatV = true
  | [] => rfl
  | _ :: ns => ints_flatM ns
theorem opt_flat (f : Str → Option Int) : ∀ ws : List Str, (ws.map fun x => intV (f x)).all flatV = true
  | [] => rfl
  | x :: ws => by
    rw [List.map_cons, List.all_cons, opt_flat f ws, Bool.and_true]
    cases f x <;> rfl
section
variable {P : Program} {w : World} {K : PySem.W.Frag} {mg : Str → Option Value} {base : Heap}
theorem ok_ModelReader_read_boxes (T : Tx K mg) : OkM P w K mg base 5 "ModelReader" "read_boxes" ["self"] (spBoxesM K) := by
  have G_ModelReader_here := ok_ModelReader_here (P := P) (w := w) (base := base) T
  have G_is_name := ok_is_name (P := P) (w := w) (base := base) T
  have G_worth_word := ok_worth_word (P := P) (w := w) (base := base) T
  refine T.f_ModelReader_read_boxes.okX sc_ModelReader_read_boxes (fun vs H Q E h => ?_) (fun cdv A outer s H vs Q E hr h => ?_)
  · obtain ⟨i, _, _, rfl, _⟩ := h
    rfl
  · have hu1 := hu_of hr; have hu0 := hr.units0; have hu64 := hr.units; have hu65 := hu65_of hr; have nd := sc_ModelReader_read_boxes.nd
    obtain ⟨⟨⟨p, dx, l, ls⟩, i, k⟩, Γ, S, rfl, z, hok, q, x⟩ := h
    obtain ⟨⟨hwl, hww, hso⟩, hil⟩ := id hok
    dsimp only [MrA.S, mrS] at z hil hwl hww hso q x
    refine ⟨_, (pss_cons (ps_set (i := 1) nd rfl (Or.inl rfl) (pe_lst pa_nil))
      (pss_cons (ps_set (i := 2) nd rfl (Or.inl rfl) (pmeK (K := K) rfl T.m_ModelReader_here T.c_ModelReader G_ModelReader_here hr (takes_of rfl rfl rfl rfl) (pv 0) (pa_cons pe_int pa_nil)))
      (pss_cons (ps_while (passes_of rfl) (PW.pt (pw_and (pt_cmpR (op_ltK (K := K) rfl hu0) (pe_callB (call_lenK (K := K) rfl) (by rfl) T.b_len (by decide +kernel) (pa_cons (pv 1) pa_nil)) (T.v_BOXES) (nomark _)) (pw_and (pt_cmpR (op_eqK (K := K) rfl hu64) (pe_callB (call_lenK (K := K) rfl) (by rfl) T.b_len (by decide +kernel) (pa_cons (pv 2) pa_nil)) pe_int (nomark _)) (pw_and1 (pt_cmpR (op_eqK (K := K) rfl hu64) (pe_ix (ix_anyK (K := K) rfl hu1) (pv 2) pe_int (fun _ _ => rfl)) pe_str (nomark _)))))) (pss_cons (ps_set (i := 3) nd rfl (Or.inl rfl) (pcl T.g_worth_word G_worth_word hr (takes_of rfl rfl rfl rfl) (pa_cons (pe_ix (ix_anyK (K := K) rfl hu1) (pv 2) pe_int (fun _ _ => rfl)) pa_nil)))
      (pss_cons (ps_if (PW.pt (pw_or (pt_not (pt_truthK (K := K) rfl (pcl T.g_is_name G_is_name hr (takes_of rfl rfl rfl rfl) (pa_cons (pe_ix (ix_anyK (K := K) rfl hu1) (pv 2) pe_int (fun _ _ => rfl)) pa_nil)) (by intro _; rfl))) (pw_or (pt_cmpR (op_inK (K := K) rfl hu65) (pe_ix (ix_anyK (K := K) rfl hu1) (pv 2) pe_int (fun _ _ => rfl)) (pe_lc (own := [("name", 4), ("first", 5)]) rfl nd (pi_seqK (K := K) rfl (pv 1)) (blkOk_by (own := [("name", 4), ("first", 5)]) (N := nm_ModelReader_read_boxes) (sc := defScope s_ModelReader_read_boxes) (by decide +kernel)) (fun _ _ _ _ _ => (pg_tupK (K := K) (n := 2) rfl rfl (pgs_cons (pg_name (i := 4) nd rfl (Or.inl rfl) (Or.inr rfl)) (pgs_cons (pg_name (i := 5) nd rfl (Or.inl rfl) (Or.inr rfl)) pgs_nil)) rfl rfl)) (fun _ _ _ _ _ => pts_nil) (fun _ _ _ _ _ => (pv 4))) rfl) (pw_or1 (pt_cmpR op_isN1 (pv 3) pe_non (nomark _)))))) (pss_one (ps_ret (pv 1)))
      pss_nil)
      (pss_cons (ps_expr (pe_bmK (K := K) rfl PySem.F.plainAttrs_list PySem.F.slot_list_append PySem.F.type_list_append mt_append (pv 1) (pa_cons (pe_tup (pa_cons (pe_ix (ix_anyK (K := K) rfl hu1) (pv 2) pe_int (fun _ _ => rfl)) (pa_cons (pv 3) pa_nil))) pa_nil)))
      (pss_cons (ps_fldaugK (K := K) rfl (pv 0) pe_int in_add)
      (pss_one (ps_set (i := 2) nd rfl (Or.inl rfl) (pmeK (K := K) rfl T.m_ModelReader_here T.c_ModelReader G_ModelReader_here hr (takes_of rfl rfl rfl rfl) (pv 0) (pa_cons pe_int pa_nil)))))))))
      (pss_one (ps_ret (pv 1)))))), ?_⟩
    refine w_start (σ' := [some (.ref p), none, none, none, none, none]) rfl z ?_
    dsimp only [List.cons_append, List.nil_append] at q ⊢
    have hok2 : ∀ j, j ≤ ls.length → MrA.Ok ⟨⟨p, dx, l, ls⟩, j, k⟩ := fun j h => ⟨⟨hwl, hww, hso⟩, h⟩
    k_extra "W"
    refine w_lstO fun lf => ?_
    k_extra "W"
    refine w_don ((⟨⟨p, dx, l, ls⟩, i, k⟩, 1) : MrA × Nat) (by dsimp only [MrA.S, mrS]; k_extra "ts") ⟨hok, (by decide : (1 : Nat) ≤ 8)⟩ ?_
    rintro _ Γ' S' ⟨lw0, rfl, rfl, rfl⟩
    dsimp only [MrA.S, mrS, List.cons_append, List.nil_append]
    refine w_dats (vs := []) (ds := []) DL.nil ?_
    k_extra "W"
    refine w_while (ω := Unit) (ι := (Nat × Addr × Option V) × List V × List (Str × Int)) (fun m a => m = 6 - a.2.2.length ∧ a.2.2.length ≤ 6 ∧ a.1.1 ≤ ls.length ∧ boxesM nameB worthB ls 6 i [] = boxesM nameB worthB ls (6 - a.2.2.length) a.1.1 a.2.2)
      (fun a => [some (.ref p), some (.ref lf), some (.ref a.1.2.1), a.1.2.2, none, none]) (fun a => .dats a.2.1 (a.2.2.map boxD) :: Γ)
      (fun a => own lf (.lst a.2.1) :: own a.1.2.1 (.lst ((hereM ls a.1.1 1).map V.str)) :: own p (.ins (He.ga K "ModelReader") dx (fl_ModelReader (.ref l) (.int (a.1.1 : Int)) (.int (k : Int)))) :: own l (.lst (ls.map V.str)) :: S)
      6 ((i, lw0, none), [], []) ⟨rfl, Nat.zero_le _, hil, rfl⟩ rfl (by k_extra "sub") (by k_extra "dr") ?_
    rintro m ⟨⟨j, lw, u⟩, vs, bs⟩ ⟨hm, hb6, hjl, hrd⟩
    dsimp only at hm hb6 hjl hrd ⊢
    have fin : ∀ (_ : boxesM nameB worthB ls (6 - bs.length) j bs = (bs, j)) (Γ2 : List Fc) (S2 : List Vo), (∀ f ∈ (.dats vs (bs.map boxD) :: Γ), f ∈ Γ2) → Dr S2 (own lf (.lst vs) :: own p (.ins (He.ga K "ModelReader") dx (fl_ModelReader (.ref l) (.int (j : Int)) (.int (k : Int)))) :: own l (.lst (ls.map V.str)) :: S) → Wh K Γ2 S2 fun H => Q (.ref lf) H := fun h Γ2 S2 hs hd H y => q _ [.dats vs (bs.map boxD)] _ H ⟨lf, vs, bs, j, by rw [hrd, h], hjl, hb6, rfl, rfl, rfl⟩ (y.fit hs hd)
    refine w_lenv (vs := vs) (by k_extra "m") fun hvl => ?_
    rw [List.length_map] at hvl
    obtain ⟨hbl, hbw⟩ := hereM_len (i := j) (d := 1) hww hso
    obtain ⟨ws, hws⟩ : ∃ ws, hereM ls j 1 = ws := ⟨_, rfl⟩
    rw [hws] at hbl hbw ⊢
    k_extra "W"
    refine w_lenL (by k_extra "at") ?_
    rw [hvl]
    k_extra "W"
    refine w_ite (fun h1 => ?_) (fun h1 => ?_)
    rotate_left
    · k_extra "W"
      refine fin ?_ _ _ (by k_extra "sub") (by k_extra "dr")
      rw [show 6 - bs.length = 0 by omega, boxesM]
    k_extra "W"
    refine w_lenL (by k_extra "at") ?_
    rw [List.length_map]
    k_extra "W"
    refine w_ite (fun h2 => ?_) (fun h2 => ?_)
    rotate_left
    · k_extra "W"
      exact fin (boxes_no fun w b x e => by exfalso; rw [hws] at e; subst e; exact h2 rfl) _ _ (by k_extra "sub") (by k_extra "dr")
    obtain ⟨a, b, c, rfl⟩ : ∃ a b c, ws = [a, b, c] := by
      rcases ws with _ | ⟨a, _ | ⟨b, _ | ⟨c, _ | ⟨d, r⟩⟩⟩⟩
      · exfalso; rw [List.length_nil] at h2; omega
      · exfalso; rw [List.length_singleton] at h2; omega
      · exfalso; rw [List.length_cons, List.length_singleton] at h2; omega
      · exact ⟨a, b, c, rfl⟩
      · exfalso; rw [List.length_cons, List.length_cons, List.length_cons, List.length_cons] at h2; omega
    have hlt : j < ls.length := here_some (d := 1) (by rw [hws]; exact List.cons_ne_nil _ _)
    k_extra "W"
    refine w_eqs ?_
    k_extra "W"
    refine w_ite (fun h3 => ?_) (fun h3 => ?_)
    rotate_left
    · k_extra "W"
      exact fin (boxes_no fun w b x e h => by exfalso; rw [hws] at e; cases e; exact h3 h) _ _ (by k_extra "sub") (by k_extra "dr")
    k_extra "W"
    refine w_turn ?_
    k_extra "W"
    refine w_don c (by k_extra "ts") (by have := (hbw c (by simp)).1; show (TL.tl c).length ≤ 50000; omega) ?_
    rintro _ Γ' S' ⟨rfl, rfl, rfl⟩
    dsimp only [List.cons_append, List.nil_append]
    k_extra "W"
    refine w_don b (by k_extra "ts") (by have := (hbw b (by simp)).1; show (TL.tl b).length ≤ 50000; omega) ?_
    rintro _ Γ' S' ⟨rfl, rfl, rfl⟩
    dsimp only [List.cons_append, List.nil_append]
    cases hn : nameB b with
    | false =>
      k_extra "W"
      exact fin (boxes_no fun w b x e _ h => by exfalso; rw [hws] at e; cases e; rw [hn] at h; cases h) _ _ (by k_extra "sub") (by k_extra "dr")
    | true =>
      k_extra "W"
      refine w_lc_l (ι := Unit) vs (fun _ _ => True) (fun i _ => (bs.take i).map fun b => V.str b.1) (fun _ _ => .dats vs (bs.map boxD) :: Γ) (fun _ _ => own lf (.lst vs) :: own lw (.lst ([a, b, c].map V.str)) :: own p (.ins (He.ga K "ModelReader") dx (fl_ModelReader (.ref l) (.int (j : Int)) (.int (k : Int)))) :: own l (.lst (ls.map V.str)) :: S) () True.intro rfl (by k_extra "sub") (by k_extra "dr") (fun _ _ => by k_extra "at") ?_ ?_
      · rintro Dl t v _ hv _
        have htl := (List.getElem?_eq_some_iff.mp hv).1
        refine w_datsGet (vs := vs) (by k_extra "m") hv fun d hd => ?_
        rw [List.getElem?_map] at hd
        obtain ⟨bx, hbx, rfl⟩ := Option.map_eq_some_iff.mp hd
        unfold boxD
        k_extra "W"
        refine w_lcp () True.intro ?_ (by k_extra "t") (by rw [List.length_map, List.length_take]; omega) (by k_extra "sub") (by k_extra "dr")
        rw [List.take_add_one, hbx, Option.toList_some, List.map_append]
        rfl
      rintro Dl _ _
      rw [hvl, List.take_of_length_le (Nat.le_refl _), show (bs.map fun b => V.str b.1) = (bs.map (·.1)).map V.str by rw [List.map_map]; rfl]
      k_extra "W"
      refine w_inL (by k_extra "at") rfl (strs_flat (bs.map (·.1))) (inV_strs b (bs.map (·.1))) ?_
      k_extra "W"
      refine w_ite (fun h4 => ?_) (fun h4 => ?_)
      · k_extra "W"
        exact fin (boxes_no fun w b x e _ _ h => by exfalso; rw [hws] at e; cases e; exact h h4) _ _ (by k_extra "sub") (by k_extra "dr")
      cases hw : worthB c with
      | none =>
        dsimp only [intV]
        k_extra "W"
        exact fin (boxes_no fun w b x e _ _ _ => by rw [hws] at e; cases e; exact hw) _ _ (by k_extra "sub") (by k_extra "dr")
      | some v =>
        dsimp only [intV]
        k_extra "W"
        refine w_app (by k_extra "sw") (by omega) ?_
        k_extra "W"
        refine w_fldaugL (by k_extra "at") lk_ModelReader_at T.c_ModelReader T.n_ModelReader_at ?_
        k_extra "W"
        refine w_putL (by k_extra "sw") pt_ModelReader_at rfl ?_
        rw [show (j : Int) + 1 = ((j + 1 : Nat) : Int) by omega]
        k_extra "W"
        rename_i tp
        refine w_don ((⟨⟨p, dx, l, ls⟩, j + 1, k⟩, 1) : MrA × Nat) (by dsimp only [MrA.S, mrS]; k_extra "ts") ⟨hok2 _ hlt, (by decide : (1 : Nat) ≤ 8)⟩ ?_
        rintro _ Γ' S' ⟨lw2, rfl, rfl, rfl⟩
        dsimp only [MrA.S, mrS, List.cons_append, List.nil_append]
        k_extra "W"
        refine w_dats (vs := vs ++ [.ref tp]) (ds := (bs ++ [(b, v)]).map boxD) (by rw [List.map_append]; exact DL.snoc (DL.mem (by k_extra "m")) (DV.mem (by show Fc.dat (.ref tp) (.tuple [.str b, .int v]) ∈ _; k_extra "m"))) ?_
        refine w_less (6 - (bs ++ [(b, v)]).length) (by rw [List.length_append, List.length_singleton]; omega) (w_again ((j + 1, lw2, _), vs ++ [.ref tp], bs ++ [(b, v)]) ⟨rfl, by dsimp only; rw [List.length_append, List.length_singleton]; omega, hlt, ?_⟩ rfl (by k_extra "sub") (by k_extra "dr"))
        dsimp only
        rw [hrd, List.length_append, List.length_singleton, show 6 - bs.length = (6 - (bs.length + 1)) + 1 by omega, boxes_yes hws h3 hn h4 hw]
theorem ok_ModelReader_read_queues (T : Tx K mg) : OkM P w K mg base 5 "ModelReader" "read_queues" ["self", "used"] (spQueuesM K) := by
  have G_ModelReader_named := ok_ModelReader_named (P := P) (w := w) (base := base) T
  refine T.f_ModelReader_read_queues.okX sc_ModelReader_read_queues (fun vs H Q E h => ?_) (fun cdv A outer s H vs Q E hr h => ?_)
  · obtain ⟨i, _, _, rfl, _⟩ := h
    rfl
  · have hu1 := hu_of hr; have hu0 := hr.units0; have hu64 := hr.units; have hu65 := hu65_of hr; have nd := sc_ModelReader_read_queues.nd
    obtain ⟨⟨⟨⟨p, dx, l, ls⟩, i, k⟩, lu, us⟩, Γ, S, rfl, z, ⟨hok, hul⟩, q, x⟩ := h
    obtain ⟨⟨hwl, hww, hso⟩, hil⟩ := id hok
    dsimp only [MrA.S, mrS] at z hil hwl hww hso hul q x
    refine ⟨_, (pss_cons (ps_set (i := 2) nd rfl (Or.inl rfl) (pe_lst pa_nil))
      (pss_cons (ps_while (passes_of rfl) (pt_cmpR (op_ltK (K := K) rfl hu0) (pe_callB (call_lenK (K := K) rfl) (by rfl) T.b_len (by decide +kernel) (pa_cons (pv 2) pa_nil)) (T.v_QUEUES) (nomark _)) (pss_cons (ps_set (i := 3) nd rfl (Or.inl rfl) (pmeK (K := K) rfl T.m_ModelReader_named T.c_ModelReader G_ModelReader_named hr (takes_of rfl rfl rfl rfl) (pv 0) (pa_cons pe_int (pa_cons pe_str (pa_cons (pe_op (op_addK (K := K) rfl) (pv 1) (pv 2)) pa_nil)))))
      (pss_cons (ps_if (pt_cmpR op_isN1 (pv 3) pe_non (nomark _)) (pss_one (ps_ret (pv 2)))
      pss_nil)
      (pss_one (ps_expr (pe_bmK (K := K) rfl PySem.F.plainAttrs_list PySem.F.slot_list_append PySem.F.type_list_append mt_append (pv 2) (pa_cons (pv 3) pa_nil)))))))
      (pss_one (ps_ret (pv 2))))), ?_⟩
    refine w_start (σ' := [some (.ref p), some (.ref lu), none, none]) rfl z ?_
    dsimp only [List.cons_append, List.nil_append] at q ⊢
    have hok2 : ∀ j, j ≤ ls.length → MrA.Ok ⟨⟨p, dx, l, ls⟩, j, k⟩ := fun j h => ⟨⟨hwl, hww, hso⟩, h⟩
    k_extra "W"
    refine w_lstO fun lf => ?_
    k_extra "W"
    refine w_while (ω := Unit) (ι := (Nat × Option V) × List Str) (fun m a => m = 3 - a.2.length ∧ a.2.length ≤ 3 ∧ a.1.1 ≤ ls.length ∧ queuesM nameB ls us 3 i [] = queuesM nameB ls us (3 - a.2.length) a.1.1 a.2)
      (fun a => [some (.ref p), some (.ref lu), some (.ref lf), a.1.2]) (fun _ => Γ)
      (fun a => own lf (.lst (a.2.map V.str)) :: own p (.ins (He.ga K "ModelReader") dx (fl_ModelReader (.ref l) (.int (a.1.1 : Int)) (.int (k : Int)))) :: own l (.lst (ls.map V.str)) :: own lu (.lst (us.map V.str)) :: S)
      3 ((i, none), []) ⟨rfl, Nat.zero_le _, hil, rfl⟩ rfl (by k_extra "sub") (by k_extra "dr") ?_
    rintro m ⟨⟨j, u⟩, qs⟩ ⟨hm, hb6, hjl, hrd⟩
    dsimp only at hm hb6 hjl hrd ⊢
    have fin : ∀ (_ : queuesM nameB ls us (3 - qs.length) j qs = (qs, j)) (Γ2 : List Fc) (S2 : List Vo), (∀ f ∈ Γ, f ∈ Γ2) → Dr S2 (own lf (.lst (qs.map V.str)) :: own p (.ins (He.ga K "ModelReader") dx (fl_ModelReader (.ref l) (.int (j : Int)) (.int (k : Int)))) :: own l (.lst (ls.map V.str)) :: S) → Wh K Γ2 S2 fun H => Q (.ref lf) H := fun h Γ2 S2 hs hd H y => q _ [] _ H ⟨lf, qs, j, by rw [hrd, h], hjl, hb6, rfl, rfl, rfl⟩ (y.fit hs hd)
    k_extra "W"
    refine w_lenL (by k_extra "at") ?_
    rw [List.length_map]
    k_extra "W"
    refine w_ite (fun h1 => ?_) (fun h1 => ?_)
    rotate_left
    · k_extra "W"
      refine fin ?_ _ _ (by k_extra "sub") (by k_extra "dr")
      rw [show 3 - qs.length = 0 by omega, queuesM]
    k_extra "W"
    refine w_turn ?_
    k_extra "W"
    refine w_addL (by k_extra "at") (by k_extra "at") (by rw [List.length_map, List.length_map]; omega) fun l2 => ?_
    rw [← List.map_append]
    k_extra "W"
    refine w_don (⟨⟨⟨p, dx, l, ls⟩, j, k⟩, 1, Str.ofString "queue", l2, us ++ qs⟩ : NamI) (by dsimp only [MrA.S, mrS]; k_extra "ts") ⟨hok2 _ hjl, (by decide : (1 : Nat) ≤ 8), by dsimp only; rw [List.length_append]; omega⟩ ?_
    rintro _ Γ' S' ⟨rfl, rfl, hjb, rfl⟩
    dsimp only [NamI.r, mrS, List.cons_append, List.nil_append] at hjb ⊢
    cases hn : namedM nameB ls j 1 (Str.ofString "queue") (us ++ qs) with
    | none =>
      dsimp only [optS, optJ]
      k_extra "W"
      exact fin (queues_no hn) _ _ (by k_extra "sub") (by k_extra "dr")
    | some n =>
      rw [hn] at hjb
      dsimp only [optS, optJ] at hjb ⊢
      k_extra "W"
      refine w_isN ?_
      rw [decide_eq_false (fun e => nomatch e)]
      k_extra "W"
      refine w_app (by k_extra "sw") (by rw [List.length_map]; omega) ?_
      k_extra "W"
      refine w_less (3 - (qs ++ [n]).length) (by rw [List.length_append, List.length_singleton]; omega) (w_again ((j + 1, _), qs ++ [n]) ⟨rfl, by dsimp only; rw [List.length_append, List.length_singleton]; omega, hjb, ?_⟩ rfl (by k_extra "sub") ?_)
      · dsimp only
        rw [hrd, List.length_append, List.length_singleton, show 3 - qs.length = (3 - (qs.length + 1)) + 1 by omega, queues_yes hn]
      · dsimp only
        rw [show (qs ++ [n]).map V.str = qs.map V.str ++ [V.str n] from List.map_append ..]
        k_extra "dr"
theorem ok_ModelReader_read_draws (T : Tx K mg) : OkM P w K mg base 5 "ModelReader" "read_draws" ["self"] (spDrawsM K) := by
  have G_ModelReader_here := ok_ModelReader_here (P := P) (w := w) (base := base) T
  have G_within := ok_within (P := P) (w := w) (base := base) T
  refine T.f_ModelReader_read_draws.okX sc_ModelReader_read_draws (fun vs H Q E h => ?_) (fun cdv A outer s H vs Q E hr h => ?_)
  · obtain ⟨i, _, _, rfl, _⟩ := h
    rfl
  · have hu1 := hu_of hr; have hu0 := hr.units0; have hu64 := hr.units; have hu65 := hu65_of hr; have nd := sc_ModelReader_read_draws.nd
    obtain ⟨⟨⟨p, dx, l, ls⟩, i, k⟩, Γ, S, rfl, z, hok, q, x⟩ := h
    obtain ⟨⟨hwl, hww, hso⟩, hil⟩ := id hok
    dsimp only [MrA.S, mrS] at z hil hwl hww hso q x
    refine ⟨_, (pss_cons (ps_set (i := 1) nd rfl (Or.inl rfl) (pmeK (K := K) rfl T.m_ModelReader_here T.c_ModelReader G_ModelReader_here hr (takes_of rfl rfl rfl rfl) (pv 0) (pa_cons pe_int pa_nil)))
      (pss_cons (ps_if (PW.pt (pw_or (pt_cmpR (op_ltK (K := K) rfl hu0) (pe_callB (call_lenK (K := K) rfl) (by rfl) T.b_len (by decide +kernel) (pa_cons (pv 1) pa_nil)) pe_int (nomark _)) (pw_or (pt_cmpR (op_gt) (pe_callB (call_lenK (K := K) rfl) (by rfl) T.b_len (by decide +kernel) (pa_cons (pv 1) pa_nil)) (pe_op (op_addK (K := K) rfl) (T.v_DRAWS) pe_int) (nomark _)) (pw_or1 (pt_cmpR (op_neK (K := K) rfl hu64) (pe_ix (ix_anyK (K := K) rfl hu1) (pv 1) pe_int (fun _ _ => rfl)) pe_str (nomark _)))))) (pss_one (ps_ret (pe_lst pa_nil)))
      pss_nil)
      (pss_cons (ps_setLc (i := 2) rfl nd rfl rfl (sw_true rfl rfl rfl (by decide +kernel)) (own := [("word", 3)]) (pi_seqK (K := K) rfl (pe_slice (sl_anyK (K := K) rfl) (pv 1) (po_some pe_int) po_none)) (blkOk_by (own := [("word", 3)]) (N := nm_ModelReader_read_draws) (sc := defScope s_ModelReader_read_draws) (by decide +kernel)) (fun _ _ _ _ _ => (pg_name (i := 3) nd rfl (Or.inl rfl) (Or.inr rfl))) (fun _ _ _ _ _ => pts_nil) (fun _ _ _ _ _ => (pcl T.g_within G_within hr takes0 (pa_cons (pv 3) (pa_cons pe_int (pa_cons (T.v_GREATEST_modeltext) pa_nil))))))
      (pss_cons (ps_if (pt_cmpR (op_inK (K := K) rfl hu65) pe_non (pv 2) rfl) (pss_one (ps_ret (pe_lst pa_nil)))
      pss_nil)
      (pss_cons (ps_fldaugK (K := K) rfl (pv 0) pe_int in_add)
      (pss_one (ps_ret (pv 2)))))))), ?_⟩
    refine w_start (σ' := [some (.ref p), none, none, none]) rfl z ?_
    dsimp only [List.cons_append, List.nil_append] at q ⊢
    k_extra "W"
    refine w_don ((⟨⟨p, dx, l, ls⟩, i, k⟩, 1) : MrA × Nat) (by dsimp only [MrA.S, mrS]; k_extra "ts") ⟨hok, (by decide : (1 : Nat) ≤ 8)⟩ ?_
    rintro _ Γ' S' ⟨lw, rfl, rfl, rfl⟩
    dsimp only [MrA.S, mrS, List.cons_append, List.nil_append]
    have fin : ∀ (_ : drawsM drawB ls i = ([], i)) (lf : Addr) (Γ2 : List Fc) (S2 : List Vo), (∀ f ∈ Γ, f ∈ Γ2) → Dr S2 (own lf (.lst []) :: own p (.ins (He.ga K "ModelReader") dx (fl_ModelReader (.ref l) (.int (i : Int)) (.int (k : Int)))) :: own l (.lst (ls.map V.str)) :: S) → Wh K Γ2 S2 fun H => Q (.ref lf) H := fun h lf Γ2 S2 hs hd H y => q _ [] _ H ⟨lf, [], i, h, hil, Nat.zero_le _, rfl, rfl, rfl⟩ (y.fit hs hd)
    obtain ⟨hbl, hbw⟩ := hereM_len (i := i) (d := 1) hww hso
    have hdm : drawsM drawB ls i = match hereM ls i 1 with
      | w :: x :: r => if w = Str.ofString "draws" ∧ r.length ≤ 19 then (match (x :: r).mapM drawB with
        | some ds => (ds, i + 1)
        | none => ([], i)) else ([], i)
      | _ => ([], i) := rfl
    have hlt : hereM ls i 1 ≠ [] → i < ls.length := fun h => here_some h
    obtain ⟨ws, hws⟩ : ∃ ws, hereM ls i 1 = ws := ⟨_, rfl⟩
    rw [hws] at hbl hbw hdm hlt ⊢
    k_extra "W"
    refine w_lenL (by k_extra "at") ?_
    rw [List.length_map]
    k_extra "W"
    refine w_ite (fun h1 => ?_) (fun h1 => ?_)
    · k_extra "W"
      refine w_lstO fun lf => ?_
      refine fin ?_ lf _ _ (by k_extra "sub") (by k_extra "dr")
      rw [hdm]
      rcases ws with _ | ⟨a, _ | ⟨b, r⟩⟩
      · rfl
      · rfl
      · exfalso; rw [List.length_cons, List.length_cons] at h1; omega
    obtain ⟨a, b, r, rfl⟩ : ∃ a b r, ws = a :: b :: r := by
      rcases ws with _ | ⟨a, _ | ⟨b, r⟩⟩
      · exfalso; rw [List.length_nil] at h1; omega
      · exfalso; rw [List.length_singleton] at h1; omega
      · exact ⟨a, b, r, rfl⟩
    dsimp only at hdm
    k_extra "W"
    refine w_lenL (by k_extra "at") ?_
    rw [List.length_map]
    k_extra "W"
    refine w_ite (fun h2 => ?_) (fun h2 => ?_)
    · k_extra "W"
      refine w_lstO fun lf => ?_
      refine fin ?_ lf _ _ (by k_extra "sub") (by k_extra "dr")
      rw [hdm, if_neg]
      intro h
      have := h.2
      rw [List.length_cons, List.length_cons] at h2
      omega
    have hr19 : r.length ≤ 19 := by rw [List.length_cons, List.length_cons] at h2; omega
    k_extra "W"
    refine w_sub (v := .str a) (by k_extra "at") (atW (n := 0) rfl rfl) ?_
    k_extra "W"
    refine w_nes ?_
    k_extra "W"
    refine w_iteN (fun h3 => ?_) (fun h3 => ?_)
    · k_extra "W"
      refine w_lstO fun lf => ?_
      refine fin ?_ lf _ _ (by k_extra "sub") (by k_extra "dr")
      rw [hdm, if_neg fun h => h3 h.1]
    rw [if_pos ⟨h3, hr19⟩] at hdm
    k_extra "W"
    refine w_slLD 1 rfl (by k_extra "at") fun l2 => ?_
    rw [show ((a :: b :: r).map V.str).drop 1 = (b :: r).map V.str from rfl]
    k_extra "W"
    refine w_lc_l (ι := Unit) ((b :: r).map V.str) (fun _ _ => True) (fun i _ => ((b :: r).take i).map fun x => intV (drawB x)) (fun _ _ => Γ) (fun _ _ => own l2 (.lst ((b :: r).map V.str)) :: own lw (.lst ((a :: b :: r).map V.str)) :: own p (.ins (He.ga K "ModelReader") dx (fl_ModelReader (.ref l) (.int (i : Int)) (.int (k : Int)))) :: own l (.lst (ls.map V.str)) :: S) () True.intro rfl (by k_extra "sub") (by k_extra "dr") (fun _ _ => by k_extra "at") ?_ ?_
    · rintro Dl t v _ hv _
      rw [List.getElem?_map] at hv
      obtain ⟨y, hy, rfl⟩ := Option.map_eq_some_iff.mp hv
      have htl := (List.getElem?_eq_some_iff.mp hy).1
      rw [List.length_cons] at htl
      k_extra "W"
      refine w_don (y, 0, 1000000000000000) (by k_extra "ts") (by have := (hbw y (List.mem_cons_of_mem _ (List.mem_of_getElem? hy))).1; show (TL.tl y).length ≤ 50000; omega) ?_
      rintro _ Γ' S' ⟨rfl, rfl, rfl⟩
      dsimp only [List.cons_append, List.nil_append]
      k_extra "W"
      refine w_lcp () True.intro ?_ (by k_extra "t") (by rw [List.length_map, List.length_take, List.length_cons]; omega) (by k_extra "sub") (by k_extra "dr")
      rw [List.take_add_one, hy, Option.toList_some, List.map_append]
      rfl
    rintro Dl _ _
    rw [List.length_map, List.take_of_length_le (Nat.le_refl _)]
    k_extra "W"
    cases hn : (b :: r).mapM drawB with
    | none =>
      rw [hn] at hdm
      refine w_inL (by k_extra "at") rfl (opt_flat drawB (b :: r)) (mapM_none hn) ?_
      k_extra "W"
      refine w_lstO fun lf => ?_
      exact fin hdm lf _ _ (by k_extra "sub") (by k_extra "dr")
    | some ns =>
      rw [hn] at hdm
      rw [mapM_some hn]
      refine w_inL (by k_extra "at") rfl (ints_flatM ns) (inV_intsM ns) ?_
      k_extra "W"
      refine w_fldaugL (by k_extra "at") lk_ModelReader_at T.c_ModelReader T.n_ModelReader_at ?_
      k_extra "W"
      refine w_putL (by k_extra "sw") pt_ModelReader_at rfl ?_
      rw [show (i : Int) + 1 = ((i + 1 : Nat) : Int) by omega]
      k_extra "W"
      have hnl : ns.length = (b :: r).length := by
        have := congrArg List.length (mapM_some hn)
        rw [List.length_map, List.length_map] at this
        exact this.symm
      exact fun H z => q _ [] _ H ⟨_, ns, i + 1, hdm, hlt (List.cons_ne_nil _ _), by rw [hnl, List.length_cons]; omega, rfl, rfl, rfl⟩ (z.fit (by k_extra "sub") (by k_extra "dr"))
end
end Mo
namespace Mo
open PySem PySem.Spec PyProof.Rows L2
/-! ### ModelReader: deeds and blocks -/
def blockB (ls : List Str) : Nat → Nat → Nat → Nat → Nat → Except Nat (List Dd × Nat × Nat) := blockM oneB condB nameB ls
def deedB (ls : List Str) : Nat → Nat → Nat → Nat → Nat → Except Nat (Option Dd × Nat × Nat) := deedM oneB condB nameB ls
def chB (ls : List Str) (n d e i k : Nat) (o : Option Fm) : Except Nat (Option Dd × Nat × Nat) := match o with
  | none => .ok (none, i, k)
  | some f => match blockB ls n (d + 1) (e + 1) (i + 1) (k + 1) with
    | .error x => .error x
    | .ok (xs, i1, k1) => if hereM ls i1 d = [Str.ofString "else"] then (match blockB ls n (d + 1) (e + 1) (i1 + 1) k1 with
      | .error x => .error x
      | .ok (ys, i2, k2) => .ok (some (.iff f xs ys), i2, k2)) else .error (i1 + 1)
def plB (ls : List Str) (n d e i k : Nat) (a b : Str) : Except Nat (Option Dd × Nat × Nat) := match blockB ls n (d + 1) (e + 1) (i + 1) (k + 1) with
  | .error x => .error x
  | .ok (xs, i1, k1) => .ok (some (.pull a b xs), i1, k1)
section
variable {ls : List Str} {n d e i k : Nat}
theorem block_deep (h : 5 < e) : blockB ls (n + 1) d e i k = .ok ([], i, k) := by
  unfold blockB
  rw [blockM, if_pos h]
theorem block_step (h : e ≤ 5) : blockB ls (n + 1) d e i k = match deedB ls n d e i k with
      | .error x => .error x
      | .ok (none, i1, k1) => .ok ([], i1, k1)
      | .ok (some x, i1, k1) => match blockB ls n d e i1 k1 with
        | .error y => .error y
        | .ok (ds, i2, k2) => .ok (x :: ds, i2, k2) := by
  unfold blockB deedB
  rw [blockM, if_neg (by omega)]
  all_goals rfl
theorem deed_nil (h : hereM ls i d = [] ∨ k = 20) : deedB ls (n + 1) d e i k = .ok (none, i, k) := by
  unfold deedB
  rw [deedM]
  split
  · rfl
  · rename_i w ws hw
    rcases h with h | h
    · rw [hw] at h; cases h
    · rw [if_pos h]
theorem deed_if {w : Str} {ws : List Str} (hw : hereM ls i d = w :: ws) (hk : k ≠ 20) (h : w = Str.ofString "if") : deedB ls (n + 1) d e i k = chB ls n d e i k (condB ws) := by
  unfold deedB
  rw [deedM, hw]
  dsimp only
  rw [if_neg hk, if_pos h]
  rfl
theorem if_pull : Str.ofString "pull" ≠ Str.ofString "if" := by decide +kernel
theorem deed_pull {w a b : Str} (hw : hereM ls i d = [w, a, b]) (hk : k ≠ 20) (h : w = Str.ofString "pull") (ha : nameB a = true) (hb : nameB b = true) : deedB ls (n + 1) d e i k = plB ls n d e i k a b := by
  unfold deedB
  rw [deedM, hw]
  dsimp only
  rw [if_neg hk, if_neg (by rw [h]; exact if_pull), if_pos ⟨h, ha, hb⟩]
  rfl
theorem deed_one {w : Str} {ws : List Str} (hw : hereM ls i d = w :: ws) (hk : k ≠ 20) (h1 : w ≠ Str.ofString "if") (h2 : ∀ a b, ws = [a, b] → ¬ (w = Str.ofString "pull" ∧ nameB a = true ∧ nameB b = true)) :
    deedB ls (n + 1) d e i k = match oneB (w :: ws) with
      | some x => .ok (some x, i + 1, k + 1)
      | none => .ok (none, i, k) := by
  unfold deedB
  rw [deedM, hw]
  dsimp only
  rw [if_neg hk, if_neg h1]
  rcases ws with _ | ⟨a, _ | ⟨b, _ | ⟨c, r⟩⟩⟩
  · rfl
  · rfl
  · dsimp only
    rw [if_neg (h2 a b rfl)]
    all_goals rfl
  · rfl
end
structure BlkI where
  a : MrA
  e : Nat
  F : Nat
structure BlkI.Ok (x : BlkI) (m : Nat) : Prop where
  a : x.a.Ok
  k : x.a.k ≤ 20
  em : x.e + m = 6
  F : 2 * (x.a.b.ls.length - x.a.i) + 2 ≤ x.F
def spBlockM (m : Nat) (K : PySem.W.Frag) : Sp := SpE K (fun x : BlkI => [.ref x.a.b.p, .int ((x.e + 1 : Nat) : Int), .int (x.e : Int)]) (fun x _ => x.Ok m) (fun x => x.a.S K)
  (fun x v Γ' S' => ∃ (lp : Addr) (ts : List Tr) (ds : List Dd) (j k : Nat), blockB x.a.b.ls x.F (x.e + 1) x.e x.a.i x.a.k = .ok (ds, j, k) ∧ x.a.i ≤ j ∧ j ≤ x.a.b.ls.length ∧ k ≤ 20 ∧ ds.length + x.a.k ≤ k ∧ ts.map Tr.dat = ds.map Dd.data ∧ (∀ t ∈ ts, SpOk (19 + 2 * m) t) ∧
    v = .ref lp ∧ Γ' = [trsF K ts] ∧ S' = own lp (.lst (ts.map Tr.v)) :: segsV Tr.S ts :: mrS K x.a.b j k)
  (fun x e d Γ' S' => ∃ n : Nat, blockB x.a.b.ls x.F (x.e + 1) x.e x.a.i x.a.k = .error n ∧ noTextX K (n : Int) e d Γ' S')
def dOut (K : PySem.W.Frag) (m : Nat) (b : MrI) (i k : Nat) (r : Except Nat (Option Dd × Nat × Nat)) (v : V) (Γ' : List Fc) (S' : List Vo) : Prop :=
  (r = .ok (none, i, k) ∧ v = .non ∧ Γ' = [] ∧ S' = mrS K b i k) ∨
  ∃ (t : Tr) (x : Dd) (a : Addr) (j k2 : Nat), r = .ok (some x, j, k2) ∧ i < j ∧ j ≤ b.ls.length ∧ k2 ≤ 20 ∧ k < k2 ∧ t.dat = x.data ∧ SpOk (19 + 2 * m) t ∧ t.v = .ref a ∧ v = .ref a ∧ Γ' = [trF K t] ∧ S' = t.S :: mrS K b j k2
structure BlkI.Ok1 (x : BlkI) (m : Nat) : Prop where
  a : x.a.Ok
  k : x.a.k ≤ 20
  em : x.e + m = 6
  F : 2 * (x.a.b.ls.length - x.a.i) + 1 ≤ x.F
def spDeedM (m : Nat) (K : PySem.W.Frag) : Sp := SpE K (fun x : BlkI => [.ref x.a.b.p, .int ((x.e + 1 : Nat) : Int), .int (x.e : Int)]) (fun x _ => x.Ok1 m ∧ 1 ≤ m) (fun x => x.a.S K)
  (fun x v Γ' S' => dOut K m x.a.b x.a.i x.a.k (deedB x.a.b.ls x.F (x.e + 1) x.e x.a.i x.a.k) v Γ' S')
  (fun x e d Γ' S' => ∃ n : Nat, deedB x.a.b.ls x.F (x.e + 1) x.e x.a.i x.a.k = .error n ∧ noTextX K (n : Int) e d Γ' S')
structure ChI where
  x : BlkI
  c : Option (Addr × V × Fm)
def ChI.V (y : ChI) : V := match y.c with
  | none => .non
  | some (l, _, _) => .ref l
def ChI.S (y : ChI) : List Vo := match y.c with
  | none => []
  | some (l, v, _) => [own l (.lst [v])]
def spChoiceM (m : Nat) (K : PySem.W.Frag) : Sp := SpE K (fun y : ChI => [.ref y.x.a.b.p, y.V, .int ((y.x.e + 1 : Nat) : Int), .int (y.x.e : Int)])
  (fun y Γ => y.x.a.Ok ∧ y.x.e + m = 6 ∧ 2 * (y.x.a.b.ls.length - y.x.a.i) ≤ y.x.F ∧ 1 ≤ m ∧ y.x.a.i < y.x.a.b.ls.length ∧ y.x.a.k < 20 ∧ ∀ l v f, y.c = some (l, v, f) → .dat v f.data ∈ Γ ∧ SpD 18 f.data) (fun y => y.x.a.S K ++ y.S)
  (fun y v Γ' S' => dOut K m y.x.a.b y.x.a.i y.x.a.k (chB y.x.a.b.ls y.x.F (y.x.e + 1) y.x.e y.x.a.i y.x.a.k (y.c.map fun c => c.2.2)) v Γ' S')
  (fun y e d Γ' S' => ∃ n : Nat, chB y.x.a.b.ls y.x.F (y.x.e + 1) y.x.e y.x.a.i y.x.a.k (y.c.map fun c => c.2.2) = .error n ∧ noTextX K (n : Int) e d Γ' S')
def oaV : Option (Addr × Dd) → V
  | none => .non
  | some p => .ref p.1
def oaF : Option (Addr × Dd) → List Fc
  | none => []
  | some p => [.dat (.ref p.1) p.2.data]
theorem tr_nums {ts : List Tr} {ds : List Dd} (h : ts.map Tr.dat = ds.map Dd.data) : ts.length = ds.length := by
  have := congrArg List.length h
  rwa [List.length_map, List.length_map] at this
theorem dats_datas {ts : List Tr} {ds : List Dd} (h : ts.map Tr.dat = ds.map Dd.data) : Tr.dats ts = Dd.datas ds := by
  rw [Tr.dats_map, h]
  exact (datas_map ds).symm
theorem sok_else : ∀ x ∈ [Str.ofString "else"], SOk x := fun x h => by rw [List.mem_singleton.mp h]; show PyData.strOk _ = true; decide +kernel
theorem sok_end : ∀ x ∈ [Str.ofString "end"], SOk x := fun x h => by rw [List.mem_singleton.mp h]; show PyData.strOk _ = true; decide +kernel
section
variable {P : Program} {w : World} {K : PySem.W.Frag} {mg : Str → Option Value} {base : Heap}
theorem ok_ModelReader_choice (T : Tx K mg) (m l : Nat) (G_ModelReader_block : OkM P w K mg base l "ModelReader" "block" ["self", "depth", "deep"] (spBlockM m K)) (hl : 4 ≤ l) : OkM P w K mg base (l + 1) "ModelReader" "choice" ["self", "formulas", "depth", "deep"] (spChoiceM (m + 1) K) := by
  have G_ModelReader_here := ok_ModelReader_here (P := P) (w := w) (base := base) T
  have G_ModelReader_go_on := ok_ModelReader_go_on (P := P) (w := w) (base := base) T
  have G_ModelReader_refuse := ok_ModelReader_refuse (P := P) (w := w) (base := base) T
  refine T.f_ModelReader_choice.okX sc_ModelReader_choice (fun vs H Q E h => ?_) (fun cdv A outer s H vs Q E hr h => ?_)
  · obtain ⟨i, _, _, rfl, _⟩ := h
    rfl
  · have hu1 := hu_of hr; have hu0 := hr.units0; have hu64 := hr.units; have hu65 := hu65_of hr; have nd := sc_ModelReader_choice.nd
    obtain ⟨⟨⟨⟨⟨p, dx, l, ls⟩, i, k⟩, e, F⟩, c⟩, Γ, S, rfl, z, ⟨hok, hem, hF, _, hlt, hk, hc⟩, q, x⟩ := h
    obtain ⟨⟨hwl, hww, hso⟩, hil⟩ := id hok
    dsimp only [MrA.S, mrS, ChI.V, ChI.S] at z hil hwl hww hso hem hF hlt hk hc q x
    have hok2 : ∀ j k, j ≤ ls.length → MrA.Ok ⟨⟨p, dx, l, ls⟩, j, k⟩ := fun j k h => ⟨⟨hwl, hww, hso⟩, h⟩
    refine ⟨_, (pss_cons (ps_if (pt_cmpR op_isN1 (pv 1) pe_non (nomark _)) (pss_one (ps_ret pe_non))
      pss_nil)
      (pss_cons (ps_expr (pme0K (K := K) rfl T.m_ModelReader_go_on T.c_ModelReader G_ModelReader_go_on hr (takes_of rfl rfl rfl rfl) (pv 0)))
      (pss_cons (ps_set (i := 4) nd rfl (Or.inl rfl) (pmeK (K := K) rfl T.m_ModelReader_block T.c_ModelReader G_ModelReader_block hr (takes_of rfl rfl rfl rfl) (pv 0) (pa_cons (pe_op (op_addK (K := K) rfl) (pv 2) pe_int) (pa_cons (pe_op (op_addK (K := K) rfl) (pv 3) pe_int) pa_nil))))
      (pss_cons (ps_if (pt_cmpR (op_neK (K := K) rfl hu64) (pmeK (K := K) rfl T.m_ModelReader_here T.c_ModelReader G_ModelReader_here hr (takes_of rfl rfl rfl rfl) (pv 0) (pa_cons (pv 2) pa_nil)) (pe_lst (pa_cons pe_str pa_nil)) (nomark _)) (pss_one (ps_expr (pme0K (K := K) rfl T.m_ModelReader_refuse T.c_ModelReader G_ModelReader_refuse hr (takes_of rfl rfl rfl rfl) (pv 0))))
      pss_nil)
      (pss_cons (ps_fldaugK (K := K) rfl (pv 0) pe_int in_add)
      (pss_one (ps_ret (pe_tup (pa_cons pe_str (pa_cons (pe_ix (ix_anyK (K := K) rfl hu1) (pv 1) pe_int (fun _ _ => rfl)) (pa_cons (pv 4) (pa_cons (pmeK (K := K) rfl T.m_ModelReader_block T.c_ModelReader G_ModelReader_block hr (takes_of rfl rfl rfl rfl) (pv 0) (pa_cons (pe_op (op_addK (K := K) rfl) (pv 2) pe_int) (pa_cons (pe_op (op_addK (K := K) rfl) (pv 3) pe_int) pa_nil))) pa_nil)))))))))))), ?_⟩
    cases c with
    | none =>
      dsimp only [List.append_nil] at z q x
      refine w_start (σ' := [some (.ref p), some .non, some (.int ((e + 1 : Nat) : Int)), some (.int (e : Int)), none]) rfl z ?_
      dsimp only [List.cons_append, List.nil_append] at q ⊢
      k_extra "W"
      exact fun H y => q _ [] _ H (.inl ⟨rfl, rfl, rfl, rfl⟩) (y.fit (by k_extra "sub") (by k_extra "dr"))
    | some c =>
      obtain ⟨lf, vf, f⟩ := c
      obtain ⟨hf, hfs⟩ := hc lf vf f rfl
      dsimp only [Option.map_some] at z q x
      refine w_start (σ' := [some (.ref p), some (.ref lf), some (.int ((e + 1 : Nat) : Int)), some (.int (e : Int)), none]) rfl z ?_
      dsimp only [List.cons_append, List.nil_append] at q ⊢
      k_extra "W"
      refine w_don (⟨⟨p, dx, l, ls⟩, i, k⟩ : MrA) (by dsimp only [MrA.S, mrS]; k_extra "ts") True.intro ?_
      rintro _ Γ' S' ⟨rfl, rfl, rfl⟩
      dsimp only [mrS, List.cons_append, List.nil_append]
      k_extra "W"
      rw [show ((e + 1 : Nat) : Int) + 1 = ((e + 1 + 1 : Nat) : Int) by omega, show (e : Int) + 1 = ((e + 1 : Nat) : Int) by omega]
      refine w_doE (⟨⟨⟨p, dx, l, ls⟩, i + 1, k + 1⟩, e + 1, F⟩ : BlkI) (by dsimp only [MrA.S, mrS]; k_extra "ts") ⟨hok2 _ _ hlt, hk, by dsimp only; omega, by dsimp only; omega⟩ ?_ ?_
      rotate_left
      · rintro ex d Γ' S' ⟨n, h1, rfl, dd, rfl, rfl, rfl⟩
        dsimp only at h1
        exact fun H y => x _ _ _ _ H ⟨n, by unfold chB; dsimp only; rw [h1], rfl, dd, rfl, rfl, rfl⟩ (y.fit (by k_extra "sub") (by k_extra "dr"))
      rintro _ Γ' S' ⟨l1, ts1, ds1, j1, k1, h1, h2, h3, h4, h5, h6, h7, rfl, rfl, rfl⟩
      dsimp only [mrS, List.cons_append, List.nil_append] at h1 h2 h3 h4 h5 h6 h7 ⊢
      k_extra "W"
      refine w_don ((⟨⟨p, dx, l, ls⟩, j1, k1⟩, e + 1) : MrA × Nat) (by dsimp only [MrA.S, mrS]; k_extra "ts") ⟨hok2 _ _ h3, by dsimp only; omega⟩ ?_
      rintro _ Γ' S' ⟨lw, rfl, rfl, rfl⟩
      dsimp only [MrA.S, mrS, List.cons_append, List.nil_append]
      obtain ⟨hbl, hbw⟩ := hereM_len (i := j1) (d := e + 1) hww hso
      k_extra "W"
      refine w_lstO fun lq => ?_
      refine w_neW (xs := hereM ls j1 (e + 1)) (ys := [Str.ofString "else"]) (by k_extra "at") (show AtH K _ _ lq (.lst [V.str (Str.ofString "else")]) by k_extra "at") (fun y hy => (hbw y hy).2) sok_else ?_
      k_extra "W"
      refine w_iteN (fun h8 => ?_) (fun h8 => ?_)
      · k_extra "W"
        refine w_doE (⟨⟨p, dx, l, ls⟩, j1, k1⟩ : MrA) (by dsimp only [MrA.S, mrS]; k_extra "ts") True.intro ?_ ?_
        · rintro v Γ' S' h
          exact h.elim
        · rintro ex d Γ' S' ⟨rfl, dd, rfl, rfl, rfl⟩
          exact fun H y => x _ _ _ _ H ⟨j1 + 1, by unfold chB; dsimp only; rw [h1]; dsimp only; rw [if_neg h8], rfl, dd, rfl, rfl, rfl⟩ (y.fit (by k_extra "sub") (by k_extra "dr"))
      have hlt1 : j1 < ls.length := here_some (d := e + 1) (by rw [h8]; exact List.cons_ne_nil _ _)
      k_extra "W"
      refine w_fldaugL (by k_extra "at") lk_ModelReader_at T.c_ModelReader T.n_ModelReader_at ?_
      k_extra "W"
      refine w_putL (by k_extra "sw") pt_ModelReader_at rfl ?_
      rw [show (j1 : Int) + 1 = ((j1 + 1 : Nat) : Int) by omega]
      k_extra "W"
      rw [show ((e + 1 : Nat) : Int) + 1 = ((e + 1 + 1 : Nat) : Int) by omega, show (e : Int) + 1 = ((e + 1 : Nat) : Int) by omega]
      refine w_doE (⟨⟨⟨p, dx, l, ls⟩, j1 + 1, k1⟩, e + 1, F⟩ : BlkI) (by dsimp only [MrA.S, mrS]; k_extra "ts") ⟨hok2 _ _ hlt1, h4, by dsimp only; omega, by dsimp only; omega⟩ ?_ ?_
      rotate_left
      · rintro ex d Γ' S' ⟨n, g1, rfl, dd, rfl, rfl, rfl⟩
        dsimp only at g1
        exact fun H y => x _ _ _ _ H ⟨n, by unfold chB; dsimp only; rw [h1]; dsimp only; rw [if_pos h8, g1], rfl, dd, rfl, rfl, rfl⟩ (y.fit (by k_extra "sub") (by k_extra "dr"))
      rintro _ Γ' S' ⟨l2, ts2, ds2, j2, k2, g1, g2, g3, g4, g5, g6, g7, rfl, rfl, rfl⟩
      dsimp only [mrS, List.cons_append, List.nil_append] at g1 g2 g3 g4 g5 g6 g7 ⊢
      k_extra "W"
      rename_i tp
      have hl1 := tr_nums h6
      have hl2 := tr_nums g6
      refine w_trL (p := l2) (ts := ts2) (by k_extra "m") ?_
      refine w_trL (p := l1) (ts := ts1) (by k_extra "m") ?_
      refine w_trDm (v := vf) (d := f.data) (by k_extra "m") ?_
      refine w_trW (x := .s (Str.ofString "if")) ?_
      refine w_trsNil ?_
      refine w_trsSnoc (ts := []) (t := Tr.wd (.s (Str.ofString "if"))) List.mem_cons_self (by k_extra "m") ?_
      refine w_trsSnoc (ts := [] ++ [Tr.wd (.s (Str.ofString "if"))]) (t := Tr.dt vf f.data) List.mem_cons_self (by k_extra "m") ?_
      refine w_trsSnoc (ts := [] ++ [Tr.wd (.s (Str.ofString "if"))] ++ [Tr.dt vf f.data]) (t := Tr.ls l1 ts1) List.mem_cons_self (by k_extra "m") ?_
      refine w_trsSnoc (ts := [] ++ [Tr.wd (.s (Str.ofString "if"))] ++ [Tr.dt vf f.data] ++ [Tr.ls l1 ts1]) (t := Tr.ls l2 ts2) List.mem_cons_self (by k_extra "m") ?_
      dsimp only [List.nil_append, List.cons_append]
      refine w_trT (p := tp) (ts := [.wd (.s (Str.ofString "if")), .dt vf f.data, .ls l1 ts1, .ls l2 ts2]) List.mem_cons_self (by show Fc.obj tp (.tup [V.str (Str.ofString "if"), vf, V.ref l1, V.ref l2]) ∈ _; k_extra "m") ?_
      have hS : (Tr.tu tp [.wd (.s (Str.ofString "if")), .dt vf f.data, .ls l1 ts1, .ls l2 ts2]).S = own l1 (.lst (ts1.map Tr.v)) ++ (segsV Tr.S ts1 ++ (own l2 (.lst (ts2.map Tr.v)) ++ segsV Tr.S ts2)) := by
        rw [Tr.S, Tr.SS, Tr.SS, Tr.SS, Tr.SS, Tr.SS, Tr.S, Tr.S, Tr.S, Tr.S, Tr.SS_segs, Tr.SS_segs, List.append_nil, List.append_assoc]
        rfl
      refine fun H y => q _ [trF K (.tu tp [.wd (.s (Str.ofString "if")), .dt vf f.data, .ls l1 ts1, .ls l2 ts2])] ((Tr.tu tp [.wd (.s (Str.ofString "if")), .dt vf f.data, .ls l1 ts1, .ls l2 ts2]).S :: mrS K ⟨p, dx, l, ls⟩ j2 k2) H (.inr ⟨.tu tp [.wd (.s (Str.ofString "if")), .dt vf f.data, .ls l1 ts1, .ls l2 ts2], .iff f ds1 ds2, tp, j2, k2, ?_, by omega, g3, g4, by omega, ?_, ?_, rfl, rfl, rfl, rfl⟩) (y.fit (sub_put List.mem_cons_self (by k_extra "sub")) ?_)
      · unfold chB
        dsimp only
        rw [h1]
        dsimp only
        rw [if_pos h8, g1]
      · rw [Tr.dat, Tr.dats, Tr.dats, Tr.dats, Tr.dats, Tr.dats, Tr.dat, Tr.dat, Tr.dat, Tr.dat, Dd.data, dats_datas h6, dats_datas g6]
        rfl
      · refine SpOk.up (SpOk.tu (n := 18 + 2 * (m + 1)) fun t ht => ?_) (by omega)
        simp only [List.mem_cons, List.not_mem_nil, or_false] at ht
        rcases ht with rfl | rfl | rfl | rfl
        · exact SpOk.up (SpOk.wd (n := 0)) (by omega)
        · exact .dt (hfs.up (by omega))
        · exact SpOk.up (SpOk.ls (n := 19 + 2 * m) h7 (by omega)) (by omega)
        · exact SpOk.up (SpOk.ls (n := 19 + 2 * m) g7 (by omega)) (by omega)
      · rw [hS]
        dsimp only [mrS, List.cons_append, List.nil_append]
        refine Dr.glue (Dr.keep (by k_extra "t") (Dr.glue (Dr.keep (by k_extra "t") (Dr.glue ?_))))
        k_extra "dr"
end
end Mo
namespace Mo
open PySem PySem.Spec PyProof.Rows L2
/-! ### ModelReader: a deed -/
theorem Dr.nilSegM {S R : List Vo} (h : Dr S R) : Dr S ([] :: R) := by
  obtain ⟨J, j⟩ := h
  exact ⟨J, by rw [List.flatten_append] at j ⊢; exact j⟩
theorem Dr.appL {A B : List Vo} (S' : List Vo) (h : Dr A B) : Dr (S' ++ A) (S' ++ B) := by
  obtain ⟨J, j⟩ := h
  refine ⟨J, ?_⟩
  rw [List.flatten_append] at j ⊢
  rw [List.flatten_append, List.flatten_append]
  exact (List.Perm.append_left _ j).trans (by rw [← List.append_assoc, ← List.append_assoc]; exact List.Perm.append_right _ List.perm_append_comm)
theorem sub_appL {Γ Γ2 : List Fc} (Γ' : List Fc) (h : ∀ f ∈ Γ, f ∈ Γ2) : ∀ f ∈ Γ' ++ Γ, f ∈ Γ' ++ Γ2 := fun f m => by
  rcases List.mem_append.mp m with m | m
  · exact List.mem_append_left _ m
  · exact List.mem_append_right _ (h f m)
section
variable {P : Program} {w : World} {K : PySem.W.Frag} {mg : Str → Option Value} {base : Heap}
theorem ok_ModelReader_deed (T : Tx K mg) (m l : Nat) (G_ModelReader_block : OkM P w K mg base l "ModelReader" "block" ["self", "depth", "deep"] (spBlockM m K)) (hl : 28 ≤ l) : OkM P w K mg base (l + 2) "ModelReader" "deed" ["self", "depth", "deep"] (spDeedM (m + 1) K) := by
  have G_ModelReader_choice := ok_ModelReader_choice (P := P) (w := w) (base := base) T m l G_ModelReader_block (by omega)
  have G_ModelReader_here := ok_ModelReader_here (P := P) (w := w) (base := base) T
  have G_ModelReader_go_on := ok_ModelReader_go_on (P := P) (w := w) (base := base) T
  have G_is_name := ok_is_name (P := P) (w := w) (base := base) T
  have G_formulas_of := ok_formulas_of (P := P) (w := w) (base := base) T
  have G_send_deed := ok_send_deed (P := P) (w := w) (base := base) T
  have G_named_deed := ok_named_deed (P := P) (w := w) (base := base) T
  refine T.f_ModelReader_deed.okX sc_ModelReader_deed (fun vs H Q E h => ?_) (fun cdv A outer s H vs Q E hr h => ?_)
  · obtain ⟨i, _, _, rfl, _⟩ := h
    rfl
  · have hu1 := hu_of hr; have hu0 := hr.units0; have hu64 := hr.units; have hu65 := hu65_of hr; have nd := sc_ModelReader_deed.nd
    obtain ⟨⟨⟨⟨p, dx, l, ls⟩, i, k⟩, e, F⟩, Γ, S, rfl, z, ⟨hok, _⟩, q, x⟩ := h
    obtain ⟨⟨⟨hwl, hww, hso⟩, hil⟩, hk, hem, hF⟩ := id hok
    dsimp only [MrA.S, mrS] at z hil hwl hww hso hem hF hk q x
    have hok2 : ∀ j k, j ≤ ls.length → MrA.Ok ⟨⟨p, dx, l, ls⟩, j, k⟩ := fun j k h => ⟨⟨hwl, hww, hso⟩, h⟩
    obtain ⟨n, rfl⟩ : ∃ n, F = n + 1 := ⟨F - 1, by omega⟩
    refine ⟨_, (pss_cons (ps_set (i := 3) nd rfl (Or.inl rfl) (pmeK (K := K) rfl T.m_ModelReader_here T.c_ModelReader G_ModelReader_here hr (takes_of rfl rfl rfl rfl) (pv 0) (pa_cons (pv 1) pa_nil)))
      (pss_cons (ps_if (PW.pt (pw_or (pt_cmpR (op_eqK (K := K) rfl hu64) (pv 3) (pe_lst pa_nil) (nomark _)) (pw_or1 (pt_cmpR (op_eqK (K := K) rfl hu64) (pe_fldK (K := K) rfl (pv 0) rfl) (T.v_DEEDS) (nomark _))))) (pss_one (ps_ret pe_non))
      pss_nil)
      (pss_cons (ps_if (pt_cmpR (op_eqK (K := K) rfl hu64) (pe_ix (ix_anyK (K := K) rfl hu1) (pv 3) pe_int (fun _ _ => rfl)) pe_str (nomark _)) (pss_one (ps_ret (pmeK (K := K) rfl T.m_ModelReader_choice T.c_ModelReader G_ModelReader_choice hr (takes_of rfl rfl rfl rfl) (pv 0) (pa_cons (pcl T.g_formulas_of G_formulas_of hr (takes_of rfl rfl rfl rfl) (pa_cons (pe_slice (sl_anyK (K := K) rfl) (pv 3) (po_some pe_int) po_none) (pa_cons pe_int pa_nil))) (pa_cons (pv 1) (pa_cons (pv 2) pa_nil))))))
      pss_nil)
      (Evl.pss_cut (ps_if (PW.pt (pw_and (pt_cmpR (op_eqK (K := K) rfl hu64) (pe_ix (ix_anyK (K := K) rfl hu1) (pv 3) pe_int (fun _ _ => rfl)) pe_str (nomark _)) (pw_and (pt_cmpR (op_eqK (K := K) rfl hu64) (pe_callB (call_lenK (K := K) rfl) (by rfl) T.b_len (by decide +kernel) (pa_cons (pv 3) pa_nil)) pe_int (nomark _)) (pw_and (pt_truthK (K := K) rfl (pcl T.g_is_name G_is_name hr (takes_of rfl rfl rfl rfl) (pa_cons (pe_ix (ix_anyK (K := K) rfl hu1) (pv 3) pe_int (fun _ _ => rfl)) pa_nil)) (by intro _; rfl)) (pw_and1 (pt_truthK (K := K) rfl (pcl T.g_is_name G_is_name hr (takes_of rfl rfl rfl rfl) (pa_cons (pe_ix (ix_anyK (K := K) rfl hu1) (pv 3) pe_int (fun _ _ => rfl)) pa_nil)) (by intro _; rfl))))))) (pss_cons (ps_expr (pme0K (K := K) rfl T.m_ModelReader_go_on T.c_ModelReader G_ModelReader_go_on hr (takes_of rfl rfl rfl rfl) (pv 0)))
      (pss_one (ps_ret (pe_tup (pa_cons pe_str (pa_cons (pe_ix (ix_anyK (K := K) rfl hu1) (pv 3) pe_int (fun _ _ => rfl)) (pa_cons (pe_ix (ix_anyK (K := K) rfl hu1) (pv 3) pe_int (fun _ _ => rfl)) (pa_cons (pmeK (K := K) rfl T.m_ModelReader_block T.c_ModelReader G_ModelReader_block hr (takes_of rfl rfl rfl rfl) (pv 0) (pa_cons (pe_op (op_addK (K := K) rfl) (pv 1) pe_int) (pa_cons (pe_op (op_addK (K := K) rfl) (pv 2) pe_int) pa_nil))) pa_nil))))))))
      pss_nil)
      (pss_cons (ps_set (i := 4) nd rfl (Or.inl rfl) (pcl T.g_send_deed G_send_deed hr (takes_of rfl rfl rfl rfl) (pa_cons (pv 3) pa_nil)))
      (Evl.pss_cut (ps_if (pt_cmpR op_isN1 (pv 4) pe_non (nomark _)) (pss_one (ps_set (i := 4) nd rfl (Or.inl rfl) (pcl T.g_named_deed G_named_deed hr (takes_of rfl rfl rfl rfl) (pa_cons (pv 3) pa_nil))))
      pss_nil)
      (Evl.pss_cut (ps_if (pt_cmpR (op_eqK (K := K) rfl hu64) (pv 3) (pe_lst (pa_cons pe_str pa_nil)) (nomark _)) (pss_one (ps_set (i := 4) nd rfl (Or.inl rfl) (pe_tup (pa_cons pe_str pa_nil))))
      pss_nil)
      (pss_cons (ps_if (pt_cmpR op_notN1 (pv 4) pe_non (nomark _)) (pss_one (ps_expr (pme0K (K := K) rfl T.m_ModelReader_go_on T.c_ModelReader G_ModelReader_go_on hr (takes_of rfl rfl rfl rfl) (pv 0))))
      pss_nil)
      (pss_one (ps_ret (pv 4))))))))))), ?_⟩
    refine w_start (σ' := [some (.ref p), some (.int ((e + 1 : Nat) : Int)), some (.int (e : Int)), none, none]) rfl z ?_
    dsimp only [List.cons_append, List.nil_append] at q ⊢
    have non : ∀ (_ : deedB ls (n + 1) (e + 1) e i k = .ok (none, i, k)) (Γ2 : List Fc) (S2 : List Vo), (∀ f ∈ Γ, f ∈ Γ2) → Dr S2 (own p (.ins (He.ga K "ModelReader") dx (fl_ModelReader (.ref l) (.int (i : Int)) (.int (k : Int)))) :: own l (.lst (ls.map V.str)) :: S) → Wh K Γ2 S2 fun H => Q .non H := fun h Γ2 S2 hs hd H y => q _ [] _ H (.inl ⟨h, rfl, rfl, rfl⟩) (y.fit hs hd)
    obtain ⟨hbl, hbw⟩ := hereM_len (i := i) (d := e + 1) hww hso
    have hlt0 : hereM ls i (e + 1) ≠ [] → i < ls.length := here_some
    k_extra "W"
    refine w_don ((⟨⟨p, dx, l, ls⟩, i, k⟩, e + 1) : MrA × Nat) (by dsimp only [MrA.S, mrS]; k_extra "ts") ⟨hok2 _ _ hil, by dsimp only; omega⟩ ?_
    rintro _ Γ' S' ⟨lw, rfl, rfl, rfl⟩
    dsimp only [MrA.S, mrS, List.cons_append, List.nil_append]
    obtain ⟨ws, hws⟩ : ∃ ws, hereM ls i (e + 1) = ws := ⟨_, rfl⟩
    rw [hws] at hbl hbw hlt0 ⊢
    k_extra "W"
    refine w_lstO fun lq => ?_
    refine w_eqW (xs := ws) (ys := []) (by k_extra "at") (show AtH K _ _ lq (.lst []) by k_extra "at") (fun y hy => (hbw y hy).2) (fun _ h => nomatch h) ?_
    k_extra "W"
    refine w_ite (fun h1 => ?_) (fun h1 => ?_)
    · k_extra "W"
      exact non (deed_nil (.inl (by rw [hws, h1]))) _ _ (by k_extra "sub") (by k_extra "dr")
    k_extra "W"
    refine w_ite (fun h2 => ?_) (fun h2 => ?_)
    · k_extra "W"
      exact non (deed_nil (.inr (by omega))) _ _ (by k_extra "sub") (by k_extra "dr")
    have hk2 : k ≠ 20 := by omega
    obtain ⟨w, r, rfl⟩ : ∃ w r, ws = w :: r := by
      cases ws with
      | nil => exact absurd rfl h1
      | cons w r => exact ⟨w, r, rfl⟩
    have hlt := hlt0 (List.cons_ne_nil _ _)
    rw [List.length_cons] at hbl
    k_extra "W"
    refine w_sub (v := .str w) (by k_extra "at") (atW (n := 0) rfl rfl) ?_
    k_extra "W"
    refine w_eqs ?_
    k_extra "W"
    refine w_ite (fun h3 => ?_) (fun h3 => ?_)
    · k_extra "W"
      refine w_slLD 1 rfl (by k_extra "at") fun l2 => ?_
      rw [show ((w :: r).map V.str).drop 1 = r.map V.str from rfl]
      k_extra "W"
      refine w_don (⟨l2, r, 1⟩ : FsI) (by k_extra "ts") ⟨by show (1 : Nat) ≤ 100; decide, by dsimp only; omega, fun y hy => by have := (hbw y (List.mem_cons_of_mem _ hy)).1; omega⟩ ?_
      rintro v Γ' S' hP
      unfold FsI.Post at hP
      dsimp only at hP
      have hde := deed_if (n := n) (e := e) hws hk2 h3
      cases hf : fsB r 1 with
      | none =>
        rw [hf] at hP
        obtain ⟨rfl, rfl, rfl⟩ := hP
        rw [cond_none hf] at hde
        dsimp only [List.cons_append, List.nil_append]
        k_extra "W"
        refine w_doE (⟨⟨⟨⟨p, dx, l, ls⟩, i, k⟩, e, n⟩, none⟩ : ChI) (by dsimp only [MrA.S, mrS, ChI.S]; rw [List.append_nil]; k_extra "ts") ⟨hok2 _ _ hil, hem, by dsimp only; omega, by omega, hlt, by dsimp only; omega, fun _ _ _ h => nomatch h⟩ ?_ ?_
        · rintro v Γ' S' hO
          dsimp only [Option.map_none] at hO
          rw [← hde] at hO
          exact fun H y => q v Γ' S' H hO (y.fit (sub_appL Γ' (by k_extra "sub")) (Dr.appL S' (by k_extra "dr")))
        · rintro ex d Γ' S' ⟨m2, g1, rfl, dd, rfl, rfl, rfl⟩
          dsimp only [Option.map_none] at g1
          exact fun H y => x _ _ _ _ H ⟨m2, by rw [← g1]; exact hde, rfl, dd, rfl, rfl, rfl⟩ (y.fit (by k_extra "sub") (by k_extra "dr"))
      | some fs =>
        rw [hf] at hP
        obtain ⟨lf, vs, rfl, rfl, rfl⟩ := hP
        obtain ⟨f, rfl, hc⟩ := cond_some hf
        rw [hc] at hde
        dsimp only [List.cons_append, List.nil_append]
        refine w_lenv (vs := vs) (by k_extra "m") fun hvl => ?_
        obtain ⟨v2, rfl⟩ : ∃ v2, vs = [v2] := List.length_eq_one_iff.mp hvl
        refine w_datsAt (vs := [v2]) (ds := [f].map Fm.data) (j := 0) (d := f.data) (by k_extra "m") rfl fun v3 hv3 => ?_
        cases hv3
        k_extra "W"
        refine w_doE (⟨⟨⟨⟨p, dx, l, ls⟩, i, k⟩, e, n⟩, some (lf, v2, f)⟩ : ChI) (by dsimp only [MrA.S, mrS, ChI.S]; k_extra "ts") ⟨hok2 _ _ hil, hem, by dsimp only; omega, by omega, hlt, by dsimp only; omega, fun _ _ _ h => by cases h; exact ⟨by k_extra "m", cond_spd hc⟩⟩ ?_ ?_
        · rintro v Γ' S' hO
          dsimp only [Option.map_some] at hO
          rw [← hde] at hO
          exact fun H y => q v Γ' S' H hO (y.fit (sub_appL Γ' (by k_extra "sub")) (Dr.appL S' (by k_extra "dr")))
        · rintro ex d Γ' S' ⟨m2, g1, rfl, dd, rfl, rfl, rfl⟩
          dsimp only [Option.map_some] at g1
          exact fun H y => x _ _ _ _ H ⟨m2, by rw [← g1]; exact hde, rfl, dd, rfl, rfl, rfl⟩ (y.fit (by k_extra "sub") (by k_extra "dr"))
    k_extra "W"
    refine w_cut (ι := Unit) (fun _ => ∀ a b, r = [a, b] → ¬ (w = Str.ofString "pull" ∧ nameB a = true ∧ nameB b = true)) (fun _ => [some (.ref p), some (.int ((e + 1 : Nat) : Int)), some (.int (e : Int)), some (.ref lw), none]) (fun _ => Γ) (fun _ => own lw (.lst ((w :: r).map V.str)) :: own p (.ins (He.ga K "ModelReader") dx (fl_ModelReader (.ref l) (.int (i : Int)) (.int (k : Int)))) :: own l (.lst (ls.map V.str)) :: S) ?_ ?_
    · k_extra "W"
      refine w_sub (v := .str w) (by k_extra "at") (atW (n := 0) rfl rfl) ?_
      k_extra "W"
      refine w_eqs ?_
      k_extra "W"
      refine w_ite (fun h4 => ?_) (fun h4 => ?_)
      rotate_left
      · k_extra "W"
        exact w_again () (fun a b _ h => h4 h.1) rfl (by k_extra "sub") (by k_extra "dr")
      k_extra "W"
      refine w_lenL (by k_extra "at") ?_
      rw [List.length_map]
      k_extra "W"
      refine w_ite (fun h5 => ?_) (fun h5 => ?_)
      rotate_left
      · k_extra "W"
        exact w_again () (fun a b e _ => h5 (by rw [e]; rfl)) rfl (by k_extra "sub") (by k_extra "dr")
      obtain ⟨a, b, rfl⟩ : ∃ a b, r = [a, b] := by
        rcases r with _ | ⟨a, _ | ⟨b, _ | ⟨c, r⟩⟩⟩
        · exfalso; rw [List.length_singleton] at h5; omega
        · exfalso; rw [List.length_cons, List.length_singleton] at h5; omega
        · exact ⟨a, b, rfl⟩
        · exfalso; rw [List.length_cons, List.length_cons, List.length_cons, List.length_cons] at h5; omega
      k_extra "W"
      refine w_don a (by k_extra "ts") (by have := (hbw a (by simp)).1; show (TL.tl a).length ≤ 50000; omega) ?_
      rintro _ Γ' S' ⟨rfl, rfl, rfl⟩
      dsimp only [List.cons_append, List.nil_append]
      cases ha : nameB a with
      | false =>
        k_extra "W"
        exact w_again () (fun a' b' e h => by cases e; rw [ha] at h; cases h.2.1) rfl (by k_extra "sub") (by k_extra "dr")
      | true =>
        k_extra "W"
        refine w_don b (by k_extra "ts") (by have := (hbw b (by simp)).1; show (TL.tl b).length ≤ 50000; omega) ?_
        rintro _ Γ' S' ⟨rfl, rfl, rfl⟩
        dsimp only [List.cons_append, List.nil_append]
        cases hb : nameB b with
        | false =>
          k_extra "W"
          exact w_again () (fun a' b' e h => by cases e; rw [hb] at h; cases h.2.2) rfl (by k_extra "sub") (by k_extra "dr")
        | true =>
          have hde := deed_pull (n := n) (e := e) hws hk2 h4 ha hb
          k_extra "W"
          refine w_don (⟨⟨p, dx, l, ls⟩, i, k⟩ : MrA) (by dsimp only [MrA.S, mrS]; k_extra "ts") True.intro ?_
          rintro _ Γ' S' ⟨rfl, rfl, rfl⟩
          dsimp only [mrS, List.cons_append, List.nil_append]
          k_extra "W"
          rw [show ((e + 1 : Nat) : Int) + 1 = ((e + 1 + 1 : Nat) : Int) by omega, show (e : Int) + 1 = ((e + 1 : Nat) : Int) by omega]
          refine w_doE (⟨⟨⟨p, dx, l, ls⟩, i + 1, k + 1⟩, e + 1, n⟩ : BlkI) (by dsimp only [MrA.S, mrS]; k_extra "ts") ⟨hok2 _ _ hlt, by dsimp only; omega, by dsimp only; omega, by dsimp only; omega⟩ ?_ ?_
          rotate_left
          · rintro ex d Γ' S' ⟨m2, h1, rfl, dd, rfl, rfl, rfl⟩
            dsimp only at h1
            exact fun H y => x _ _ _ _ H ⟨m2, by rw [hde]; unfold plB; rw [h1], rfl, dd, rfl, rfl, rfl⟩ (y.fit (by k_extra "sub") (by k_extra "dr"))
          rintro _ Γ' S' ⟨l1, ts1, ds1, j1, k1, g1, g2, g3, g4, g5, g6, g7, rfl, rfl, rfl⟩
          dsimp only [mrS, List.cons_append, List.nil_append] at g1 g2 g3 g4 g5 g6 g7 ⊢
          k_extra "W"
          rename_i tp
          have hl1 := tr_nums g6
          refine w_trL (p := l1) (ts := ts1) (by k_extra "m") ?_
          refine w_trW (x := .s (Str.ofString "pull")) ?_
          refine w_trW (x := .s a) ?_
          refine w_trW (x := .s b) ?_
          refine w_trsNil ?_
          refine w_trsSnoc (ts := []) (t := Tr.wd (.s (Str.ofString "pull"))) List.mem_cons_self (by k_extra "m") ?_
          refine w_trsSnoc (ts := [] ++ [Tr.wd (.s (Str.ofString "pull"))]) (t := Tr.wd (.s a)) List.mem_cons_self (by k_extra "m") ?_
          refine w_trsSnoc (ts := [] ++ [Tr.wd (.s (Str.ofString "pull"))] ++ [Tr.wd (.s a)]) (t := Tr.wd (.s b)) List.mem_cons_self (by k_extra "m") ?_
          refine w_trsSnoc (ts := [] ++ [Tr.wd (.s (Str.ofString "pull"))] ++ [Tr.wd (.s a)] ++ [Tr.wd (.s b)]) (t := Tr.ls l1 ts1) List.mem_cons_self (by k_extra "m") ?_
          dsimp only [List.nil_append, List.cons_append]
          refine w_trT (p := tp) (ts := [.wd (.s (Str.ofString "pull")), .wd (.s a), .wd (.s b), .ls l1 ts1]) List.mem_cons_self (by show Fc.obj tp (.tup [V.str (Str.ofString "pull"), V.str a, V.str b, V.ref l1]) ∈ _; k_extra "m") ?_
          have hS : (Tr.tu tp [.wd (.s (Str.ofString "pull")), .wd (.s a), .wd (.s b), .ls l1 ts1]).S = own l1 (.lst (ts1.map Tr.v)) ++ segsV Tr.S ts1 := by
            rw [Tr.S, Tr.SS, Tr.SS, Tr.SS, Tr.SS, Tr.SS, Tr.S, Tr.S, Tr.S, Tr.S, Tr.SS_segs, List.append_nil]
            rfl
          refine fun H y => q _ [trF K (.tu tp [.wd (.s (Str.ofString "pull")), .wd (.s a), .wd (.s b), .ls l1 ts1])] ((Tr.tu tp [.wd (.s (Str.ofString "pull")), .wd (.s a), .wd (.s b), .ls l1 ts1]).S :: mrS K ⟨p, dx, l, ls⟩ j1 k1) H (.inr ⟨.tu tp [.wd (.s (Str.ofString "pull")), .wd (.s a), .wd (.s b), .ls l1 ts1], .pull a b ds1, tp, j1, k1, ?_, by omega, g3, g4, by omega, ?_, ?_, rfl, rfl, rfl, rfl⟩) (y.fit (sub_put List.mem_cons_self (by k_extra "sub")) ?_)
          · rw [hde]
            unfold plB
            rw [g1]
          · rw [Tr.dat, Tr.dats, Tr.dats, Tr.dats, Tr.dats, Tr.dats, Tr.dat, Tr.dat, Tr.dat, Tr.dat, Dd.data, dats_datas g6]
            rfl
          · refine SpOk.up (SpOk.tu (n := 18 + 2 * (m + 1)) fun t ht => ?_) (by omega)
            simp only [List.mem_cons, List.not_mem_nil, or_false] at ht
            rcases ht with rfl | rfl | rfl | rfl
            · exact SpOk.up (SpOk.wd (n := 0)) (by omega)
            · exact SpOk.up (SpOk.wd (n := 0)) (by omega)
            · exact SpOk.up (SpOk.wd (n := 0)) (by omega)
            · exact SpOk.up (SpOk.ls (n := 19 + 2 * m) g7 (by omega)) (by omega)
          · rw [hS]
            dsimp only [mrS, List.cons_append, List.nil_append]
            refine Dr.glue ?_
            k_extra "dr"
    rintro _ h4
    have hde := deed_one (n := n) (e := e) hws hk2 h3 h4
    k_extra "W"
    refine w_don (⟨lw, w :: r⟩ : WdsI) (by k_extra "ts") ⟨by dsimp only; rw [List.length_cons]; omega, fun y hy => by have := (hbw y hy).1; omega⟩ ?_
    rintro v0 Γ0 S0 ⟨hO, rfl⟩
    dsimp only at hO ⊢
    obtain ⟨o0, ho0, rfl, rfl⟩ : ∃ o : Option (Addr × Dd), o.map (·.2) = sendD (w :: r) ∧ v0 = oaV o ∧ Γ0 = oaF o := by
      cases hs : sendD (w :: r) with
      | none =>
        rw [hs] at hO
        obtain ⟨rfl, rfl⟩ := hO
        exact ⟨none, rfl, rfl, rfl⟩
      | some d =>
        rw [hs] at hO
        obtain ⟨a, rfl, rfl⟩ := hO
        exact ⟨some (a, d), rfl, rfl, rfl⟩
    dsimp only [List.cons_append, List.nil_append]
    k_extra "W"
    refine w_cut (ι := Option (Addr × Dd)) (fun o => o.map (·.2) = (match sendD (w :: r) with | some d => some d | none => namedD (w :: r))) (fun o => [some (.ref p), some (.int ((e + 1 : Nat) : Int)), some (.int (e : Int)), some (.ref lw), some (oaV o)]) (fun o => oaF o ++ Γ) (fun _ => own lw (.lst ((w :: r).map V.str)) :: own p (.ins (He.ga K "ModelReader") dx (fl_ModelReader (.ref l) (.int (i : Int)) (.int (k : Int)))) :: own l (.lst (ls.map V.str)) :: S) ?_ ?_
    · cases o0 with
      | some pr =>
        dsimp only [oaV, oaF, List.cons_append, List.nil_append]
        k_extra "W"
        exact w_again (some pr) (by rw [← ho0]; rfl) rfl (by dsimp only [oaF, List.cons_append, List.nil_append]; k_extra "sub") (by k_extra "dr")
      | none =>
        dsimp only [oaV, oaF, List.nil_append]
        k_extra "W"
        refine w_don (⟨lw, w :: r⟩ : WdsI) (by k_extra "ts") ⟨by dsimp only; rw [List.length_cons]; omega, fun y hy => by have := (hbw y hy).1; omega⟩ ?_
        rintro v1 Γ1 S1 ⟨hO, rfl⟩
        dsimp only at hO ⊢
        obtain ⟨o1, ho1, rfl, rfl⟩ : ∃ o : Option (Addr × Dd), o.map (·.2) = namedD (w :: r) ∧ v1 = oaV o ∧ Γ1 = oaF o := by
          cases hs : namedD (w :: r) with
          | none =>
            rw [hs] at hO
            obtain ⟨rfl, rfl⟩ := hO
            exact ⟨none, rfl, rfl, rfl⟩
          | some d =>
            rw [hs] at hO
            obtain ⟨a, rfl, rfl⟩ := hO
            exact ⟨some (a, d), rfl, rfl, rfl⟩
        dsimp only [List.cons_append, List.nil_append]
        k_extra "W"
        exact w_again o1 (by rw [← ho0]; exact ho1) rfl (fun f m => m) (by k_extra "dr")
    rintro o1 ho1
    refine w_cut (ι := Option (Addr × Dd)) (fun o => o.map (·.2) = oneB (w :: r)) (fun o => [some (.ref p), some (.int ((e + 1 : Nat) : Int)), some (.int (e : Int)), some (.ref lw), some (oaV o)]) (fun o => oaF o ++ Γ) (fun _ => own lw (.lst ((w :: r).map V.str)) :: own p (.ins (He.ga K "ModelReader") dx (fl_ModelReader (.ref l) (.int (i : Int)) (.int (k : Int)))) :: own l (.lst (ls.map V.str)) :: S) ?_ ?_
    · k_extra "W"
      refine w_lstO fun lq2 => ?_
      refine w_eqW (xs := w :: r) (ys := [Str.ofString "end"]) (by k_extra "at") (show AtH K _ _ lq2 (.lst [V.str (Str.ofString "end")]) by k_extra "at") (fun y hy => (hbw y hy).2) sok_end ?_
      k_extra "W"
      refine w_ite (fun h5 => ?_) (fun h5 => ?_)
      · k_extra "W"
        rename_i tp
        exact w_again (some (tp, .fin)) (by unfold oneB; rw [if_pos h5]; rfl) rfl (by dsimp only [oaF, List.cons_append, List.nil_append]; rw [Dd.data]; exact sub_put List.mem_cons_self (fun f m => List.mem_cons_of_mem _ (List.mem_append_right _ m))) (by k_extra "dr")
      · k_extra "W"
        exact w_again o1 (by unfold oneB; rw [if_neg h5]; exact ho1) rfl (fun f m => m) (by k_extra "dr")
    rintro o2 ho2
    rw [← ho2] at hde
    cases o2 with
    | none =>
      dsimp only [oaV, oaF, List.nil_append]
      k_extra "W"
      exact non hde _ _ (by k_extra "sub") (by k_extra "dr")
    | some pr =>
      obtain ⟨a, d⟩ := pr
      dsimp only [oaV, oaF, List.cons_append, List.nil_append]
      k_extra "W"
      refine w_don (⟨⟨p, dx, l, ls⟩, i, k⟩ : MrA) (by dsimp only [MrA.S, mrS]; k_extra "ts") True.intro ?_
      rintro _ Γ' S' ⟨rfl, rfl, rfl⟩
      dsimp only [mrS, List.cons_append, List.nil_append]
      k_extra "W"
      refine w_trDm (v := V.ref a) (d := d.data) (by k_extra "m") ?_
      refine fun H y => q _ [trF K (.dt (.ref a) d.data)] ([] :: mrS K ⟨p, dx, l, ls⟩ (i + 1) (k + 1)) H (.inr ⟨.dt (.ref a) d.data, d, a, i + 1, k + 1, hde, by omega, hlt, by omega, by omega, by rw [Tr.dat], .dt ((one_spd ho2.symm).up (by omega)), rfl, rfl, rfl, by rw [Tr.S]⟩) (y.fit (sub_put List.mem_cons_self (by k_extra "sub")) ?_)
      dsimp only [mrS, List.cons_append, List.nil_append]
      refine Dr.nilSegM ?_
      k_extra "dr"
end
end Mo
namespace Mo
open PySem PySem.Spec PyProof.Rows L2
/-! ### ModelReader: blocks, what is heard -/
def preB (ds : List Dd) (r : Except Nat (List Dd × Nat × Nat)) : Except Nat (List Dd × Nat × Nat) := match r with
  | .error y => .error y
  | .ok (es, i, k) => .ok (ds ++ es, i, k)
def cdV : Option (Tr × Dd × Addr) → V
  | none => .non
  | some c => .ref c.2.2
def cdF (K : PySem.W.Frag) : Option (Tr × Dd × Addr) → List Fc
  | none => []
  | some c => [trF K c.1]
def cdS : Option (Tr × Dd × Addr) → Vo
  | none => []
  | some c => c.1.S
theorem dOut_some {K : PySem.W.Frag} {m : Nat} {b : MrI} {i k : Nat} {r : Except Nat (Option Dd × Nat × Nat)} {v : V} {Γ' : List Fc} {S' : List Vo} (h : dOut K m b i k r v Γ' S') : ∃ (c : Option (Tr × Dd × Addr)) (j k2 : Nat), r = .ok (c.map (·.2.1), j, k2) ∧ i ≤ j ∧ (j ≤ b.ls.length ∨ j = i) ∧ (k2 ≤ 20 ∨ k2 = k) ∧ k + (if c.isSome then 1 else 0) ≤ k2 ∧ (c = none → j = i ∧ k2 = k) ∧ (∀ y, c = some y → i < j ∧ y.1.dat = y.2.1.data ∧ SpOk (19 + 2 * m) y.1 ∧ y.1.v = .ref y.2.2) ∧ v = cdV c ∧ Γ' = cdF K c ∧ S'.flatten = (cdS c :: mrS K b j k2).flatten := by
  rcases h with ⟨h1, rfl, rfl, rfl⟩ | ⟨t, x, a, j, k2, h1, h2, h3, h4, h5, h6, h7, h8, rfl, rfl, rfl⟩
  · exact ⟨none, i, k, h1, Nat.le_refl _, .inr rfl, .inr rfl, Nat.le_refl _, fun _ => ⟨rfl, rfl⟩, (fun _ h => nomatch h), rfl, rfl, rfl⟩
  · exact ⟨some (t, x, a), j, k2, h1, Nat.le_of_lt h2, .inl h3, .inl h4, h5, (fun h => nomatch h), fun y e => by cases e; exact ⟨h2, h6, h7, h8⟩, rfl, rfl, rfl⟩
theorem sub_midM {t : Fc} {X B B' : List Fc} (h : ∀ f ∈ B, f ∈ B') : ∀ f ∈ t :: (X ++ B), f ∈ t :: (X ++ B') := fun f m => by
  rcases List.mem_cons.mp m with e | m
  · rw [e]; exact List.mem_cons_self
  · rcases List.mem_append.mp m with m | m
    · exact List.mem_cons_of_mem _ (List.mem_append_left _ m)
    · exact List.mem_cons_of_mem _ (List.mem_append_right _ (h f m))
section
variable {P : Program} {w : World} {K : PySem.W.Frag} {mg : Str → Option Value} {base : Heap}
theorem ok_ModelReader_deed0 (T : Tx K mg) (l : Nat) : OkM P w K mg base (l + 1) "ModelReader" "deed" ["self", "depth", "deep"] (spDeedM 0 K) := by
  refine ⟨fun vs H Q E h => ?_, fun A outer s H args us vs Q E hr he hb hv hs => ?_⟩
  · obtain ⟨i, _, _, rfl, _⟩ := h
    rfl
  · obtain ⟨i, Γ, S, rfl, z, h1, q, x⟩ := hs
    exact absurd h1.2 (by decide)
theorem ok_ModelReader_blockA (T : Tx K mg) (m l : Nat) (G_ModelReader_deed : OkM P w K mg base l "ModelReader" "deed" ["self", "depth", "deep"] (spDeedM m K)) : OkM P w K mg base (l + 1) "ModelReader" "block" ["self", "depth", "deep"] (spBlockM m K) := by
  refine T.f_ModelReader_block.okX sc_ModelReader_block (fun vs H Q E h => ?_) (fun cdv A outer s H vs Q E hr h => ?_)
  · obtain ⟨i, _, _, rfl, _⟩ := h
    rfl
  · have hu1 := hu_of hr; have hu0 := hr.units0; have hu64 := hr.units; have hu65 := hu65_of hr; have nd := sc_ModelReader_block.nd
    obtain ⟨⟨⟨⟨p, dx, l, ls⟩, i, k⟩, e, F⟩, Γ, S, rfl, z, hok, q, x⟩ := h
    obtain ⟨⟨⟨hwl, hww, hso⟩, hil⟩, hk, hem, hF⟩ := id hok
    dsimp only [MrA.S, mrS] at z hil hwl hww hso hem hF hk q x
    have hok2 : ∀ j k, j ≤ ls.length → MrA.Ok ⟨⟨p, dx, l, ls⟩, j, k⟩ := fun j k h => ⟨⟨hwl, hww, hso⟩, h⟩
    refine ⟨_, (pss_cons (ps_set (i := 3) nd rfl (Or.inl rfl) (pe_lst pa_nil))
      (pss_cons (ps_if (pt_cmpR (op_gt) (pv 2) (T.v_DEEP) (nomark _)) (pss_one (ps_ret (pv 3)))
      pss_nil)
      (pss_cons (ps_set (i := 4) nd rfl (Or.inl rfl) (pmeK (K := K) rfl T.m_ModelReader_deed T.c_ModelReader G_ModelReader_deed hr (takes_of rfl rfl rfl rfl) (pv 0) (pa_cons (pv 1) (pa_cons (pv 2) pa_nil))))
      (pss_cons (ps_while (passes_of rfl) (pt_cmpR op_notN1 (pv 4) pe_non (nomark _)) (pss_cons (ps_expr (pe_bmK (K := K) rfl PySem.F.plainAttrs_list PySem.F.slot_list_append PySem.F.type_list_append mt_append (pv 3) (pa_cons (pv 4) pa_nil)))
      (pss_one (ps_set (i := 4) nd rfl (Or.inl rfl) (pmeK (K := K) rfl T.m_ModelReader_deed T.c_ModelReader G_ModelReader_deed hr (takes_of rfl rfl rfl rfl) (pv 0) (pa_cons (pv 1) (pa_cons (pv 2) pa_nil)))))))
      (pss_one (ps_ret (pv 3))))))), ?_⟩
    refine w_start (σ' := [some (.ref p), some (.int ((e + 1 : Nat) : Int)), some (.int (e : Int)), none, none]) rfl z ?_
    dsimp only [List.cons_append, List.nil_append] at q ⊢
    k_extra "W"
    refine w_lstO fun lp => ?_
    refine w_trsNil ?_
    k_extra "W"
    refine w_ite (fun h1 => ?_) (fun h1 => ?_)
    · k_extra "W"
      obtain ⟨n, rfl⟩ : ∃ n, F = n + 1 := ⟨F - 1, by omega⟩
      refine fun H y => q _ [trsF K []] (own lp (.lst []) :: segsV Tr.S [] :: mrS K ⟨p, dx, l, ls⟩ i k) H ⟨lp, [], [], i, k, block_deep (by omega), Nat.le_refl _, hil, hk, by show 0 + k ≤ k; omega, rfl, (fun _ h => nomatch h), rfl, rfl, rfl⟩ (y.fit (by k_extra "sub") ?_)
      dsimp only [mrS, List.cons_append, List.nil_append]
      refine Dr.keep (by k_extra "t") ?_
      refine Dr.segNil ?_
      k_extra "dr"
    have he5 : e ≤ 5 := by omega
    obtain ⟨n, rfl⟩ : ∃ n, F = n + 1 := ⟨F - 1, by omega⟩
    k_extra "W"
    refine w_doE (⟨⟨⟨p, dx, l, ls⟩, i, k⟩, e, n⟩ : BlkI) (by dsimp only [MrA.S, mrS]; k_extra "ts") ⟨⟨hok2 _ _ hil, hk, hem, by first | omega | (dsimp only; omega)⟩, by omega⟩ ?_ ?_
    rotate_left
    · rintro ex d Γ' S' ⟨m2, g1, rfl, dd, rfl, rfl, rfl⟩
      dsimp only at g1
      exact fun H y => x _ _ _ _ H ⟨m2, by rw [block_step he5, g1], rfl, dd, rfl, rfl, rfl⟩ (y.fit (by k_extra "sub") (by k_extra "dr"))
    rintro v Γ' S' hO
    obtain ⟨c0, j0, k0, h2, h3, h4, h5, h6, h7, h8, rfl, rfl, hS⟩ := dOut_some hO
    try dsimp only at h2 h3 h4 h5 h6 h7 h8
    refine Wh.cong (S' := cdS c0 :: (mrS K ⟨p, dx, l, ls⟩ j0 k0 ++ (own lp (.lst []) :: S))) (by rw [List.flatten_append, hS, List.flatten_cons, List.flatten_cons, List.flatten_append, List.append_assoc]) ?_
    dsimp only [mrS, List.cons_append, List.nil_append]
    k_extra "W"
    refine w_while (ω := Unit) (ι := (Nat × Nat × Nat) × List Tr × List Dd × Option (Tr × Dd × Addr)) (fun mm a => mm = (if a.2.2.2.isSome then ls.length - a.1.1 + 1 else 0) ∧ i ≤ a.1.1 ∧ a.1.1 ≤ ls.length ∧ a.1.2.1 ≤ 20 ∧ a.2.2.1.length + (if a.2.2.2.isSome then 1 else 0) + k ≤ a.1.2.1 ∧ a.2.1.map Tr.dat = a.2.2.1.map Dd.data ∧ (∀ t ∈ a.2.1, SpOk (19 + 2 * m) t) ∧ match a.2.2.2 with
          | none => blockB ls (n + 1) (e + 1) e i k = .ok (a.2.2.1, a.1.1, a.1.2.1)
          | some y => blockB ls (n + 1) (e + 1) e i k = preB (a.2.2.1 ++ [y.2.1]) (blockB ls a.1.2.2 (e + 1) e a.1.1 a.1.2.1) ∧ 2 * (ls.length - a.1.1) + 2 ≤ a.1.2.2 ∧ y.1.dat = y.2.1.data ∧ SpOk (19 + 2 * m) y.1 ∧ y.1.v = .ref y.2.2)
      (fun a => [some (.ref p), some (.int ((e + 1 : Nat) : Int)), some (.int (e : Int)), some (.ref lp), some (cdV a.2.2.2)]) (fun a => trsF K a.2.1 :: (cdF K a.2.2.2 ++ Γ))
      (fun a => own lp (.lst (a.2.1.map Tr.v)) :: segsV Tr.S a.2.1 :: cdS a.2.2.2 :: own p (.ins (He.ga K "ModelReader") dx (fl_ModelReader (.ref l) (.int (a.1.1 : Int)) (.int (a.1.2.1 : Int)))) :: own l (.lst (ls.map V.str)) :: S)
      (if c0.isSome then ls.length - j0 + 1 else 0) ((j0, k0, n), [], [], c0) ⟨rfl, h3, by first | omega | (dsimp only; omega), by first | omega | (dsimp only; omega), by dsimp only; rw [List.length_nil]; omega, rfl, (fun _ h => nomatch h), ?_⟩ rfl ?_ ?_ ?_
    · dsimp only
      rw [block_step he5, h2]
      cases c0 with
      | none => rfl
      | some y =>
        obtain ⟨g1, g2, g3, g4⟩ := h8 y rfl
        refine ⟨?_, by first | omega | (dsimp only; omega), g2, g3, g4⟩
        dsimp only [Option.map_some, List.nil_append]
        unfold preB
        cases blockB ls n (e + 1) e j0 k0 with
        | error y => rfl
        | ok r => rfl
    · refine sub_put (List.mem_append_right _ (by k_extra "m")) ?_
      rintro f hf
      rcases List.mem_append.mp hf with hf | hf
      · exact List.mem_append_left _ hf
      · exact List.mem_append_right _ (by first | exact hf | exact List.mem_cons_of_mem _ hf)
    · show Dr _ (own lp (.lst []) :: segsV Tr.S [] :: _)
      refine Dr.keep (by k_extra "t") ?_
      refine Dr.segNil ?_
      k_extra "dr"
    rintro mm ⟨⟨j, k1, F1⟩, ts, ds, cur⟩ ⟨hm, hij, hjl, hk1, hdl, hdt, hts, hcur⟩
    dsimp only at hm hij hjl hk1 hdl hdt hts hcur ⊢
    have htl := tr_nums hdt
    cases cur with
    | none =>
      dsimp only [cdV, cdF, cdS, List.nil_append]
      k_extra "W"
      exact fun H y => q _ [trsF K ts] _ H ⟨lp, ts, ds, j, k1, hcur, hij, hjl, hk1, by have h0 : ds.length + 0 + k ≤ k1 := hdl; omega, hdt, hts, rfl, rfl, rfl⟩ (y.fit (by k_extra "sub") (by k_extra "dr"))
    | some y =>
      obtain ⟨t, dd0, a⟩ := y
      obtain ⟨hb, hF1, gd, gs, gv⟩ := hcur
      dsimp only at hb hF1 gd gs gv
      have hdl : ds.length + 1 + k ≤ k1 := hdl
      have hm : mm = ls.length - j + 1 := hm
      dsimp only [cdV, cdF, cdS, List.cons_append, List.nil_append]
      k_extra "W"
      refine w_turn ?_
      k_extra "W"
      refine w_app (by k_extra "sw") (by rw [List.length_map]; omega) ?_
      k_extra "W"
      obtain ⟨n1, rfl⟩ : ∃ n, F1 = n + 1 := ⟨F1 - 1, by omega⟩
      rw [block_step (n := n1) he5] at hb
      refine w_doE (⟨⟨⟨p, dx, l, ls⟩, j, k1⟩, e, n1⟩ : BlkI) (by dsimp only [MrA.S, mrS]; k_extra "ts") ⟨⟨hok2 _ _ hjl, hk1, hem, by first | omega | (dsimp only; omega)⟩, by omega⟩ ?_ ?_
      rotate_left
      · rintro ex d Γ' S' ⟨m2, g1, rfl, dd, rfl, rfl, rfl⟩
        dsimp only at g1
        exact fun H y => x _ _ _ _ H ⟨m2, by rw [hb, g1]; rfl, rfl, dd, rfl, rfl, rfl⟩ (y.fit (by k_extra "sub") (by k_extra "dr"))
      rintro v Γ' S' hO
      obtain ⟨c1, j1, k2, h2, h3, h4, h5, h6, h7, h8, rfl, rfl, hS⟩ := dOut_some hO
      try dsimp only at h2 h3 h4 h5 h6 h7 h8
      refine Wh.cong (S' := cdS c1 :: (mrS K ⟨p, dx, l, ls⟩ j1 k2 ++ (own lp (.lst (ts.map Tr.v ++ [.ref a])) :: segsV Tr.S ts :: t.S :: S))) (by rw [List.flatten_append, hS, List.flatten_cons, List.flatten_cons, List.flatten_append, List.append_assoc]) ?_
      dsimp only [mrS, List.cons_append, List.nil_append]
      k_extra "W"
      refine w_trsSnoc (ts := ts) (t := t) (List.mem_append_right _ (by k_extra "m")) (List.mem_append_right _ (by k_extra "m")) ?_
      refine w_less (if c1.isSome then ls.length - j1 + 1 else 0) ?_ (w_again ((j1, k2, n1), ts ++ [t], ds ++ [dd0], c1) ⟨rfl, by first | omega | (dsimp only; omega), by first | omega | (dsimp only; omega), by first | omega | (dsimp only; omega), ?_, ?_, ?_, ?_⟩ rfl (sub_midM (by k_extra "sub")) ?_)
      · rw [hm]
        cases c1 with
        | none => show 0 < _; omega
        | some y => have := (h8 y rfl).1; show ls.length - j1 + 1 < _; omega
      · dsimp only
        rw [List.length_append, List.length_singleton]
        omega
      · dsimp only
        rw [List.map_append, List.map_append, hdt]
        show _ ++ [t.dat] = _ ++ [dd0.data]
        rw [gd]
      · dsimp only
        intro u hu
        rcases List.mem_append.mp hu with hu | hu
        · exact hts u hu
        · rw [List.mem_singleton.mp hu]; exact gs
      · dsimp only
        cases c1 with
        | none =>
          dsimp only
          rw [hb, h2]
          dsimp only [Option.map_none]
          unfold preB
          dsimp only
          rw [List.append_nil]
        | some y =>
          obtain ⟨g1, g2, g3, g4⟩ := h8 y rfl
          dsimp only
          rw [hb, h2]
          refine ⟨?_, by first | omega | (dsimp only; omega), g2, g3, g4⟩
          dsimp only [Option.map_some]
          unfold preB
          cases blockB ls n1 (e + 1) e j1 k2 with
          | error y => rfl
          | ok r => dsimp only; rw [List.append_assoc (ds ++ [dd0])]; rfl
      · dsimp only
        rw [map_snoc, gv]
        refine Dr.keep (by k_extra "t") ?_
        refine Dr.segSnoc ?_
        k_extra "dr"
theorem ok_ModelReader_block (T : Tx K mg) : ∀ m, OkM P w K mg base (3 * m + 29) "ModelReader" "block" ["self", "depth", "deep"] (spBlockM m K)
  | 0 => ok_ModelReader_blockA T 0 28 (ok_ModelReader_deed0 T 27)
  | m + 1 => by
    have h := ok_ModelReader_blockA (P := P) (w := w) (base := base) T (m + 1) _ (ok_ModelReader_deed T m (3 * m + 29) (ok_ModelReader_block T m) (by omega))
    exact h
end
end Mo
namespace Mo
open PySem PySem.Spec PyProof.Rows L2
/-! ### names and numbers written, read back: plain Lean -/
theorem tl_int (n : Int) : TL.tl (Str.ofString (toString n)) = if n < 0 then 45 :: TL.numL n.natAbs else TL.numL n.natAbs := by
  cases n with
  | ofNat m =>
    rw [if_neg (by show ¬ ((m : Int) < 0); omega)]
    exact TL.tl_num m
  | negSucc m =>
    rw [if_pos (Int.negSucc_lt_zero m)]
    rw [TL.tl_ofString]
    show (("-" ++ toString (m + 1) : String)).toList.map Char.toNat = _
    rw [String.toList_append, List.map_append]
    have h := TL.tl_num (m + 1)
    rw [TL.tl_ofString] at h
    exact congrArg (45 :: ·) h
theorem name_yes {x : Str} (h : NameOk x) : nameB x = true := by
  have h1 := h.pos
  have h2 := h.len
  rw [TL.len_tl] at h1 h2
  have q : ∀ i : Fin 26, 97 + i.1 ∈ TL.tl lettersS := by decide +kernel
  unfold nameB
  rw [decide_eq_true h1, decide_eq_true h2, Bool.true_and, Bool.true_and, List.all_eq_true]
  intro c hc
  obtain ⟨a, b⟩ := h.let_ c hc
  have := q ⟨c - 97, by omega⟩
  rw [show 97 + (c - 97) = c by omega] at this
  exact decide_eq_true this
theorem pre_one {n m : Nat} {l : List Nat} : TL.pre [n] (m :: l) = decide (m = n) := by
  unfold TL.pre
  show ([m] == [n]) = _
  by_cases h : m = n
  · subst h
    rw [decide_eq_true rfl]
    exact beq_iff_eq.mpr rfl
  · rw [decide_eq_false h]
    exact beq_eq_false_iff_ne.mpr fun e => h (List.cons.inj e).1
theorem numL_head {m : Nat} (h : 0 < m) : (TL.numL m)[0]? ≠ some 48 := by
  induction m using Nat.strongRecOn with
  | _ m ih =>
    by_cases h1 : m < 10
    · rw [TL.numL_lt h1]
      show some (48 + m) ≠ some 48
      intro e
      injection e with e
      omega
    · rw [TL.numL_step (by omega), List.getElem?_append_left (List.length_pos_iff.mpr (TL.numL_ne _))]
      exact ih (m / 10) (by omega) (by omega)
theorem dig_fig {c : Nat} (h : 48 ≤ c ∧ c ≤ 57) : c ∈ TL.tl figuresS := by
  have q : ∀ i : Fin 10, 48 + i.1 ∈ TL.tl figuresS := by decide +kernel
  have := q ⟨c - 48, by omega⟩
  rw [show 48 + (c - 48) = c by omega] at this
  exact this
theorem whole_num {n : Int} {k : Nat} (hk : 0 < k) (h : n.natAbs < 10 ^ k) : wholeB (Str.ofString (toString n)) (k : Int) = some n := by
  have hl := TL.numL_len hk h
  have hd := TL.numL_digits n.natAbs
  have hne := TL.numL_ne n.natAbs
  have hall : (TL.numL n.natAbs).all (fun c => decide (c ∈ TL.tl figuresS)) = true := List.all_eq_true.mpr fun c hc => decide_eq_true (dig_fig (hd c hc))
  have hp : 0 < (TL.numL n.natAbs).length := List.length_pos_iff.mpr hne
  unfold wholeB
  rw [tl_int]
  by_cases h0 : n < 0
  · rw [if_pos h0]
    have hr : rowL (45 :: TL.numL n.natAbs) = TL.numL n.natAbs := by unfold rowL; rw [pre_one, if_pos (decide_eq_true rfl)]; rfl
    rw [hr, if_pos ⟨hp, by omega, hall, fun z => numL_head (by omega) z.1⟩, pre_one, if_pos (decide_eq_true rfl), TL.numL_val]
    first | done | (congr 1; omega)
  · rw [if_neg h0]
    have hpre : TL.pre [45] (TL.numL n.natAbs) = false := by
      cases e : TL.numL n.natAbs with
      | nil => exact absurd e hne
      | cons c r =>
        rw [pre_one]
        have := hd c (by rw [e]; exact List.mem_cons_self)
        exact decide_eq_false (by omega)
    have hr : rowL (TL.numL n.natAbs) = TL.numL n.natAbs := by unfold rowL; rw [hpre, if_neg (by decide)]
    have hz : ¬ ((TL.numL n.natAbs)[0]? = some 48 ∧ TL.numL n.natAbs ≠ [48]) := fun ⟨z1, z2⟩ => by
      by_cases hz : n.natAbs = 0
      · rw [hz, TL.numL_lt (by decide)] at z2
        exact z2 rfl
      · exact numL_head (by omega) z1
    rw [hr, hpre, if_pos ⟨hp, by omega, hall, hz⟩, if_neg (by decide), TL.numL_val]
    exact congrArg some (by omega)
end Mo
namespace Mo
open PySem PySem.Spec PyProof.Rows L2
/-! ### reading back: plain Lean -/
theorem tail_app {a x : Str} {n : Nat} (h : TL.tl a = [n]) : tailS (a ++ x) = x := TL.ext_tl (by rw [tl_tailS, TL.tl_append, h]; rfl)
theorem lone_box {x : Str} (h : NameOk x) : loneB (Str.ofString "." ++ x) = some (.box x) := by
  have e : TL.tl (Str.ofString "." ++ x) = 46 :: TL.tl x := by rw [TL.tl_append, show TL.tl (Str.ofString ".") = [46] from by decide +kernel]; rfl
  unfold loneB
  rw [e, tail_app (n := 46) (by decide +kernel), pre_one, name_yes h, if_neg (fun h => by have := (List.cons.inj h).1; omega), if_pos ⟨rfl, rfl⟩]
theorem lone_long {x : Str} (h : NameOk x) : loneB (Str.ofString "#" ++ x) = some (.long x) := by
  have e : TL.tl (Str.ofString "#" ++ x) = 35 :: TL.tl x := by rw [TL.tl_append, show TL.tl (Str.ofString "#") = [35] from by decide +kernel]; rfl
  unfold loneB
  rw [e, tail_app (n := 35) (by decide +kernel), pre_one, pre_one, name_yes h, if_neg (fun h => by have := (List.cons.inj h).1; omega), if_neg (fun h => by have := of_decide_eq_true h.1; omega), if_pos ⟨rfl, rfl⟩]
theorem lone_now : loneB (Str.ofString "@") = some .now := by
  unfold loneB
  rw [if_pos (by decide +kernel)]
theorem lone_got {j : Nat} (h : j < 2) : loneB (Str.ofString "$" ++ Str.ofString (toString (j : Int))) = some (.got j) := by
  have q : ∀ i : Fin 2, loneB (Str.ofString "$" ++ Str.ofString (toString ((i.1 : Nat) : Int))) = some (.got i.1) := by decide +kernel
  exact q ⟨j, h⟩
end Mo
namespace Mo
open PySem PySem.Spec PyProof.Rows L2
/-! ### formulas' texts read back: plain Lean -/
/-- a formula that has a text of its own -/
def Fm.Tx : Fm → Prop
  | .num n => Worth n
  | .box x => NameOk x
  | .long x => NameOk x
  | .got j => j < 2
  | .now => True
  | .two _ f g => f.Tx ∧ g.Tx
theorem Fm.Ok.tx {bs qs : List Str} (hb : ∀ x ∈ bs, NameOk x) (hq : ∀ x ∈ qs, NameOk x) : ∀ {f : Fm}, f.Ok bs qs → f.Tx
  | .num _, h => h
  | .box x, h => hb x h
  | .long x, h => hq x h
  | .got _, h => h
  | .now, _ => True.intro
  | .two _ f g, h => ⟨Fm.Ok.tx hb hq (f := f) h.1, Fm.Ok.tx hb hq (f := g) h.2⟩
theorem Fm.Tx.nb : ∀ {f : Fm}, f.Tx → f.Nb
  | .num n, h => by
    have h : Worth n := h
    obtain ⟨h1, h2⟩ := h
    show n.natAbs < 2 ^ 64
    omega
  | .box _, _ => True.intro
  | .long _, _ => True.intro
  | .got j, h => by
    have h : j < 2 := h
    show (j : Int).natAbs < 2 ^ 64
    omega
  | .now, _ => True.intro
  | .two _ f g, h => ⟨Fm.Tx.nb (f := f) h.1, Fm.Tx.nb (f := g) h.2⟩
/-- the first sign of a number -/
theorem int_head (n : Int) : ∃ c r, TL.tl (Str.ofString (toString n)) = c :: r ∧ ((c = 45 ∧ r ≠ []) ∨ (48 ≤ c ∧ c ≤ 57)) := by
  rw [tl_int]
  have hne := TL.numL_ne n.natAbs
  have hd := TL.numL_digits n.natAbs
  split
  · exact ⟨45, _, rfl, .inl ⟨rfl, hne⟩⟩
  · cases e : TL.numL n.natAbs with
    | nil => exact absurd e hne
    | cons c r => exact ⟨c, r, rfl, .inr (hd c (by rw [e]; exact List.mem_cons_self))⟩
theorem worth_len {n : Int} (h : Worth n) : (TL.tl (Str.ofString (toString n))).length ≤ 17 := by
  obtain ⟨h1, h2⟩ := h
  have hl := TL.numL_len (n := n.natAbs) (k := 16) (by decide) (by omega)
  rw [tl_int]
  split
  · rw [List.length_cons]; omega
  · omega
theorem lone_num {n : Int} (h : Worth n) : loneB (Str.ofString (toString n)) = some (.num n) := by
  obtain ⟨c, r, e, hc⟩ := int_head n
  have hw : wholeB (Str.ofString (toString n)) ((20 : Nat) : Int) = some n := whole_num (by decide) (by obtain ⟨h1, h2⟩ := h; omega)
  have hw2 : worthB (Str.ofString (toString n)) = some n := by
    unfold worthB withinB
    rw [show (20 : Int) = ((20 : Nat) : Int) from rfl, hw, Option.bind_some]
    obtain ⟨h1, h2⟩ := h
    exact if_neg (by omega)
  unfold loneB
  rw [e, pre_one, pre_one, hw2]
  rw [if_neg (fun h => by have := (List.cons.inj h).1; omega), if_neg (fun h => by have := of_decide_eq_true h.1; omega), if_neg (fun h => by have := of_decide_eq_true h.1; omega), if_neg (fun h => by have := (List.cons.inj h).1; omega), if_neg (fun h => by have := (List.cons.inj h).1; omega)]
  rfl
theorem not_mark {x : Str} {c : Nat} {r : List Nat} (h : TL.tl x = c :: r) (hc : c ≠ 43 ∧ c ≠ 42 ∧ c ≠ 47 ∧ c ≠ 124 ∧ c ≠ 60 ∧ c ≠ 61 ∧ (c = 45 → r ≠ [])) : x ∉ opMarks := fun hm => by
  have q : ∀ m ∈ opMarks, TL.tl m = [43] ∨ TL.tl m = [45] ∨ TL.tl m = [42] ∨ TL.tl m = [47] ∨ TL.tl m = [124] ∨ TL.tl m = [60] ∨ TL.tl m = [61] := by decide +kernel
  rcases q x hm with e | e | e | e | e | e | e
  · rw [h] at e; have := (List.cons.inj e).1; omega
  · rw [h] at e; exact hc.2.2.2.2.2.2 (List.cons.inj e).1 (List.cons.inj e).2
  · rw [h] at e; have := (List.cons.inj e).1; omega
  · rw [h] at e; have := (List.cons.inj e).1; omega
  · rw [h] at e; have := (List.cons.inj e).1; omega
  · rw [h] at e; have := (List.cons.inj e).1; omega
  · rw [h] at e; have := (List.cons.inj e).1; omega
theorem opOf_not {x : Str} (h : x ∉ opMarks) : pF.opOf x = none := List.find?_eq_none.mpr fun o _ k => h (by
  have := of_decide_eq_true k
  rw [← this]
  exact List.mem_of_getElem? (op_mark_at o).1)
theorem opOf_mark (o : Op) : pF.opOf o.mark = some o := by cases o <;> decide +kernel
theorem tl_dotA (x : Str) : TL.tl (Str.ofString "." ++ x) = 46 :: TL.tl x := by rw [TL.tl_append, show TL.tl (Str.ofString ".") = [46] from by decide +kernel]; rfl
theorem tl_hashA (x : Str) : TL.tl (Str.ofString "#" ++ x) = 35 :: TL.tl x := by rw [TL.tl_append, show TL.tl (Str.ofString "#") = [35] from by decide +kernel]; rfl
theorem tl_buckA (x : Str) : TL.tl (Str.ofString "$" ++ x) = 36 :: TL.tl x := by rw [TL.tl_append, show TL.tl (Str.ofString "$") = [36] from by decide +kernel]; rfl
theorem tl_now : TL.tl (Str.ofString "@") = [64] := by decide +kernel
/-- one word's text -/
theorem lone_text : ∀ {f : Fm}, f.Tx → f.size = 1 → (∀ o g h, f ≠ .two o g h) → loneB f.text = some f ∧ pF.opOf f.text = none
  | .num n, h, _, _ => by
    obtain ⟨c, r, e, hc⟩ := int_head n
    exact ⟨lone_num h, opOf_not (not_mark e ⟨by omega, by omega, by omega, by omega, by omega, by omega, fun z => hc.elim (·.2) fun q => absurd q.1 (by omega)⟩)⟩
  | .box x, h, _, _ => ⟨lone_box h, opOf_not (not_mark (tl_dotA x) (by omega))⟩
  | .long x, h, _, _ => ⟨lone_long h, opOf_not (not_mark (tl_hashA x) (by omega))⟩
  | .got j, h, _, _ => ⟨lone_got h, opOf_not (not_mark (tl_buckA _) (by omega))⟩
  | .now, _, _, _ => ⟨lone_now, opOf_not (not_mark tl_now (by omega))⟩
  | .two o g h, _, _, q => absurd rfl (q o g h)
theorem words_len : ∀ f : Fm, f.words.length = f.size
  | .num _ => rfl
  | .box _ => rfl
  | .long _ => rfl
  | .got _ => rfl
  | .now => rfl
  | .two o f g => by
    show (o.mark :: (f.words ++ g.words)).length = f.size + g.size + 1
    rw [List.length_cons, List.length_append, words_len f, words_len g]
theorem pF_lone {f : Fm} {t : Str} {n c : Nat} {A B : List Str} (h1 : loneB t = some f) (h2 : pF.opOf t = none) (hc : c + 1 ≤ 15) (hn : 15 < c + n) : pF loneB n (A ++ ([t] ++ B)) A.length c = (some f, A.length + 1, c + 1) := by
  obtain ⟨m, rfl⟩ : ∃ m, n = m + 1 := ⟨n - 1, by omega⟩
  have e : (A ++ ([t] ++ B))[A.length]? = some t := by rw [List.getElem?_append_right (Nat.le_refl _), Nat.sub_self]; rfl
  rw [pF, if_neg (by omega), e]
  dsimp only
  rw [h2]
  dsimp only
  rw [h1]
theorem pF_words : ∀ {f : Fm}, f.Tx → ∀ {n c : Nat} {A B : List Str}, c + f.size ≤ 15 → 15 < c + n → pF loneB n (A ++ (f.words ++ B)) A.length c = (some f, A.length + f.size, c + f.size)
  | .num n, h, _, _, _, _, hc, hn => let q := lone_text (f := .num n) h rfl (fun _ _ _ z => nomatch z); pF_lone q.1 q.2 hc hn
  | .box n, h, _, _, _, _, hc, hn => let q := lone_text (f := .box n) h rfl (fun _ _ _ z => nomatch z); pF_lone q.1 q.2 hc hn
  | .long n, h, _, _, _, _, hc, hn => let q := lone_text (f := .long n) h rfl (fun _ _ _ z => nomatch z); pF_lone q.1 q.2 hc hn
  | .got n, h, _, _, _, _, hc, hn => let q := lone_text (f := .got n) h rfl (fun _ _ _ z => nomatch z); pF_lone q.1 q.2 hc hn
  | .now, h, _, _, _, _, hc, hn => let q := lone_text (f := .now) h rfl (fun _ _ _ z => nomatch z); pF_lone q.1 q.2 hc hn
  | .two o f g, h, n, c, A, B, hc, hn => by
    have hc : c + (f.size + g.size + 1) ≤ 15 := hc
    obtain ⟨m, rfl⟩ : ∃ m, n = m + 1 := ⟨n - 1, by omega⟩
    have hf := pF_words (f := f) h.1 (n := m) (c := c + 1) (A := A ++ [o.mark]) (B := g.words ++ B) (by omega) (by omega)
    have hg := pF_words (f := g) h.2 (n := m) (c := c + 1 + f.size) (A := A ++ [o.mark] ++ f.words) (B := B) (by omega) (by omega)
    have e1 : A ++ [o.mark] ++ (f.words ++ (g.words ++ B)) = A ++ ((o.mark :: (f.words ++ g.words)) ++ B) := by simp
    have e2 : A ++ [o.mark] ++ f.words ++ (g.words ++ B) = A ++ ((o.mark :: (f.words ++ g.words)) ++ B) := by simp
    rw [e1, List.length_append, List.length_singleton] at hf
    rw [e2, List.length_append, List.length_append, List.length_singleton, words_len] at hg
    show pF loneB (m + 1) (A ++ ((o.mark :: (f.words ++ g.words)) ++ B)) A.length c = (some (.two o f g), A.length + (f.size + g.size + 1), c + (f.size + g.size + 1))
    have e : (A ++ ((o.mark :: (f.words ++ g.words)) ++ B))[A.length]? = some o.mark := by rw [List.getElem?_append_right (Nat.le_refl _), Nat.sub_self]; rfl
    rw [pF, if_neg (by omega), e]
    dsimp only
    rw [opOf_mark]
    dsimp only
    rw [hf]
    dsimp only
    rw [hg]
    dsimp only
    congr 2 <;> omega
/-! #### words of a text -/
theorem joinL_app (S : List Nat) : ∀ {a b : List (List Nat)}, a ≠ [] → b ≠ [] → TL.joinL S (a ++ b) = TL.joinL S a ++ (S ++ TL.joinL S b)
  | [], _, h, _ => absurd rfl h
  | [p], [], _, h => absurd rfl h
  | [p], q :: b, _, _ => rfl
  | p :: q :: a, b, _, h => by
    show p ++ (S ++ TL.joinL S ((q :: a) ++ b)) = (p ++ (S ++ TL.joinL S (q :: a))) ++ (S ++ TL.joinL S b)
    rw [joinL_app S (a := q :: a) (by simp) h]
    simp
theorem joinL_cons (S p : List Nat) {b : List (List Nat)} (h : b ≠ []) : TL.joinL S (p :: b) = p ++ (S ++ TL.joinL S b) := joinL_app S (a := [p]) (by simp) h
theorem words_ne (f : Fm) : f.words ≠ [] := fun e => by
  have := words_len f
  rw [e] at this
  have h := f.depth_lt_size
  rw [← this] at h
  exact absurd h (Nat.not_lt_zero _)
theorem map_ne {α β : Type} {f : α → β} {l : List α} (h : l ≠ []) : l.map f ≠ [] := fun e => h (List.map_eq_nil_iff.mp e)
theorem words_sg : ∀ f : Fm, TL.joinL [32] (f.words.map TL.tl) = f.sg
  | .num _ => rfl
  | .box _ => rfl
  | .long _ => rfl
  | .got _ => rfl
  | .now => rfl
  | .two o f g => by
    show TL.joinL [32] ((o.mark :: (f.words ++ g.words)).map TL.tl) = TL.tl o.mark ++ 32 :: (f.sg ++ 32 :: g.sg)
    rw [List.map_cons, List.map_append, joinL_cons _ _ (by simp [words_ne]), joinL_app _ (map_ne (words_ne f)) (map_ne (words_ne g)), words_sg f, words_sg g]
    rfl
theorem join_words (f : Fm) : Txt.join blank f.words = f.text := TL.ext_tl (by rw [TL.join_eq, TL.tl_join, tl_blank, words_sg, tl_text])
theorem join3 (o : Op) (f g : Fm) : Txt.join blank [o.mark, f.text, g.text] = (Fm.two o f g).text := TL.ext_tl (by
  rw [TL.join_eq, TL.tl_join, tl_blank, tl_text]
  show TL.tl o.mark ++ ([32] ++ (TL.tl f.text ++ ([32] ++ TL.tl g.text))) = TL.tl o.mark ++ 32 :: (f.sg ++ 32 :: g.sg)
  rw [tl_text, tl_text]
  rfl)
theorem nm_free {x : Str} (h : NameOk x) : 32 ∉ TL.tl x := fun m => by have := h.let_ _ m; omega
theorem int_free (n : Int) : 32 ∉ TL.tl (Str.ofString (toString n)) := fun m => by
  rw [tl_int] at m
  have := TL.numL_free (n := n.natAbs) (s := 32) (by omega)
  split at m
  · rcases List.mem_cons.mp m with e | m
    · omega
    · exact this m
  · exact this m
theorem words_free : ∀ {f : Fm}, f.Tx → ∀ p ∈ f.words, 32 ∉ TL.tl p
  | .num n, _, p, hp => by rw [List.mem_singleton.mp hp]; exact int_free n
  | .box x, h, p, hp => by
    rw [List.mem_singleton.mp hp]
    show 32 ∉ TL.tl (Str.ofString "." ++ x)
    rw [tl_dotA]
    exact fun m => (List.mem_cons.mp m).elim (by decide) (nm_free h)
  | .long x, h, p, hp => by
    rw [List.mem_singleton.mp hp]
    show 32 ∉ TL.tl (Str.ofString "#" ++ x)
    rw [tl_hashA]
    exact fun m => (List.mem_cons.mp m).elim (by decide) (nm_free h)
  | .got j, _, p, hp => by
    rw [List.mem_singleton.mp hp]
    show 32 ∉ TL.tl (Str.ofString "$" ++ Str.ofString (toString (j : Int)))
    rw [tl_buckA]
    exact fun m => (List.mem_cons.mp m).elim (by decide) (int_free _)
  | .now, _, p, hp => by
    rw [List.mem_singleton.mp hp]
    show 32 ∉ TL.tl (Str.ofString "@")
    rw [tl_now]
    decide
  | .two o f g, h, p, hp => by
    rcases List.mem_cons.mp hp with e | hp
    · rw [e]
      have q : ∀ m ∈ opMarks, 32 ∉ TL.tl m := by decide +kernel
      exact q _ (List.mem_of_getElem? (op_mark_at o).1)
    · rcases List.mem_append.mp hp with hp | hp
      · exact words_free h.1 p hp
      · exact words_free h.2 p hp
theorem split_text {f : Fm} (h : f.Tx) : Txt.split f.text blank = f.words := by
  rw [← join_words]
  exact TL.split_join (y := blank) tl_blank (by decide +kernel) (words_ne f) (words_free h)
theorem fofB_text {f : Fm} (h : f.Tx) (hs : f.size ≤ 15) : fofB f.text = some [f] := by
  unfold fofB fsB
  rw [split_text h, fsOf]
  have e := pF_words (f := f) h (n := 16) (c := 0) (A := []) (B := []) (by omega) (by omega)
  rw [List.nil_append, List.append_nil] at e
  rw [show ([] : List Str).length = 0 from rfl] at e
  rw [e]
  dsimp only
  rw [fsOf, Option.map_some, Option.bind_some]
  dsimp only
  rw [words_len, if_neg (by omega)]
theorem sg_len : ∀ {f : Fm}, f.Tx → f.sg.length + 1 ≤ 19 * f.size
  | .num n, h => by
    have := worth_len h
    show (TL.tl (Str.ofString (toString n))).length + 1 ≤ 19 * 1
    omega
  | .box x, h => by
    have h1 := h.len
    rw [TL.len_tl] at h1
    show (TL.tl (Str.ofString "." ++ x)).length + 1 ≤ 19 * 1
    rw [tl_dotA, List.length_cons]
    omega
  | .long x, h => by
    have h1 := h.len
    rw [TL.len_tl] at h1
    show (TL.tl (Str.ofString "#" ++ x)).length + 1 ≤ 19 * 1
    rw [tl_hashA, List.length_cons]
    omega
  | .got j, h => by
    have h1 := worth_len (n := (j : Int)) (by have h : j < 2 := h; constructor <;> omega)
    show (TL.tl (Str.ofString "$" ++ Str.ofString (toString (j : Int)))).length + 1 ≤ 19 * 1
    rw [tl_buckA, List.length_cons]
    omega
  | .now, _ => by
    show (TL.tl (Str.ofString "@")).length + 1 ≤ 19 * 1
    rw [tl_now]
    decide
  | .two o f g, h => by
    have h1 := sg_len h.1
    have h2 := sg_len h.2
    have q : ∀ m ∈ opMarks, (TL.tl m).length = 1 := by decide +kernel
    have h3 := q _ (List.mem_of_getElem? (op_mark_at o).1)
    show (TL.tl o.mark ++ 32 :: (f.sg ++ 32 :: g.sg)).length + 1 ≤ 19 * (f.size + g.size + 1)
    rw [List.length_append, List.length_cons, List.length_append, List.length_cons]
    omega
end Mo
namespace Mo
open PySem PySem.Spec PyProof.Rows L2
/-! ### formulas that are read are formulas of texts -/
theorem nameB_ok {x : Str} (h : nameB x = true) : NameOk x := by
  unfold nameB at h
  rw [Bool.and_eq_true, Bool.and_eq_true] at h
  obtain ⟨h1, h2, h3⟩ := h
  refine ⟨by rw [TL.len_tl]; exact of_decide_eq_true h1, by rw [TL.len_tl]; exact of_decide_eq_true h2, fun c hc => ?_⟩
  have hm := of_decide_eq_true (List.all_eq_true.mp h3 c hc)
  have e : TL.tl lettersS = [97, 98, 99, 100, 101, 102, 103, 104, 105, 106, 107, 108, 109, 110, 111, 112, 113, 114, 115, 116, 117, 118, 119, 120, 121, 122] := by decide +kernel
  rw [e] at hm
  simp only [List.mem_cons, List.not_mem_nil, or_false] at hm
  omega
theorem lone_tx {x : Str} {f : Fm} (h : loneB x = some f) : f.Tx ∧ f.size = 1 := by
  unfold loneB at h
  split at h
  · cases h; exact ⟨True.intro, rfl⟩
  split at h
  · rename_i h2; cases h; exact ⟨nameB_ok h2.2, rfl⟩
  split at h
  · rename_i h2; cases h; exact ⟨nameB_ok h2.2, rfl⟩
  split at h
  · cases h; exact ⟨(by show (0 : Nat) < 2; decide), rfl⟩
  split at h
  · cases h; exact ⟨(by show (1 : Nat) < 2; decide), rfl⟩
  cases hw : worthB x with
  | none => rw [hw] at h; cases h
  | some n =>
    rw [hw] at h
    cases h
    refine ⟨?_, rfl⟩
    unfold worthB withinB at hw
    cases hw2 : wholeB x 20 with
    | none => rw [hw2] at hw; cases hw
    | some m =>
      rw [hw2, Option.bind_some] at hw
      split at hw
      · cases hw
      · injection hw with hw
        subst hw
        show Worth m
        constructor <;> omega
theorem pF_tx : ∀ {n : Nat} {ws : List Str} {i c : Nat} {f : Fm} {j d : Nat}, pF loneB n ws i c = (some f, j, d) → f.Tx ∧ f.size + c ≤ d
  | 0, ws, i, c, f, j, d, h => by rw [pF] at h; cases h
  | n + 1, ws, i, c, f, j, d, h => by
    rw [pF] at h
    split at h
    · cases h
    · split at h
      · cases h
      · rename_i x hx
        split at h
        · injection h with h1 h2
          injection h2 with h3 h4
          have := lone_tx h1
          exact ⟨this.1, by rw [this.2]; omega⟩
        · split at h
          · cases h
          · rename_i f1 j1 d1 h1
            have g1 := pF_tx h1
            split at h
            · cases h
            · rename_i f2 j2 d2 h2
              have g2 := pF_tx h2
              injection h with h3 h4
              injection h4 with h5 h6
              cases h3
              refine ⟨⟨g1.1, g2.1⟩, ?_⟩
              show f1.size + f2.size + 1 + c ≤ d
              omega
theorem fsOf_tx {ws : List Str} : ∀ {m i : Nat} {fs : List Fm} {j : Nat}, fsOf ws m i = some (fs, j) → ∀ f ∈ fs, f.Tx ∧ f.size ≤ 15
  | 0, i, fs, j, h => by rw [fsOf] at h; cases h; exact fun _ h => nomatch h
  | m + 1, i, fs, j, h => by
    rw [fsOf] at h
    split at h
    · cases h
    · rename_i f j2 _ hf
      cases h2 : fsOf ws m j2 with
      | none => rw [h2] at h; cases h
      | some r =>
        rw [h2, Option.map_some] at h
        injection h with h
        injection h with h3 h4
        rw [← h3]
        have g1 := pF_tx hf
        have g2 := pF_some hf
        exact List.forall_mem_cons.mpr ⟨⟨g1.1, by omega⟩, fsOf_tx (j := r.2) (fs := r.1) h2⟩
theorem fsB_tx {ws : List Str} {m : Nat} {fs : List Fm} (h : fsB ws m = some fs) : ∀ f ∈ fs, f.Tx ∧ f.size ≤ 15 := by
  unfold fsB at h
  cases h2 : fsOf ws m 0 with
  | none => rw [h2] at h; cases h
  | some r =>
    rw [h2, Option.bind_some] at h
    split at h
    · cases h
    · injection h with h
      rw [← h]
      exact fsOf_tx (j := r.2) (fs := r.1) h2
end Mo
namespace Mo
open PySem PySem.Spec PyProof.Rows L2
/-! ### happenings and endings: plain Lean -/
structure Hap where
  time : Int
  rank : Int
  frm : Int
  count : Int
  to : Int
  sign : Str
  g : Int
  h : Int
  deriving DecidableEq
def Hap.key (x : Hap) : List Int := [x.time, x.rank, x.frm, x.count]
def keyD (ns : List Int) : PyData := .tuple (ns.map PyData.int)
def Hap.data (x : Hap) : PyData := .tuple [.tuple [.int x.time, .int x.rank, .int x.frm, .int x.count], .int x.to, .str x.sign, .int x.g, .int x.h]
instance : Inhabited Hap := ⟨⟨0, 0, 0, 0, 0, "", 0, 0⟩⟩
def Hap.keyD (x : Hap) : PyData := .tuple [.int x.time, .int x.rank, .int x.frm, .int x.count]
inductive Ending where
  | fin (x : Hap)
  | fault (f : Flt) (x : Hap)
  | empty
  | cut
def Ending.data : Ending → PyData
  | .fin x => .tuple [.str "end", x.keyD]
  | .fault f x => .tuple [.str "fault", .str f.word, x.keyD]
  | .empty => .tuple [.str "empty"]
  | .cut => .tuple [.str "cut"]
/-- an ending, or none -/
def endD : Option Ending → PyData
  | none => .none
  | some e => e.data
end Mo
namespace Mo
open PySem PySem.Spec PyProof.Rows L2
/-! ### records as trees, and their lines -/
inductive Wr where
  | b (x : Str) (n : Int)
  | q (x : Str) (ns : List Int)
inductive WrP where
  | b (v : V) (x : Str) (n : Int)
  | q (t a : Addr) (x : Str) (ns : List Int)
def WrP.wr : WrP → Wr
  | .b _ x n => .b x n
  | .q _ _ x ns => .q x ns
def wiT (n : Int) : Tr := .wd (.i n)
def WrP.tree : WrP → Tr
  | .b v x n => .dt v (.tuple [.str x, .int n])
  | .q t a x ns => .tu t [.wd (.s x), .ls a (ns.map wiT)]
def Wr.words : Wr → List Wd
  | .b x n => [.s "box", .s x, .i n]
  | .q x ns => .s "queue" :: .s x :: ns.map Wd.i
def Wr.data : Wr → PyData
  | .b x n => .tuple [.str x, .int n]
  | .q x ns => .tuple [.str x, .list (ns.map PyData.int)]
structure TRec where
  hap : Hap
  ws : List Wr
  news : List Hap
structure TcO where
  r : Addr
  key : V
  hap : Hap
  lw : Addr
  ws : List WrP
  ln : Addr
  news : List (V × Hap)
def TcO.c (o : TcO) : TRec := ⟨o.hap, o.ws.map WrP.wr, o.news.map (·.2)⟩
def nwT (p : V × Hap) : Tr := .dt p.1 p.2.data
def TcO.kids (o : TcO) : List Tr := [.dt o.key o.hap.keyD, .wd (.i o.hap.to), .wd (.s o.hap.sign), .wd (.i o.hap.g), .wd (.i o.hap.h), .ls o.lw (o.ws.map WrP.tree), .ls o.ln (o.news.map nwT)]
def TcO.tree (o : TcO) : Tr := .tu o.r o.kids
def TRec.data (c : TRec) : PyData := .tuple [c.hap.keyD, .int c.hap.to, .str c.hap.sign, .int c.hap.g, .int c.hap.h, .list (c.ws.map Wr.data), .list (c.news.map Hap.data)]
theorem wiT_dat (ns : List Int) : Tr.dats (ns.map wiT) = ns.map PyData.int := by
  rw [Tr.dats_map, List.map_map]
  exact List.map_congr_left fun n _ => by show (Tr.wd (.i n)).dat = _; rw [Tr.dat]; rfl
theorem WrP.tree_dat (w : WrP) : w.tree.dat = w.wr.data := by
  cases w with
  | b v x n => show (Tr.dt v _).dat = _; rw [Tr.dat]; rfl
  | q t a x ns =>
    show (Tr.tu t [.wd (.s x), .ls a (ns.map wiT)]).dat = _
    rw [Tr.dat, Tr.dats, Tr.dats, Tr.dats, Tr.dat, Tr.dat, wiT_dat]
    rfl
theorem nwT_dat (p : V × Hap) : (nwT p).dat = p.2.data := by show (Tr.dt p.1 _).dat = _; rw [Tr.dat]
theorem TcO.tree_dat (o : TcO) : o.tree.dat = o.c.data := by
  show (Tr.tu o.r o.kids).dat = _
  rw [Tr.dat, Tr.dats_map]
  show PyData.tuple [(Tr.dt o.key o.hap.keyD).dat, (Tr.wd (.i o.hap.to)).dat, (Tr.wd (.s o.hap.sign)).dat, (Tr.wd (.i o.hap.g)).dat, (Tr.wd (.i o.hap.h)).dat, (Tr.ls o.lw (o.ws.map WrP.tree)).dat, (Tr.ls o.ln (o.news.map nwT)).dat] = _
  rw [Tr.dat, Tr.dat, Tr.dat, Tr.dat, Tr.dat, Tr.dat, Tr.dat, Tr.dats_map, Tr.dats_map, List.map_map, List.map_map]
  rw [show (Tr.dat ∘ WrP.tree) = fun w => w.wr.data from funext WrP.tree_dat, show (Tr.dat ∘ nwT) = fun p => p.2.data from funext nwT_dat]
  show _ = PyData.tuple [_, _, _, _, _, PyData.list ((o.ws.map WrP.wr).map Wr.data), PyData.list ((o.news.map (·.2)).map Hap.data)]
  rw [List.map_map, List.map_map]
  rfl
theorem wi_SS : ∀ ns : List Int, Tr.SS (ns.map wiT) = []
  | [] => by rw [List.map_nil, Tr.SS]
  | n :: ns => by rw [List.map_cons, Tr.SS, wi_SS ns, wiT, Tr.S]; rfl
theorem nw_SS : ∀ ns : List (V × Hap), Tr.SS (ns.map nwT) = []
  | [] => by rw [List.map_nil, Tr.SS]
  | n :: ns => by rw [List.map_cons, Tr.SS, nw_SS ns, nwT, Tr.S]; rfl
theorem wi_v (ns : List Int) : (ns.map wiT).map Tr.v = ns.map V.int := by rw [List.map_map]; rfl
theorem nw_v (ns : List (V × Hap)) : (ns.map nwT).map Tr.v = ns.map (·.1) := by rw [List.map_map]; rfl
theorem wq_S (t a : Addr) (x : Str) (ns : List Int) : (WrP.q t a x ns).tree.S = own a (.lst (ns.map V.int)) := by
  show (Tr.tu t [.wd (.s x), .ls a (ns.map wiT)]).S = _
  rw [Tr.S, Tr.SS, Tr.SS, Tr.SS, Tr.S, Tr.S, wi_SS, wi_v, List.append_nil, List.append_nil]
  rfl
theorem tc_S (o : TcO) : o.tree.S = own o.lw (.lst ((o.ws.map WrP.tree).map Tr.v)) ++ (segsV Tr.S (o.ws.map WrP.tree) ++ own o.ln (.lst (o.news.map (·.1)))) := by
  show (Tr.tu o.r o.kids).S = _
  unfold TcO.kids
  rw [Tr.S, Tr.SS, Tr.SS, Tr.SS, Tr.SS, Tr.SS, Tr.SS, Tr.SS, Tr.SS, Tr.S, Tr.S, Tr.S, Tr.S, Tr.S, Tr.S, Tr.S, nw_SS, nw_v, Tr.SS_segs]
  simp only [List.nil_append, List.append_nil, List.append_assoc]
section
variable {K : PySem.W.Frag} {Γ : List Fc} {S R S0 : List Vo} {A : Hp → Prop} {o : TcO}
theorem w_tcOpen (m : Take o.tree.S S R) (k : Wh K Γ (own o.lw (.lst ((o.ws.map WrP.tree).map Tr.v)) :: segsV Tr.S (o.ws.map WrP.tree) :: own o.ln (.lst (o.news.map (·.1))) :: R) A) : Wh K Γ S A := fun H z => k H ((z.tk1 m).cong (by
  rw [List.flatten_cons, List.flatten_cons, List.flatten_cons, List.flatten_cons, tc_S, List.append_assoc, List.append_assoc]))
theorem Dr.tc (h : Dr S0 (own o.lw (.lst ((o.ws.map WrP.tree).map Tr.v)) :: segsV Tr.S (o.ws.map WrP.tree) :: own o.ln (.lst (o.news.map (·.1))) :: R)) : Dr S0 (o.tree.S :: R) := by
  obtain ⟨J, j⟩ := h
  refine ⟨J, j.trans ?_⟩
  rw [List.flatten_append, List.flatten_append, List.flatten_cons, List.flatten_cons, List.flatten_cons, List.flatten_cons, tc_S, List.append_assoc, List.append_assoc]
/-- what a record's facts tell -/
theorem w_tcF (m : trF K o.tree ∈ Γ) (k : Wh K (.obj o.r (.tup [o.key, .int o.hap.to, .str o.hap.sign, .int o.hap.g, .int o.hap.h, .ref o.lw, .ref o.ln]) :: .dat o.key o.hap.keyD :: trsF K (o.ws.map WrP.tree) :: trsF K (o.news.map nwT) :: Γ) S A) : Wh K Γ S A := by
  refine w_trTo m ?_
  refine w_trsGet (t := .dt o.key o.hap.keyD) (List.mem_cons_of_mem _ List.mem_cons_self) List.mem_cons_self ?_
  refine w_trD List.mem_cons_self ?_
  refine w_trsGet (ts := o.kids) (t := .ls o.lw (o.ws.map WrP.tree)) (List.mem_cons_of_mem _ (List.mem_cons_of_mem _ (List.mem_cons_of_mem _ List.mem_cons_self))) (by unfold TcO.kids; simp) ?_
  refine w_trLo List.mem_cons_self ?_
  refine w_trsGet (ts := o.kids) (t := .ls o.ln (o.news.map nwT)) (List.mem_cons_of_mem _ (List.mem_cons_of_mem _ (List.mem_cons_of_mem _ (List.mem_cons_of_mem _ (List.mem_cons_of_mem _ List.mem_cons_self))))) (by unfold TcO.kids; simp) ?_
  refine w_trLo List.mem_cons_self ?_
  refine Wh.weak (fun f m => ?_) k
  simp only [List.mem_cons] at m ⊢
  rcases m with rfl | rfl | rfl | rfl | m
  · right; right; right; right; right; right; left; rfl
  · right; right; right; right; left; rfl
  · right; right; left; rfl
  · left; rfl
  · right; right; right; right; right; right; right; right; exact m
/-- a record put together -/
theorem w_tcMk (m1 : .obj o.r (.tup [o.key, .int o.hap.to, .str o.hap.sign, .int o.hap.g, .int o.hap.h, .ref o.lw, .ref o.ln]) ∈ Γ) (m2 : .dat o.key o.hap.keyD ∈ Γ) (m3 : trsF K (o.ws.map WrP.tree) ∈ Γ) (m4 : trsF K (o.news.map nwT) ∈ Γ) (k : Wh K (trF K o.tree :: Γ) S A) : Wh K Γ S A :=
  Wh.learn (f := trF K o.tree) (fun G b => fun f hf => by
    have hf : f ∈ (Tr.tu o.r o.kids).F := hf
    rw [Tr.F] at hf
    rcases List.mem_cons.mp hf with e | hf
    · rw [e]; exact b _ m1
    · obtain ⟨t, ht, hk⟩ := Tr.FF_mem.mp hf
      simp only [TcO.kids, List.mem_cons, List.not_mem_nil, or_false] at ht
      rcases ht with rfl | rfl | rfl | rfl | rfl | rfl | rfl
      · rw [Tr.F] at hk; rw [List.mem_singleton.mp hk]; exact b _ m2
      · rw [Tr.F] at hk; exact nomatch hk
      · rw [Tr.F] at hk; exact nomatch hk
      · rw [Tr.F] at hk; exact nomatch hk
      · rw [Tr.F] at hk; exact nomatch hk
      · rw [Tr.F] at hk; exact (b _ m3 : ∀ f ∈ Tr.FF (o.ws.map WrP.tree), f.In K G) f hk
      · rw [Tr.F] at hk; exact (b _ m4 : ∀ f ∈ Tr.FF (o.news.map nwT), f.In K G) f hk) k
end
/-! #### lines -/
def ind2 : Str := "  "
theorem tl_ind2 : TL.tl ind2 = [32, 32] := by decide +kernel
def hapK (h : Hap) : List Wd := [.i h.time, .i h.rank, .i h.frm, .i h.count, .i h.to, .s h.sign, .i h.g, .i h.h]
def hapW (x : Str) (h : Hap) : List Wd := .s x :: hapK h
def Wr.line (w : Wr) : Str := ind2 ++ wrT w.words
def nwL (h : Hap) : Str := ind2 ++ wrT (hapW "sent" h)
def TRec.lines (c : TRec) : List Str := (wrT (hapW "at" c.hap) :: c.ws.map Wr.line) ++ c.news.map nwL
def Hap.key4 (h : Hap) : List Wd := [.i h.time, .i h.rank, .i h.frm, .i h.count]
def Ending.line : Ending → Str
  | .fin x => wrT (.s "end" :: x.key4)
  | .fault f x => wrT (.s "fault" :: .s f.word :: x.key4)
  | .empty => "empty"
  | .cut => "cut"
def recsLines (cs : List TRec) : List Str := (cs.map TRec.lines).flatten
def bookT (cs : List TRec) (e : Ending) : Str := Txt.join nl (recsLines cs ++ [e.line])
theorem int_lenW {n : Int} {k : Nat} (hk : 0 < k) (h : n.natAbs < 10 ^ k) : (Str.ofString (toString n)).length ≤ k + 1 := by
  have hl := TL.numL_len hk h
  rw [TL.len_tl, tl_intW]
  split
  · rw [List.length_cons]; omega
  · omega
theorem bd_lenW {n : Int} (h : Bd 128 n) : (Str.ofString (toString n)).length ≤ 41 := int_lenW (k := 40) (by decide) (Nat.lt_trans (show n.natAbs < 2 ^ 128 from h) (by decide))
theorem worth_lenW {n : Int} (h : Worth n) : (Str.ofString (toString n)).length ≤ 20 := by
  have := int_lenW (n := n) (k := 16) (by decide) (by obtain ⟨h1, h2⟩ := h; omega)
  omega
theorem wrT_lenW {ws : List Wd} {n : Nat} (h : ∀ w ∈ ws, w.t.length ≤ n) : (wrT ws).length ≤ ws.length * (n + 1) := by
  have := join_len (y := blank) (ls := ws.map Wd.t) (n := n) fun x hx => by
    obtain ⟨w, hw, rfl⟩ := List.mem_map.mp hx
    have := h w hw
    rw [TL.len_tl] at this
    exact this
  rw [List.length_map, tl_blank] at this
  unfold wrT
  rw [TL.len_tl]
  exact this
/-- lines that are not long -/
structure Hap.TOk (h : Hap) : Prop where
  n : Bd 128 h.time ∧ Bd 128 h.rank ∧ Bd 128 h.frm ∧ Bd 128 h.count ∧ Bd 128 h.to ∧ Bd 128 h.g ∧ Bd 128 h.h
  s : h.sign.length ≤ 40
def Wr.TOk : Wr → Prop
  | .b x n => x.length ≤ 40 ∧ Bd 128 n
  | .q x ns => x.length ≤ 20 ∧ ((ns.length ≤ 8 ∧ ∀ n ∈ ns, Bd 128 n) ∨ (ns.length ≤ 40 ∧ ∀ n ∈ ns, Worth n))
structure TRec.TOk (c : TRec) : Prop where
  h : c.hap.TOk
  w : ∀ w ∈ c.ws, w.TOk
  n : ∀ h ∈ c.news, h.TOk
theorem Hap.TOk.ok {h : Hap} (k : h.TOk) {x : Str} (hx : x.length ≤ 20) : (∀ w ∈ hapW x h, w.Ok ∧ w.t.length ≤ 41) ∧ (wrT (hapW x h)).length ≤ 400 := by
  obtain ⟨n1, n2, n3, n4, n5, n6, n7⟩ := k.n
  have ks := k.s
  have num : ∀ n : Int, Bd 128 n → (Wd.i n).Ok ∧ (Wd.i n).t.length ≤ 41 := fun n hn => ⟨hn, bd_lenW hn⟩
  have h1 : ∀ w ∈ hapW x h, w.Ok ∧ w.t.length ≤ 41 := fun w m => by
    simp only [hapW, hapK, List.mem_cons, List.not_mem_nil, or_false] at m
    rcases m with rfl | rfl | rfl | rfl | rfl | rfl | rfl | rfl | rfl
    · exact ⟨(show x.length ≤ 900 by omega), (show x.length ≤ 41 by omega)⟩
    · exact num _ n1
    · exact num _ n2
    · exact num _ n3
    · exact num _ n4
    · exact num _ n5
    · exact ⟨(show h.sign.length ≤ 900 by omega), (show h.sign.length ≤ 41 by omega)⟩
    · exact num _ n6
    · exact num _ n7
  exact ⟨h1, Nat.le_trans (wrT_lenW (n := 41) fun w m => (h1 w m).2) (by show 9 * 42 ≤ 400; decide)⟩
theorem Wr.TOk.ok {w : Wr} (k : w.TOk) : w.words.length ≤ 100 ∧ (∀ x ∈ w.words, x.Ok) ∧ (wrT w.words).length ≤ 900 := by
  have lit : ∀ x ∈ (["box", "queue"] : List Str), x.length ≤ 5 := by decide +kernel
  cases w with
  | b x n =>
    obtain ⟨k1, k2⟩ := k
    have h1 : ∀ y ∈ (Wr.b x n).words, y.Ok ∧ y.t.length ≤ 41 := fun y m => by
      simp only [Wr.words, List.mem_cons, List.not_mem_nil, or_false] at m
      rcases m with rfl | rfl | rfl
      · have := lit "box" (by simp); exact ⟨(show (Str.ofString "box").length ≤ 900 by omega), (show (Str.ofString "box").length ≤ 41 by omega)⟩
      · exact ⟨(show x.length ≤ 900 by omega), (show x.length ≤ 41 by omega)⟩
      · exact ⟨k2, bd_lenW k2⟩
    exact ⟨(show 3 ≤ 100 by decide), fun y m => (h1 y m).1, Nat.le_trans (wrT_lenW (n := 41) fun y m => (h1 y m).2) (by show 3 * 42 ≤ 900; decide)⟩
  | q x ns =>
    obtain ⟨k1, k2⟩ := k
    have hb : ∀ n ∈ ns, Bd 128 n := by
      rcases k2 with ⟨_, h⟩ | ⟨_, h⟩
      · exact h
      · exact fun n hn => Bd.mono (worth_bd (h n hn)) (by decide)
    have hl : ns.length ≤ 40 := by rcases k2 with ⟨h, _⟩ | ⟨h, _⟩ <;> omega
    have h1 : ∀ y ∈ (Wr.q x ns).words, y.Ok := fun y m => by
      simp only [Wr.words, List.mem_cons, List.mem_map] at m
      rcases m with rfl | rfl | ⟨n, hn, rfl⟩
      · have := lit "queue" (by simp); exact (show (Str.ofString "queue").length ≤ 900 by omega)
      · exact (show x.length ≤ 900 by omega)
      · exact hb n hn
    have hwl : (Wr.q x ns).words.length = ns.length + 2 := by show (ns.map Wd.i).length + 1 + 1 = _; rw [List.length_map]
    have h2 : ∀ m : Nat, 20 ≤ m → (∀ n ∈ ns, (Str.ofString (toString n)).length ≤ m) → (wrT (Wr.q x ns).words).length ≤ (ns.length + 2) * (m + 1) := fun m hm hn => by
      rw [← hwl]
      refine wrT_lenW fun y hy => ?_
      simp only [Wr.words, List.mem_cons, List.mem_map] at hy
      rcases hy with rfl | rfl | ⟨n, hn2, rfl⟩
      · have := lit "queue" (by simp); exact (show (Str.ofString "queue").length ≤ m by omega)
      · exact (show x.length ≤ m by omega)
      · exact hn n hn2
    refine ⟨by rw [hwl]; omega, h1, ?_⟩
    rcases k2 with ⟨h, g⟩ | ⟨h, g⟩
    · have := h2 41 (by decide) fun n hn => bd_lenW (g n hn)
      have : (ns.length + 2) * 42 ≤ 10 * 42 := Nat.mul_le_mul (by omega) (Nat.le_refl _)
      omega
    · have := h2 20 (by decide) fun n hn => worth_lenW (g n hn)
      have : (ns.length + 2) * 21 ≤ 42 * 21 := Nat.mul_le_mul (by omega) (Nat.le_refl _)
      omega
/-- join with larger bounds -/
theorem w_joinB {K : PySem.W.Frag} {Γ : List Fc} {S : List Vo} {Q : VK} {a : Str} {p : Addr} {xs : List V} {ys : List Str} (m : AtH K Γ S p (.lst xs)) (e : xs = ys.map V.str) (hl : ys.length ≤ 8000) (hy : ∀ y ∈ ys, y.length ≤ 1000) (ha : a.length ≤ 1000) (k : Wh K Γ S fun H => Q (.str (Txt.join a ys)) H) :
    Wh K Γ S fun H => rJoin K (.str a) [.ref p] H Q := fun H z => by
  subst e
  have h1 := sum_le hy
  have h2 : ys.length * 1000 ≤ 8000 * 1000 := Nat.mul_le_mul hl (Nat.le_refl _)
  have h3 : ys.length * a.length ≤ 8000 * 1000 := Nat.mul_le_mul hl ha
  exact ⟨a, p, ys, rfl, rfl, .inl (SqL.of (m H z)), by omega, k H z⟩
end Mo
namespace Mo
open PySem PySem.Spec PyProof.Rows L2
/-! ### words written, and read back: plain Lean -/
def Wd.Free (c : Nat) (w : Wd) : Prop := c ∉ TL.tl w.t
theorem int_freeC {c : Nat} (h : c < 45 ∨ 57 < c) (n : Int) : c ∉ TL.tl (Str.ofString (toString n)) := fun m => by
  rw [tl_int] at m
  have := TL.numL_free (n := n.natAbs) (s := c) (by omega)
  split at m
  · rcases List.mem_cons.mp m with e | m
    · omega
    · exact this m
  · exact this m
theorem wrT_split {ws : List Wd} (h0 : ws ≠ []) (h : ∀ w ∈ ws, w.Free 32) : Txt.split (wrT ws) blank = ws.map Wd.t := by
  unfold wrT
  refine TL.split_join (y := blank) tl_blank (by decide +kernel) (fun e => h0 (List.map_eq_nil_iff.mp e)) fun p hp => ?_
  obtain ⟨w, hw, rfl⟩ := List.mem_map.mp hp
  exact h w hw
theorem wrT_free {ws : List Wd} (h : ∀ w ∈ ws, w.Free 10) : 10 ∉ TL.tl (wrT ws) := join_free (by rw [tl_blank]; decide) fun x hx => by
  obtain ⟨w, hw, rfl⟩ := List.mem_map.mp hx
  exact h w hw
theorem wrT_len {ws : List Wd} {n : Nat} (h : ∀ w ∈ ws, (TL.tl w.t).length ≤ n) : (TL.tl (wrT ws)).length ≤ ws.length * (n + 1) := by
  have := join_len (y := blank) (ls := ws.map Wd.t) (n := n) fun x hx => by
    obtain ⟨w, hw, rfl⟩ := List.mem_map.mp hx
    exact h w hw
  rw [List.length_map, tl_blank] at this
  exact this
theorem within_int {n a b : Int} (h : n.natAbs < 10 ^ 20) (h1 : a ≤ n) (h2 : n ≤ b) : withinB (Str.ofString (toString n)) a b = some n := by
  unfold withinB
  rw [show (20 : Int) = ((20 : Nat) : Int) from rfl, whole_num (by decide) h, Option.bind_some, if_neg (by omega)]
theorem worth_int {n : Int} (h : Worth n) : worthB (Str.ofString (toString n)) = some n := by
  obtain ⟨h1, h2⟩ := h
  exact within_int (by omega) h1 h2
theorem int_lenK {n : Int} {k : Nat} (hk : 0 < k) (h : n.natAbs < 10 ^ k) : (TL.tl (Str.ofString (toString n))).length ≤ k + 1 := by
  have hl := TL.numL_len hk h
  rw [tl_int]
  split
  · rw [List.length_cons]; omega
  · omega
theorem name_freeC {c : Nat} (h : c < 97 ∨ 123 ≤ c) {x : Str} (hx : NameOk x) : c ∉ TL.tl x := fun m => by have := hx.let_ _ m; omega
theorem name_lenT {x : Str} (hx : NameOk x) : (TL.tl x).length ≤ 6 := by have := hx.len; rw [TL.len_tl] at this; exact this
theorem name_sok {x : Str} (h : NameOk x) : PyData.strOk x = true := by
  show x.cps.all (· < 0x110000) = true
  rw [Array.all_eq_true_iff_forall_mem]
  intro c hc
  have := h.let_ c (by rw [Array.mem_toList_iff]; exact hc)
  exact decide_eq_true (by omega)
section
variable {K : PySem.W.Frag} {Γ : List Fc} {S : List Vo} {σ : St} {Q : VK} {g : TG} {tt : TT} {te : TE} {vs : List Nat} {ι : Type}
theorem w_lcTW {v : V} {ws : List Wd} (m : .dat v (Wd.tup ws) ∈ Γ) (k : ∀ p, v = .ref p → Wh K Γ S fun H => LcA g tt te vs σ Q H (Itt K p)) : Wh K Γ S fun H => lcSeq K g tt te vs σ Q v H := fun H z => by
  obtain ⟨a, xs, rfl, h1, h2⟩ := dp_tup (z.dat m)
  exact ⟨a, rfl, .inr ⟨⟨xs, h1⟩, k a rfl H z⟩⟩
theorem w_lc_W {p : Addr} (ws : List Wd) (C : Nat → ι → Prop) (ac : Nat → ι → List V) (Γf : Nat → ι → List Fc) (Sf : Nat → ι → List Vo) (a0 : ι) (h0 : C 0 a0) (ha : ac 0 a0 = []) (hΓ : ∀ f ∈ Γf 0 a0, f ∈ Γ) (hS : Dr S (Sf 0 a0))
    (hl : ∀ i a, .dat (.ref p) (Wd.tup ws) ∈ Γf i a)
    (hs : ∀ Dl (i : Nat) w a, ws[i]? = some w → C i a → Wh K (Γf i a) (own Dl (.lst (ac i a)) :: Sf i a) fun H => g w.v (wipe σ vs) H fun σ2 H2 => wipe σ2 vs = wipe σ vs ∧ tt σ2 H2 fun b H3 =>
      if b = true then te σ2 H3 fun y H4 => ∃ acc, H4 Dl = some (.lst acc) ∧ acc.length < sizeLine ∧ NL K Dl (C (i + 1)) (ac (i + 1)) (Γf (i + 1)) (Sf (i + 1)) (upd H4 Dl (.lst (acc ++ [y]))) else NL K Dl (C (i + 1)) (ac (i + 1)) (Γf (i + 1)) (Sf (i + 1)) H3)
    (hd : ∀ Dl a, C ws.length a → Wh K (Γf ws.length a) (own Dl (.lst (ac ws.length a)) :: Sf ws.length a) fun H => Q (.ref Dl) H) : Wh K Γ S fun H => LcA g tt te vs σ Q H (Itt K p) := fun H z Dl hD =>
  lcx_t (xs := ws.map Wd.v) (fun i => NL K Dl (C i) (ac i) (Γf i) (Sf i)) ⟨a0, h0, by rw [ha]; exact (z.fit hΓ hS).new hD⟩ (fun i H' _ ⟨a, hC, z⟩ => by
    obtain ⟨b, xs, e, h1, h2⟩ := dp_tup (z.dat (hl i a))
    cases e
    rw [← dpa_wds h2]
    exact h1) (fun i x H' hi ⟨a, hC, z⟩ => by
    rw [List.getElem?_map] at hi
    obtain ⟨w, hw, rfl⟩ := Option.map_eq_some_iff.mp hi
    exact hs Dl i w a hw hC H' z) fun H' ⟨a, hC, z⟩ => by
    rw [List.length_map] at hC z
    exact hd Dl a hC H' z
theorem w_subE {p : Addr} {xs ys : List V} {j : Int} {v : V} (m : AtH K Γ S p (.lst xs)) (h : xs = ys) (e : atI ys j = some v) (k : Wh K Γ S fun H => Q v H) : Wh K Γ S fun H => rSub K (.ref p) (.int j) H Q := w_sub m (by rw [h]; exact e) k
theorem str_atV {xs : List Str} {d : Nat} (h : d < xs.length) : ∃ x, x ∈ xs ∧ atI (xs.map V.str) (d : Int) = some (.str x) := ⟨xs[d], List.getElem_mem h, atI_nat (by rw [List.getElem?_map, List.getElem?_eq_getElem h]; rfl)⟩
end
end Mo
namespace Mo
open PySem PySem.Spec PyProof.Rows L2
/-! ### the third way of making models: numbers taken -/
section
variable {P : Program} {w : World} {K : PySem.W.Frag} {mg : Str → Option Value} {base : Heap}
theorem ok__law_purse (T : Tx K mg) : OkG P w K mg base 2 "_law_purse" ["_law_script"] (spPurse K) := by
  refine T.f__law_purse.okX sc__law_purse (fun vs H Q E h => ?_) (fun cdv A outer s H vs Q E hr h => ?_)
  · obtain ⟨a, ns, rfl, _⟩ := h
    rfl
  · have hu1 := hu_of hr; have hu0 := hr.units0; have hu64 := hr.units; have hu65 := hu65_of hr; have nd := sc__law_purse.nd
    obtain ⟨a, ns, rfl, hS, hl, hb, q⟩ := h
    refine ⟨_, (pss_cons (ps_set (i := 1) nd rfl (Or.inl rfl) (pe_op (op_addK (K := K) rfl) (pe_slice (sl_anyK (K := K) rfl) (pv 0) po_none (po_some pe_int)) (pe_lst (pa_cons pe_int pa_nil))))
      (pss_cons (ps_set (i := 2) nd rfl (Or.inl rfl) pe_int)
      (pss_cons (ps_set (i := 3) nd rfl (Or.inl rfl) pe_int)
      (pss_cons (ps_for (passes_of rfl) rfl (pi_range1 rfl T.b_range (pa_cons pe_int pa_nil)) (pg_name (i := 4) nd rfl (Or.inl rfl))
      (pss_cons (ps_set (i := 5) nd rfl (Or.inl rfl) (pe_ix (ix_anyK (K := K) rfl hu1) (pv 1) (pe_op op_modX (pv 4) (pe_callB (call_lenK (K := K) rfl) (by rfl) T.b_len (by decide +kernel) (pa_cons (pv 1) pa_nil))) (fun _ _ => rfl)))
      (pss_cons (ps_set (i := 3) nd rfl (Or.inl rfl) (pe_op op_modX (pe_op (op_addK (K := K) rfl) (pe_op (op_addK (K := K) rfl) (pe_op (op_addK (K := K) rfl) (pe_op op_mulX (pv 3) (pv 3)) (pv 5)) (pe_op op_mulX pe_int (pv 4))) pe_int) pe_int))
      (pss_one (ps_set (i := 2) nd rfl (Or.inl rfl) (pe_op (op_addK (K := K) rfl) (pe_op op_mulX (pv 2) pe_int) (pe_op op_modX (pe_op op_mulX (pv 3) (pv 3)) pe_int)))))))
      (pss_cons (ps_if (pt_cmpR (op_eqK (K := K) rfl hu64) (pe_op op_modX (pe_ix (ix_anyK (K := K) rfl hu1) (pv 1) pe_int (fun _ _ => rfl)) pe_int) pe_int (nomark _)) (pss_one (ps_ret (pe_lst (pa_cons (pe_op op_fdivX (pe_callB call_abs (by rfl) T.b_abs (by decide +kernel) (pa_cons (pe_ix (ix_anyK (K := K) rfl hu1) (pv 1) pe_int (fun _ _ => rfl)) pa_nil)) pe_int) (pa_cons (pv 2) pa_nil)))))
      pss_nil)
      (pss_one (ps_ret (pe_lst (pa_cons pe_int (pa_cons (pv 2) pa_nil)))))))))), ?_⟩
    refine go_start (σ' := [some (.ref a), none, none, none, none, none]) rfl ?_
    k_extra "w"
    refine .inl ⟨a, _, rfl, hS, fun c hc => ?_⟩
    have ec : cutV (ns.map V.int) none (some 63) = ns.map V.int := by
      unfold cutV
      have e1 : HT.sIx (ns.map V.int).length 0 none = 0 := rfl
      have e2 : HT.sIx (ns.map V.int).length (ns.map V.int).length (some 63) = ns.length := by
        have := HT.sIx_nat (ns.map V.int).length (ns.map V.int).length 63
        rw [List.length_map] at this
        rw [List.length_map]
        rw [show (some (63 : Int)) = some ((63 : Nat) : Int) from rfl, this]
        omega
      rw [e1, e2, List.drop_zero, Nat.sub_zero, List.take_of_length_le (by rw [List.length_map]; exact Nat.le_refl _)]
    rw [ec]
    k_extra "w"
    refine go_size (by decide) fun z hz => ?_
    have ncz : c ≠ z := ne_of_none upd_same hz
    refine go_addL (by rw [upd_ne ncz]; exact upd_same) upd_same (by rw [List.length_map, sizeLine_eq]; simp only [List.length_cons, List.length_nil]; omega) fun d hd => ?_
    have eH : Hd H (upd (upd (upd H c (.lst (ns.map V.int))) z (.lst [.int 1])) d (.lst (ns.map V.int ++ [.int 1]))) [] := Hd.nil (((Ext.new hc).trans (Ext.new hz)).trans (Ext.new hd))
    have hcs : (upd (upd (upd H c (.lst (ns.map V.int))) z (.lst [.int 1])) d (.lst (ns.map V.int ++ [.int 1]))) d = some (.lst ((ns ++ [1]).map V.int)) := by
      rw [upd_same, List.map_append]
      rfl
    revert hcs eH
    generalize (upd (upd (upd H c (.lst (ns.map V.int))) z (.lst [.int 1])) d (.lst (ns.map V.int ++ [.int 1]))) = H1
    intro eH hcs
    have hb' : ∀ y ∈ ns ++ [1], Bd 1048576 y := fun y hy => by
      rcases List.mem_append.mp hy with hy | hy
      · exact hb y hy
      · rw [List.mem_singleton.mp hy]
        exact Bd.mono (a := 1) (by decide) (by decide)
    have hpos : 0 < (ns ++ [1]).length := by rw [List.length_append, List.length_singleton]; omega
    have hlen : (ns ++ [1]).length ≤ 64 := by rw [List.length_append, List.length_singleton]; omega
    revert hcs hb' hpos hlen
    generalize ns ++ [1] = cs
    intro hcs hb' hpos hlen
    k_extra "w"
    refine go_r1 (j := 120) 120 rfl (by decide) ?_
    refine loop_r 120 (fun i σ H' => H' = H1 ∧ ∃ x y v u, Bd (33 * i + 1) x ∧ Bd 31 y ∧ σ = [some (.ref a), some (.ref d), some (.int x), some (.int y), v, u]) ⟨rfl, 1, 5, none, none, by decide, by decide, rfl⟩ ?_ ?_
    · rintro i σ H' hi ⟨rfl, x, y, v, u, hx, hy, rfl⟩
      k_extra "w"
      refine go_lenL (SqL.of hcs) ?_
      rw [List.length_map]
      refine go_mod (by omega) ?_
      have hm := fmod_range (a := (i : Int)) (n := (cs.length : Int)) (by omega)
      obtain ⟨j, hj⟩ : ∃ j : Nat, (i : Int).fmod (cs.length : Int) = (j : Int) := ⟨_, (Int.toNat_of_nonneg hm.1).symm⟩
      rw [hj]
      have hjl : j < cs.length := by omega
      refine go_subL (SqL.of hcs) (atI_nat (v := .int cs[j]) (by rw [List.getElem?_map, List.getElem?_eq_getElem hjl]; rfl)) ?_
      k_extra "w"
      refine go_I (hy.cmul hy) ?_
      k_extra "w"
      refine go_I (Bd.cmul (a := 16) (b := 8) (by decide) (by show (i : Int).natAbs < 2 ^ 8; rw [Int.natAbs_natCast]; omega)) ?_
      k_extra "w"
      refine go_mod (by decide) ?_
      k_extra "w"
      generalize hz : Int.fmod _ _ = r
      have hr := fmod_range (a := y * y + cs[j] + 48271 * (i : Int) + 7) (n := 2147483629) (by decide)
      rw [hz] at hr
      have br : Bd 31 r := bd_range hr.1 hr.2 (by decide)
      refine go_I (Bd.cmul (b := 31) hx (by decide) (by omega) (by decide) (by omega)) ?_
      k_extra "w"
      refine go_I (br.cmul br) ?_
      k_extra "w"
      refine go_mod (by decide) ?_
      k_extra "w"
      generalize hz2 : Int.fmod _ _ = r2
      have hr2 := fmod_range (a := r * r) (n := 2147483587) (by decide)
      rw [hz2] at hr2
      have br2 : Bd 31 r2 := bd_range hr2.1 hr2.2 (by decide)
      refine ⟨rfl, _, _, _, _, ?_, br, rfl⟩
      have h1 : Bd (33 * i + 1 + 31) (x * 2147483587) := hx.mul (by decide)
      exact Bd.mono (Bd.add h1 (br2.mono (by omega))) (by omega)
    · rintro σ H' ⟨rfl, x, y, v, u, hx, hy, rfl⟩
      have e0 : cs[0]? = some cs[0] := List.getElem?_eq_getElem hpos
      have es : atI (cs.map V.int) 0 = some (.int cs[0]) := atI_nat (j := 0) (by rw [List.getElem?_map, e0]; rfl)
      k_extra "w"
      refine go_subL (SqL.of hcs) es ?_
      k_extra "w"
      refine go_mod (by decide) ?_
      k_extra "w"
      refine go_ite (fun _ => ?_) (fun _ => ?_)
      · k_extra "w"
        refine go_subL (SqL.of hcs) es ?_
        k_extra "w"
        refine go_abs ?_
        k_extra "w"
        refine go_div 2 (by decide) (by decide) ?_
        k_extra "w"
        refine go_sz rfl fun p hp => ?_
        exact q p _ (eH.new hp ⟨_, _, rfl⟩)
      · k_extra "w"
        refine go_sz rfl fun p hp => ?_
        exact q p _ (eH.new hp ⟨_, _, rfl⟩)
theorem ok__law_take (T : Tx K mg) : OkG P w K mg base 1 "_law_take" ["_law_purse_here", "_law_many"] spDraw := by
  refine T.f__law_take.okX sc__law_take (fun vs H Q E h => ?_) (fun cdv A outer s H vs Q E hr h => ?_)
  · obtain ⟨G, L, p, n, rfl, _⟩ := h
    rfl
  · have hu1 := hu_of hr; have hu0 := hr.units0; have hu64 := hr.units; have hu65 := hu65_of hr; have nd := sc__law_take.nd
    obtain ⟨G, L, p, n, rfl, hH, hm, hn, hb, q⟩ := h
    refine ⟨_, (pss_cons (ps_set (i := 2) nd rfl (Or.inl rfl) (pe_callTy call_int1 (by rfl) T.b_int (by decide +kernel) (pa_cons (pe_cmpR (op_eqK (K := K) rfl hu64) (pe_ix (ix_anyK (K := K) rfl hu1) (pv 0) pe_int (fun _ _ => rfl)) pe_int (nomark _)) pa_nil)))
      (pss_cons (ps_set (i := 3) nd rfl (Or.inl rfl) (pe_op op_modX (pe_ix (ix_anyK (K := K) rfl hu1) (pv 0) (pv 2) (fun _ _ => rfl)) (pv 1)))
      (pss_cons (ps_asg (pe_op op_fdivX (pe_ix (ix_anyK (K := K) rfl hu1) (pv 0) (pv 2) (fun _ _ => rfl)) (pv 1)) (pg_sub (pv 0) (pv 2) (set_any hu1)))
      (pss_one (ps_ret (pv 3)))))), ?_⟩
    refine go_start (σ' := [some (.ref p), some (.int n), none, none]) rfl ?_
    obtain ⟨o, hp, x, y, rfl⟩ := hH.get hm
    k_extra "w"
    refine go_subL (SqL.of hp) rfl ?_
    k_extra "w"
    have h01 : (if decide (x = 0) = true then (1 : Int) else 0) = 0 ∨ (if decide (x = 0) = true then (1 : Int) else 0) = 1 := by split <;> simp
    generalize (if decide (x = 0) = true then (1 : Int) else 0) = cc at *
    rcases h01 with rfl | rfl
    · refine go_subL (SqL.of hp) rfl ?_
      k_extra "w"
      refine go_mod (by omega) ?_
      k_extra "w"
      refine go_subL (SqL.of hp) rfl ?_
      k_extra "w"
      refine go_div 8000 (by omega) hb ?_
      k_extra "w"
      refine go_setL hp rfl ?_
      k_extra "w"
      have hr := fmod_range (a := x) hn
      exact q _ _ hr.1 hr.2 (hH.put hm ⟨_, _, rfl⟩)
    · refine go_subL (SqL.of hp) rfl ?_
      k_extra "w"
      refine go_mod (by omega) ?_
      k_extra "w"
      refine go_subL (SqL.of hp) rfl ?_
      k_extra "w"
      refine go_div 8000 (by omega) hb ?_
      k_extra "w"
      refine go_setL hp rfl ?_
      k_extra "w"
      have hr := fmod_range (a := y) hn
      exact q _ _ hr.1 hr.2 (hH.put hm ⟨_, _, rfl⟩)
end
end Mo
namespace Mo
open PySem PySem.Spec PyProof.Rows L2
/-! ### promises of what the law makes -/
section
variable {K : PySem.W.Frag} {Γ : List Fc} {S : List Vo} {σ : St} {Q : VK} {A : Hp → Prop}
/-- slices of lists that are data -/
theorem dpa_take {H : Hp} : ∀ {vs : List V} {ds : List PyData} (n : Nat), DpAll K H vs ds → DpAll K H (vs.take n) (ds.take n)
  | _, _, 0, _ => .nil
  | _, _, _ + 1, .nil => .nil
  | _, _, n + 1, .cons h r => .cons h (dpa_take n r)
theorem dpa_drop {H : Hp} : ∀ {vs : List V} {ds : List PyData} (n : Nat), DpAll K H vs ds → DpAll K H (vs.drop n) (ds.drop n)
  | _, _, 0, h => h
  | _, _, _ + 1, .nil => .nil
  | _, _, n + 1, .cons _ r => dpa_drop n r
theorem Hg.slice {G H : Hp} {L : Vo} {l : Addr} {es : List PyData} {ys : List V} (a : Hd G H L) (b : ∀ f ∈ Γ, f.In K G) (t2 : DpAll K G ys es) (hl : H l = none) : ∀ f ∈ .dat (.ref l) (.list es) :: Γ, Fc.In K (upd G l (.lst ys)) f := fun g mg => by
  rcases List.mem_cons.mp mg with e | mg
  · rw [e]
    exact .lst (SqL.of upd_same) (dpa_mono (Ext.new (a.gno hl)) t2)
  · exact Fc.mono (Ext.new (a.gno hl)) (b g mg)
theorem w_slTake {p : Addr} {ds : List PyData} {j : Int} (n : Nat) (hj : j = (n : Int)) (m : .dat (.ref p) (.list ds) ∈ Γ) (k : ∀ l, Wh K (.dat (.ref l) (.list (ds.take n)) :: Γ) S fun H => Q (.ref l) H) : Wh K Γ S fun H => rSli K (.ref p) none (some j) H Q := fun H z => by
  subst hj
  obtain ⟨G, a, b⟩ := z
  obtain ⟨p', xs, ep, t1, t2⟩ := dp_lst (b _ m : Dp K G (.ref p) (.list ds))
  cases ep
  refine go_slL (ext_l a.ex t1) fun l hl => ?_
  rw [cut_take]
  exact k l _ ⟨_, a.fix hl, Hg.slice a b (dpa_take n t2) hl⟩
theorem w_slMid {p : Addr} {ds : List PyData} {i j : Int} (a n : Nat) (hi : i = (a : Int)) (hj : j = ((a + n : Nat) : Int)) (ha : a ≤ ds.length) (m : .dat (.ref p) (.list ds) ∈ Γ) (k : ∀ l, Wh K (.dat (.ref l) (.list ((ds.drop a).take n)) :: Γ) S fun H => Q (.ref l) H) : Wh K Γ S fun H => rSli K (.ref p) (some i) (some j) H Q := fun H z => by
  subst hi hj
  obtain ⟨G, a', b⟩ := z
  obtain ⟨p', xs, ep, t1, t2⟩ := dp_lst (b _ m : Dp K G (.ref p) (.list ds))
  cases ep
  refine go_slL (ext_l a'.ex t1) fun l hl => ?_
  rw [cut_mid _ _ _ (by rw [dpa_len t2]; exact ha)]
  exact k l _ ⟨_, a'.fix hl, Hg.slice a' b (dpa_take n (dpa_drop a t2)) hl⟩
/-- a text cut from its beginning -/
theorem w_slStr {x : Str} {j : Int} (n : Nat) (hj : j = (n : Int)) (hx : x.length ≤ 100000) (k : Wh K Γ S fun H => Q (.str (cutS x none (some (n : Int)))) H) : Wh K Γ S fun H => rSli K (.str x) none (some j) H Q := fun H z => by
  subst hj
  exact .inr (.inr ⟨x, rfl, by rw [sizeLine_eq]; omega, k H z⟩)
theorem cutS_take (x : Str) (n : Nat) : (cutS x none (some (n : Int))).cps.toList = x.cps.toList.take n := by
  show ((x.cps.toList.drop (HT.sIx x.length 0 none)).take (HT.sIx x.length x.length (some (n : Int)) - HT.sIx x.length 0 none)).toArray.toList = _
  have e1 : HT.sIx x.length 0 none = 0 := rfl
  rw [e1, HT.sIx_nat, List.drop_zero, Nat.sub_zero, List.toList_toArray, len_list, ← List.take_take, List.take_of_length_le (Nat.le_refl _)]
theorem w_letter {j : Int} {n : Nat} (hj : j = (n : Int)) (hn : n < 26) (k : Wh K Γ S fun H => Q (.str (sign (97 + n))) H) : Wh K Γ S fun H => rSub K (.str letters) (.int j) H Q := fun H z => go_letter hj hn (k H z)
end
end Mo
namespace Mo
open PySem PySem.Spec PyProof.Rows L2
/-! ### names and worths, in the third way of making models -/
def LowS (x : Str) : Prop := ∀ c ∈ x.cps.toList, 97 ≤ c ∧ c < 123
def spNamesC (K : PySem.W.Frag) : Sp := SpF K (fun i : Addr × Nat => [.ref i.1, .int (i.2 : Int)]) (fun i _ => i.2 ≤ 9) (fun i => [pur i.1])
  (fun i v Γ' S' => ∃ (lp : Addr) (ns : List Str), v = .ref lp ∧ ns.length = i.2 ∧ (∀ x ∈ ns, NameOk x) ∧ ns.Nodup ∧ Γ' = [.dat (.ref lp) (.list (ns.map PyData.str))] ∧ S' = [pur i.1]) noEx
theorem LowS.sign {n : Nat} (h : n < 26) : LowS (sign (97 + n)) := fun c hc => by
  rw [sign_list] at hc
  rw [List.mem_singleton.mp hc]
  omega
theorem LowS.app {x y : Str} (h : LowS x) (k : LowS y) : LowS (x ++ y) := fun c hc => by
  rw [app_list] at hc
  rcases List.mem_append.mp hc with hc | hc
  · exact h c hc
  · exact k c hc
theorem LowS.join {ys : List Str} (h : ∀ y ∈ ys, LowS y) : LowS (Txt.join "" ys) := fun c hc => by
  rw [join_list] at hc
  obtain ⟨l, hl, hc⟩ := List.mem_flatten.mp hc
  obtain ⟨y, hy, rfl⟩ := List.mem_map.mp hl
  exact h y hy c hc
section
variable {P : Program} {w : World} {K : PySem.W.Frag} {mg : Str → Option Value} {base : Heap}
theorem ok__law_names (T : Tx K mg) : OkG P w K mg base 2 "_law_names" ["_law_purse_here", "_law_many"] (spNamesC K) := by
  have G__law_take := ok__law_take (P := P) (w := w) (base := base) T
  refine T.f__law_names.okX sc__law_names (fun vs H Q E h => ?_) (fun cdv A outer s H vs Q E hr h => ?_)
  · obtain ⟨i, _, _, rfl, _⟩ := h
    rfl
  · have hu1 := hu_of hr; have hu0 := hr.units0; have hu64 := hr.units; have hu65 := hu65_of hr; have nd := sc__law_names.nd
    obtain ⟨⟨pu, n⟩, Γ, S, rfl, z, hn, q, x⟩ := h
    dsimp only at z hn q x
    refine ⟨_, (pss_cons (ps_set (i := 2) nd rfl (Or.inr rfl) pe_str)
      (pss_cons (ps_set (i := 3) nd rfl (Or.inl rfl) (pcl T.g__law_take G__law_take hr (takes_of rfl rfl rfl rfl) (pa_cons (pv 0) (pa_cons pe_int pa_nil))))
      (pss_cons (ps_set (i := 4) nd rfl (Or.inl rfl) (pe_lst pa_nil))
      (pss_cons (ps_for (passes_of rfl) rfl (pi_range1 rfl T.b_range (pa_cons (pv 1) pa_nil)) (pg_name (i := 5) nd rfl (Or.inl rfl))
      (pss_cons (ps_set (i := 6) nd rfl (Or.inl rfl) (pcl T.g__law_take G__law_take hr (takes_of rfl rfl rfl rfl) (pa_cons (pv 0) (pa_cons pe_int pa_nil))))
      (pss_cons (ps_setLc (i := 7) rfl nd rfl rfl (sw_true rfl rfl rfl (by decide +kernel)) (own := [("_law_j", 8)]) (pi_range1 rfl T.b_range (pa_cons (pv 6) pa_nil)) (blkOk_by (own := [("_law_j", 8)]) (N := nm__law_names) (sc := defScope s__law_names) (by decide +kernel)) (fun _ _ _ _ _ => (pg_name (i := 8) nd rfl (Or.inl rfl) (Or.inr rfl))) (fun _ _ _ _ _ => pts_nil) (fun _ _ _ _ _ => (pe_ix (ix_anyK (K := K) rfl hu1) (pv 2) (pcl T.g__law_take G__law_take hr takes0 (pa_cons (pv 0) (pa_cons pe_int pa_nil))) (fun _ _ => rfl))))
      (pss_one (ps_expr (pe_bmK (K := K) rfl PySem.F.plainAttrs_list PySem.F.slot_list_append PySem.F.type_list_append mt_append (pv 4) (pa_cons (pe_op (op_addK (K := K) rfl) (pe_ix (ix_anyK (K := K) rfl hu1) (pv 2) (pe_op op_modX (pe_op (op_addK (K := K) rfl) (pv 3) (pe_op op_mulX pe_int (pv 5))) pe_int) (fun _ _ => rfl)) (pe_bmK (K := K) rfl PySem.F.plainAttrs_str PySem.F.slot_str_join PySem.F.type_str_join (mt_joinK (K := K) rfl) pe_str (pa_cons (pv 7) pa_nil))) pa_nil)))))))
      (pss_one (ps_ret (pv 4))))))), ?_⟩
    refine w_start (σ' := [some (.ref pu), some (.int (n : Int)), none, none, none, none, none, none, none]) rfl z ?_
    rw [letters_eq]
    dsimp only [List.cons_append, List.nil_append]
    k_extra "W"
    intro f hf
    k_extra "W"
    refine w_lstO fun lp => ?_
    k_extra "W"
    refine w_forR n rfl (by omega) ?_
    refine w_loop_r (ι := Option V × Option V × Option V × List Str) n (fun j a => a.2.2.2.length = j ∧ (∀ x ∈ a.2.2.2, NameOk x) ∧ ∀ i x, a.2.2.2[i]? = some x → fst1 x = 97 + (f + 3 * i) % 26)
      (fun _ a => [some (.ref pu), some (.int (n : Int)), some (.str letters), some (.int (f : Int)), some (.ref lp), a.1, a.2.1, a.2.2.1, none]) (fun _ _ => Γ) (fun _ a => own lp (.lst (a.2.2.2.map V.str)) :: pur pu :: S) (_, _, _, []) ⟨rfl, (fun _ h => nomatch h), fun j x h => by simp at h⟩ rfl sub_refl (by k_extra "dr") ?_ ?_
    · rintro j ⟨u1, u2, u3, ns⟩ hj ⟨h1, h2, h3⟩
      dsimp only at h1 h2 h3 ⊢
      k_extra "W"
      intro sz hsz
      k_extra "W"
      refine w_lcR sz rfl (by omega) ?_
      refine w_lc_r (ι := List Str) sz (fun j a => a.length = j ∧ (∀ x ∈ a, LowS x ∧ x.length = 1)) (fun _ a => a.map V.str) (fun _ _ => Γ) (fun _ _ => own lp (.lst (ns.map V.str)) :: pur pu :: S) [] ⟨rfl, (fun _ h => nomatch h)⟩ rfl sub_refl (by k_extra "dr") ?_ ?_
      · rintro Dl m xs hm ⟨g1, g2⟩
        k_extra "W"
        intro c hc
        refine w_letter (n := c) rfl (by omega) ?_
        refine w_lcp (xs ++ [sign (97 + c)]) ⟨by rw [List.length_append, g1]; rfl, fun x hx => ?_⟩ (by rw [List.map_append]; rfl) (by k_extra "t") (by rw [List.length_map]; omega) (by k_extra "sub") (by k_extra "dr")
        rcases List.mem_append.mp hx with hx | hx
        · exact g2 x hx
        · rw [List.mem_singleton.mp hx]
          exact ⟨LowS.sign (by omega), rfl⟩
      rintro Dl xs ⟨g1, g2⟩
      dsimp only at g1 g2 ⊢
      have hjl := join_len1 fun y hy => (g2 y hy).2
      k_extra "W"
      refine w_mul (m := 2) (n := 4) (by decide) (by show (j : Int).natAbs < 2 ^ 4; rw [Int.natAbs_natCast]; omega) ?_
      k_extra "W"
      first | refine w_mod (by decide) ?_ | skip
      have em : ((f : Int) + 3 * (j : Int)).fmod 26 = (((f + 3 * j) % 26 : Nat) : Int) := by
        rw [Int.fmod_eq_emod_of_nonneg _ (by decide)]; omega
      refine w_letter (n := (f + 3 * j) % 26) em (Nat.mod_lt _ (by decide)) ?_
      k_extra "W"
      refine w_tyS ?_
      k_extra "W"
      refine w_joinT 1 (by k_extra "at") rfl (by omega) (fun y hy => Nat.le_of_eq (g2 y hy).2) (by decide) (by decide) ?_
      refine w_addS (by rw [sign_len, hjl, sizeLine_eq]; omega) ?_
      k_extra "W"
      refine w_app (by k_extra "sw") (by rw [List.length_map]; omega) ?_
      k_extra "W"
      have hns : ∀ i x, (ns ++ [sign (97 + (f + 3 * j) % 26) ++ Txt.join "" xs])[i]? = some x → fst1 x = 97 + (f + 3 * i) % 26 := fun i x hx => by
        rcases Nat.lt_or_ge i ns.length with hi | hi
        · rw [List.getElem?_append_left hi] at hx
          exact h3 i x hx
        · rw [List.getElem?_append_right hi] at hx
          have hi2 : i - ns.length = 0 := by
            have := (List.getElem?_eq_some_iff.mp hx).1
            rw [List.length_singleton] at this
            omega
          rw [hi2] at hx
          obtain rfl : _ = x := by simpa using hx
          rw [fst1_app (by rw [sign_len]; exact Nat.le_refl _), show i = j by omega]
          rfl
      refine w_again (_, _, _, ns ++ [sign (97 + (f + 3 * j) % 26) ++ Txt.join "" xs]) ⟨by dsimp only; rw [List.length_append, h1]; rfl, fun x hx => ?_, hns⟩ rfl sub_refl (by rw [List.map_append]; k_extra "dr")
      rcases List.mem_append.mp hx with hx | hx
      · exact h2 x hx
      · rw [List.mem_singleton.mp hx]
        exact ⟨by rw [app_len, sign_len]; omega, by rw [app_len, sign_len, hjl]; omega, (LowS.sign (Nat.mod_lt _ (by decide))).app (LowS.join fun y hy => (g2 y hy).1)⟩
    rintro ⟨u1, u2, u3, ns⟩ ⟨h1, h2, h3⟩
    dsimp only at h1 h2 h3 ⊢
    refine w_freeze (p := lp) (ds := ns.map PyData.str) (by k_extra "t") DL.strs ?_
    k_extra "W"
    exact fun H z => q _ _ _ _ ⟨lp, ns, rfl, h1, h2, apart h3 fun i j hi hj e => by omega, rfl, rfl⟩ z
end
end Mo
namespace Mo
open PySem PySem.Spec PyProof.Rows L2
/-! ### worths and formulas, in the third way of making models -/
structure NmI where
  pu : Addr
  lb : Addr
  lq : Addr
  bs : List Str
  qs : List Str
structure NmI.Pre (i : NmI) (Γ : List Fc) : Prop where
  b : .dat (.ref i.lb) (.list (i.bs.map PyData.str)) ∈ Γ
  q : .dat (.ref i.lq) (.list (i.qs.map PyData.str)) ∈ Γ
  b0 : 0 < i.bs.length
  q0 : 0 < i.qs.length
  bl : i.bs.length ≤ 100
  ql : i.qs.length ≤ 100
theorem NmI.Pre.mono {i : NmI} {Γ Γ' : List Fc} (h : i.Pre Γ) (s : ∀ f ∈ Γ, f ∈ Γ') : i.Pre Γ' := ⟨s _ h.b, s _ h.q, h.b0, h.q0, h.bl, h.ql⟩
theorem str_at {xs : List Str} {d : Nat} (h : d < xs.length) : ∃ x, x ∈ xs ∧ atI (xs.map PyData.str) (d : Int) = some (.str x) := ⟨xs[d], List.getElem_mem h, atI_nat (by rw [List.getElem?_map, List.getElem?_eq_getElem h]; rfl)⟩
def fmPo (i : NmI) (n : Nat) (v : V) (Γ' : List Fc) (S' : List Vo) : Prop := ∃ (t : Addr) (f : Fm), v = .ref t ∧ f.Ok i.bs i.qs ∧ f.depth ≤ n ∧ Γ' = [.dat (.ref t) f.data] ∧ S' = [pur i.pu]
def spWorthC (K : PySem.W.Frag) : Sp := SpF K (fun pu : Addr => [.ref pu]) (fun _ _ => True) (fun pu => [pur pu]) (fun pu v Γ' S' => ∃ n : Int, v = .int n ∧ Worth n ∧ Γ' = [] ∧ S' = [pur pu]) noEx
def cap : Nat → Nat
  | 0 => 0
  | n + 1 => 3 * 2 ^ n
/-- formulas: of at most so many parts -/
def spSmallC (n : Nat) (K : PySem.W.Frag) : Sp := SpF K (fun i : NmI × Nat => [.ref i.1.pu, .ref i.1.lb, .ref i.1.lq, .int (i.2 : Int)]) (fun i Γ => i.1.Pre Γ ∧ i.2 < cap n) (fun i => [pur i.1.pu]) (fun i v Γ' S' => fmPo i.1 (n - 1) v Γ' S') noEx
theorem iteT' {b : Bool} {A B : Prop} (e : b = true) (h : A) : if b = true then A else B := by rw [if_pos e]; exact h
theorem iteF' {b : Bool} {A B : Prop} (e : b = false) (h : B) : if b = true then A else B := by rw [e]; exact h
theorem w_orJ {K : PySem.W.Frag} {Γ : List Fc} {S : List Vo} {σ : St} {A B : Hp → Prop} {p q : Prop} [Decidable p] [Decidable q] {u : TT} (hu : ∀ H (Qb : Bool → Hp → Prop), Qb (decide q) H → u σ H Qb) (h1 : p ∨ q → Wh K Γ S A) (h2 : ¬ p → ¬ q → Wh K Γ S B) :
    Wh K Γ S fun H => if decide p = true then (if true = true then A H else B H) else u σ H fun d H1 => if d = true then A H1 else B H1 := fun H z => by
  by_cases hp : p
  · exact iteT' (decide_eq_true hp) (iteT (h1 (.inl hp) H z))
  · refine iteF' (decide_eq_false hp) (hu H _ ?_)
    by_cases hq : q
    · exact iteT' (decide_eq_true hq) (h1 (.inr hq) H z)
    · exact iteF' (decide_eq_false hq) (h2 hp hq H z)
theorem op7 {j : Nat} (h : j < 7) : ∃ o : Op, atI [V.str "plus", V.str "less", V.str "times", V.str "part", V.str "rest", V.str "below", V.str "same"] (j : Int) = some (.str o.name) := by
  have : j = 0 ∨ j = 1 ∨ j = 2 ∨ j = 3 ∨ j = 4 ∨ j = 5 ∨ j = 6 := by omega
  rcases this with rfl | rfl | rfl | rfl | rfl | rfl | rfl
  · exact ⟨.plus, rfl⟩
  · exact ⟨.less, rfl⟩
  · exact ⟨.times, rfl⟩
  · exact ⟨.part, rfl⟩
  · exact ⟨.rest, rfl⟩
  · exact ⟨.below, rfl⟩
  · exact ⟨.same, rfl⟩
section
variable {P : Program} {w : World} {K : PySem.W.Frag} {mg : Str → Option Value} {base : Heap}
theorem ok__law_worth (T : Tx K mg) : OkG P w K mg base 2 "_law_worth" ["_law_purse_here"] (spWorthC K) := by
  have G__law_take := ok__law_take (P := P) (w := w) (base := base) T
  refine T.f__law_worth.okX sc__law_worth (fun vs H Q E h => ?_) (fun cdv A outer s H vs Q E hr h => ?_)
  · obtain ⟨i, _, _, rfl, _⟩ := h
    rfl
  · have hu1 := hu_of hr; have hu0 := hr.units0; have hu64 := hr.units; have hu65 := hu65_of hr; have nd := sc__law_worth.nd
    obtain ⟨pu, Γ, S, rfl, z, _, q, x⟩ := h
    dsimp only at z q x
    refine ⟨_, (pss_cons (ps_set (i := 1) nd rfl (Or.inl rfl) (pcl T.g__law_take G__law_take hr (takes_of rfl rfl rfl rfl) (pa_cons (pv 0) (pa_cons pe_int pa_nil))))
      (pss_cons (ps_if (pt_cmpR (op_eqK (K := K) rfl hu64) (pv 1) pe_int (nomark _)) (pss_one (ps_ret (pe_op op_sub (pcl T.g__law_take G__law_take hr (takes_of rfl rfl rfl rfl) (pa_cons (pv 0) (pa_cons (pe_op (op_addK (K := K) rfl) (pe_op op_mulX pe_int (pe_op op_pow pe_int pe_int)) pe_int) pa_nil))) (pe_op op_pow pe_int pe_int))))
      pss_nil)
      (pss_cons (ps_if (pt_cmpR (op_eqK (K := K) rfl hu64) (pv 1) pe_int (nomark _)) (pss_one (ps_ret (pe_ix (ix_anyK (K := K) rfl hu1) (pe_lst (pa_cons (pe_op op_pow pe_int pe_int) (pa_cons (pe_un un_neg (pe_op op_pow pe_int pe_int)) (pa_cons (pe_op op_sub (pe_op op_pow pe_int pe_int) pe_int) (pa_cons pe_int pa_nil))))) (pcl T.g__law_take G__law_take hr (takes_of rfl rfl rfl rfl) (pa_cons (pv 0) (pa_cons pe_int pa_nil))) (fun _ _ => rfl))))
      pss_nil)
      (pss_one (ps_ret (pe_op op_sub (pcl T.g__law_take G__law_take hr (takes_of rfl rfl rfl rfl) (pa_cons (pv 0) (pa_cons pe_int pa_nil))) pe_int)))))), ?_⟩
    refine w_start (σ' := [some (.ref pu), none]) rfl z ?_
    dsimp only [List.cons_append, List.nil_append]
    k_extra "W"
    intro c hc
    k_extra "W"
    refine w_ite (fun e => ?_) (fun e => ?_)
    · k_extra "W"
      refine w_mul (m := 3) (n := 60) (by decide) (by decide) ?_
      k_extra "W"
      intro d hd
      k_extra "W"
      exact fun H z => q _ _ _ _ ⟨(d : Int) - 1000000000000000, rfl, ⟨by omega, by omega⟩, rfl, rfl⟩ z
    · k_extra "W"
      refine w_ite (fun e2 => ?_) (fun e2 => ?_)
      · k_extra "W"
        refine w_lstO fun l1 => ?_
        k_extra "W"
        intro d hd
        have h4 : ∃ m : Int, Worth m ∧ atI [V.int 1000000000000000, V.int (-1000000000000000), V.int (1000000000000000 - 1), V.int 10] (d : Int) = some (.int m) := by
          have : d = 0 ∨ d = 1 ∨ d = 2 ∨ d = 3 := by omega
          rcases this with rfl | rfl | rfl | rfl
          · exact ⟨1000000000000000, ⟨by decide, by decide⟩, rfl⟩
          · exact ⟨-1000000000000000, ⟨by decide, by decide⟩, rfl⟩
          · exact ⟨1000000000000000 - 1, ⟨by decide, by decide⟩, rfl⟩
          · exact ⟨10, ⟨by decide, by decide⟩, rfl⟩
        obtain ⟨m, hm, he⟩ := h4
        refine w_sub (by k_extra "at") he ?_
        k_extra "W"
        exact fun H z => q _ _ _ _ ⟨m, rfl, hm, rfl, rfl⟩ (z.fit (by k_extra "sub") (by k_extra "dr"))
      · k_extra "W"
        intro d hd
        k_extra "W"
        exact fun H z => q _ _ _ _ ⟨(d : Int) - 2, rfl, ⟨by omega, by omega⟩, rfl, rfl⟩ z
end
end Mo
namespace Mo
open PySem PySem.Spec PyProof.Rows L2
/-! ### names that are given, and numbers to draw from -/
structure NmX where
  pu : Addr
  ln : Addr
  ns : List Str
structure NmX.Pre (i : NmX) (Γ : List Fc) : Prop where
  d : .dat (.ref i.ln) (.list (i.ns.map PyData.str)) ∈ Γ
  n0 : 0 < i.ns.length
  nl : i.ns.length ≤ 100
  ok : ∀ x ∈ i.ns, NameOk x
theorem NmX.Pre.mono {i : NmX} {Γ Γ' : List Fc} (h : i.Pre Γ) (s : ∀ f ∈ Γ, f ∈ Γ') : i.Pre Γ' := ⟨s _ h.d, h.n0, h.nl, h.ok⟩
end Mo
namespace Mo
open PySem PySem.Spec PyProof.Rows L2
/-! ### formulas made for texts; their words told by the law -/
theorem fl_ok {x : Str} (h : x ∈ (["number", "box", "long", "got", "now", "plus", "less", "times", "part", "rest", "below", "same"] : List Str)) : SOk x := by
  simp only [List.mem_cons, List.not_mem_nil, or_false] at h
  rcases h with rfl | rfl | rfl | rfl | rfl | rfl | rfl | rfl | rfl | rfl | rfl | rfl <;> exact (show PyData.strOk _ = true by decide +kernel)
theorem Fm.Tx.shp : ∀ (f : Fm) (n : Nat), f.Tx → f.depth < n → Shp n f.data
  | .num m, n + 1, _, _ => .tup (.cons (.str (fl_ok (by simp))) (.cons .int .nil))
  | .box x, n + 1, h, _ => .tup (.cons (.str (fl_ok (by simp))) (.cons (.str (NameOk.sok (x := x) h)) .nil))
  | .long x, n + 1, h, _ => .tup (.cons (.str (fl_ok (by simp))) (.cons (.str (NameOk.sok (x := x) h)) .nil))
  | .got j, n + 1, _, _ => .tup (.cons (.str (fl_ok (by simp))) (.cons .int .nil))
  | .now, n + 1, _, _ => .tup (.cons (.str (fl_ok (by simp))) .nil)
  | .two o f g, n + 1, h, hd => by
    have h1 : max f.depth g.depth + 1 < n + 1 := hd
    exact .tup (.cons (.str (fl_ok (by cases o <;> simp [Op.name]))) (.cons (Fm.Tx.shp f n h.1 (by omega)) (.cons (Fm.Tx.shp g n h.2 (by omega)) .nil)))
  | .num _, 0, _, hd => absurd hd (Nat.not_lt_zero _)
  | .box _, 0, _, hd => absurd hd (Nat.not_lt_zero _)
  | .long _, 0, _, hd => absurd hd (Nat.not_lt_zero _)
  | .got _, 0, _, hd => absurd hd (Nat.not_lt_zero _)
  | .now, 0, _, hd => absurd hd (Nat.not_lt_zero _)
  | .two _ _ _, 0, _, hd => absurd hd (Nat.not_lt_zero _)
def spFmX (n : Nat) (K : PySem.W.Frag) : Sp := SpF K (fun i : NmX × Nat => [.ref i.1.pu, .ref i.1.ln, .int (i.2 : Int)]) (fun i Γ => i.1.Pre Γ ∧ 1 ≤ i.2 ∧ i.2 ≤ n ∧ i.2 ≤ 1000) (fun i => [pur i.1.pu])
  (fun i v Γ' S' => ∃ (t : Addr) (f : Fm), v = .ref t ∧ f.Tx ∧ f.size ≤ i.2 ∧ Γ' = [.dat (.ref t) f.data] ∧ S' = [pur i.1.pu]) noEx
def spLw (n : Nat) (K : PySem.W.Frag) : Sp := SpF K (fun i : V × Fm => [i.1]) (fun i Γ => .dat i.1 i.2.data ∈ Γ ∧ i.2.depth < n ∧ i.2.sg.length ≤ 1000 ∧ i.2.Tx) (fun _ => [])
  (fun i v Γ' S' => v = .str i.2.text ∧ Γ' = [] ∧ S' = []) noEx
theorem got_lit {j : Nat} (h : j < 2) : atI [V.str "$0", V.str "$1"] (j : Int) = some (.str (Fm.got j).text) := by
  have q : ∀ i : Fin 2, atI [V.str "$0", V.str "$1"] ((i.1 : Nat) : Int) = some (.str (Fm.got i.1).text) := by decide +kernel
  exact q ⟨j, h⟩
def markK : List (Key × V) := [(Sum.inr "plus", V.str "+"), (Sum.inr "less", V.str "-"), (Sum.inr "times", V.str "*"), (Sum.inr "part", V.str "/"), (Sum.inr "rest", V.str "|"), (Sum.inr "below", V.str "<"), (Sum.inr "same", V.str "=")]
theorem mark_at (o : Op) : valV (mergeK [] markK) (Sum.inr o.name) = some (.str o.mark) := by cases o <;> decide +kernel
section
variable {P : Program} {w : World} {K : PySem.W.Frag} {mg : Str → Option Value} {base : Heap}
end
end Mo
namespace Mo
open PySem PySem.Spec PyProof.Rows L2
/-! ### the lines of deeds and machines: plain Lean -/
def wln (ws : List Str) : Str := Txt.join blank ws
def intT (n : Int) : Str := Str.ofString (toString n)
def deepL (ls : List Str) : List Str := ls.map fun x => ind2 ++ x
mutual
def Dd.lines : Dd → List Str
  | .pull q b ds => wln [Str.ofString "pull", q, b] :: deepL (Dd.liness ds)
  | .iff f x y => wln (Str.ofString "if" :: f.words) :: (deepL (Dd.liness x) ++ (Str.ofString "else" :: deepL (Dd.liness y)))
  | .put b f => [wln (Str.ofString "put" :: b :: f.words)]
  | .push b f => [wln (Str.ofString "push" :: b :: f.words)]
  | .draw b f => [wln (Str.ofString "draw" :: b :: f.words)]
  | .send to sign span rank g h => [wln (Str.ofString "send" :: intT to :: sign :: intT rank :: (span.words ++ (g.words ++ h.words)))]
  | .fin => [Str.ofString "end"]
def Dd.liness : List Dd → List Str
  | [] => []
  | d :: ds => d.lines ++ Dd.liness ds
end
def FmT (f : Fm) : Prop := f.Tx ∧ f.size ≤ 15
mutual
def Dd.Tx : Dd → Prop
  | .pull q b ds => NameOk q ∧ NameOk b ∧ Dd.Txs ds
  | .iff f x y => FmT f ∧ Dd.Txs x ∧ Dd.Txs y
  | .put b f => NameOk b ∧ FmT f
  | .push b f => NameOk b ∧ FmT f
  | .draw b f => NameOk b ∧ FmT f
  | .send to sign span rank g h => (0 ≤ to ∧ to ≤ 5) ∧ NameOk sign ∧ (0 ≤ rank ∧ rank ≤ 9) ∧ FmT span ∧ FmT g ∧ FmT h
  | .fin => True
def Dd.Txs : List Dd → Prop
  | [] => True
  | d :: ds => d.Tx ∧ Dd.Txs ds
end
mutual
/-- how many deeds -/
def Dd.num : Dd → Nat
  | .pull _ _ ds => Dd.nums ds + 1
  | .iff _ x y => Dd.nums x + Dd.nums y + 1
  | .put _ _ => 1
  | .push _ _ => 1
  | .draw _ _ => 1
  | .send _ _ _ _ _ _ => 1
  | .fin => 1
def Dd.nums : List Dd → Nat
  | [] => 0
  | d :: ds => d.num + Dd.nums ds
end
theorem txs_all : ∀ {ds : List Dd}, Dd.Txs ds ↔ ∀ d ∈ ds, d.Tx
  | [] => by rw [Dd.Txs]; exact ⟨(fun _ _ h => nomatch h), fun _ => True.intro⟩
  | d :: ds => by rw [Dd.Txs, txs_all, List.forall_mem_cons]
theorem nums_app : ∀ (ds es : List Dd), Dd.nums (ds ++ es) = Dd.nums ds + Dd.nums es
  | [], es => by rw [List.nil_append, Dd.nums, Nat.zero_add]
  | d :: ds, es => by rw [List.cons_append, Dd.nums, Dd.nums, nums_app ds es]; omega
theorem liness_app : ∀ (ds es : List Dd), Dd.liness (ds ++ es) = Dd.liness ds ++ Dd.liness es
  | [], es => by rw [List.nil_append, Dd.liness, List.nil_append]
  | d :: ds, es => by rw [List.cons_append, Dd.liness, Dd.liness, liness_app ds es, List.append_assoc]
theorem liness_one (d : Dd) : Dd.liness [d] = d.lines := by rw [Dd.liness, Dd.liness, List.append_nil]
theorem nums_one (d : Dd) : Dd.nums [d] = d.num := by rw [Dd.nums, Dd.nums, Nat.add_zero]
theorem liness_take {ds : List Dd} {i : Nat} {d : Dd} (h : ds[i]? = some d) : Dd.liness (ds.take (i + 1)) = Dd.liness (ds.take i) ++ d.lines := by
  rw [List.take_add_one, h, Option.toList_some, liness_app, liness_one]
theorem Dd.num_pos : ∀ d : Dd, 1 ≤ d.num
  | .pull _ _ ds => by rw [Dd.num]; omega
  | .iff _ x y => by rw [Dd.num]; omega
  | .put _ _ => by rw [Dd.num]; exact Nat.le_refl _
  | .push _ _ => by rw [Dd.num]; exact Nat.le_refl _
  | .draw _ _ => by rw [Dd.num]; exact Nat.le_refl _
  | .send _ _ _ _ _ _ => by rw [Dd.num]; exact Nat.le_refl _
  | .fin => by rw [Dd.num]; exact Nat.le_refl _
mutual
theorem lines_len : ∀ d : Dd, d.lines.length ≤ 2 * d.num
  | .pull q b ds => by
    have := liness_len ds
    rw [Dd.lines, Dd.num]
    show (deepL (Dd.liness ds)).length + 1 ≤ _
    unfold deepL
    rw [List.length_map]
    omega
  | .iff f x y => by
    have h1 := liness_len x
    have h2 := liness_len y
    rw [Dd.lines, Dd.num]
    unfold deepL
    rw [List.length_cons, List.length_append, List.length_cons, List.length_map, List.length_map]
    omega
  | .put _ _ => by rw [Dd.lines, Dd.num, List.length_singleton]; decide
  | .push _ _ => by rw [Dd.lines, Dd.num, List.length_singleton]; decide
  | .draw _ _ => by rw [Dd.lines, Dd.num, List.length_singleton]; decide
  | .send _ _ _ _ _ _ => by rw [Dd.lines, Dd.num, List.length_singleton]; decide
  | .fin => by rw [Dd.lines, Dd.num, List.length_singleton]; decide
theorem liness_len : ∀ ds : List Dd, (Dd.liness ds).length ≤ 2 * Dd.nums ds
  | [] => by rw [Dd.liness]; exact Nat.zero_le _
  | d :: ds => by
    have h1 := lines_len d
    have h2 := liness_len ds
    rw [Dd.liness, Dd.nums, List.length_append]
    omega
end
/-! #### how long lines are -/
theorem wln_cons (x : Str) {ws : List Str} (h : ws ≠ []) : TL.tl (wln (x :: ws)) = TL.tl x ++ 32 :: TL.tl (wln ws) := by
  unfold wln
  rw [TL.join_eq, TL.join_eq, TL.tl_join, TL.tl_join, tl_blank, List.map_cons, joinL_cons _ _ (map_ne h)]
  rfl
theorem wln_app {a b : List Str} (ha : a ≠ []) (hb : b ≠ []) : TL.tl (wln (a ++ b)) = TL.tl (wln a) ++ 32 :: TL.tl (wln b) := by
  unfold wln
  rw [TL.join_eq, TL.join_eq, TL.join_eq, TL.tl_join, TL.tl_join, TL.tl_join, tl_blank, List.map_append, joinL_app _ (map_ne ha) (map_ne hb)]
  rfl
theorem wln_words (f : Fm) : wln f.words = f.text := join_words f
theorem wln_one (x : Str) : wln [x] = x := TL.ext_tl (by unfold wln; rw [TL.join_eq, TL.tl_join]; rfl)
theorem sg15 {f : Fm} (h : FmT f) : (TL.tl f.text).length ≤ 284 := by
  have := sg_len h.1
  have h2 := h.2
  rw [tl_text]
  omega
theorem nm6 {x : Str} (h : NameOk x) : (TL.tl x).length ≤ 6 := by rw [← TL.len_tl]; exact h.len
theorem int_short {n : Int} (h : 0 ≤ n ∧ n ≤ 9) : (TL.tl (intT n)).length ≤ 2 := int_lenK (k := 1) (by decide) (by omega)
def DdL (d : Dd) : Prop := ∀ x ∈ d.lines, (TL.tl x).length ≤ 900 + 2 * d.depth
theorem deepL_len {ls : List Str} {n : Nat} (h : ∀ x ∈ ls, (TL.tl x).length ≤ n) : ∀ x ∈ deepL ls, (TL.tl x).length ≤ n + 2 := fun x hx => by
  obtain ⟨y, hy, rfl⟩ := List.mem_map.mp hx
  rw [TL.tl_append, tl_ind2, List.length_append]
  have := h y hy
  show 2 + _ ≤ _
  omega
theorem lits72 : (TL.tl (Str.ofString "put")).length = 3 ∧ (TL.tl (Str.ofString "push")).length = 4 ∧ (TL.tl (Str.ofString "draw")).length = 4 ∧ (TL.tl (Str.ofString "pull")).length = 4 ∧ (TL.tl (Str.ofString "send")).length = 4 ∧ (TL.tl (Str.ofString "if")).length = 2 ∧ (TL.tl (Str.ofString "end")).length = 3 ∧ (TL.tl (Str.ofString "else")).length = 4 := by decide +kernel
theorem named_len {w b : Str} {f : Fm} (hw : (TL.tl w).length ≤ 4) (hb : NameOk b) (hf : FmT f) : (TL.tl (wln (w :: b :: f.words))).length ≤ 300 := by
  have h1 := sg15 hf
  have h2 := nm6 hb
  rw [wln_cons _ (List.cons_ne_nil _ _), wln_cons _ (words_ne f), wln_words, List.length_append, List.length_cons, List.length_append, List.length_cons]
  omega
mutual
theorem line_len : ∀ {d : Dd}, d.Tx → ∀ x ∈ d.lines, (TL.tl x).length ≤ 900 + 2 * d.depth
  | .put b f, h, x, hx => by
    rw [Dd.Tx] at h
    rw [Dd.lines] at hx
    rw [List.mem_singleton.mp hx]
    have := named_len (w := Str.ofString "put") (by have := lits72; omega) h.1 h.2
    omega
  | .push b f, h, x, hx => by
    rw [Dd.Tx] at h
    rw [Dd.lines] at hx
    rw [List.mem_singleton.mp hx]
    have := named_len (w := Str.ofString "push") (by have := lits72; omega) h.1 h.2
    omega
  | .draw b f, h, x, hx => by
    rw [Dd.Tx] at h
    rw [Dd.lines] at hx
    rw [List.mem_singleton.mp hx]
    have := named_len (w := Str.ofString "draw") (by have := lits72; omega) h.1 h.2
    omega
  | .fin, h, x, hx => by
    rw [Dd.lines] at hx
    rw [List.mem_singleton.mp hx]
    have := lits72
    omega
  | .send to sign span rank g k, h, x, hx => by
    rw [Dd.Tx] at h
    obtain ⟨h1, h2, h3, h4, h5, h6⟩ := h
    rw [Dd.lines] at hx
    rw [List.mem_singleton.mp hx]
    have a1 := int_short (n := to) ⟨h1.1, by omega⟩
    have a2 := nm6 h2
    have a3 := int_short h3
    have a4 := sg15 h4
    have a5 := sg15 h5
    have a6 := sg15 h6
    have a7 := lits72
    rw [wln_cons _ (List.cons_ne_nil _ _), wln_cons _ (List.cons_ne_nil _ _), wln_cons _ (List.cons_ne_nil _ _), wln_cons _ (by simp [words_ne]), wln_app (words_ne span) (by simp [words_ne]), wln_app (words_ne g) (words_ne k), wln_words, wln_words, wln_words]
    simp only [List.length_append, List.length_cons]
    omega
  | .pull q b ds, h, x, hx => by
    rw [Dd.Tx] at h
    obtain ⟨h1, h2, h3⟩ := h
    rw [Dd.lines] at hx
    rw [Dd.depth]
    have a1 := nm6 h1
    have a2 := nm6 h2
    have a7 := lits72
    rcases List.mem_cons.mp hx with rfl | hx
    · rw [wln_cons _ (List.cons_ne_nil _ _), wln_cons _ (List.cons_ne_nil _ _), wln_one]
      simp only [List.length_append, List.length_cons]
      omega
    · have := deepL_len (n := 900 + 2 * Dd.depths ds) (fun y hy => by have := linez_len h3 y hy; omega) x hx
      omega
  | .iff f a b, h, x, hx => by
    rw [Dd.Tx] at h
    obtain ⟨h1, h2, h3⟩ := h
    rw [Dd.lines] at hx
    rw [Dd.depth]
    have a1 := sg15 h1
    have a7 := lits72
    rcases List.mem_cons.mp hx with rfl | hx
    · rw [wln_cons _ (words_ne f), wln_words]
      simp only [List.length_append, List.length_cons]
      omega
    · rcases List.mem_append.mp hx with hx | hx
      · have := deepL_len (n := 900 + 2 * Dd.depths a) (fun y hy => by have := linez_len h2 y hy; omega) x hx
        omega
      · rcases List.mem_cons.mp hx with rfl | hx
        · omega
        · have := deepL_len (n := 900 + 2 * Dd.depths b) (fun y hy => by have := linez_len h3 y hy; omega) x hx
          omega
theorem linez_len : ∀ {ds : List Dd}, Dd.Txs ds → ∀ x ∈ Dd.liness ds, (TL.tl x).length ≤ 900 + 2 * Dd.depths ds
  | [], _, x, hx => by rw [Dd.liness] at hx; exact nomatch hx
  | d :: ds, h, x, hx => by
    rw [Dd.Txs] at h
    rw [Dd.liness] at hx
    rw [Dd.depths]
    rcases List.mem_append.mp hx with hx | hx
    · have := line_len h.1 x hx
      omega
    · have := linez_len h.2 x hx
      omega
end
/-! #### machines -/
def hearL (p : Str × List Dd) : List Str := wln [Str.ofString "on", p.1] :: deepL (Dd.liness p.2)
def Mach.body (m : Mach) : List Str := (m.boxes.map (fun b => wln [Str.ofString "box", b.1, intT b.2]) ++ m.queues.map (fun q => wln [Str.ofString "queue", q])) ++ (if m.draws = [] then [] else [wln (Str.ofString "draws" :: m.draws.map intT)]) ++ (m.hears.map hearL).flatten
def Mach.lines (m : Mach) : List Str := wln [Str.ofString "machine", m.name] :: deepL m.body
def machsL (ms : List Mach) : List Str := (ms.map Mach.lines).flatten
def modelT (ms : List Mach) : Str := Txt.join nl (machsL ms)
structure Mach.Tx (m : Mach) : Prop where
  name : NameOk m.name
  bl : m.boxes.length ≤ 6
  b : ∀ b ∈ m.boxes, NameOk b.1 ∧ Worth b.2
  ql : m.queues.length ≤ 3
  q : ∀ q ∈ m.queues, NameOk q
  dl : m.draws.length ≤ 20
  d : ∀ d ∈ m.draws, 0 ≤ d ∧ d ≤ 1000000000000000
  hl : m.hears.length ≤ 4
  h : ∀ p ∈ m.hears, NameOk p.1 ∧ Dd.Txs p.2 ∧ Dd.nums p.2 ≤ 20 ∧ Dd.depths p.2 ≤ 10
/-- names unlike -/
structure Mach.Un (m : Mach) : Prop where
  bq : (m.boxes.map (·.1) ++ m.queues).Nodup
  h : (m.hears.map (·.1)).Nodup
end Mo
namespace Mo
open PySem PySem.Spec PyProof.Rows L2
/-! ### what is read: deeds and machines of texts, and their shape -/
theorem within_le {x : Str} {a b n : Int} (h : withinB x a b = some n) : a ≤ n ∧ n ≤ b := by
  unfold withinB at h
  cases hw2 : wholeB x 20 with
  | none => rw [hw2] at h; cases h
  | some m =>
    rw [hw2, Option.bind_some] at h
    split at h
    · cases h
    · injection h with h
      subst h
      constructor <;> omega
theorem cond_tx {ws : List Str} {f : Fm} (h : condB ws = some f) : FmT f := by
  unfold condB at h
  split at h
  · rename_i g hg
    cases h
    exact fsB_tx hg _ List.mem_cons_self
  · cases h
theorem one_tx {ws : List Str} {x : Dd} (h : oneB ws = some x) : x.Tx ∧ x.num = 1 ∧ x.depth = 0 := by
  unfold oneB at h
  split at h
  · cases h
    exact ⟨by rw [Dd.Tx]; exact True.intro, by rw [Dd.num], by rw [Dd.depth] <;> simp⟩
  split at h
  · rename_i d hd
    cases h
    unfold sendD at hd
    split at hd
    · split at hd
      · rename_i hc
        split at hd
        · rename_i to rank a b c ht hr hf
          cases hd
          have k := fsB_tx hf
          refine ⟨?_, by rw [Dd.num], by rw [Dd.depth] <;> simp⟩
          rw [Dd.Tx]
          exact ⟨within_le ht, nameB_ok hc.2, within_le hr, k _ List.mem_cons_self, k _ (List.mem_cons_of_mem _ List.mem_cons_self), k _ (List.mem_cons_of_mem _ (List.mem_cons_of_mem _ List.mem_cons_self))⟩
        · cases hd
      · cases hd
    · cases hd
  · unfold namedD at h
    split at h
    · split at h
      · rename_i w b r _ _ hc
        cases hcc : condB r with
        | none => rw [hcc] at h; cases h
        | some f =>
          rw [hcc, Option.map_some] at h
          injection h with h
          rw [← h]
          have k := cond_tx hcc
          split
          · exact ⟨by rw [Dd.Tx]; exact ⟨nameB_ok hc.2.2, k⟩, by rw [Dd.num], by rw [Dd.depth] <;> simp⟩
          · split
            · exact ⟨by rw [Dd.Tx]; exact ⟨nameB_ok hc.2.2, k⟩, by rw [Dd.num], by rw [Dd.depth] <;> simp⟩
            · exact ⟨by rw [Dd.Tx]; exact ⟨nameB_ok hc.2.2, k⟩, by rw [Dd.num], by rw [Dd.depth] <;> simp⟩
      · cases h
    · cases h
mutual
theorem block_tx {ls : List Str} : ∀ {n d e i k : Nat} {ds : List Dd} {j k2 : Nat}, blockB ls n d e i k = .ok (ds, j, k2) → k ≤ 20 → Dd.Txs ds ∧ Dd.nums ds + k = k2 ∧ k2 ≤ 20 ∧ Dd.depths ds ≤ 2 * (6 - e)
  | 0, d, e, i, k, ds, j, k2, h, hk => by
    unfold blockB at h
    rw [blockM] at h
    cases h
    exact ⟨by rw [Dd.Txs]; exact True.intro, by rw [Dd.nums]; exact Nat.zero_add _, hk, by rw [Dd.depths]; exact Nat.zero_le _⟩
  | n + 1, d, e, i, k, ds, j, k2, h, hk => by
    by_cases he : 5 < e
    · rw [block_deep he] at h
      cases h
      exact ⟨by rw [Dd.Txs]; exact True.intro, by rw [Dd.nums]; exact Nat.zero_add _, hk, by rw [Dd.depths]; exact Nat.zero_le _⟩
    · rw [block_step (by omega)] at h
      split at h
      · cases h
      · rename_i i1 k1 hd
        cases h
        have := deed_tx hd hk
        exact ⟨by rw [Dd.Txs]; exact True.intro, by rw [Dd.nums, Nat.zero_add]; exact this.1.symm, this.2.1, by rw [Dd.depths]; exact Nat.zero_le _⟩
      · rename_i x i1 k1 hd
        obtain ⟨g1, g2, g3⟩ := deed_tx hd hk
        obtain ⟨g4, g5⟩ := g3 (by omega)
        have g1 : k1 = k + x.num := g1
        split at h
        · cases h
        · rename_i es i2 k3 hb
          obtain ⟨f1, f2, f3, f4⟩ := block_tx hb g2
          cases h
          refine ⟨by rw [Dd.Txs]; exact ⟨g4, f1⟩, ?_, f3, ?_⟩
          · rw [Dd.nums]
            omega
          · rw [Dd.depths]
            omega
theorem deed_tx {ls : List Str} : ∀ {n d e i k : Nat} {o : Option Dd} {j k2 : Nat}, deedB ls n d e i k = .ok (o, j, k2) → k ≤ 20 → k2 = k + (match o with | none => 0 | some x => x.num) ∧ k2 ≤ 20 ∧ (e ≤ 5 → match o with | none => True | some x => x.Tx ∧ x.depth + 1 ≤ 2 * (6 - e))
  | 0, d, e, i, k, o, j, k2, h, hk => by
    unfold deedB at h
    rw [deedM] at h
    cases h
    exact ⟨rfl, hk, fun _ => True.intro⟩
  | n + 1, d, e, i, k, o, j, k2, h, hk => by
    by_cases hn : hereM ls i d = [] ∨ k = 20
    · rw [deed_nil hn] at h
      cases h
      exact ⟨rfl, hk, fun _ => True.intro⟩
    obtain ⟨w, ws, hw⟩ : ∃ w ws, hereM ls i d = w :: ws := by
      cases hh : hereM ls i d with
      | nil => exact absurd (.inl hh) hn
      | cons w ws => exact ⟨w, ws, rfl⟩
    have hk2 : k ≠ 20 := fun e => hn (.inr e)
    by_cases h1 : w = Str.ofString "if"
    · rw [deed_if hw hk2 h1] at h
      cases hc : condB ws with
      | none =>
        rw [hc] at h
        cases h
        exact ⟨rfl, hk, fun _ => True.intro⟩
      | some f =>
        rw [hc] at h
        unfold chB at h
        dsimp only at h
        split at h
        · cases h
        · rename_i xs i1 k1 hb
          obtain ⟨f1, f2, f3, f4⟩ := block_tx hb (by omega)
          split at h
          · split at h
            · cases h
            · rename_i ys i2 k3 hb2
              obtain ⟨g1, g2, g3, g4⟩ := block_tx hb2 f3
              cases h
              refine ⟨by dsimp only; rw [Dd.num]; omega, g3, fun he => ⟨by rw [Dd.Tx]; exact ⟨cond_tx hc, f1, g1⟩, by rw [Dd.depth]; omega⟩⟩
          · cases h
    by_cases h2 : ∃ a b, ws = [a, b] ∧ w = Str.ofString "pull" ∧ nameB a = true ∧ nameB b = true
    · obtain ⟨a, b, rfl, e1, e2, e3⟩ := h2
      rw [deed_pull hw hk2 e1 e2 e3] at h
      unfold plB at h
      split at h
      · cases h
      · rename_i xs i1 k1 hb
        obtain ⟨f1, f2, f3, f4⟩ := block_tx hb (by omega)
        cases h
        refine ⟨by dsimp only; rw [Dd.num]; omega, f3, fun he => ⟨by rw [Dd.Tx]; exact ⟨nameB_ok e2, nameB_ok e3, f1⟩, by rw [Dd.depth]; omega⟩⟩
    rw [deed_one hw hk2 h1 (fun a b e h => h2 ⟨a, b, e, h⟩)] at h
    cases ho : oneB (w :: ws) with
    | none =>
      rw [ho] at h
      cases h
      exact ⟨rfl, hk, fun _ => True.intro⟩
    | some x =>
      rw [ho] at h
      cases h
      obtain ⟨g1, g2, g3⟩ := one_tx ho
      exact ⟨by dsimp only; omega, by omega, fun he => ⟨g1, by omega⟩⟩
end
/-! #### shapes -/
theorem Shp.upM {a b : Nat} {d : PyData} (h : Shp a d) (k : a ≤ b) : Shp b d := ⟨h.lay, Nat.le_trans h.dep k⟩
theorem Shps.upM {a b : Nat} {ds : List PyData} (h : Shps a ds) (k : a ≤ b) : Shps b ds := ⟨h.lay, Nat.le_trans h.dep k⟩
theorem litM_ok {x : Str} (h : x ∈ (["put", "push", "pull", "draw", "send", "if", "end"] : List Str)) : SOk x := by
  simp only [List.mem_cons, List.not_mem_nil, or_false] at h
  rcases h with rfl | rfl | rfl | rfl | rfl | rfl | rfl <;> exact (show PyData.strOk _ = true by decide +kernel)
theorem SOk.nm {x : Str} (h : NameOk x) : PyData.strOk x = true := h.sok
theorem fmT_shp {f : Fm} (h : FmT f) : Shp 16 f.data := (Fm.Tx.shp f 16 h.1 (by have := Fm.depth_lt_size f; have := h.2; omega))
mutual
theorem ddT_shp : ∀ (d : Dd), d.Tx → Shp (d.depth + 18) d.data
  | .put b f, h => by
    rw [Dd.Tx] at h
    rw [Dd.data]
    exact .tup (.cons (.str (litM_ok (by simp))) (.cons (.str h.1.sok) (.cons ((fmT_shp h.2).upM (by omega)) .nil)))
  | .push b f, h => by
    rw [Dd.Tx] at h
    rw [Dd.data]
    exact .tup (.cons (.str (litM_ok (by simp))) (.cons (.str h.1.sok) (.cons ((fmT_shp h.2).upM (by omega)) .nil)))
  | .draw b f, h => by
    rw [Dd.Tx] at h
    rw [Dd.data]
    exact .tup (.cons (.str (litM_ok (by simp))) (.cons (.str h.1.sok) (.cons ((fmT_shp h.2).upM (by omega)) .nil)))
  | .pull q b ds, h => by
    rw [Dd.Tx] at h
    rw [Dd.data, Dd.depth]
    have := ddsT_shp ds h.2.2
    exact .tup (n := Dd.depths ds + 18) (.cons (.str (litM_ok (by simp))) (.cons (.str h.1.sok) (.cons (.str h.2.1.sok) (.cons (.lst (n := Dd.depths ds + 17) this) .nil))))
  | .send to sign sp rank g w, h => by
    rw [Dd.Tx] at h
    rw [Dd.data]
    exact .tup (.cons (.str (litM_ok (by simp))) (.cons .int (.cons (.str h.2.1.sok) (.cons ((fmT_shp h.2.2.2.1).upM (by omega)) (.cons .int (.cons ((fmT_shp h.2.2.2.2.1).upM (by omega)) (.cons ((fmT_shp h.2.2.2.2.2).upM (by omega)) .nil)))))))
  | .iff f a c, h => by
    rw [Dd.Tx] at h
    rw [Dd.data, Dd.depth]
    have h1 := ddsT_shp a h.2.1
    have h2 := ddsT_shp c h.2.2
    exact .tup (n := max (Dd.depths a) (Dd.depths c) + 18) (.cons (.str (litM_ok (by simp))) (.cons ((fmT_shp h.1).upM (by omega)) (.cons (.lst (n := max (Dd.depths a) (Dd.depths c) + 17) (h1.upM (by omega))) (.cons (.lst (n := max (Dd.depths a) (Dd.depths c) + 17) (h2.upM (by omega))) .nil))))
  | .fin, _ => by
    rw [Dd.data]
    exact .tup (.cons (.str (litM_ok (by simp))) .nil)
theorem ddsT_shp : ∀ (ds : List Dd), Dd.Txs ds → Shps (Dd.depths ds + 17) (Dd.datas ds)
  | [], _ => by
    rw [Dd.datas]
    exact .nil
  | d :: ds, h => by
    rw [Dd.Txs] at h
    rw [Dd.datas, Dd.depths]
    exact .cons ((ddT_shp d h.1).upM (by omega)) ((ddsT_shp ds h.2).upM (by omega))
end
theorem Mach.Tx.shpM {m : Mach} (h : m.Tx) : Shp 40 m.data := by
  unfold Mach.data
  refine .tup (.cons (.str h.name.sok) (.cons (.lst (n := 38) (.map fun b hb => ?_)) (.cons (.lst (n := 38) (.map fun b hb => .str (h.q b hb).sok)) (.cons (.lst (n := 38) .ints) (.cons (.lst (n := 38) (.map fun p hp => ?_)) .nil)))))
  · exact .tup (.cons (.str (h.b b hb).1.sok) (.cons .int .nil))
  · obtain ⟨h1, h2, h3, h4⟩ := h.h p hp
    exact .tup (.cons (.str h1.sok) (.cons (.lst (n := 36) ((ddsT_shp p.2 h2).upM (by omega))) .nil))
theorem machsR_shaped {ms : List Mach} (h : ∀ m ∈ ms, m.Tx) : SeqAt.shaped (.list (ms.map Mach.data)) = true := (Shp.lst (n := 40) (.map fun m hm => (h m hm).shpM)).shaped (by decide)
theorem named_nm {ls : List Str} {i d : Nat} {w : Str} {us : List Str} {x : Str} (h : namedM nameB ls i d w us = some x) : NameOk x ∧ x ∉ us := by
  unfold namedM at h
  split at h
  · split at h
    · rename_i hc
      cases h
      exact ⟨nameB_ok hc.2.1, hc.2.2⟩
    · cases h
  · cases h
theorem boxesM_rd {ls : List Str} : ∀ {n i : Nat} {bs : List (Str × Int)} {cs : List (Str × Int)} {j : Nat}, boxesM nameB worthB ls n i bs = (cs, j) → (∀ b ∈ bs, NameOk b.1 ∧ Worth b.2) → (∀ b ∈ cs, NameOk b.1 ∧ Worth b.2) ∧ cs.length ≤ bs.length + n
  | 0, i, bs, cs, j, h, hb => by rw [boxesM] at h; cases h; exact ⟨hb, Nat.le_refl _⟩
  | n + 1, i, bs, cs, j, h, hb => by
    rw [boxesM] at h
    split at h
    · split at h
      · rename_i w b x _ hc
        split at h
        · rename_i v hv
          obtain ⟨g1, g2⟩ := boxesM_rd h (fun c hc2 => by
            rcases List.mem_append.mp hc2 with m | m
            · exact hb c m
            · rw [List.mem_singleton.mp m]
              exact ⟨nameB_ok hc.2.1, within_le hv⟩)
          rw [List.length_append, List.length_singleton] at g2
          exact ⟨g1, by omega⟩
        · cases h; exact ⟨hb, by omega⟩
      · cases h; exact ⟨hb, by omega⟩
    · cases h; exact ⟨hb, by omega⟩
theorem queuesM_rd {ls us : List Str} : ∀ {n i : Nat} {qs cs : List Str} {j : Nat}, queuesM nameB ls us n i qs = (cs, j) → (∀ q ∈ qs, NameOk q) → (∀ q ∈ cs, NameOk q) ∧ cs.length ≤ qs.length + n
  | 0, i, bs, cs, j, h, hb => by rw [queuesM] at h; cases h; exact ⟨hb, Nat.le_refl _⟩
  | n + 1, i, bs, cs, j, h, hb => by
    rw [queuesM] at h
    split at h
    · rename_i q hq
      obtain ⟨g1, g2⟩ := queuesM_rd h (fun c hc2 => by
        rcases List.mem_append.mp hc2 with m | m
        · exact hb c m
        · rw [List.mem_singleton.mp m]
          exact (named_nm hq).1)
      rw [List.length_append, List.length_singleton] at g2
      exact ⟨g1, by omega⟩
    · cases h; exact ⟨hb, by omega⟩
theorem mapM_rd : ∀ {ws : List Str} {ns : List Int}, ws.mapM drawB = some ns → (∀ d ∈ ns, 0 ≤ d ∧ d ≤ 1000000000000000) ∧ ns.length = ws.length
  | [], ns, h => by rw [List.mapM_nil] at h; cases h; exact ⟨(fun _ h => nomatch h), rfl⟩
  | x :: r, ns, h => by
    rw [mapM_cons'] at h
    cases h1 : drawB x with
    | none => rw [h1] at h; cases h
    | some n =>
      cases h2 : r.mapM drawB with
      | none => rw [h1, h2] at h; cases h
      | some ms =>
        rw [h1, h2] at h
        cases h
        obtain ⟨g1, g2⟩ := mapM_rd h2
        exact ⟨List.forall_mem_cons.mpr ⟨within_le h1, g1⟩, by rw [List.length_cons, List.length_cons, g2]⟩
theorem drawsM_rd {ls : List Str} {i : Nat} {ds : List Int} {j : Nat} (h : drawsM drawB ls i = (ds, j)) : (∀ d ∈ ds, 0 ≤ d ∧ d ≤ 1000000000000000) ∧ ds.length ≤ 20 := by
  unfold drawsM at h
  split at h
  · split at h
    · rename_i w x r _ hc
      split at h
      · rename_i ds2 hm
        cases h
        obtain ⟨g1, g2⟩ := mapM_rd hm
        rw [List.length_cons] at g2
        exact ⟨g1, by omega⟩
      · cases h; exact ⟨(fun _ h => nomatch h), Nat.zero_le _⟩
    · cases h; exact ⟨(fun _ h => nomatch h), Nat.zero_le _⟩
  · cases h; exact ⟨(fun _ h => nomatch h), Nat.zero_le _⟩
end Mo
namespace Mo
open PySem PySem.Spec PyProof.Rows L2
/-! ### ModelReader: what is heard -/
structure HrdO where
  t : Addr
  lp : Addr
  s : Str
  ts : List Tr
  ds : List Dd
def HrdO.tree (o : HrdO) : Tr := .tu o.t [.wd (.s o.s), .ls o.lp o.ts]
def HrdO.c (o : HrdO) : Str × List Dd := (o.s, o.ds)
structure HrdO.Ok (o : HrdO) : Prop where
  d : o.ts.map Tr.dat = o.ds.map Dd.data
  s : ∀ t ∈ o.ts, SpOk 29 t
  l : o.ts.length ≤ 20
  nm : NameOk o.s
  tx : Dd.Txs o.ds
  nu : Dd.nums o.ds ≤ 20
  de : Dd.depths o.ds ≤ 10
theorem HrdO.dat {o : HrdO} (h : o.Ok) : o.tree.dat = hearD o.c := by
  show (Tr.tu o.t [.wd (.s o.s), .ls o.lp o.ts]).dat = _
  rw [Tr.dat, Tr.dats, Tr.dats, Tr.dats, Tr.dat, Tr.dat, dats_datas h.d]
  rfl
theorem HrdO.sp {o : HrdO} (h : o.Ok) : SpOk 31 o.tree := .tu fun t ht => by
  simp only [List.mem_cons, List.not_mem_nil, or_false] at ht
  rcases ht with rfl | rfl
  · exact SpOk.up (SpOk.wd (n := 0)) (by omega)
  · exact .ls h.s (by have := h.l; omega)
theorem hrd_vs (os : List HrdO) : (os.map HrdO.tree).map Tr.v = os.map fun o => V.ref o.t := by rw [List.map_map]; rfl
def hearsB (ls : List Str) (F : Nat) := hearsM oneB condB nameB ls F
theorem hears_no {ls : List Str} {F n i : Nat} {hs : List (Str × List Dd)} (h : namedM nameB ls i 1 (Str.ofString "on") (hs.map (·.1)) = none) : hearsB ls F n i hs = .ok (hs, i) := by
  unfold hearsB
  cases n with
  | zero => rw [hearsM]
  | succ n => rw [hearsM, h]
theorem hears_step {ls : List Str} {F n i : Nat} {hs : List (Str × List Dd)} {s : Str} (h : namedM nameB ls i 1 (Str.ofString "on") (hs.map (·.1)) = some s) : hearsB ls F (n + 1) i hs = match blockB ls F 2 1 (i + 1) 0 with
      | .error x => .error x
      | .ok (ds, i1, _) => hearsB ls F n i1 (hs ++ [(s, ds)]) := by
  unfold hearsB blockB
  rw [hearsM, h]
  all_goals rfl
structure HrdI where
  a : MrA
  F : Nat
structure HrdI.Ok (x : HrdI) : Prop where
  a : x.a.Ok
  F : 2 * x.a.b.ls.length + 2 ≤ x.F
def spHearsM (K : PySem.W.Frag) : Sp := SpE K (fun x : HrdI => [.ref x.a.b.p]) (fun x _ => x.Ok) (fun x => x.a.S K)
  (fun x v Γ' S' => ∃ (lh : Addr) (os : List HrdO) (j k : Nat), hearsB x.a.b.ls x.F 4 x.a.i [] = .ok (os.map HrdO.c, j) ∧ j ≤ x.a.b.ls.length ∧ os.length ≤ 4 ∧ (∀ o ∈ os, o.Ok) ∧
    v = .ref lh ∧ Γ' = [trsF K (os.map HrdO.tree)] ∧ S' = own lh (.lst ((os.map HrdO.tree).map Tr.v)) :: segsV Tr.S (os.map HrdO.tree) :: mrS K x.a.b j k)
  (fun x e d Γ' S' => ∃ n : Nat, hearsB x.a.b.ls x.F 4 x.a.i [] = .error n ∧ noTextX K (n : Int) e d Γ' S')
section
variable {P : Program} {w : World} {K : PySem.W.Frag} {mg : Str → Option Value} {base : Heap}
theorem ok_ModelReader_read_hears (T : Tx K mg) : OkM P w K mg base 46 "ModelReader" "read_hears" ["self"] (spHearsM K) := by
  have G_ModelReader_named := ok_ModelReader_named (P := P) (w := w) (base := base) T
  have G_ModelReader_block := ok_ModelReader_block (P := P) (w := w) (base := base) T 5
  refine T.f_ModelReader_read_hears.okX sc_ModelReader_read_hears (fun vs H Q E h => ?_) (fun cdv A outer s H vs Q E hr h => ?_)
  · obtain ⟨i, _, _, rfl, _⟩ := h
    rfl
  · have hu1 := hu_of hr; have hu0 := hr.units0; have hu64 := hr.units; have hu65 := hu65_of hr; have nd := sc_ModelReader_read_hears.nd
    obtain ⟨⟨⟨⟨p, dx, l, ls⟩, i, k⟩, F⟩, Γ, S, rfl, z, hok, q, x⟩ := h
    obtain ⟨⟨⟨hwl, hww, hso⟩, hil⟩, hF⟩ := id hok
    dsimp only [MrA.S, mrS] at z hil hwl hww hso hF q x
    have hok2 : ∀ j k, j ≤ ls.length → MrA.Ok ⟨⟨p, dx, l, ls⟩, j, k⟩ := fun j k h => ⟨⟨hwl, hww, hso⟩, h⟩
    refine ⟨_, (pss_cons (ps_set (i := 1) nd rfl (Or.inl rfl) (pe_lst pa_nil))
      (pss_cons (ps_while (passes_of rfl) (pt_cmpR (op_ltK (K := K) rfl hu0) (pe_callB (call_lenK (K := K) rfl) (by rfl) T.b_len (by decide +kernel) (pa_cons (pv 1) pa_nil)) (T.v_HEARS) (nomark _)) (pss_cons (ps_set (i := 2) nd rfl (Or.inl rfl) (pmeK (K := K) rfl T.m_ModelReader_named T.c_ModelReader G_ModelReader_named hr (takes_of rfl rfl rfl rfl) (pv 0) (pa_cons pe_int (pa_cons pe_str (pa_cons (pe_lc (own := [("heard", 3), ("deeds", 4)]) rfl nd (pi_seqK (K := K) rfl (pv 1)) (blkOk_by (own := [("heard", 3), ("deeds", 4)]) (N := nm_ModelReader_read_hears) (sc := defScope s_ModelReader_read_hears) (by decide +kernel)) (fun _ _ _ _ _ => (pg_tupK (K := K) (n := 2) rfl rfl (pgs_cons (pg_name (i := 3) nd rfl (Or.inl rfl) (Or.inr rfl)) (pgs_cons (pg_name (i := 4) nd rfl (Or.inl rfl) (Or.inr rfl)) pgs_nil)) rfl rfl)) (fun _ _ _ _ _ => pts_nil) (fun _ _ _ _ _ => (pv 3))) pa_nil)))))
      (pss_cons (ps_if (pt_cmpR op_isN1 (pv 2) pe_non (nomark _)) (pss_one (ps_ret (pv 1)))
      pss_nil)
      (pss_cons (ps_fldK (K := K) rfl (pv 0) pe_int rfl)
      (pss_one (ps_expr (pe_bmK (K := K) rfl PySem.F.plainAttrs_list PySem.F.slot_list_append PySem.F.type_list_append mt_append (pv 1) (pa_cons (pe_tup (pa_cons (pv 2) (pa_cons (pmeK (K := K) rfl T.m_ModelReader_block T.c_ModelReader G_ModelReader_block hr (takes_of rfl rfl rfl rfl) (pv 0) (pa_cons pe_int (pa_cons pe_int pa_nil))) pa_nil))) pa_nil))))))))
      (pss_one (ps_ret (pv 1))))), ?_⟩
    refine w_start (σ' := [some (.ref p), none, none, none, none]) rfl z ?_
    dsimp only [List.cons_append, List.nil_append] at q ⊢
    k_extra "W"
    refine w_lstO fun lh => ?_
    refine w_trsNil ?_
    k_extra "W"
    refine w_while (ω := Unit) (ι := ((Nat × Nat) × Option V) × List HrdO) (fun m a => m = 4 - a.2.length ∧ a.2.length ≤ 4 ∧ a.1.1.1 ≤ ls.length ∧ (∀ o ∈ a.2, o.Ok) ∧ hearsB ls F 4 i [] = hearsB ls F (4 - a.2.length) a.1.1.1 (a.2.map HrdO.c))
      (fun a => [some (.ref p), some (.ref lh), a.1.2, none, none]) (fun a => trsF K (a.2.map HrdO.tree) :: Γ)
      (fun a => own lh (.lst ((a.2.map HrdO.tree).map Tr.v)) :: segsV Tr.S (a.2.map HrdO.tree) :: own p (.ins (He.ga K "ModelReader") dx (fl_ModelReader (.ref l) (.int (a.1.1.1 : Int)) (.int (a.1.1.2 : Int)))) :: own l (.lst (ls.map V.str)) :: S)
      4 (((i, k), none), []) ⟨rfl, Nat.zero_le _, hil, (fun _ h => nomatch h), rfl⟩ rfl (by k_extra "sub") (by
        show Dr _ (own lh (.lst []) :: segsV Tr.S [] :: _)
        refine Dr.keep (by k_extra "t") ?_
        refine Dr.segNil ?_
        k_extra "dr") ?_
    rintro m ⟨⟨⟨j, k1⟩, u⟩, os⟩ ⟨hm, hb4, hjl, hos, hrd⟩
    dsimp only at hm hb4 hjl hos hrd ⊢
    have fin : ∀ (_ : hearsB ls F (4 - os.length) j (os.map HrdO.c) = .ok (os.map HrdO.c, j)) (Γ2 : List Fc) (S2 : List Vo), (∀ f ∈ (trsF K (os.map HrdO.tree) :: Γ), f ∈ Γ2) → Dr S2 (own lh (.lst ((os.map HrdO.tree).map Tr.v)) :: segsV Tr.S (os.map HrdO.tree) :: own p (.ins (He.ga K "ModelReader") dx (fl_ModelReader (.ref l) (.int (j : Int)) (.int (k1 : Int)))) :: own l (.lst (ls.map V.str)) :: S) → Wh K Γ2 S2 fun H => Q (.ref lh) H := fun h Γ2 S2 hs hd H y => q _ [trsF K (os.map HrdO.tree)] _ H ⟨lh, os, j, k1, by rw [hrd, h], hjl, hb4, hos, rfl, rfl, rfl⟩ (y.fit hs hd)
    k_extra "W"
    refine w_lenL (by k_extra "at") ?_
    rw [List.length_map, List.length_map]
    k_extra "W"
    refine w_ite (fun h1 => ?_) (fun h1 => ?_)
    rotate_left
    · k_extra "W"
      refine fin ?_ _ _ (by k_extra "sub") (by k_extra "dr")
      rw [show 4 - os.length = 0 by omega]
      unfold hearsB
      rw [hearsM]
    k_extra "W"
    refine w_turn ?_
    k_extra "W"
    refine w_lc_l (ι := Unit) ((os.map HrdO.tree).map Tr.v) (fun _ _ => True) (fun i _ => (os.take i).map fun o => V.str o.s) (fun _ _ => trsF K (os.map HrdO.tree) :: Γ) (fun _ _ => own lh (.lst ((os.map HrdO.tree).map Tr.v)) :: segsV Tr.S (os.map HrdO.tree) :: own p (.ins (He.ga K "ModelReader") dx (fl_ModelReader (.ref l) (.int (j : Int)) (.int (k1 : Int)))) :: own l (.lst (ls.map V.str)) :: S) () True.intro rfl (by k_extra "sub") (by k_extra "dr") (fun _ _ => by k_extra "at") ?_ ?_
    · rintro Dl t v _ hv _
      rw [List.getElem?_map, List.getElem?_map, Option.map_map] at hv
      obtain ⟨o, ho, rfl⟩ := Option.map_eq_some_iff.mp hv
      have htl := (List.getElem?_eq_some_iff.mp ho).1
      refine w_trsGet (ts := os.map HrdO.tree) (t := o.tree) (by k_extra "m") (List.mem_map_of_mem (List.mem_of_getElem? ho)) ?_
      refine w_trTo (p := o.t) (ts := [.wd (.s o.s), .ls o.lp o.ts]) List.mem_cons_self ?_
      show Wh K (.obj o.t (.tup [V.str o.s, V.ref o.lp]) :: _) _ _
      show Wh K _ _ _
      rw [show (Tr.v ∘ HrdO.tree) o = V.ref o.t from rfl]
      k_extra "W"
      refine w_lcp () True.intro ?_ (by k_extra "t") (by rw [List.length_map, List.length_take]; omega) (by k_extra "sub") (by k_extra "dr")
      rw [List.take_add_one, ho, Option.toList_some, List.map_append]
      rfl
    rintro Dl _ _
    rw [List.length_map, List.length_map, List.take_of_length_le (Nat.le_refl _), show (os.map fun o => V.str o.s) = ((os.map HrdO.c).map (·.1)).map V.str by rw [List.map_map, List.map_map]; rfl]
    k_extra "W"
    refine w_don (⟨⟨⟨p, dx, l, ls⟩, j, k1⟩, 1, Str.ofString "on", Dl, (os.map HrdO.c).map (·.1)⟩ : NamI) (by dsimp only [MrA.S, mrS]; k_extra "ts") ⟨hok2 _ _ hjl, (by decide : (1 : Nat) ≤ 8), by dsimp only; rw [List.length_map, List.length_map]; omega⟩ ?_
    rintro _ Γ' S' ⟨rfl, rfl, hjb, rfl⟩
    dsimp only [NamI.r, mrS, List.cons_append, List.nil_append] at hjb ⊢
    cases hn : namedM nameB ls j 1 (Str.ofString "on") ((os.map HrdO.c).map (·.1)) with
    | none =>
      dsimp only [optS, optJ]
      k_extra "W"
      exact fin (hears_no hn) _ _ (by k_extra "sub") (by k_extra "dr")
    | some n =>
      rw [hn] at hjb
      have hst := hears_step (F := F) (n := 4 - (os.length + 1)) hn
      dsimp only [optS, optJ] at hjb ⊢
      k_extra "W"
      refine w_isN ?_
      rw [decide_eq_false (fun e => nomatch e)]
      k_extra "W"
      refine w_sfldL (by k_extra "sw") pt_ModelReader_deeds T.c_ModelReader T.n_ModelReader_deeds rfl ?_
      k_extra "W"
      rw [show V.int 0 = V.int ((0 : Nat) : Int) from rfl]
      refine w_doE (⟨⟨⟨p, dx, l, ls⟩, j + 1, 0⟩, 1, F⟩ : BlkI) (by dsimp only [MrA.S, mrS]; k_extra "ts") ⟨hok2 _ _ hjb, Nat.zero_le _, rfl, by dsimp only; omega⟩ ?_ ?_
      rotate_left
      · rintro ex d Γ' S' ⟨m2, g1, rfl, dd, rfl, rfl, rfl⟩
        dsimp only at g1
        exact fun H y => x _ _ _ _ H ⟨m2, by rw [hrd, show 4 - os.length = (4 - (os.length + 1)) + 1 by omega, hst, g1], rfl, dd, rfl, rfl, rfl⟩ (y.fit (by k_extra "sub") (by k_extra "dr"))
      rintro _ Γ' S' ⟨lp, ts, ds, j2, k2, g1, g2, g3, g4, g5, g6, g7, rfl, rfl, rfl⟩
      dsimp only [mrS, List.cons_append, List.nil_append] at g1 g2 g3 g4 g5 g6 g7 ⊢
      obtain ⟨e1, e2, e3, e4⟩ := block_tx g1 (Nat.zero_le _)
      have htl := tr_nums g6
      k_extra "W"
      refine w_app (by k_extra "sw") (by rw [List.length_map, List.length_map]; omega) ?_
      k_extra "W"
      rename_i tp
      refine w_trL (p := lp) (ts := ts) (by k_extra "m") ?_
      refine w_trW (x := .s n) ?_
      refine w_trsNil ?_
      refine w_trsSnoc (ts := []) (t := Tr.wd (.s n)) List.mem_cons_self (by k_extra "m") ?_
      refine w_trsSnoc (ts := [] ++ [Tr.wd (.s n)]) (t := Tr.ls lp ts) List.mem_cons_self (by k_extra "m") ?_
      dsimp only [List.nil_append, List.cons_append]
      refine w_trT (p := tp) (ts := [.wd (.s n), .ls lp ts]) List.mem_cons_self (by show Fc.obj tp (.tup [V.str n, V.ref lp]) ∈ _; k_extra "m") ?_
      refine w_trsSnoc (ts := os.map HrdO.tree) (t := HrdO.tree ⟨tp, lp, n, ts, ds⟩) (by k_extra "m") List.mem_cons_self ?_
      rw [← map_snoc (f := HrdO.tree)]
      refine w_less (4 - (os ++ [(⟨tp, lp, n, ts, ds⟩ : HrdO)]).length) (by rw [List.length_append, List.length_singleton]; omega) (w_again (((j2, k2), _), os ++ [⟨tp, lp, n, ts, ds⟩]) ⟨rfl, by dsimp only; rw [List.length_append, List.length_singleton]; omega, g3, ?_, ?_⟩ rfl (by k_extra "sub") ?_)
      · dsimp only
        intro o ho
        rcases List.mem_append.mp ho with ho | ho
        · exact hos o ho
        · rw [List.mem_singleton.mp ho]
          exact ⟨g6, g7, by dsimp only; omega, (named_nm hn).1, e1, by dsimp only; omega, e4⟩
      · dsimp only
        rw [hrd, List.length_append, List.length_singleton, show 4 - os.length = (4 - (os.length + 1)) + 1 by omega, hst, g1, map_snoc]
        rfl
      · dsimp only
        rw [map_snoc, map_snoc, show (HrdO.tree ⟨tp, lp, n, ts, ds⟩).v = V.ref tp from rfl]
        refine Dr.keep (by k_extra "t") ?_
        refine Dr.segSnoc ?_
        refine Dr.keep (by k_extra "t") ?_
        have hS : (HrdO.tree ⟨tp, lp, n, ts, ds⟩).S = own lp (.lst (ts.map Tr.v)) ++ segsV Tr.S ts := by
          show (Tr.tu tp [.wd (.s n), .ls lp ts]).S = _
          rw [Tr.S, Tr.SS, Tr.SS, Tr.SS, Tr.S, Tr.S, Tr.SS_segs, List.append_nil]
          rfl
        rw [hS]
        refine Dr.glue ?_
        k_extra "dr"
end
end Mo
namespace Mo
open PySem PySem.Spec PyProof.Rows L2
/-! ### booktext: words written; lines of a text; outside signs -/
def spLinesOf (K : PySem.W.Frag) : Sp := SpF K (fun x : Str => [.str x]) (fun x _ => (TL.tl x).length ≤ 80000) (fun _ => []) (fun x v Γ' S' => ∃ l : Addr, v = .ref l ∧ Γ' = [] ∧ S' = [own l (.lst ((linesB x).map V.str))]) noEx
def spWritten (K : PySem.W.Frag) : Sp := SpF K (fun i : Addr × List Wd => [.ref i.1]) (fun i _ => i.2.length ≤ 1000 ∧ ∀ w ∈ i.2, w.Ok) (fun i => [own i.1 (.lst (i.2.map Wd.v))]) (fun i v Γ' S' => v = .str (wrT i.2) ∧ Γ' = [] ∧ S' = [own i.1 (.lst (i.2.map Wd.v))]) noEx
section
variable {P : Program} {w : World} {K : PySem.W.Frag} {mg : Str → Option Value} {base : Heap}
theorem ok_lines_of (T : Tx K mg) : OkG P w K mg base 1 "lines_of" ["text"] (spLinesOf K) := by
  refine T.f_lines_of.okX sc_lines_of (fun vs H Q E h => ?_) (fun cdv A outer s H vs Q E hr h => ?_)
  · obtain ⟨i, _, _, rfl, _⟩ := h
    rfl
  · have hu1 := hu_of hr; have hu0 := hr.units0; have hu64 := hr.units; have hu65 := hu65_of hr; have nd := sc_lines_of.nd
    obtain ⟨z, Γ, S, rfl, y, hl, q, x⟩ := h
    dsimp only at y hl q x
    refine ⟨_, (pss_cons (ps_if (pt_cmpR (op_eqK (K := K) rfl hu64) (pv 0) pe_str (nomark _)) (pss_one (ps_ret (pe_lst pa_nil)))
      pss_nil)
      (pss_one (ps_ret (pe_bmK (K := K) rfl PySem.F.plainAttrs_str PySem.F.slot_str_split PySem.F.type_str_split mt_spl (pv 0) (pa_cons pe_str pa_nil))))), ?_⟩
    refine w_start (σ' := [some (.str z)]) rfl y ?_
    dsimp only [List.nil_append] at q ⊢
    have e0 : TL.tl (Str.ofString "") = [] := by decide +kernel
    k_extra "W"
    refine w_eqs ?_
    rw [show decide (z = Str.ofString "") = decide (TL.tl z = []) from decide_eq_decide.mpr (text_is e0)]
    k_extra "W"
    refine w_ite (fun h1 => ?_) (fun h1 => ?_)
    · k_extra "W"
      refine w_lstO fun l => ?_
      exact fun H y => q _ _ _ H ⟨l, rfl, rfl, rfl⟩ (by unfold linesB; rw [if_pos h1]; exact y)
    · k_extra "W"
      refine w_tyS ?_
      k_extra "W"
      refine w_spl (by decide +kernel) (by rw [TL.len_tl]; omega) fun l => ?_
      exact fun H y => q _ _ _ H ⟨l, rfl, rfl, rfl⟩ (by unfold linesB; rw [if_neg h1]; exact y)
end
end Mo
namespace Mo
open PySem PySem.Spec PyProof.Rows L2
/-! ### ModelReader: machines; read_model -/
structure MsO where
  t : Addr
  lb : Addr
  vb : List V
  lq : Addr
  ld : Addr
  lh : Addr
  n : Str
  bs : List (Str × Int)
  qs : List Str
  ds : List Int
  os : List HrdO
def boxT (p : V × (Str × Int)) : Tr := .dt p.1 (boxD p.2)
def MsO.tree (o : MsO) : Tr := .tu o.t [.wd (.s o.n), .ls o.lb ((o.vb.zip o.bs).map boxT), .ls o.lq (o.qs.map fun q => .wd (.s q)), .ls o.ld (o.ds.map fun d => .wd (.i d)), .ls o.lh (o.os.map HrdO.tree)]
def MsO.c (o : MsO) : Mach := ⟨o.n, o.bs, o.qs, o.ds, o.os.map HrdO.c⟩
structure MsO.Ok (o : MsO) : Prop where
  vl : o.vb.length = o.bs.length
  rd : o.c.Tx
  os : ∀ x ∈ o.os, x.Ok
theorem zip_snd {o : List V} : ∀ {l : List (Str × Int)}, o.length = l.length → (o.zip l).map (fun p => boxD p.2) = l.map boxD := by
  induction o with
  | nil => intro l h; cases l with
    | nil => rfl
    | cons x l => cases h
  | cons v o ih => intro l h; cases l with
    | nil => cases h
    | cons x l => rw [List.zip_cons_cons, List.map_cons, List.map_cons, ih (Nat.succ.inj h)]
theorem zip_fst {o : List V} : ∀ {l : List (Str × Int)}, o.length = l.length → ((o.zip l).map boxT).map Tr.v = o := by
  induction o with
  | nil => intro l h; rfl
  | cons v o ih => intro l h; cases l with
    | nil => cases h
    | cons x l => rw [List.zip_cons_cons, List.map_cons, List.map_cons, ih (Nat.succ.inj h)]; rfl
theorem MsO.dat {o : MsO} (h : o.Ok) : o.tree.dat = o.c.data := by
  show (Tr.tu o.t [.wd (.s o.n), .ls o.lb ((o.vb.zip o.bs).map boxT), .ls o.lq (o.qs.map fun q => .wd (.s q)), .ls o.ld (o.ds.map fun d => .wd (.i d)), .ls o.lh (o.os.map HrdO.tree)]).dat = _
  rw [Tr.dat, Tr.dats, Tr.dats, Tr.dats, Tr.dats, Tr.dats, Tr.dats, Tr.dat, Tr.dat, Tr.dat, Tr.dat, Tr.dat, Tr.dats_map, Tr.dats_map, Tr.dats_map, Tr.dats_map, List.map_map, List.map_map, List.map_map, List.map_map]
  have e1 : (o.vb.zip o.bs).map (Tr.dat ∘ boxT) = o.bs.map boxD := by
    rw [← zip_snd h.vl]
    exact List.map_congr_left fun p _ => by show (Tr.dt p.1 (boxD p.2)).dat = _; rw [Tr.dat]
  have e2 : o.qs.map (Tr.dat ∘ fun q => Tr.wd (.s q)) = o.qs.map PyData.str := List.map_congr_left fun q _ => by show (Tr.wd (.s q)).dat = _; rw [Tr.dat]; rfl
  have e3 : o.ds.map (Tr.dat ∘ fun d => Tr.wd (.i d)) = o.ds.map PyData.int := List.map_congr_left fun q _ => by show (Tr.wd (.i q)).dat = _; rw [Tr.dat]; rfl
  have e4 : o.os.map (Tr.dat ∘ HrdO.tree) = (o.os.map HrdO.c).map hearD := by
    rw [List.map_map]
    exact List.map_congr_left fun x hx => HrdO.dat (h.os x hx)
  rw [e1, e2, e3, e4]
  rfl
theorem MsO.dats {os : List MsO} (h : ∀ o ∈ os, o.Ok) : (os.map MsO.tree).map Tr.dat = (os.map MsO.c).map Mach.data := by
  rw [List.map_map, List.map_map]
  exact List.map_congr_left fun x hx => MsO.dat (h x hx)
theorem MsO.sp {o : MsO} (h : o.Ok) : SpOk 33 o.tree := .tu fun t ht => by
  have hr := h.rd
  simp only [List.mem_cons, List.not_mem_nil, or_false] at ht
  rcases ht with rfl | rfl | rfl | rfl | rfl
  · exact SpOk.up (SpOk.wd (n := 0)) (by omega)
  · refine .ls (fun u hu => ?_) (by rw [List.length_map, List.length_zip]; have : o.bs.length ≤ 6 := hr.bl; omega)
    obtain ⟨p, hp, rfl⟩ := List.mem_map.mp hu
    exact .dt (SpD.up (n := 2) (.tup fun e he => by
      simp only [List.mem_cons, List.not_mem_nil, or_false] at he
      rcases he with rfl | rfl
      · exact .str
      · exact .int) (by omega))
  · refine .ls (fun u hu => ?_) (by rw [List.length_map]; have : o.qs.length ≤ 3 := hr.ql; omega)
    obtain ⟨p, hp, rfl⟩ := List.mem_map.mp hu
    exact SpOk.up (SpOk.wd (n := 0)) (by omega)
  · refine .ls (fun u hu => ?_) (by rw [List.length_map]; have : o.ds.length ≤ 20 := hr.dl; omega)
    obtain ⟨p, hp, rfl⟩ := List.mem_map.mp hu
    exact SpOk.up (SpOk.wd (n := 0)) (by omega)
  · refine .ls (fun u hu => ?_) (by rw [List.length_map]; have : (o.os.map HrdO.c).length ≤ 4 := hr.hl; rw [List.length_map] at this; omega)
    obtain ⟨p, hp, rfl⟩ := List.mem_map.mp hu
    exact HrdO.sp (h.os p hp)
def machsB (ls : List Str) (F : Nat) := machsM oneB condB nameB worthB drawB ls F
def modelB (ls : List Str) (F : Nat) : Except Nat (List Mach) := modelM oneB condB nameB worthB drawB ls F
theorem machs_no {ls : List Str} {F n i : Nat} {ms : List Mach} (h : namedM nameB ls i 0 (Str.ofString "machine") (ms.map Mach.name) = none) : machsB ls F n i ms = .ok (ms, i) := by
  unfold machsB
  cases n with
  | zero => rw [machsM]
  | succ n => rw [machsM, h]
theorem machs_step {ls : List Str} {F n i : Nat} {ms : List Mach} {x : Str} (h : namedM nameB ls i 0 (Str.ofString "machine") (ms.map Mach.name) = some x) {bs : List (Str × Int)} {j1 : Nat} (h1 : boxesM nameB worthB ls 6 (i + 1) [] = (bs, j1))
    {qs : List Str} {j2 : Nat} (h2 : queuesM nameB ls (bs.map (·.1)) 3 j1 [] = (qs, j2)) {ds : List Int} {j3 : Nat} (h3 : drawsM drawB ls j2 = (ds, j3)) :
    machsB ls F (n + 1) i ms = match hearsB ls F 4 j3 [] with
      | .error y => .error y
      | .ok (hs, i1) => machsB ls F n i1 (ms ++ [⟨x, bs, qs, ds, hs⟩]) := by
  unfold machsB hearsB
  rw [machsM, h]
  dsimp only
  rw [h1]
  dsimp only
  rw [h2]
  dsimp only
  rw [h3]
  all_goals rfl
theorem model_eq {ls : List Str} {F : Nat} : modelB ls F = match machsB ls F 6 0 [] with
  | .error x => .error x
  | .ok (ms, i) => if ms.isEmpty = true ∨ i < ls.length then .error (i + 1) else .ok ms := rfl
def spMachsM (K : PySem.W.Frag) : Sp := SpE K (fun x : HrdI => [.ref x.a.b.p]) (fun x _ => x.Ok ∧ x.a.i = 0) (fun x => x.a.S K)
  (fun x v Γ' S' => ∃ (lm : Addr) (os : List MsO), modelB x.a.b.ls x.F = .ok (os.map MsO.c) ∧ os.length ≤ 6 ∧ os ≠ [] ∧ (∀ o ∈ os, o.Ok) ∧
    v = .ref lm ∧ Γ' = [trsF K (os.map MsO.tree)] ∧ S' = [own lm (.lst ((os.map MsO.tree).map Tr.v)), segsV Tr.S (os.map MsO.tree)])
  (fun x e d Γ' S' => ∃ n : Nat, modelB x.a.b.ls x.F = .error n ∧ noTextX K (n : Int) e d Γ' S')
def spReadModel (K : PySem.W.Frag) : Sp := SpE K (fun x : Str × Nat => [.str x.1]) (fun x _ => (TL.tl x.1).length ≤ 35000 ∧ SOk x.1 ∧ 2 * (linesB x.1).length + 2 ≤ x.2) (fun _ => [])
  (fun x v Γ' S' => ∃ (lm : Addr) (os : List MsO), modelB (linesB x.1) x.2 = .ok (os.map MsO.c) ∧ os.length ≤ 6 ∧ os ≠ [] ∧ (∀ o ∈ os, o.Ok) ∧
    v = .ref lm ∧ Γ' = [trsF K (os.map MsO.tree)] ∧ S' = [own lm (.lst ((os.map MsO.tree).map Tr.v)), segsV Tr.S (os.map MsO.tree)])
  (fun x e d Γ' S' => ∃ n : Nat, modelB (linesB x.1) x.2 = .error n ∧ noTextX K (n : Int) e d Γ' S')
theorem ms_vs (os : List MsO) : (os.map MsO.tree).map Tr.v = os.map fun o => V.ref o.t := by rw [List.map_map]; rfl
section
variable {K : PySem.W.Frag} {Γ : List Fc} {S R S0 : List Vo} {A : Hp → Prop}
theorem w_wdsF {α : Type} {f : α → Wd} (xs : List α) (k : Wh K (trsF K (xs.map fun x => Tr.wd (f x)) :: Γ) S A) : Wh K Γ S A := Wh.learn (f := trsF K (xs.map fun x => Tr.wd (f x))) (fun G b => fun g hg => by
  obtain ⟨t, ht, hk⟩ := Tr.FF_mem.mp hg
  obtain ⟨x, _, rfl⟩ := List.mem_map.mp ht
  rw [Tr.F] at hk
  exact nomatch hk) k
theorem w_boxF {vb : List V} {bs : List (Str × Int)} (hl : vb.length = bs.length) (m : .dats vb (bs.map boxD) ∈ Γ) (k : Wh K (trsF K ((vb.zip bs).map boxT) :: Γ) S A) : Wh K Γ S A := Wh.learn (f := trsF K ((vb.zip bs).map boxT)) (fun G b => fun g hg => by
  obtain ⟨t, ht, hk⟩ := Tr.FF_mem.mp hg
  obtain ⟨x, hx, rfl⟩ := List.mem_map.mp ht
  have hk : g ∈ [Fc.dat x.1 (boxD x.2)] := by
    have : (boxT x).F = [Fc.dat x.1 (boxD x.2)] := by show (Tr.dt _ _).F = _; rw [Tr.F]
    rw [← this]; exact hk
  rw [List.mem_singleton.mp hk]
  have hd : DpAll K G vb (bs.map boxD) := b _ m
  obtain ⟨i, hi, e⟩ := List.mem_iff_getElem.mp hx
  rw [List.getElem_zip] at e
  rw [← e]
  rw [List.length_zip] at hi
  obtain ⟨v, e1, e2⟩ := dpa_get hd (i := i) (d := boxD (bs[i]'(by omega))) (by rw [List.getElem?_map, List.getElem?_eq_getElem (by omega)]; rfl)
  rw [List.getElem?_eq_getElem (by omega)] at e1
  cases e1
  exact e2) k
theorem w_msMk {o : MsO} (hl : o.vb.length = o.bs.length) (f1 : .obj o.t (.tup [V.str o.n, V.ref o.lb, V.ref o.lq, V.ref o.ld, V.ref o.lh]) ∈ Γ) (f2 : .dats o.vb (o.bs.map boxD) ∈ Γ) (f3 : trsF K (o.os.map HrdO.tree) ∈ Γ) (k : Wh K (trF K o.tree :: Γ) S A) : Wh K Γ S A := by
  have hk : Wh K (.obj o.t (.tup [V.str o.n, V.ref o.lb, V.ref o.lq, V.ref o.ld, V.ref o.lh]) :: trsF K (o.os.map HrdO.tree) :: .dats o.vb (o.bs.map boxD) :: Γ) S A := by
    refine w_boxF (vb := o.vb) (bs := o.bs) hl (by simp) ?_
    refine w_wdsF (f := fun q => .s q) o.qs ?_
    refine w_wdsF (f := fun d => .i d) o.ds ?_
    refine w_trL (p := o.lh) (ts := o.os.map HrdO.tree) (by simp) ?_
    refine w_trL (p := o.ld) (ts := o.ds.map fun d => .wd (.i d)) (by simp) ?_
    refine w_trL (p := o.lq) (ts := o.qs.map fun q => .wd (.s q)) (by simp) ?_
    refine w_trL (p := o.lb) (ts := (o.vb.zip o.bs).map boxT) (by simp) ?_
    refine w_trW (x := .s o.n) ?_
    refine w_trsNil ?_
    refine w_trsSnoc (ts := []) (t := Tr.wd (.s o.n)) List.mem_cons_self (by simp) ?_
    refine w_trsSnoc (ts := [] ++ [Tr.wd (.s o.n)]) (t := .ls o.lb ((o.vb.zip o.bs).map boxT)) List.mem_cons_self (by simp) ?_
    refine w_trsSnoc (ts := [] ++ [Tr.wd (.s o.n)] ++ [.ls o.lb ((o.vb.zip o.bs).map boxT)]) (t := .ls o.lq (o.qs.map fun q => .wd (.s q))) List.mem_cons_self (by simp) ?_
    refine w_trsSnoc (ts := [] ++ [Tr.wd (.s o.n)] ++ [.ls o.lb ((o.vb.zip o.bs).map boxT)] ++ [.ls o.lq (o.qs.map fun q => .wd (.s q))]) (t := .ls o.ld (o.ds.map fun d => .wd (.i d))) List.mem_cons_self (by simp) ?_
    refine w_trsSnoc (ts := [] ++ [Tr.wd (.s o.n)] ++ [.ls o.lb ((o.vb.zip o.bs).map boxT)] ++ [.ls o.lq (o.qs.map fun q => .wd (.s q))] ++ [.ls o.ld (o.ds.map fun d => .wd (.i d))]) (t := .ls o.lh (o.os.map HrdO.tree)) List.mem_cons_self (by simp) ?_
    dsimp only [List.nil_append, List.cons_append]
    refine w_trT (p := o.t) (ts := [.wd (.s o.n), .ls o.lb ((o.vb.zip o.bs).map boxT), .ls o.lq (o.qs.map fun q => .wd (.s q)), .ls o.ld (o.ds.map fun d => .wd (.i d)), .ls o.lh (o.os.map HrdO.tree)]) List.mem_cons_self (by show Fc.obj o.t (.tup [V.str o.n, V.ref o.lb, V.ref o.lq, V.ref o.ld, V.ref o.lh]) ∈ _; simp) ?_
    refine w_thin (Γ' := trF K o.tree :: Γ) ?_ Dr.refl k
    intro f hf
    rcases List.mem_cons.mp hf with rfl | hf
    · exact List.mem_cons_self
    · simp [hf]
  refine w_thin (Γ' := .obj o.t (.tup [V.str o.n, V.ref o.lb, V.ref o.lq, V.ref o.ld, V.ref o.lh]) :: trsF K (o.os.map HrdO.tree) :: .dats o.vb (o.bs.map boxD) :: Γ) ?_ Dr.refl hk
  intro f hf
  rcases List.mem_cons.mp hf with rfl | hf
  · exact f1
  rcases List.mem_cons.mp hf with rfl | hf
  · exact f3
  rcases List.mem_cons.mp hf with rfl | hf
  · exact f2
  · exact hf
theorem wds_SS {α : Type} (f : α → Wd) : ∀ xs : List α, Tr.SS (xs.map fun x => Tr.wd (f x)) = []
  | [] => by rw [List.map_nil, Tr.SS]
  | x :: xs => by rw [List.map_cons, Tr.SS, Tr.S, wds_SS f xs]; rfl
theorem box_SS : ∀ xs : List (V × (Str × Int)), Tr.SS (xs.map boxT) = []
  | [] => by rw [List.map_nil, Tr.SS]
  | x :: xs => by rw [List.map_cons, Tr.SS, box_SS xs, show (boxT x).S = [] by show (Tr.dt _ _).S = _; rw [Tr.S]]; rfl
theorem MsO.tree_S {o : MsO} (hl : o.vb.length = o.bs.length) : o.tree.S = own o.lb (.lst o.vb) ++ (own o.lq (.lst (o.qs.map V.str)) ++ (own o.ld (.lst (o.ds.map V.int)) ++ (own o.lh (.lst ((o.os.map HrdO.tree).map Tr.v)) ++ segsV Tr.S (o.os.map HrdO.tree)))) := by
  show (Tr.tu o.t [.wd (.s o.n), .ls o.lb ((o.vb.zip o.bs).map boxT), .ls o.lq (o.qs.map fun q => .wd (.s q)), .ls o.ld (o.ds.map fun d => .wd (.i d)), .ls o.lh (o.os.map HrdO.tree)]).S = _
  rw [Tr.S, Tr.SS, Tr.SS, Tr.SS, Tr.SS, Tr.SS, Tr.SS, Tr.S, Tr.S, Tr.S, Tr.S, Tr.S, zip_fst hl, box_SS, wds_SS (fun q => .s q), wds_SS (fun d => .i d), Tr.SS_segs, List.map_map, List.map_map, List.append_nil, List.append_nil, List.append_nil, List.append_nil]
  rfl
theorem Dr.ms {o : MsO} (hl : o.vb.length = o.bs.length) (h : Dr S0 (own o.lb (.lst o.vb) :: own o.lq (.lst (o.qs.map V.str)) :: own o.ld (.lst (o.ds.map V.int)) :: own o.lh (.lst ((o.os.map HrdO.tree).map Tr.v)) :: segsV Tr.S (o.os.map HrdO.tree) :: R)) : Dr S0 (o.tree.S :: R) := by
  obtain ⟨J, j⟩ := h
  refine ⟨J, j.trans ?_⟩
  rw [MsO.tree_S hl]
  simp only [List.flatten_append, List.flatten_cons, List.append_assoc]
  exact List.Perm.refl _
end
section
variable {P : Program} {w : World} {K : PySem.W.Frag} {mg : Str → Option Value} {base : Heap}
theorem ok_ModelReader_read_machines (T : Tx K mg) : OkM P w K mg base 50 "ModelReader" "read_machines" ["self"] (spMachsM K) := by
  have G_ModelReader_named := ok_ModelReader_named (P := P) (w := w) (base := base) T
  have G_ModelReader_read_boxes := ok_ModelReader_read_boxes (P := P) (w := w) (base := base) T
  have G_ModelReader_read_queues := ok_ModelReader_read_queues (P := P) (w := w) (base := base) T
  have G_ModelReader_read_draws := ok_ModelReader_read_draws (P := P) (w := w) (base := base) T
  have G_ModelReader_read_hears := ok_ModelReader_read_hears (P := P) (w := w) (base := base) T
  have G_ModelReader_refuse := ok_ModelReader_refuse (P := P) (w := w) (base := base) T
  refine T.f_ModelReader_read_machines.okX sc_ModelReader_read_machines (fun vs H Q E h => ?_) (fun cdv A outer s H vs Q E hr h => ?_)
  · obtain ⟨i, _, _, rfl, _⟩ := h
    rfl
  · have hu1 := hu_of hr; have hu0 := hr.units0; have hu64 := hr.units; have hu65 := hu65_of hr; have nd := sc_ModelReader_read_machines.nd
    obtain ⟨⟨⟨⟨p, dx, l, ls⟩, i, k⟩, F⟩, Γ, S, rfl, z, ⟨hok, hi0⟩, q, x⟩ := h
    dsimp only at hi0
    subst hi0
    obtain ⟨⟨⟨hwl, hww, hso⟩, hil⟩, hF⟩ := id hok
    dsimp only [MrA.S, mrS] at z hil hwl hww hso hF q x
    have hok2 : ∀ j k, j ≤ ls.length → MrA.Ok ⟨⟨p, dx, l, ls⟩, j, k⟩ := fun j k h => ⟨⟨hwl, hww, hso⟩, h⟩
    have hmo := model_eq (ls := ls) (F := F)
    refine ⟨_, (pss_cons (ps_set (i := 1) nd rfl (Or.inl rfl) (pe_lst pa_nil))
      (Evl.pss_cut (ps_while (passes_of rfl) (pt_cmpR (op_ltK (K := K) rfl hu0) (pe_callB (call_lenK (K := K) rfl) (by rfl) T.b_len (by decide +kernel) (pa_cons (pv 1) pa_nil)) (T.v_MACHINES) (nomark _)) (pss_cons (ps_set (i := 2) nd rfl (Or.inl rfl) (pmeK (K := K) rfl T.m_ModelReader_named T.c_ModelReader G_ModelReader_named hr (takes_of rfl rfl rfl rfl) (pv 0) (pa_cons pe_int (pa_cons pe_str (pa_cons (pe_lc (own := [("machine", 6)]) rfl nd (pi_seqK (K := K) rfl (pv 1)) (blkOk_by (own := [("machine", 6)]) (N := nm_ModelReader_read_machines) (sc := defScope s_ModelReader_read_machines) (by decide +kernel)) (fun _ _ _ _ _ => (pg_name (i := 6) nd rfl (Or.inl rfl) (Or.inr rfl))) (fun _ _ _ _ _ => pts_nil) (fun _ _ _ _ _ => (pe_ix (ix_anyK (K := K) rfl hu1) (pv 6) pe_int (fun _ _ => rfl)))) pa_nil)))))
      (pss_cons (ps_if (pt_cmpR op_isN1 (pv 2) pe_non (nomark _)) (pss_one ps_break)
      pss_nil)
      (pss_cons (ps_set (i := 3) nd rfl (Or.inl rfl) (pme0K (K := K) rfl T.m_ModelReader_read_boxes T.c_ModelReader G_ModelReader_read_boxes hr (takes_of rfl rfl rfl rfl) (pv 0)))
      (pss_cons (ps_set (i := 4) nd rfl (Or.inl rfl) (pmeK (K := K) rfl T.m_ModelReader_read_queues T.c_ModelReader G_ModelReader_read_queues hr (takes_of rfl rfl rfl rfl) (pv 0) (pa_cons (pe_lc (own := [("box", 7), ("worth", 8)]) rfl nd (pi_seqK (K := K) rfl (pv 3)) (blkOk_by (own := [("box", 7), ("worth", 8)]) (N := nm_ModelReader_read_machines) (sc := defScope s_ModelReader_read_machines) (by decide +kernel)) (fun _ _ _ _ _ => (pg_tupK (K := K) (n := 2) rfl rfl (pgs_cons (pg_name (i := 7) nd rfl (Or.inl rfl) (Or.inr rfl)) (pgs_cons (pg_name (i := 8) nd rfl (Or.inl rfl) (Or.inr rfl)) pgs_nil)) rfl rfl)) (fun _ _ _ _ _ => pts_nil) (fun _ _ _ _ _ => (pv 7))) pa_nil)))
      (pss_cons (ps_set (i := 5) nd rfl (Or.inl rfl) (pme0K (K := K) rfl T.m_ModelReader_read_draws T.c_ModelReader G_ModelReader_read_draws hr (takes_of rfl rfl rfl rfl) (pv 0)))
      (pss_one (ps_expr (pe_bmK (K := K) rfl PySem.F.plainAttrs_list PySem.F.slot_list_append PySem.F.type_list_append mt_append (pv 1) (pa_cons (pe_tup (pa_cons (pv 2) (pa_cons (pv 3) (pa_cons (pv 4) (pa_cons (pv 5) (pa_cons (pme0K (K := K) rfl T.m_ModelReader_read_hears T.c_ModelReader G_ModelReader_read_hears hr (takes_of rfl rfl rfl rfl) (pv 0)) pa_nil)))))) pa_nil))))))))))
      (pss_cons (ps_if (PW.pt (pw_or (pt_cmpR (op_eqK (K := K) rfl hu64) (pv 1) (pe_lst pa_nil) (nomark _)) (pw_or1 (pt_cmpR (op_ltK (K := K) rfl hu0) (pe_fldK (K := K) rfl (pv 0) rfl) (pe_callB (call_lenK (K := K) rfl) (by rfl) T.b_len (by decide +kernel) (pa_cons (pe_fldK (K := K) rfl (pv 0) rfl) pa_nil)) (nomark _))))) (pss_one (ps_expr (pme0K (K := K) rfl T.m_ModelReader_refuse T.c_ModelReader G_ModelReader_refuse hr (takes_of rfl rfl rfl rfl) (pv 0))))
      pss_nil)
      (pss_one (ps_ret (pv 1)))))), ?_⟩
    refine w_start (σ' := [some (.ref p), none, none, none, none, none, none, none, none]) rfl z ?_
    dsimp only [List.cons_append, List.nil_append] at q x ⊢
    k_extra "W"
    refine w_lstO fun lm => ?_
    refine w_trsNil ?_
    k_extra "W"
    refine w_cut (ι := ((Nat × Nat) × (Option V × Option V × Option V × Option V)) × List MsO) (fun a => a.1.1.1 ≤ ls.length ∧ a.2.length ≤ 6 ∧ (∀ o ∈ a.2, o.Ok) ∧ machsB ls F 6 0 [] = .ok (a.2.map MsO.c, a.1.1.1))
      (fun a => [some (.ref p), some (.ref lm), a.1.2.1, a.1.2.2.1, a.1.2.2.2.1, a.1.2.2.2.2, none, none, none]) (fun a => trsF K (a.2.map MsO.tree) :: Γ)
      (fun a => own lm (.lst ((a.2.map MsO.tree).map Tr.v)) :: segsV Tr.S (a.2.map MsO.tree) :: own p (.ins (He.ga K "ModelReader") dx (fl_ModelReader (.ref l) (.int (a.1.1.1 : Int)) (.int (a.1.1.2 : Int)))) :: own l (.lst (ls.map V.str)) :: S) ?_ ?_
    · refine w_while (ω := Unit) (ι := ((Nat × Nat) × (Option V × Option V × Option V × Option V)) × List MsO) (fun m a => m = 6 - a.2.length ∧ a.1.1.1 ≤ ls.length ∧ a.2.length ≤ 6 ∧ (∀ o ∈ a.2, o.Ok) ∧ machsB ls F 6 0 [] = machsB ls F (6 - a.2.length) a.1.1.1 (a.2.map MsO.c))
        (fun a => [some (.ref p), some (.ref lm), a.1.2.1, a.1.2.2.1, a.1.2.2.2.1, a.1.2.2.2.2, none, none, none]) (fun a => trsF K (a.2.map MsO.tree) :: Γ)
        (fun a => own lm (.lst ((a.2.map MsO.tree).map Tr.v)) :: segsV Tr.S (a.2.map MsO.tree) :: own p (.ins (He.ga K "ModelReader") dx (fl_ModelReader (.ref l) (.int (a.1.1.1 : Int)) (.int (a.1.1.2 : Int)))) :: own l (.lst (ls.map V.str)) :: S)
        6 (((0, k), (none, none, none, none)), []) ⟨rfl, hil, Nat.zero_le _, (fun _ h => nomatch h), rfl⟩ rfl (by k_extra "sub") (by
          show Dr _ (own lm (.lst []) :: segsV Tr.S [] :: _)
          refine Dr.keep (by k_extra "t") ?_
          refine Dr.segNil ?_
          k_extra "dr") ?_
      rintro m ⟨⟨⟨j, k1⟩, u1, u2, u3, u4⟩, os⟩ ⟨hm, hjl, hb6, hos, hrd⟩
      dsimp only at hm hjl hb6 hos hrd ⊢
      k_extra "W"
      refine w_lenL (by k_extra "at") ?_
      rw [List.length_map, List.length_map]
      k_extra "W"
      refine w_ite (fun h1 => ?_) (fun h1 => ?_)
      rotate_left
      · k_extra "W"
        refine w_again (((j, k1), (u1, u2, u3, u4)), os) ⟨hjl, hb6, hos, ?_⟩ rfl (by k_extra "sub") (by k_extra "dr")
        dsimp only
        rw [hrd, show 6 - os.length = 0 by omega]
        unfold machsB
        rw [machsM]
      k_extra "W"
      refine w_turn ?_
      k_extra "W"
      refine w_lc_l (ι := Unit) ((os.map MsO.tree).map Tr.v) (fun _ _ => True) (fun i _ => (os.take i).map fun o => V.str o.n) (fun _ _ => trsF K (os.map MsO.tree) :: Γ) (fun _ _ => own lm (.lst ((os.map MsO.tree).map Tr.v)) :: segsV Tr.S (os.map MsO.tree) :: own p (.ins (He.ga K "ModelReader") dx (fl_ModelReader (.ref l) (.int (j : Int)) (.int (k1 : Int)))) :: own l (.lst (ls.map V.str)) :: S) () True.intro rfl (by k_extra "sub") (by k_extra "dr") (fun _ _ => by k_extra "at") ?_ ?_
      · rintro Dl t v _ hv _
        rw [List.getElem?_map, List.getElem?_map, Option.map_map] at hv
        obtain ⟨o, ho, rfl⟩ := Option.map_eq_some_iff.mp hv
        have htl := (List.getElem?_eq_some_iff.mp ho).1
        refine w_trsGet (ts := os.map MsO.tree) (t := o.tree) (by k_extra "m") (List.mem_map_of_mem (List.mem_of_getElem? ho)) ?_
        refine w_trTo (p := o.t) (ts := [.wd (.s o.n), .ls o.lb ((o.vb.zip o.bs).map boxT), .ls o.lq (o.qs.map fun q => .wd (.s q)), .ls o.ld (o.ds.map fun d => .wd (.i d)), .ls o.lh (o.os.map HrdO.tree)]) List.mem_cons_self ?_
        show Wh K (.obj o.t (.tup [V.str o.n, V.ref o.lb, V.ref o.lq, V.ref o.ld, V.ref o.lh]) :: _) _ _
        rw [show (Tr.v ∘ MsO.tree) o = V.ref o.t from rfl]
        k_extra "W"
        refine w_lcp () True.intro ?_ (by k_extra "t") (by rw [List.length_map, List.length_take]; omega) (by k_extra "sub") (by k_extra "dr")
        rw [List.take_add_one, ho, Option.toList_some, List.map_append]
        rfl
      rintro Dl _ _
      rw [List.length_map, List.length_map, List.take_of_length_le (Nat.le_refl _), show (os.map fun o => V.str o.n) = ((os.map MsO.c).map Mach.name).map V.str by rw [List.map_map, List.map_map]; rfl]
      k_extra "W"
      rw [show V.int 0 = V.int ((0 : Nat) : Int) from rfl]
      refine w_don (⟨⟨⟨p, dx, l, ls⟩, j, k1⟩, 0, Str.ofString "machine", Dl, (os.map MsO.c).map Mach.name⟩ : NamI) (by dsimp only [MrA.S, mrS]; k_extra "ts") ⟨hok2 _ _ hjl, (by decide : (0 : Nat) ≤ 8), by dsimp only; rw [List.length_map, List.length_map]; omega⟩ ?_
      rintro _ Γ' S' ⟨rfl, rfl, hjb, rfl⟩
      dsimp only [NamI.r, mrS, List.cons_append, List.nil_append] at hjb ⊢
      cases hn : namedM nameB ls j 0 (Str.ofString "machine") ((os.map MsO.c).map Mach.name) with
      | none =>
        dsimp only [optS, optJ]
        k_extra "W"
        refine w_again (((j, k1), (_, u2, u3, u4)), os) ⟨hjl, hb6, hos, ?_⟩ rfl (by k_extra "sub") (by k_extra "dr")
        dsimp only
        rw [hrd, machs_no hn]
      | some n =>
        rw [hn] at hjb
        dsimp only [optS, optJ] at hjb ⊢
        k_extra "W"
        refine w_isN ?_
        rw [decide_eq_false (fun e => nomatch e)]
        k_extra "W"
        refine w_don (⟨⟨p, dx, l, ls⟩, j + 1, k1⟩ : MrA) (by dsimp only [MrA.S, mrS]; k_extra "ts") (hok2 _ _ hjb) ?_
        rintro _ Γ' S' ⟨lb, vb, bs, j1, g1, hj1, hb6', rfl, rfl, rfl⟩
        dsimp only [mrS, List.cons_append, List.nil_append] at g1 hj1 hb6' ⊢
        refine w_lenv (vs := vb) (by k_extra "m") fun hvl => ?_
        rw [List.length_map] at hvl
        k_extra "W"
        refine w_lc_l (ι := Unit) vb (fun _ _ => True) (fun i _ => (bs.take i).map fun b => V.str b.1) (fun _ _ => .dats vb (bs.map boxD) :: trsF K (os.map MsO.tree) :: Γ) (fun _ _ => own lb (.lst vb) :: own lm (.lst ((os.map MsO.tree).map Tr.v)) :: segsV Tr.S (os.map MsO.tree) :: own p (.ins (He.ga K "ModelReader") dx (fl_ModelReader (.ref l) (.int (j1 : Int)) (.int (k1 : Int)))) :: own l (.lst (ls.map V.str)) :: S) () True.intro rfl (by k_extra "sub") (by k_extra "dr") (fun _ _ => by k_extra "at") ?_ ?_
        · rintro D2 t v _ hv _
          have htl := (List.getElem?_eq_some_iff.mp hv).1
          refine w_datsGet (vs := vb) (by k_extra "m") hv fun d hd => ?_
          rw [List.getElem?_map] at hd
          obtain ⟨bx, hbx, rfl⟩ := Option.map_eq_some_iff.mp hd
          unfold boxD
          k_extra "W"
          refine w_lcp () True.intro ?_ (by k_extra "t") (by rw [List.length_map, List.length_take]; omega) (by k_extra "sub") (by k_extra "dr")
          rw [List.take_add_one, hbx, Option.toList_some, List.map_append]
          rfl
        rintro D2 _ _
        rw [hvl, List.take_of_length_le (Nat.le_refl _), show (bs.map fun b => V.str b.1) = (bs.map (·.1)).map V.str by rw [List.map_map]; rfl]
        k_extra "W"
        refine w_don (⟨⟨⟨p, dx, l, ls⟩, j1, k1⟩, D2, bs.map (·.1)⟩ : QuI) (by dsimp only [MrA.S, mrS]; k_extra "ts") ⟨hok2 _ _ hj1, by dsimp only; rw [List.length_map]; omega⟩ ?_
        rintro _ Γ' S' ⟨lq, qs, j2, g2, hj2, hq3, rfl, rfl, rfl⟩
        dsimp only [mrS, List.cons_append, List.nil_append] at g2 hj2 hq3 ⊢
        k_extra "W"
        refine w_don (⟨⟨p, dx, l, ls⟩, j2, k1⟩ : MrA) (by dsimp only [MrA.S, mrS]; k_extra "ts") (hok2 _ _ hj2) ?_
        rintro _ Γ' S' ⟨ld, ds, j3, g3, hj3, hd20, rfl, rfl, rfl⟩
        dsimp only [mrS, List.cons_append, List.nil_append] at g3 hj3 hd20 ⊢
        have hst := machs_step (F := F) (n := 6 - (os.length + 1)) hn g1 g2 g3
        k_extra "W"
        refine w_doE (⟨⟨⟨p, dx, l, ls⟩, j3, k1⟩, F⟩ : HrdI) (by dsimp only [MrA.S, mrS]; k_extra "ts") ⟨hok2 _ _ hj3, hF⟩ ?_ ?_
        rotate_left
        · rintro ex d Γ' S' ⟨m2, f1, rfl, dd, rfl, rfl, rfl⟩
          dsimp only at f1
          exact fun H y => x _ _ _ _ H ⟨m2, by rw [hmo, hrd, show 6 - os.length = (6 - (os.length + 1)) + 1 by omega, hst, f1], rfl, dd, rfl, rfl, rfl⟩ (y.fit (by k_extra "sub") (by k_extra "dr"))
        rintro _ Γ' S' ⟨lh, hs, j4, k4, f1, f2, f3, f4, rfl, rfl, rfl⟩
        dsimp only [mrS, List.cons_append, List.nil_append] at f1 f2 f3 f4 ⊢
        k_extra "W"
        refine w_app (by k_extra "sw") (by rw [List.length_map, List.length_map]; omega) ?_
        k_extra "W"
        rename_i tp
        have hnew : MsO.Ok ⟨tp, lb, vb, lq, ld, lh, n, bs, qs, ds, hs⟩ := ⟨hvl, ⟨(named_nm hn).1, hb6', (boxesM_rd g1 (fun _ h => nomatch h)).1, hq3, (queuesM_rd g2 (fun _ h => nomatch h)).1, hd20, (drawsM_rd g3).1, by show (hs.map HrdO.c).length ≤ 4; rw [List.length_map]; exact f3, fun p hp => by
          obtain ⟨o, ho, rfl⟩ := List.mem_map.mp hp
          have h := f4 o ho
          exact ⟨h.nm, h.tx, h.nu, h.de⟩⟩, f4⟩
        refine w_msMk (o := ⟨tp, lb, vb, lq, ld, lh, n, bs, qs, ds, hs⟩) hvl (by k_extra "m") (by k_extra "m") (by k_extra "m") ?_
        refine w_trsSnoc (ts := os.map MsO.tree) (t := MsO.tree ⟨tp, lb, vb, lq, ld, lh, n, bs, qs, ds, hs⟩) (by k_extra "m") List.mem_cons_self ?_
        rw [← map_snoc (f := MsO.tree)]
        refine w_less (6 - (os ++ [(⟨tp, lb, vb, lq, ld, lh, n, bs, qs, ds, hs⟩ : MsO)]).length) (by rw [List.length_append, List.length_singleton]; omega) (w_again (((j4, k4), (_, _, _, _)), os ++ [⟨tp, lb, vb, lq, ld, lh, n, bs, qs, ds, hs⟩]) ⟨rfl, f2, by dsimp only; rw [List.length_append, List.length_singleton]; omega, ?_, ?_⟩ rfl (by k_extra "sub") ?_)
        · dsimp only
          intro o ho
          rcases List.mem_append.mp ho with ho | ho
          · exact hos o ho
          · rw [List.mem_singleton.mp ho]
            exact hnew
        · dsimp only
          rw [hrd, List.length_append, List.length_singleton, show 6 - os.length = (6 - (os.length + 1)) + 1 by omega, hst, f1, map_snoc]
          rfl
        · dsimp only
          rw [map_snoc, map_snoc, show (MsO.tree ⟨tp, lb, vb, lq, ld, lh, n, bs, qs, ds, hs⟩).v = V.ref tp from rfl]
          refine Dr.keep (by k_extra "t") ?_
          refine Dr.segSnoc ?_
          refine Dr.keep (by k_extra "t") ?_
          refine Dr.ms (o := ⟨tp, lb, vb, lq, ld, lh, n, bs, qs, ds, hs⟩) hvl ?_
          dsimp only
          k_extra "dr"
    rintro ⟨⟨⟨j, k1⟩, u1, u2, u3, u4⟩, os⟩ ⟨hjl, hb6, hos, hrd⟩
    dsimp only at hjl hb6 hos hrd ⊢
    rw [hrd] at hmo
    dsimp only at hmo
    have hdt := MsO.dats hos
    have hsh : SeqAt.shaped (.list ((os.map MsO.c).map Mach.data)) = true := machsR_shaped fun m hm => by
      obtain ⟨o, ho, rfl⟩ := List.mem_map.mp hm
      exact (hos o ho).rd
    have ref : ∀ (_ : modelB ls F = .error (j + 1)) (Γ2 : List Fc) (S2 : List Vo), (∀ f ∈ Γ, f ∈ Γ2) → Dr S2 (own p (.ins (He.ga K "ModelReader") dx (fl_ModelReader (.ref l) (.int (j : Int)) (.int (k1 : Int)))) :: own l (.lst (ls.map V.str)) :: S) → ∀ R : VK, Wh K Γ2 S2 fun H => spRefM K [.ref p] H R fun e d H' => E e d H' := fun h Γ2 S2 hs hd R => by
      refine w_thin (S' := own p (.ins (He.ga K "ModelReader") dx (fl_ModelReader (.ref l) (.int (j : Int)) (.int (k1 : Int)))) :: own l (.lst (ls.map V.str)) :: S) hs hd ?_
      refine w_doE (⟨⟨p, dx, l, ls⟩, j, k1⟩ : MrA) (by dsimp only [MrA.S, mrS]; k_extra "ts") True.intro ?_ ?_
      · rintro v Γ' S' h
        exact h.elim
      · rintro ex d Γ' S' ⟨rfl, dd, rfl, rfl, rfl⟩
        exact fun H y => x _ _ _ _ H ⟨j + 1, h, rfl, dd, rfl, rfl, rfl⟩ (y.fit (by k_extra "sub") (by k_extra "dr"))
    k_extra "W"
    refine w_lstO fun lq => ?_
    refine w_eqH (d := .list ((os.map MsO.c).map Mach.data)) (e := .list []) ?d1 (dpH_own (show AtH K _ _ lq (.lst []) by k_extra "at") DL.nil) hsh (shaped_texts (xs := []) (fun _ z => nomatch z)) ?_
    case d1 =>
      rw [← hdt]
      exact dpH_trs (ts := os.map MsO.tree) (by k_extra "m") (by k_extra "m") (by rw [Tr.SS_segs]; k_extra "t")
    have heq : PyData.eqv (.list ((os.map MsO.c).map Mach.data)) (.list []) = decide (os = []) := by cases os <;> rfl
    rw [heq]
    k_extra "W"
    refine w_ite (fun h1 => ?_) (fun h1 => ?_)
    · subst h1
      k_extra "W"
      exact ref (by rw [hmo, if_pos (.inl rfl)]) _ _ (by k_extra "sub") (by k_extra "dr") _
    k_extra "W"
    refine w_lenL (by k_extra "at") ?_
    rw [List.length_map]
    k_extra "W"
    refine w_ite (fun h2 => ?_) (fun h2 => ?_)
    · k_extra "W"
      exact ref (by rw [hmo, if_pos (.inr (by omega))]) _ _ (by k_extra "sub") (by k_extra "dr") _
    k_extra "W"
    refine fun H y => q _ [trsF K (os.map MsO.tree)] _ H ⟨lm, os, ?_, hb6, h1, hos, rfl, rfl, rfl⟩ (y.fit (by k_extra "sub") (by k_extra "dr"))
    rw [hmo, if_neg]
    rintro (h | h)
    · cases os with
      | nil => exact h1 rfl
      | cons o os => cases h
    · omega
theorem ok_read_model (T : Tx K mg) : OkG P w K mg base 52 "read_model" ["text"] (spReadModel K) := by
  have G_lines_of := ok_lines_of (P := P) (w := w) (base := base) T
  have G_ModelReader_init := ok_ModelReader_init (P := P) (w := w) (base := base) T
  have G_ModelReader_read_machines := ok_ModelReader_read_machines (P := P) (w := w) (base := base) T
  refine T.f_read_model.okX sc_read_model (fun vs H Q E h => ?_) (fun cdv A outer s H vs Q E hr h => ?_)
  · obtain ⟨i, _, _, rfl, _⟩ := h
    rfl
  · have hu1 := hu_of hr; have hu0 := hr.units0; have hu64 := hr.units; have hu65 := hu65_of hr; have nd := sc_read_model.nd
    obtain ⟨⟨z, F⟩, Γ, S, rfl, y, ⟨hl, hso, hF⟩, q, x⟩ := h
    dsimp only at y hl hso hF q x
    refine ⟨_, (pss_one (ps_ret (pme0K (K := K) rfl T.m_ModelReader_read_machines T.c_ModelReader G_ModelReader_read_machines hr (takes_of rfl rfl rfl rfl) (pmkK (K := K) rfl T.k_ModelReader G_ModelReader_init hr (takes_of rfl rfl rfl rfl) (pa_cons (pcl T.g_lines_of G_lines_of hr (takes_of rfl rfl rfl rfl) (pa_cons (pv 0) pa_nil)) pa_nil))))), ?_⟩
    refine w_start (σ' := [some (.str z)]) rfl y ?_
    dsimp only [List.nil_append] at q x ⊢
    obtain ⟨s1, s2⟩ := linesB_len z
    k_extra "W"
    refine w_don z (by k_extra "ts") (by show (TL.tl z).length ≤ 80000; omega) ?_
    rintro _ Γ' S' ⟨ll, rfl, rfl, rfl⟩
    dsimp only [List.cons_append, List.nil_append]
    k_extra "W"
    refine w_made fun p dx => ?_
    refine w_don ((p, dx), ll) (by k_extra "ts") True.intro ?_
    rintro _ Γ' S' ⟨rfl, rfl, rfl⟩
    dsimp only [List.cons_append, List.nil_append]
    k_extra "W"
    show Wh K Γ (own p (.ins (He.ga K "ModelReader") dx (fl_ModelReader (.ref ll) (.int ((0 : Nat) : Int)) (.int ((0 : Nat) : Int)))) :: _) _
    refine w_doE (⟨⟨⟨p, dx, ll, linesB z⟩, 0, 0⟩, F⟩ : HrdI) (by dsimp only [MrA.S, mrS]; k_extra "ts") ⟨⟨⟨⟨by dsimp only; omega, fun y hy => by have := s2 y hy; omega, lines_sok hso⟩, Nat.zero_le _⟩, hF⟩, rfl⟩ ?_ ?_
    · rintro v Γ' S' hO
      exact fun H y => q _ Γ' S' H hO y
    · rintro e d Γ' S' hO
      exact fun H y => x e d Γ' S' H hO y
end
end Mo
namespace Mo
open PySem PySem.Spec PyProof.Rows L2
/-! ### lines of models read back: plain Lean -/
/-- signs of words: none is a blank or ends a line -/
def Wo (x : Str) : Prop := ∀ c ∈ TL.tl x, 33 ≤ c ∧ c < 1000
def Pr (x : Str) : Prop := ∀ c ∈ TL.tl x, 32 ≤ c ∧ c < 1000
theorem Wo.free {x : Str} (h : Wo x) : 32 ∉ TL.tl x := fun m => by have := h _ m; omega
theorem Wo.pr {x : Str} (h : Wo x) : Pr x := fun c m => by have := h c m; omega
theorem Pr.free {x : Str} (h : Pr x) : 10 ∉ TL.tl x := fun m => by have := h _ m; omega
theorem Pr.sok {x : Str} (h : Pr x) : SOk x := sok_tl.mpr fun c m => by have := h c m; omega
theorem nm_wo {x : Str} (h : NameOk x) : Wo x := fun c m => by have := h.let_ c m; omega
theorem int_wo (n : Int) : Wo (intT n) := fun c m => by
  have h1 : ¬ (c < 45 ∨ 57 < c) := fun h => int_freeC h n m
  omega
theorem wo_cons {x y : Str} {c : Nat} (h : TL.tl y = c :: TL.tl x) (hc : 33 ≤ c ∧ c < 1000) (hx : Wo x) : Wo y := fun d m => by
  rw [h] at m
  rcases List.mem_cons.mp m with rfl | m
  · exact hc
  · exact hx d m
theorem words_wo : ∀ {f : Fm}, f.Tx → ∀ p ∈ f.words, Wo p
  | .num n, _, p, hp => by rw [List.mem_singleton.mp hp]; exact int_wo n
  | .box x, h, p, hp => by
    rw [List.mem_singleton.mp hp]
    exact wo_cons (tl_dotA x) (by omega) (nm_wo h)
  | .long x, h, p, hp => by
    rw [List.mem_singleton.mp hp]
    exact wo_cons (tl_hashA x) (by omega) (nm_wo h)
  | .got j, _, p, hp => by
    rw [List.mem_singleton.mp hp]
    exact wo_cons (tl_buckA _) (by omega) (int_wo _)
  | .now, _, p, hp => by
    rw [List.mem_singleton.mp hp]
    intro c m
    have m : c ∈ TL.tl (Str.ofString "@") := m
    rw [tl_now] at m
    rw [List.mem_singleton.mp m]
    omega
  | .two o f g, h, p, hp => by
    rcases List.mem_cons.mp hp with e | hp
    · rw [e]
      have q : ∀ m ∈ opMarks, ∀ c ∈ TL.tl m, 33 ≤ c ∧ c < 1000 := by decide +kernel
      exact q _ (List.mem_of_getElem? (op_mark_at o).1)
    · rcases List.mem_append.mp hp with hp | hp
      · exact words_wo h.1 p hp
      · exact words_wo h.2 p hp
theorem lit_wo : ∀ y ∈ (["put", "push", "draw", "pull", "send", "if", "else", "end", "box", "queue", "draws", "on", "machine"] : List Str), ∀ c ∈ TL.tl y, 33 ≤ c ∧ c < 1000 := by decide +kernel
theorem wln_split {ws : List Str} (h0 : ws ≠ []) (h : ∀ p ∈ ws, Wo p) : Txt.split (wln ws) blank = ws := TL.split_join (y := blank) tl_blank (by decide +kernel) h0 fun p hp => (h p hp).free
theorem wln_pr {ws : List Str} (h : ∀ p ∈ ws, Wo p) : Pr (wln ws) := by
  induction ws with
  | nil =>
    intro c m
    have e : TL.tl (wln []) = [] := by decide +kernel
    rw [e] at m
    exact nomatch m
  | cons w ws ih =>
    cases ws with
    | nil => rw [wln_one]; exact (h w List.mem_cons_self).pr
    | cons v ws =>
      intro c m
      rw [wln_cons _ (List.cons_ne_nil _ _)] at m
      rcases List.mem_append.mp m with m | m
      · exact (h w List.mem_cons_self).pr c m
      · rcases List.mem_cons.mp m with rfl | m
        · omega
        · exact ih (fun p hp => h p (List.mem_cons_of_mem _ hp)) c m
/-! #### so deep -/
def deN : Nat → Str → Str
  | 0, y => y
  | d + 1, y => ind2 ++ deN d y
theorem tl_deN : ∀ (d : Nat) (y : Str), TL.tl (deN d y) = List.replicate (2 * d) 32 ++ TL.tl y
  | 0, y => rfl
  | d + 1, y => by
    rw [deN, TL.tl_append, tl_ind2, tl_deN d y, show 2 * (d + 1) = 2 * d + 1 + 1 by omega, List.replicate_succ, List.replicate_succ]
    rfl
theorem deN_ind (d : Nat) (y : Str) : deN d (ind2 ++ y) = deN (d + 1) y := TL.ext_tl (by
  rw [tl_deN, tl_deN, TL.tl_append, tl_ind2, ← List.append_assoc]
  congr 1
  rw [show ([32, 32] : List Nat) = List.replicate 2 32 from rfl, List.replicate_append_replicate]
  rfl)
theorem deN_deepL (d : Nat) (ls : List Str) : (deepL ls).map (deN d) = ls.map (deN (d + 1)) := by
  unfold deepL
  rw [List.map_map]
  exact List.map_congr_left fun y _ => deN_ind d y
theorem deN_pr {d : Nat} {y : Str} (h : Pr y) : Pr (deN d y) := fun c m => by
  rw [tl_deN] at m
  rcases List.mem_append.mp m with m | m
  · rw [List.eq_of_mem_replicate m]; omega
  · exact h c m
/-- begins with no blank -/
def Hed (y : Str) : Prop := ∃ c r, TL.tl y = c :: r ∧ c ≠ 32
theorem wln_hed {w : Str} {ws : List Str} (hw : Wo w) (h0 : TL.tl w ≠ []) : Hed (wln (w :: ws)) := by
  obtain ⟨c, r, e⟩ : ∃ c r, TL.tl w = c :: r := by
    cases e : TL.tl w with
    | nil => exact absurd e h0
    | cons c r => exact ⟨c, r, rfl⟩
  have hc : c ≠ 32 := by have := hw c (by rw [e]; exact List.mem_cons_self); omega
  cases ws with
  | nil => rw [wln_one]; exact ⟨c, r, e, hc⟩
  | cons v ws =>
    refine ⟨c, r ++ 32 :: TL.tl (wln (v :: ws)), ?_, hc⟩
    rw [wln_cons _ (List.cons_ne_nil _ _), e]
    rfl
theorem pre_deN {d d' : Nat} {y : Str} (h : d' ≤ d) : TL.pre (List.replicate (2 * d') 32) (TL.tl (deN d y)) = true := by
  rw [tl_deN, show 2 * d = 2 * d' + (2 * d - 2 * d') by omega, ← List.replicate_append_replicate, List.append_assoc]
  exact TL.pre_self _ _
theorem pre_deN_not {d d' : Nat} {y : Str} (hy : Hed y) (h : d < d') : TL.pre (List.replicate (2 * d') 32) (TL.tl (deN d y)) = false := by
  obtain ⟨c, r, e, hc⟩ := hy
  rw [tl_deN, e]
  unfold TL.pre
  rw [List.length_replicate, beq_eq_false_iff_ne]
  intro k
  have k2 := congrArg (fun l : List Nat => l[2 * d]?) k
  try dsimp only at k2
  rw [List.getElem?_take, if_pos (by omega), List.getElem?_append_right (by rw [List.length_replicate]; exact Nat.le_refl _), List.length_replicate, Nat.sub_self, List.getElem?_replicate, if_pos (by omega), List.getElem?_cons_zero] at k2
  exact hc (Option.some.inj k2)
theorem cut_deN (d : Nat) (y : Str) : cutS (deN d y) (some ((2 * d : Nat) : Int)) none = y := TL.ext_tl (by
  rw [tl_cutS, tl_deN]
  have := List.drop_left (l₁ := List.replicate (2 * d) 32) (l₂ := TL.tl y)
  rwa [List.length_replicate] at this)
/-- what stands here does not stand so deep -/
def Stp (d : Nat) (r : List Str) : Prop := ∀ y t, r = y :: t → TL.pre (List.replicate (2 * d) 32) (TL.tl y) = false
theorem Stp.nil {d : Nat} : Stp d [] := fun _ _ h => nomatch h
theorem Stp.line {d d' : Nat} {y : Str} {t : List Str} (hy : Hed y) (h : d < d') : Stp d' (deN d y :: t) := fun z u e => by
  cases e
  exact pre_deN_not hy h
theorem pre_rep {n m : Nat} {l : List Nat} (h : n ≤ m) (k : TL.pre (List.replicate m 32) l = true) : TL.pre (List.replicate n 32) l = true := by
  unfold TL.pre at k ⊢
  rw [List.length_replicate] at k ⊢
  have k := beq_iff_eq.mp k
  rw [beq_iff_eq]
  have := congrArg (List.take n) k
  rwa [List.take_take, Nat.min_eq_left h, List.take_replicate, Nat.min_eq_left h] at this
theorem Stp.up {d d' : Nat} {r : List Str} (h : Stp d r) (k : d ≤ d') : Stp d' r := fun y t e => by
  have := h y t e
  cases hp : TL.pre (List.replicate (2 * d') 32) (TL.tl y) with
  | false => rfl
  | true => rw [pre_rep (by omega) hp] at this; cases this
section
variable {ls : List Str} {i d : Nat}
theorem drop_at {y : Str} {t : List Str} (h : ls.drop i = y :: t) : ls[i]? = some y ∧ ls.drop (i + 1) = t := by
  constructor
  · have := congrArg (fun l : List Str => l[0]?) h
    try dsimp only at this
    rwa [List.getElem?_drop, Nat.add_zero, List.getElem?_cons_zero] at this
  · have := congrArg (List.drop 1) h
    rwa [List.drop_drop, List.drop_succ_cons, List.drop_zero] at this
theorem drop_nil (h : ls.drop i = []) : ls[i]? = none := by
  rw [List.getElem?_eq_none_iff]
  exact List.drop_eq_nil_iff.mp h
theorem here_line {ws : List Str} {t : List Str} (h : ls.drop i = deN d (wln ws) :: t) (h0 : ws ≠ []) (hw : ∀ p ∈ ws, Wo p) : hereM ls i d = ws := by
  unfold hereM
  rw [(drop_at h).1]
  dsimp only
  rw [if_pos (pre_deN (Nat.le_refl _)), cut_deN, wln_split h0 hw]
theorem here_stop {r : List Str} (h : ls.drop i = r) (hs : Stp d r) : hereM ls i d = [] := by
  unfold hereM
  cases r with
  | nil => rw [drop_nil h]
  | cons y t =>
    rw [(drop_at h).1]
    dsimp only
    rw [hs y t rfl]
    rfl
theorem drop_app {A r : List Str} (h : ls.drop i = A ++ r) : ls.drop (i + A.length) = r := by
  rw [← List.drop_drop, h, List.drop_left]
end
theorem lits_wo {y : Str} (h : y ∈ (["put", "push", "draw", "pull", "send", "if", "else", "end", "box", "queue", "draws", "on", "machine"] : List Str)) : Wo y := lit_wo y h
theorem cond_words {f : Fm} (h : FmT f) : condB f.words = some f := by
  have := fofB_text h.1 h.2
  unfold fofB at this
  rw [split_text h.1] at this
  unfold condB
  rw [this]
theorem three_words {a b c : Fm} (ha : FmT a) (hb : FmT b) (hc : FmT c) : fsB (a.words ++ (b.words ++ c.words)) 3 = some [a, b, c] := by
  have e1 := pF_words (f := a) ha.1 (n := 16) (c := 0) (A := []) (B := b.words ++ c.words) (by have := ha.2; omega) (by omega)
  have e2 := pF_words (f := b) hb.1 (n := 16) (c := 0) (A := a.words) (B := c.words) (by have := hb.2; omega) (by omega)
  have e3 := pF_words (f := c) hc.1 (n := 16) (c := 0) (A := a.words ++ b.words) (B := []) (by have := hc.2; omega) (by omega)
  rw [List.nil_append, List.length_nil, Nat.zero_add] at e1
  rw [words_len] at e2
  rw [List.append_nil, List.length_append, words_len, words_len, List.append_assoc] at e3
  unfold fsB
  rw [fsOf, e1]
  dsimp only
  rw [fsOf, e2]
  dsimp only
  rw [fsOf, e3]
  dsimp only
  rw [fsOf]
  simp only [Option.map_some, Option.bind_some]
  rw [if_neg]
  rw [List.length_append, List.length_append, words_len, words_len, words_len]
  omega
theorem int_within {n a b : Int} (ha : a ≤ n) (hb : n ≤ b) (h20 : n.natAbs < 10 ^ 20) : withinB (intT n) a b = some n := by
  unfold withinB intT
  rw [show wholeB (Str.ofString (toString n)) 20 = some n from whole_num (k := 20) (by decide) h20, Option.bind_some, if_neg (by omega)]
theorem one_lits : Str.ofString "put" ≠ Str.ofString "send" ∧ Str.ofString "push" ≠ Str.ofString "send" ∧ Str.ofString "draw" ≠ Str.ofString "send" ∧ Str.ofString "push" ≠ Str.ofString "put" ∧ Str.ofString "draw" ≠ Str.ofString "put" ∧ Str.ofString "draw" ≠ Str.ofString "push" ∧
    Str.ofString "put" ≠ Str.ofString "if" ∧ Str.ofString "push" ≠ Str.ofString "if" ∧ Str.ofString "draw" ≠ Str.ofString "if" ∧ Str.ofString "send" ≠ Str.ofString "if" ∧ Str.ofString "end" ≠ Str.ofString "if" ∧
    Str.ofString "put" ≠ Str.ofString "pull" ∧ Str.ofString "push" ≠ Str.ofString "pull" ∧ Str.ofString "draw" ≠ Str.ofString "pull" ∧ Str.ofString "send" ≠ Str.ofString "pull" ∧ Str.ofString "end" ≠ Str.ofString "pull" := by decide +kernel
theorem one_named {w b : Str} {f : Fm} (hw : w = Str.ofString "put" ∨ w = Str.ofString "push" ∨ w = Str.ofString "draw") (hb : NameOk b) (hf : FmT f) :
    oneB (w :: b :: f.words) = some (if w = Str.ofString "put" then .put b f else if w = Str.ofString "push" then .push b f else .draw b f) := by
  obtain ⟨l1, l2, l3, _⟩ := one_lits
  unfold oneB
  rw [if_neg (fun e => by cases e)]
  have hs : sendD (w :: b :: f.words) = none := sendD_no fun w' t s rk r e => by
    refine .inl fun h => ?_
    rw [← (List.cons.inj e).1] at h
    rcases hw with hw | hw | hw
    · exact l1 (hw.symm.trans h.1)
    · exact l2 (hw.symm.trans h.1)
    · exact l3 (hw.symm.trans h.1)
  rw [hs]
  unfold namedD
  dsimp only
  rw [if_pos ⟨words_ne f, hw, name_yes hb⟩, cond_words hf]
  rfl
theorem one_send {to rank : Int} {s : Str} {a b c : Fm} (h1 : 0 ≤ to ∧ to ≤ 5) (h2 : NameOk s) (h3 : 0 ≤ rank ∧ rank ≤ 9) (ha : FmT a) (hb : FmT b) (hc : FmT c) :
    oneB (Str.ofString "send" :: intT to :: s :: intT rank :: (a.words ++ (b.words ++ c.words))) = some (.send to s a rank b c) := by
  unfold oneB
  rw [if_neg (fun e => by cases e)]
  have hs : sendD (Str.ofString "send" :: intT to :: s :: intT rank :: (a.words ++ (b.words ++ c.words))) = some (.send to s a rank b c) := by
    unfold sendD
    dsimp only
    rw [if_pos ⟨rfl, name_yes h2⟩, int_within h1.1 h1.2 (by omega), int_within h3.1 h3.2 (by omega), three_words ha hb hc]
  rw [hs]
theorem lits_ne {y : Str} (h : y ∈ (["put", "push", "draw", "pull", "send", "if", "else", "end", "box", "queue", "draws", "on", "machine"] : List Str)) : TL.tl y ≠ [] := by
  have q : ∀ y ∈ (["put", "push", "draw", "pull", "send", "if", "else", "end", "box", "queue", "draws", "on", "machine"] : List Str), TL.tl y ≠ [] := by decide +kernel
  exact q y h
theorem wo_list {w : Str} {ws : List Str} (h : Wo w) (k : ∀ p ∈ ws, Wo p) : ∀ p ∈ w :: ws, Wo p := List.forall_mem_cons.mpr ⟨h, k⟩
theorem wo_app {a b : List Str} (h : ∀ p ∈ a, Wo p) (k : ∀ p ∈ b, Wo p) : ∀ p ∈ a ++ b, Wo p := fun p hp => (List.mem_append.mp hp).elim (h p) (k p)
theorem wo_nil : ∀ p ∈ ([] : List Str), Wo p := fun _ h => nomatch h
/-- a line of one deed without blocks -/
theorem deed_line {ls r : List Str} {i d n e k : Nat} {w : Str} {ws : List Str} {x : Dd} (h : ls.drop i = deN d (wln (w :: ws)) :: r) (hw : ∀ p ∈ w :: ws, Wo p) (hk : k ≠ 20) (h1 : w ≠ Str.ofString "if") (h2 : w ≠ Str.ofString "pull") (ho : oneB (w :: ws) = some x) :
    deedB ls (n + 1) d e i k = .ok (some x, i + 1, k + 1) := by
  rw [deed_one (here_line h (List.cons_ne_nil _ _) hw) hk h1 (fun _ _ _ h => h2 h.1), ho]
theorem lines_pos : ∀ x : Dd, 1 ≤ x.lines.length
  | .put _ _ => by rw [Dd.lines]; exact Nat.le_refl _
  | .push _ _ => by rw [Dd.lines]; exact Nat.le_refl _
  | .draw _ _ => by rw [Dd.lines]; exact Nat.le_refl _
  | .fin => by rw [Dd.lines]; exact Nat.le_refl _
  | .send _ _ _ _ _ _ => by rw [Dd.lines]; exact Nat.le_refl _
  | .pull _ _ _ => by rw [Dd.lines, List.length_cons]; omega
  | .iff _ _ _ => by rw [Dd.lines, List.length_cons]; omega
theorem lines_hed : ∀ x : Dd, x.Tx → ∃ z t, x.lines = z :: t ∧ Hed z
  | .put _ _, _ => by rw [Dd.lines]; exact ⟨_, _, rfl, wln_hed (lits_wo (by simp)) (lits_ne (by simp))⟩
  | .push _ _, _ => by rw [Dd.lines]; exact ⟨_, _, rfl, wln_hed (lits_wo (by simp)) (lits_ne (by simp))⟩
  | .draw _ _, _ => by rw [Dd.lines]; exact ⟨_, _, rfl, wln_hed (lits_wo (by simp)) (lits_ne (by simp))⟩
  | .fin, _ => by rw [Dd.lines, ← wln_one (Str.ofString "end")]; exact ⟨_, _, rfl, wln_hed (lits_wo (by simp)) (lits_ne (by simp))⟩
  | .send _ _ _ _ _ _, _ => by rw [Dd.lines]; exact ⟨_, _, rfl, wln_hed (lits_wo (by simp)) (lits_ne (by simp))⟩
  | .pull _ _ _, _ => by rw [Dd.lines]; exact ⟨_, _, rfl, wln_hed (lits_wo (by simp)) (lits_ne (by simp))⟩
  | .iff _ _ _, _ => by rw [Dd.lines]; exact ⟨_, _, rfl, wln_hed (lits_wo (by simp)) (lits_ne (by simp))⟩
mutual
theorem deed_back {ls : List Str} : ∀ (x : Dd), x.Tx → ∀ {n d e i k : Nat} {r : List Str}, ls.drop i = x.lines.map (deN d) ++ r → Stp (d + 1) r → k + x.num ≤ 20 → x.depth + 1 ≤ 2 * (6 - e) → 2 * x.lines.length + 1 ≤ n → deedB ls n d e i k = .ok (some x, i + x.lines.length, k + x.num)
  | .put b f, h, n, d, e, i, k, r, hl, _, hk, _, hn => by
    obtain ⟨n, rfl⟩ : ∃ m, n = m + 1 := ⟨n - 1, by omega⟩
    rw [Dd.Tx] at h
    rw [Dd.lines] at hl ⊢
    rw [Dd.num] at hk ⊢
    obtain ⟨_, _, _, _, _, _, a1, _, _, _, _, a2, _⟩ := one_lits
    exact deed_line hl (wo_list (lits_wo (by simp)) (wo_list (nm_wo h.1) (words_wo h.2.1))) (by omega) a1 a2 ((one_named (.inl rfl) h.1 h.2).trans (by rw [if_pos rfl]))
  | .push b f, h, n, d, e, i, k, r, hl, _, hk, _, hn => by
    obtain ⟨n, rfl⟩ : ∃ m, n = m + 1 := ⟨n - 1, by omega⟩
    rw [Dd.Tx] at h
    rw [Dd.lines] at hl ⊢
    rw [Dd.num] at hk ⊢
    obtain ⟨_, _, _, b1, _, _, _, a1, _, _, _, _, a2, _⟩ := one_lits
    exact deed_line hl (wo_list (lits_wo (by simp)) (wo_list (nm_wo h.1) (words_wo h.2.1))) (by omega) a1 a2 ((one_named (.inr (.inl rfl)) h.1 h.2).trans (by rw [if_neg b1, if_pos rfl]))
  | .draw b f, h, n, d, e, i, k, r, hl, _, hk, _, hn => by
    obtain ⟨n, rfl⟩ : ∃ m, n = m + 1 := ⟨n - 1, by omega⟩
    rw [Dd.Tx] at h
    rw [Dd.lines] at hl ⊢
    rw [Dd.num] at hk ⊢
    obtain ⟨_, _, _, _, b1, b2, _, _, a1, _, _, _, _, a2, _⟩ := one_lits
    exact deed_line hl (wo_list (lits_wo (by simp)) (wo_list (nm_wo h.1) (words_wo h.2.1))) (by omega) a1 a2 ((one_named (.inr (.inr rfl)) h.1 h.2).trans (by rw [if_neg b1, if_neg b2]))
  | .fin, h, n, d, e, i, k, r, hl, _, hk, _, hn => by
    obtain ⟨n, rfl⟩ : ∃ m, n = m + 1 := ⟨n - 1, by omega⟩
    rw [Dd.lines] at hl ⊢
    rw [Dd.num] at hk ⊢
    obtain ⟨_, _, _, _, _, _, _, _, _, _, a1, _, _, _, _, a2⟩ := one_lits
    exact deed_line (ws := []) (by rw [wln_one]; exact hl) (wo_list (lits_wo (by simp)) wo_nil) (by omega) a1 a2 (by unfold oneB; rw [if_pos rfl])
  | .send to s a rank b c, h, n, d, e, i, k, r, hl, _, hk, _, hn => by
    obtain ⟨n, rfl⟩ : ∃ m, n = m + 1 := ⟨n - 1, by omega⟩
    rw [Dd.Tx] at h
    obtain ⟨h1, h2, h3, h4, h5, h6⟩ := h
    rw [Dd.lines] at hl ⊢
    rw [Dd.num] at hk ⊢
    obtain ⟨_, _, _, _, _, _, _, _, _, a1, _, _, _, _, a2, _⟩ := one_lits
    exact deed_line hl (wo_list (lits_wo (by simp)) (wo_list (int_wo _) (wo_list (nm_wo h2) (wo_list (int_wo _) (wo_app (words_wo h4.1) (wo_app (words_wo h5.1) (words_wo h6.1))))))) (by omega) a1 a2 (one_send h1 h2 h3 h4 h5 h6)
  | .pull q b ds, h, n, d, e, i, k, r, hl, hs, hk, hd, hn => by
    obtain ⟨n, rfl⟩ : ∃ m, n = m + 1 := ⟨n - 1, by omega⟩
    rw [Dd.Tx] at h
    obtain ⟨h1, h2, h3⟩ := h
    rw [Dd.lines] at hl hn ⊢
    rw [Dd.num] at hk ⊢
    rw [Dd.depth] at hd
    have hdl : (deepL (Dd.liness ds)).length = (Dd.liness ds).length := List.length_map ..
    rw [List.length_cons, hdl] at hn ⊢
    rw [List.map_cons, deN_deepL, List.cons_append] at hl
    have h0 := here_line hl (List.cons_ne_nil _ _) (wo_list (lits_wo (by simp)) (wo_list (nm_wo h1) (wo_list (nm_wo h2) wo_nil)))
    rw [deed_pull h0 (by omega) rfl (name_yes h1) (name_yes h2)]
    unfold plB
    rw [block_back ds h3 (drop_at hl).2 hs (by omega) (by omega) (by omega) (by omega)]
    dsimp only
    rw [show i + 1 + (Dd.liness ds).length = i + ((Dd.liness ds).length + 1) by omega, show k + 1 + Dd.nums ds = k + (Dd.nums ds + 1) by omega]
  | .iff f x y, h, n, d, e, i, k, r, hl, hs, hk, hd, hn => by
    obtain ⟨n, rfl⟩ : ∃ m, n = m + 1 := ⟨n - 1, by omega⟩
    rw [Dd.Tx] at h
    obtain ⟨h1, h2, h3⟩ := h
    rw [Dd.lines] at hl hn ⊢
    rw [Dd.num] at hk ⊢
    rw [Dd.depth] at hd
    have hdx : (deepL (Dd.liness x)).length = (Dd.liness x).length := List.length_map ..
    have hdy : (deepL (Dd.liness y)).length = (Dd.liness y).length := List.length_map ..
    rw [List.length_cons, List.length_append, List.length_cons, hdx, hdy] at hn ⊢
    rw [List.map_cons, List.map_append, List.map_cons, deN_deepL, deN_deepL, List.cons_append, List.append_assoc, List.cons_append] at hl
    have h0 := here_line hl (List.cons_ne_nil _ _) (wo_list (lits_wo (by simp)) (words_wo h1.1))
    rw [deed_if h0 (by omega) rfl, cond_words h1]
    unfold chB
    dsimp only
    have hl2 := (drop_at hl).2
    have hel : deN d (Str.ofString "else") = deN d (wln [Str.ofString "else"]) := by rw [wln_one]
    have hst : Stp (d + 1) (deN d (Str.ofString "else") :: ((Dd.liness y).map (deN (d + 1)) ++ r)) := by
      rw [hel]
      exact Stp.line (wln_hed (lits_wo (by simp)) (lits_ne (by simp))) (Nat.lt_succ_self d)
    rw [block_back x h2 hl2 hst (by omega) (by omega) (by omega) (by omega)]
    dsimp only
    have hl3 := drop_app hl2
    rw [List.length_map] at hl3
    have he : hereM ls (i + 1 + (Dd.liness x).length) d = [Str.ofString "else"] := by
      rw [hel] at hl3
      exact here_line hl3 (List.cons_ne_nil _ _) (wo_list (lits_wo (by simp)) wo_nil)
    rw [if_pos he, block_back y h3 (drop_at hl3).2 hs (by omega) (by omega) (by omega) (by omega)]
    dsimp only
    rw [show i + 1 + (Dd.liness x).length + 1 + (Dd.liness y).length = i + ((Dd.liness x).length + ((Dd.liness y).length + 1) + 1) by omega, show k + 1 + Dd.nums x + Dd.nums y = k + (Dd.nums x + Dd.nums y + 1) by omega]
theorem block_back {ls : List Str} : ∀ (ds : List Dd), Dd.Txs ds → ∀ {n d e i k : Nat} {r : List Str}, ls.drop i = (Dd.liness ds).map (deN d) ++ r → Stp d r → k + Dd.nums ds ≤ 20 → Dd.depths ds ≤ 2 * (6 - e) → e ≤ 6 → 2 * (Dd.liness ds).length + 2 ≤ n → blockB ls n d e i k = .ok (ds, i + (Dd.liness ds).length, k + Dd.nums ds)
  | [], _, n, d, e, i, k, r, hl, hs, hk, hd, he, hn => by
    obtain ⟨n, rfl⟩ : ∃ m, n = m + 2 := ⟨n - 2, by omega⟩
    rw [Dd.liness] at hl ⊢
    rw [Dd.nums]
    by_cases h5 : 5 < e
    · rw [block_deep h5]
      rfl
    · rw [block_step (by omega), deed_nil (.inl (here_stop hl hs))]
      rfl
  | x :: ds, h, n, d, e, i, k, r, hl, hs, hk, hd, he, hn => by
    obtain ⟨n, rfl⟩ : ∃ m, n = m + 2 := ⟨n - 2, by omega⟩
    rw [Dd.Txs] at h
    rw [Dd.liness] at hl hn ⊢
    rw [Dd.nums] at hk ⊢
    rw [Dd.depths] at hd
    rw [List.map_append, List.append_assoc] at hl
    rw [List.length_append] at hn ⊢
    have hx1 : 1 ≤ x.lines.length := lines_pos x
    have hst : Stp (d + 1) ((Dd.liness ds).map (deN d) ++ r) := by
      cases ds with
      | nil => rw [Dd.liness]; exact hs.up (Nat.le_succ d)
      | cons y ds =>
        rw [Dd.Txs] at h
        obtain ⟨z, t, e1, e2⟩ := lines_hed y h.2.1
        rw [Dd.liness, e1]
        exact Stp.line e2 (Nat.lt_succ_self d)
    rw [block_step (by omega), deed_back x h.1 hl hst (by omega) (by omega) (by omega)]
    dsimp only
    have hl2 := drop_app hl
    rw [List.length_map] at hl2
    rw [block_back ds h.2 hl2 hs (by omega) (by omega) he (by omega)]
    dsimp only
    rw [Nat.add_assoc, Nat.add_assoc]
end
end Mo
namespace Mo
open PySem PySem.Spec PyProof.Rows L2
/-! ### machines read back; their text -/
def boxLn (b : Str × Int) : Str := wln [Str.ofString "box", b.1, intT b.2]
def queueLn (q : Str) : Str := wln [Str.ofString "queue", q]
def drawLn (ds : List Int) : List Str := if ds = [] then [] else [wln (Str.ofString "draws" :: ds.map intT)]
theorem body_eq (m : Mach) : m.body = m.boxes.map boxLn ++ (m.queues.map queueLn ++ (drawLn m.draws ++ (m.hears.map hearL).flatten)) := by
  show ((m.boxes.map boxLn ++ m.queues.map queueLn) ++ drawLn m.draws) ++ (m.hears.map hearL).flatten = _
  rw [List.append_assoc, List.append_assoc]
theorem worth_nat {n : Int} (h : Worth n) : n.natAbs < 10 ^ 20 := by
  obtain ⟨h1, h2⟩ := h
  omega
theorem worthB_int {n : Int} (h : Worth n) : worthB (intT n) = some n := int_within h.1 h.2 (worth_nat h)
theorem drawB_int {n : Int} (h : 0 ≤ n ∧ n ≤ 1000000000000000) : drawB (intT n) = some n := int_within h.1 h.2 (by omega)
theorem mapM_ints : ∀ {ds : List Int}, (∀ d ∈ ds, 0 ≤ d ∧ d ≤ 1000000000000000) → (ds.map intT).mapM drawB = some ds
  | [], _ => by rw [List.map_nil, List.mapM_nil]; rfl
  | d :: ds, h => by
    rw [List.map_cons, mapM_cons', drawB_int (h d List.mem_cons_self), mapM_ints fun e he => h e (List.mem_cons_of_mem _ he)]
/-- the first word that stands here, if any, is one of these -/
def Fw (ls : List Str) (j : Nat) (P : List Str) : Prop := ∀ w ws, hereM ls j 1 = w :: ws → w ∈ P
section
variable {ls : List Str}
theorem Fw.line {j : Nat} {P : List Str} {w : Str} {ws t : List Str} (h : ls.drop j = deN 1 (wln (w :: ws)) :: t) (hw : ∀ p ∈ w :: ws, Wo p) (hP : w ∈ P) : Fw ls j P := fun w' ws' e => by
  rw [here_line h (List.cons_ne_nil _ _) hw] at e
  rw [← (List.cons.inj e).1]
  exact hP
theorem Fw.stop {j : Nat} {P r : List Str} (h : ls.drop j = r) (hs : Stp 1 r) : Fw ls j P := fun w ws e => by
  rw [here_stop h hs] at e
  cases e
theorem Fw.mono {j : Nat} {P P' : List Str} (h : Fw ls j P) (k : ∀ w ∈ P, w ∈ P') : Fw ls j P' := fun w ws e => k w (h w ws e)
theorem box_wo {b : Str × Int} (h : NameOk b.1) : ∀ p ∈ [Str.ofString "box", b.1, intT b.2], Wo p := wo_list (lits_wo (by simp)) (wo_list (nm_wo h) (wo_list (int_wo _) wo_nil))
theorem two_wo {w q : Str} (hw : w ∈ (["put", "push", "draw", "pull", "send", "if", "else", "end", "box", "queue", "draws", "on", "machine"] : List Str)) (h : NameOk q) : ∀ p ∈ [w, q], Wo p := wo_list (lits_wo hw) (wo_list (nm_wo h) wo_nil)
theorem boxes_back {r : List Str} : ∀ {bs acc : List (Str × Int)} {i n : Nat}, ls.drop i = (bs.map boxLn).map (deN 1) ++ r → (∀ w ∈ ([Str.ofString "box"] : List Str), ∀ ws, hereM ls (i + bs.length) 1 ≠ w :: ws) → bs.length ≤ n → (∀ b ∈ bs, NameOk b.1 ∧ Worth b.2) → (acc.map (·.1) ++ bs.map (·.1)).Nodup → boxesM nameB worthB ls n i acc = (acc ++ bs, i + bs.length)
  | [], acc, i, n, h, hf, hn, hb, hd => by
    rw [boxes_no, List.append_nil]
    · rfl
    · intro w b x e h1
      rw [h1] at e
      exact absurd e (hf _ (List.mem_singleton.mpr rfl) _)
  | b :: bs, acc, i, n, h, hf, hn, hb, hd => by
    rw [List.length_cons] at hn hf ⊢
    obtain ⟨n, rfl⟩ : ∃ m, n = m + 1 := ⟨n - 1, by omega⟩
    rw [List.map_cons, List.map_cons, List.cons_append] at h
    have hb1 := hb b List.mem_cons_self
    have h0 := here_line h (List.cons_ne_nil _ _) (box_wo hb1.1)
    have hni : b.1 ∉ acc.map (·.1) := fun hm => by
      have := (List.nodup_append.mp hd).2.2 b.1 hm b.1 (List.mem_map_of_mem List.mem_cons_self)
      exact this rfl
    rw [boxes_yes h0 rfl (name_yes hb1.1) hni (worthB_int hb1.2), boxes_back (drop_at h).2 (by rw [show i + 1 + bs.length = i + (bs.length + 1) by omega]; exact hf) (by omega) (fun c hc => hb c (List.mem_cons_of_mem _ hc)) (by
      rw [List.map_append, List.append_assoc]
      exact hd), List.append_assoc, show i + 1 + bs.length = i + (bs.length + 1) by omega]
    rfl
theorem queues_back {r us : List Str} : ∀ {qs acc : List Str} {i n : Nat}, ls.drop i = (qs.map queueLn).map (deN 1) ++ r → (∀ w ∈ ([Str.ofString "queue"] : List Str), ∀ ws, hereM ls (i + qs.length) 1 ≠ w :: ws) → qs.length ≤ n → (∀ q ∈ qs, NameOk q) → ((us ++ acc) ++ qs).Nodup → queuesM nameB ls us n i acc = (acc ++ qs, i + qs.length)
  | [], acc, i, n, h, hf, hn, hb, hd => by
    rw [queues_no, List.append_nil]
    · rfl
    · refine named_no fun a b e h1 => ?_
      rw [h1.1] at e
      exact absurd e (hf _ (List.mem_singleton.mpr rfl) _)
  | q :: qs, acc, i, n, h, hf, hn, hb, hd => by
    rw [List.length_cons] at hn hf ⊢
    obtain ⟨n, rfl⟩ : ∃ m, n = m + 1 := ⟨n - 1, by omega⟩
    rw [List.map_cons, List.map_cons, List.cons_append] at h
    have hb1 := hb q List.mem_cons_self
    have h0 := here_line h (List.cons_ne_nil _ _) (two_wo (by simp) hb1)
    have hni : q ∉ us ++ acc := fun hm => (List.nodup_append.mp hd).2.2 q hm q List.mem_cons_self rfl
    rw [queues_yes (named_yes h0 ⟨rfl, name_yes hb1, hni⟩), queues_back (drop_at h).2 (by rw [show i + 1 + qs.length = i + (qs.length + 1) by omega]; exact hf) (by omega) (fun c hc => hb c (List.mem_cons_of_mem _ hc)) (by
      rw [← List.append_assoc, List.append_assoc]
      exact hd), List.append_assoc, show i + 1 + qs.length = i + (qs.length + 1) by omega]
    rfl
theorem draws_back {r : List Str} {ds : List Int} {i : Nat} (h : ls.drop i = (drawLn ds).map (deN 1) ++ r) (hf : ds = [] → ∀ ws, hereM ls i 1 ≠ Str.ofString "draws" :: ws) (hn : ds.length ≤ 20) (hd : ∀ d ∈ ds, 0 ≤ d ∧ d ≤ 1000000000000000) : drawsM drawB ls i = (ds, i + (drawLn ds).length) := by
  unfold drawLn at h ⊢
  cases ds with
  | nil =>
    unfold drawsM
    split
    · rename_i w x r e
      rw [if_neg]
      · rfl
      · intro hc
        rw [hc.1] at e
        exact hf rfl _ e
    · rfl
  | cons d ds =>
    rw [if_neg (List.cons_ne_nil _ _)] at h ⊢
    rw [List.map_singleton, List.singleton_append] at h
    have h0 := here_line h (List.cons_ne_nil _ _) (wo_list (lits_wo (by simp)) (fun p hp => by obtain ⟨n, _, rfl⟩ := List.mem_map.mp hp; exact int_wo n))
    unfold drawsM
    rw [h0]
    rw [List.map_cons]
    dsimp only
    rw [if_pos ⟨rfl, by rw [List.length_map]; rw [List.length_cons] at hn; omega⟩, ← List.map_cons, mapM_ints hd]
    rfl
theorem hears_back {F : Nat} {r : List Str} (hs : Stp 1 r) : ∀ {ps acc : List (Str × List Dd)} {i n : Nat}, ls.drop i = ((ps.map hearL).flatten).map (deN 1) ++ r → ps.length ≤ n → (∀ p ∈ ps, NameOk p.1 ∧ Dd.Txs p.2 ∧ Dd.nums p.2 ≤ 20 ∧ Dd.depths p.2 ≤ 10) → (acc.map (·.1) ++ ps.map (·.1)).Nodup → 2 * ls.length + 2 ≤ F → hearsB ls F n i acc = .ok (acc ++ ps, i + ((ps.map hearL).flatten).length)
  | [], acc, i, n, h, hn, hb, hd, hF => by
    rw [hears_no, List.append_nil]
    · rfl
    · refine named_no fun a b e _ => ?_
      rw [here_stop h hs] at e
      cases e
  | p :: ps, acc, i, n, h, hn, hb, hd, hF => by
    rw [List.length_cons] at hn
    obtain ⟨n, rfl⟩ : ∃ m, n = m + 1 := ⟨n - 1, by omega⟩
    obtain ⟨h1, h2, h3, h4⟩ := hb p List.mem_cons_self
    rw [List.map_cons, List.flatten_cons, List.map_append, List.append_assoc] at h
    rw [List.map_cons, List.flatten_cons, List.length_append]
    have hll : (hearL p).length = (Dd.liness p.2).length + 1 := by unfold hearL deepL; rw [List.length_cons, List.length_map]
    have hlen := congrArg List.length h
    rw [List.length_drop, List.length_append, List.length_map, hll] at hlen
    have h' : ls.drop i = deN 1 (wln [Str.ofString "on", p.1]) :: ((Dd.liness p.2).map (deN 2) ++ ((((ps.map hearL).flatten).map (deN 1)) ++ r)) := by
      rw [h]
      unfold hearL
      rw [List.map_cons, deN_deepL]
      rfl
    have h0 := here_line h' (List.cons_ne_nil _ _) (two_wo (by simp) h1)
    have hni : p.1 ∉ acc.map (·.1) := fun hm => (List.nodup_append.mp hd).2.2 p.1 hm p.1 (List.mem_map_of_mem List.mem_cons_self) rfl
    have hst : Stp 2 ((((ps.map hearL).flatten).map (deN 1)) ++ r) := by
      cases ps with
      | nil => exact hs.up (by decide)
      | cons q ps =>
        have e : ((((q :: ps).map hearL).flatten).map (deN 1)) ++ r = deN 1 (wln [Str.ofString "on", q.1]) :: ((deepL (Dd.liness q.2)).map (deN 1) ++ ((((ps.map hearL).flatten).map (deN 1)) ++ r)) := by
          rw [List.map_cons, List.flatten_cons, List.map_append, List.append_assoc]
          unfold hearL
          rw [List.map_cons]
          rfl
        rw [e]
        exact Stp.line (wln_hed (w := Str.ofString "on") (ws := [q.1]) (lits_wo (by simp)) (lits_ne (by simp))) (by decide)
    rw [hears_step (named_yes h0 ⟨rfl, name_yes h1, hni⟩), block_back p.2 h2 (drop_at h').2 hst (by omega) (by omega) (by omega) (by omega)]
    dsimp only
    have h3' := drop_app (drop_at h').2
    rw [List.length_map] at h3'
    rw [hears_back hs h3' (by omega) (fun c hc => hb c (List.mem_cons_of_mem _ hc)) (by
      rw [List.map_append, List.append_assoc]
      exact hd) hF, List.append_assoc, hll, show i + 1 + (Dd.liness p.2).length + ((ps.map hearL).flatten).length = i + ((Dd.liness p.2).length + 1 + ((ps.map hearL).flatten).length) by omega]
    rfl
theorem map_deN0 (l : List Str) : l.map (deN 0) = l := by
  have : deN 0 = id := funext fun y => rfl
  rw [this, List.map_id]
theorem lits_r : (Str.ofString "box" ∉ [Str.ofString "queue", Str.ofString "draws", Str.ofString "on"]) ∧ (Str.ofString "queue" ∉ [Str.ofString "draws", Str.ofString "on"]) ∧ (Str.ofString "draws" ∉ [Str.ofString "on"]) := by decide +kernel
theorem mach_fw {m : Mach} (hm : m.Tx) {r : List Str} (hs : Stp 1 r) : (∀ j, ls.drop j = ((m.hears.map hearL).flatten).map (deN 1) ++ r → Fw ls j [Str.ofString "on"]) ∧ (∀ j, ls.drop j = (drawLn m.draws).map (deN 1) ++ (((m.hears.map hearL).flatten).map (deN 1) ++ r) → Fw ls j [Str.ofString "draws", Str.ofString "on"]) ∧
    ∀ j, ls.drop j = (m.queues.map queueLn).map (deN 1) ++ ((drawLn m.draws).map (deN 1) ++ (((m.hears.map hearL).flatten).map (deN 1) ++ r)) → Fw ls j [Str.ofString "queue", Str.ofString "draws", Str.ofString "on"] := by
  have k1 : ∀ j, ls.drop j = ((m.hears.map hearL).flatten).map (deN 1) ++ r → Fw ls j [Str.ofString "on"] := fun j h => by
    cases e : m.hears with
    | nil =>
      rw [e] at h
      exact Fw.stop h hs
    | cons p ps =>
      have hp := hm.h p (by rw [e]; exact List.mem_cons_self)
      rw [e, List.map_cons, List.flatten_cons] at h
      unfold hearL at h
      rw [List.cons_append, List.map_cons, List.cons_append] at h
      exact Fw.line h (two_wo (by simp) hp.1) (by simp)
  have k2 : ∀ j, ls.drop j = (drawLn m.draws).map (deN 1) ++ (((m.hears.map hearL).flatten).map (deN 1) ++ r) → Fw ls j [Str.ofString "draws", Str.ofString "on"] := fun j h => by
    unfold drawLn at h
    split at h
    · exact (k1 j h).mono (by simp)
    · rw [List.map_singleton, List.singleton_append] at h
      exact Fw.line h (wo_list (lits_wo (by simp)) (fun p hp => by obtain ⟨n, _, rfl⟩ := List.mem_map.mp hp; exact int_wo n)) (by simp)
  refine ⟨k1, k2, fun j h => ?_⟩
  cases e : m.queues with
  | nil =>
    rw [e] at h
    exact (k2 j h).mono (by simp)
  | cons q qs =>
    have hp := hm.q q (by rw [e]; exact List.mem_cons_self)
    rw [e, List.map_cons, List.map_cons, List.cons_append] at h
    exact Fw.line h (two_wo (by simp) hp) (by simp)
theorem mach_back {F n i : Nat} {m : Mach} {acc : List Mach} {r : List Str} (hm : m.Tx) (hu : m.Un) (h : ls.drop i = m.lines ++ r) (hs : Stp 1 r) (hni : m.name ∉ acc.map Mach.name) (hF : 2 * ls.length + 2 ≤ F) : machsB ls F (n + 1) i acc = machsB ls F n (i + m.lines.length) (acc ++ [m]) := by
  have h' : ls.drop i = deN 0 (wln [Str.ofString "machine", m.name]) :: (m.body.map (deN 1) ++ r) := by
    rw [h]
    unfold Mach.lines
    rw [← deN_deepL 0, map_deN0]
    rfl
  have h0 := here_line h' (List.cons_ne_nil _ _) (two_wo (by simp) hm.name)
  have hb := (drop_at h').2
  have hbl := body_eq m
  rw [hbl, List.map_append, List.map_append, List.map_append, List.append_assoc, List.append_assoc, List.append_assoc] at hb
  obtain ⟨k1, k2, k3⟩ := mach_fw (ls := ls) hm hs
  obtain ⟨l1, l2, l3⟩ := lits_r
  have hb2 := drop_app hb
  rw [List.length_map, List.length_map] at hb2
  have hb3 := drop_app hb2
  rw [List.length_map, List.length_map] at hb3
  have hb4 := drop_app hb3
  rw [List.length_map] at hb4
  have g1 := boxes_back (acc := []) (n := 6) hb (fun w hw ws e => by rw [List.mem_singleton.mp hw] at e; exact l1 (k3 _ hb2 _ _ e)) hm.bl hm.b (by
    have := (List.nodup_append.mp hu.bq).1
    exact this)
  have g2 := queues_back (us := m.boxes.map (·.1)) (acc := []) (n := 3) hb2 (fun w hw ws e => by rw [List.mem_singleton.mp hw] at e; exact l2 (k2 _ hb3 _ _ e)) hm.ql hm.q (by rw [List.append_nil]; exact hu.bq)
  have g3 := draws_back hb3 (fun e ws e2 => by
    refine l3 (k1 _ ?_ _ _ e2)
    rw [e] at hb3
    exact hb3) hm.dl hm.d
  have g4 := hears_back (F := F) hs (acc := []) (n := 4) hb4 hm.hl hm.h (by exact hu.h) hF
  rw [List.nil_append] at g1 g2 g4
  rw [machs_step (named_yes h0 ⟨rfl, name_yes hm.name, hni⟩) g1 g2 g3, g4]
  dsimp only
  have hln : m.lines.length = m.boxes.length + (m.queues.length + ((drawLn m.draws).length + ((m.hears.map hearL).flatten).length)) + 1 := by
    unfold Mach.lines deepL
    rw [List.length_cons, List.length_map, hbl, List.length_append, List.length_append, List.length_append, List.length_map, List.length_map]
  rw [hln, show i + 1 + m.boxes.length + m.queues.length + (drawLn m.draws).length + ((m.hears.map hearL).flatten).length = i + (m.boxes.length + (m.queues.length + ((drawLn m.draws).length + ((m.hears.map hearL).flatten).length)) + 1) by omega]
theorem machsL_stp : ∀ {ms : List Mach}, Stp 1 (machsL ms)
  | [] => Stp.nil
  | m :: ms => by
    show Stp 1 (m.lines ++ machsL ms)
    unfold Mach.lines
    exact Stp.line (d := 0) (wln_hed (w := Str.ofString "machine") (ws := [m.name]) (lits_wo (by simp)) (lits_ne (by simp))) (by decide)
theorem machs_back {F : Nat} : ∀ {ms acc : List Mach} {i n : Nat}, ls.drop i = machsL ms → (∀ m ∈ ms, m.Tx ∧ m.Un) → (acc.map Mach.name ++ ms.map Mach.name).Nodup → ms.length ≤ n → 2 * ls.length + 2 ≤ F → machsB ls F n i acc = .ok (acc ++ ms, i + (machsL ms).length)
  | [], acc, i, n, h, hm, hd, hn, hF => by
    rw [machs_no, List.append_nil]
    · rfl
    · refine named_no fun a b e _ => ?_
      rw [here_stop h Stp.nil] at e
      cases e
  | m :: ms, acc, i, n, h, hm, hd, hn, hF => by
    rw [List.length_cons] at hn
    obtain ⟨n, rfl⟩ : ∃ k, n = k + 1 := ⟨n - 1, by omega⟩
    obtain ⟨h1, h2⟩ := hm m List.mem_cons_self
    have h' : ls.drop i = m.lines ++ machsL ms := h
    have hni : m.name ∉ acc.map Mach.name := fun hk => (List.nodup_append.mp hd).2.2 m.name hk m.name (List.mem_map_of_mem List.mem_cons_self) rfl
    rw [mach_back h1 h2 h' machsL_stp hni hF, machs_back (drop_app h') (fun c hc => hm c (List.mem_cons_of_mem _ hc)) (by
      rw [List.map_append, List.append_assoc]
      exact hd) (by omega) hF, List.append_assoc]
    have hl : (machsL (m :: ms)).length = m.lines.length + (machsL ms).length := by
      show (m.lines ++ machsL ms).length = _
      rw [List.length_append]
    rw [hl, Nat.add_assoc]
    rfl
end
theorem model_back {ms : List Mach} {F : Nat} (hm : ∀ m ∈ ms, m.Tx ∧ m.Un) (hd : (ms.map Mach.name).Nodup) (h6 : ms.length ≤ 6) (h0 : ms ≠ []) (hF : 2 * (machsL ms).length + 2 ≤ F) : modelB (machsL ms) F = .ok ms := by
  rw [model_eq, machs_back (ls := machsL ms) (acc := []) (i := 0) rfl hm hd h6 hF]
  dsimp only
  rw [List.nil_append, if_neg]
  rintro (h | h)
  · cases ms with
    | nil => exact h0 rfl
    | cons m ms => cases h
  · omega
/-! #### signs of the text -/
theorem deepL_pr {ls : List Str} (h : ∀ y ∈ ls, Pr y) : ∀ y ∈ deepL ls, Pr y := fun y hy => by
  obtain ⟨z, hz, rfl⟩ := List.mem_map.mp hy
  exact deN_pr (d := 1) (h z hz)
mutual
theorem dlines_pr : ∀ {x : Dd}, x.Tx → ∀ y ∈ x.lines, Pr y
  | .put b f, h, y, hy => by
    rw [Dd.Tx] at h
    rw [Dd.lines] at hy
    rw [List.mem_singleton.mp hy]
    exact wln_pr (wo_list (lits_wo (by simp)) (wo_list (nm_wo h.1) (words_wo h.2.1)))
  | .push b f, h, y, hy => by
    rw [Dd.Tx] at h
    rw [Dd.lines] at hy
    rw [List.mem_singleton.mp hy]
    exact wln_pr (wo_list (lits_wo (by simp)) (wo_list (nm_wo h.1) (words_wo h.2.1)))
  | .draw b f, h, y, hy => by
    rw [Dd.Tx] at h
    rw [Dd.lines] at hy
    rw [List.mem_singleton.mp hy]
    exact wln_pr (wo_list (lits_wo (by simp)) (wo_list (nm_wo h.1) (words_wo h.2.1)))
  | .fin, h, y, hy => by
    rw [Dd.lines] at hy
    rw [List.mem_singleton.mp hy]
    exact (lits_wo (y := Str.ofString "end") (by simp)).pr
  | .send to s a rank b c, h, y, hy => by
    rw [Dd.Tx] at h
    obtain ⟨h1, h2, h3, h4, h5, h6⟩ := h
    rw [Dd.lines] at hy
    rw [List.mem_singleton.mp hy]
    exact wln_pr (wo_list (lits_wo (by simp)) (wo_list (int_wo _) (wo_list (nm_wo h2) (wo_list (int_wo _) (wo_app (words_wo h4.1) (wo_app (words_wo h5.1) (words_wo h6.1)))))))
  | .pull q b ds, h, y, hy => by
    rw [Dd.Tx] at h
    obtain ⟨h1, h2, h3⟩ := h
    rw [Dd.lines] at hy
    rcases List.mem_cons.mp hy with rfl | hy
    · exact wln_pr (wo_list (lits_wo (by simp)) (wo_list (nm_wo h1) (wo_list (nm_wo h2) wo_nil)))
    · exact deepL_pr (dsliness_pr h3) y hy
  | .iff f a c, h, y, hy => by
    rw [Dd.Tx] at h
    obtain ⟨h1, h2, h3⟩ := h
    rw [Dd.lines] at hy
    rcases List.mem_cons.mp hy with rfl | hy
    · exact wln_pr (wo_list (lits_wo (by simp)) (words_wo h1.1))
    · rcases List.mem_append.mp hy with hy | hy
      · exact deepL_pr (dsliness_pr h2) y hy
      · rcases List.mem_cons.mp hy with rfl | hy
        · exact (lits_wo (y := Str.ofString "else") (by simp)).pr
        · exact deepL_pr (dsliness_pr h3) y hy
theorem dsliness_pr : ∀ {ds : List Dd}, Dd.Txs ds → ∀ y ∈ Dd.liness ds, Pr y
  | [], _, y, hy => by rw [Dd.liness] at hy; exact nomatch hy
  | d :: ds, h, y, hy => by
    rw [Dd.Txs] at h
    rw [Dd.liness] at hy
    rcases List.mem_append.mp hy with hy | hy
    · exact dlines_pr h.1 y hy
    · exact dsliness_pr h.2 y hy
end
theorem mlines_pr {m : Mach} (h : m.Tx) : ∀ y ∈ m.lines, Pr y := fun y hy => by
  unfold Mach.lines at hy
  rcases List.mem_cons.mp hy with rfl | hy
  · exact wln_pr (two_wo (by simp) h.name)
  · refine deepL_pr (fun z hz => ?_) y hy
    rw [body_eq] at hz
    rcases List.mem_append.mp hz with hz | hz
    · obtain ⟨b, hb, rfl⟩ := List.mem_map.mp hz
      exact wln_pr (box_wo (h.b b hb).1)
    rcases List.mem_append.mp hz with hz | hz
    · obtain ⟨b, hb, rfl⟩ := List.mem_map.mp hz
      exact wln_pr (two_wo (by simp) (h.q b hb))
    rcases List.mem_append.mp hz with hz | hz
    · unfold drawLn at hz
      split at hz
      · exact nomatch hz
      · rw [List.mem_singleton.mp hz]
        exact wln_pr (wo_list (lits_wo (by simp)) (fun p hp => by obtain ⟨n, _, rfl⟩ := List.mem_map.mp hp; exact int_wo n))
    · obtain ⟨l, hl, hz⟩ := List.mem_flatten.mp hz
      obtain ⟨p, hp, rfl⟩ := List.mem_map.mp hl
      have hk := h.h p hp
      unfold hearL at hz
      rcases List.mem_cons.mp hz with rfl | hz
      · exact wln_pr (two_wo (by simp) hk.1)
      · exact deepL_pr (dsliness_pr hk.2.1) z hz
theorem machs_pr {ms : List Mach} (h : ∀ m ∈ ms, m.Tx) : ∀ y ∈ machsL ms, Pr y := fun y hy => by
  obtain ⟨l, hl, hy⟩ := List.mem_flatten.mp hy
  obtain ⟨m, hm, rfl⟩ := List.mem_map.mp hl
  exact mlines_pr (h m hm) y hy
theorem joinT_sok {ls : List Str} (h : ∀ y ∈ ls, Pr y) : SOk (Txt.join nl ls) := sok_tl.mpr fun c hc => by
  apply Classical.byContradiction
  intro k
  refine join_free (y := nl) (ls := ls) (c := c) ?_ (fun x hx m => ?_) hc
  · intro m
    have e : TL.tl nl = [10] := by decide +kernel
    rw [e] at m
    rw [List.mem_singleton.mp m] at k
    omega
  · have := h x hx c m
    omega
theorem machsL_ne {ms : List Mach} : machsL ms ≠ [Str.ofString ""] := fun e => by
  cases ms with
  | nil => cases e
  | cons m ms =>
    have e : m.lines ++ machsL ms = [Str.ofString ""] := e
    unfold Mach.lines at e
    rw [List.cons_append] at e
    have e1 := (List.cons.inj e).1
    obtain ⟨c, r, h, _⟩ := wln_hed (w := Str.ofString "machine") (ws := [m.name]) (lits_wo (by simp)) (lits_ne (by simp))
    rw [e1] at h
    have e0 : TL.tl (Str.ofString "") = [] := by decide +kernel
    rw [e0] at h
    cases h
theorem lines_modelT {ms : List Mach} (h : ∀ m ∈ ms, m.Tx) : linesB (modelT ms) = machsL ms := linesB_join machsL_ne fun x hx => (machs_pr h x hx).free
theorem read_modelT {ms : List Mach} {F : Nat} (hm : ∀ m ∈ ms, m.Tx ∧ m.Un) (hd : (ms.map Mach.name).Nodup) (h6 : ms.length ≤ 6) (h0 : ms ≠ []) (hF : 2 * (machsL ms).length + 2 ≤ F) : modelB (linesB (modelT ms)) F = .ok ms := by
  rw [lines_modelT fun m h => (hm m h).1]
  exact model_back hm hd h6 h0 hF
end Mo
namespace Mo
open PySem PySem.Spec PyProof.Rows L2
/-! ### law_k76: the rows of lines, tried -/
def s76 (x : String) : Str := Str.ofString x
def rep76 (x : Str) (n : Nat) : List Str := List.replicate n x
def abc76 : List Str := ["a", "b", "c", "d", "e", "f", "g", "h", "i", "j"]
def nam76 (a : Str) (n : Nat) : List Str := (abc76.take n).map fun c => a ++ c
def boxes76 (n : Nat) : List Str × Nat := (s76 "machine m" :: (nam76 (s76 "  box ") n).map (fun x => x ++ s76 " 1"), if n > 6 then 8 else 0)
def queues76 (n : Nat) : List Str × Nat := (s76 "machine m" :: nam76 (s76 "  queue ") n, if n > 3 then 5 else 0)
def draws76 (n : Nat) : List Str × Nat := ([s76 "machine m", s76 "  draws" ++ Txt.mul (s76 " 7") (n : Int)], if n > 20 then 2 else 0)
def signs76 (n : Nat) : List Str × Nat := (s76 "machine m" :: nam76 (s76 "  on ") n, if n > 4 then 6 else 0)
def deedsA76 (n : Nat) : List Str × Nat := ([s76 "machine m", s76 "  box a 0", s76 "  on t"] ++ rep76 (s76 "    put a 1") n, if n > 20 then 24 else 0)
def deedsB76 (n k : Nat) : List Str × Nat := ([s76 "machine m", s76 "  box a 0", s76 "  on t"] ++ [s76 "    if 1"] ++ rep76 (s76 "      end") k ++ [s76 "    else"] ++ rep76 (s76 "      put a + 1 .a") 2 ++ rep76 (s76 "    end") (n - k - 3), if n > 20 then 25 else 0)
def deep76 (n : Nat) : List Str × Nat := ([s76 "machine m", s76 "  on t"] ++ (List.range n).map (fun k : Nat => s76 "    " ++ Txt.mul (s76 "  ") (k : Int) ++ s76 "pull q b"), if n > 5 then 8 else 0)
def form76 (n : Nat) : Str := Txt.mul (s76 "+ 1 ") (n : Int) ++ s76 "1"
def parts76 (n w : Nat) : List Str × Nat := ([s76 "machine m", s76 "  on t"] ++ (if w = 0 then [s76 "    put a " ++ form76 n] else if w = 1 then [s76 "    if " ++ form76 n, s76 "    else"] else [s76 "    send 0 t 9 1 " ++ form76 n ++ s76 " " ++ form76 n]), if 2 * n + 1 > 15 then 3 else 0)
def machines76 (n : Nat) : List Str × Nat := (nam76 (s76 "machine ") n, if n > 6 then 7 else 0)
/-- read to a model whose lines are these, or refused at this line -/
def good76 (r : List Str × Nat) : Bool := (match modelB r.1 200 with
  | .ok ms => r.2 == 0 && decide (machsL ms = r.1)
  | .error n => r.2 != 0 && n == r.2) && (decide (r.1.length ≤ 40) && (r.1.all (fun x => decide ((TL.tl x).length ≤ 400) && (TL.tl x).all fun c => decide (32 ≤ c) && decide (c < 1000)) && decide (r.1 ≠ [Str.ofString ""])))
theorem good76_of {r : List Str × Nat} (h : good76 r = true) : ((∃ ms, modelB r.1 200 = .ok ms ∧ r.2 = 0 ∧ machsL ms = r.1) ∨ (r.2 ≠ 0 ∧ modelB r.1 200 = .error r.2)) ∧ r.1.length ≤ 40 ∧ (∀ x ∈ r.1, (TL.tl x).length ≤ 400 ∧ Pr x) ∧ r.1 ≠ [Str.ofString ""] := by
  unfold good76 at h
  rw [Bool.and_eq_true, Bool.and_eq_true, Bool.and_eq_true] at h
  obtain ⟨h1, h2, h3, h4⟩ := h
  refine ⟨?_, of_decide_eq_true h2, fun x hx => ?_, of_decide_eq_true h4⟩
  · cases hm : modelB r.1 200 with
    | ok ms =>
      rw [hm] at h1
      dsimp only at h1
      rw [Bool.and_eq_true] at h1
      exact .inl ⟨ms, rfl, beq_iff_eq.mp h1.1, of_decide_eq_true h1.2⟩
    | error n =>
      rw [hm] at h1
      dsimp only at h1
      rw [Bool.and_eq_true] at h1
      exact .inr ⟨fun e => by rw [e] at h1; exact absurd h1.1 (by decide), by rw [beq_iff_eq.mp h1.2]⟩
  · have h5 := List.all_eq_true.mp h3 x hx
    rw [Bool.and_eq_true] at h5
    refine ⟨of_decide_eq_true h5.1, fun c hc => ?_⟩
    have h6 := List.all_eq_true.mp h5.2 c hc
    rw [Bool.and_eq_true] at h6
    exact ⟨of_decide_eq_true h6.1, of_decide_eq_true h6.2⟩
theorem boxes76_ok : ∀ n : Fin 4, good76 (boxes76 (5 + n.val)) = true := by decide +kernel
theorem queues76_ok : ∀ n : Fin 3, good76 (queues76 (2 + n.val)) = true := by decide +kernel
theorem draws76_ok : ∀ n : Fin 3, good76 (draws76 (19 + n.val)) = true := by decide +kernel
theorem signs76_ok : ∀ n : Fin 3, good76 (signs76 (3 + n.val)) = true := by decide +kernel
theorem deedsA76_ok : ∀ n : Fin 4, good76 (deedsA76 (19 + n.val)) = true := by decide +kernel
theorem deep76_ok : ∀ n : Fin 4, good76 (deep76 (4 + n.val)) = true := by decide +kernel
theorem parts76_ok : ∀ n : Fin 4, ∀ w : Fin 3, good76 (parts76 (6 + n.val) w.val) = true := by decide +kernel
theorem machines76_ok : ∀ n : Fin 3, good76 (machines76 (5 + n.val)) = true := by decide +kernel
theorem deedsB76_ok : ∀ n : Fin 4, ∀ k : Fin 9, good76 (deedsB76 (19 + n.val) (1 + k.val)) = true := by decide +kernel
end Mo
namespace Mo
open PySem PySem.Spec PyProof.Rows L2
/-! ### a list so many times; texts of a told list joined -/
section
variable {K : PySem.W.Frag} {Γ : List Fc} {S : List Vo} {Q : VK}
theorem w_rep {p : Addr} {xs ys : List V} {j : Int} (n : Nat) (hj : j = (n : Int)) (m : AtH K Γ S p (.lst xs)) (hl : xs.length * n ≤ 100000) (hn : n ≤ 100000) (e : (List.replicate n xs).flatten = ys) (k : ∀ r, Wh K Γ (own r (.lst ys) :: S) fun H => Q (.ref r) H) : Wh K Γ S fun H => rRep (.ref p) (.int j) H Q := fun H z => by
  subst hj e
  refine ⟨p, (n : Int), xs, rfl, rfl, m H z, by omega, by omega, by rw [sizeLine_eq, Int.toNat_natCast]; omega, fun r hr => ?_⟩
  rw [Int.toNat_natCast]
  exact k r _ (z.new hr)
end
end Mo
namespace Mo
open PySem PySem.Spec PyProof.Rows L2
/-! ### law_k76: the rows of lines, made -/
def row76D (r : List Str × Nat) : PyData := .list [.list (r.1.map PyData.str), .int (r.2 : Int)]
def spRow76 (f : Nat → List Str × Nat) (b : Nat) (K : PySem.W.Frag) : Sp := SpF K (fun n : Nat => [.int (n : Int)]) (fun n _ => n ≤ b) (fun _ => []) (fun n v Γ' S' => ∃ p : Addr, v = .ref p ∧ Γ' = [.dat (.ref p) (row76D (f n))] ∧ S' = []) noEx
def spRow76B (f : Nat → Nat → List Str × Nat) (C : Nat → Nat → Prop) (K : PySem.W.Frag) : Sp := SpF K (fun n : Nat × Nat => [.int (n.1 : Int), .int (n.2 : Int)]) (fun n _ => C n.1 n.2) (fun _ => []) (fun n v Γ' S' => ∃ p : Addr, v = .ref p ∧ Γ' = [.dat (.ref p) (row76D (f n.1 n.2))] ∧ S' = []) noEx
def spNam76 (K : PySem.W.Frag) : Sp := SpF K (fun i : Str × Nat => [.str i.1, .int (i.2 : Int)]) (fun i _ => (TL.tl i.1).length ≤ 20 ∧ i.2 ≤ 10) (fun _ => []) (fun i v Γ' S' => ∃ p : Addr, v = .ref p ∧ Γ' = [] ∧ S' = [own p (.lst ((nam76 i.1 i.2).map V.str))]) noEx
theorem abc_at : ∀ k : Fin 10, ∃ c : Nat, atI (TL.tl (Str.ofString "abcdefghij")) (k.val : Int) = some c ∧ abc76[k.val]? = some (⟨#[c]⟩ : Str) := by
  intro k
  have : ∀ k : Fin 10, atI (TL.tl (Str.ofString "abcdefghij")) (k.val : Int) = some (97 + k.val) ∧ abc76[k.val]? = some (⟨#[97 + k.val]⟩ : Str) := by decide +kernel
  exact ⟨_, this k⟩
theorem nam76_succ {a : Str} {k c : Nat} (h : abc76[k]? = some (⟨#[c]⟩ : Str)) : nam76 a (k + 1) = nam76 a k ++ [a ++ (⟨#[c]⟩ : Str)] := by
  unfold nam76
  rw [List.take_add_one, h, Option.toList_some, List.map_append]
  rfl
theorem nam76_len {a : Str} {n : Nat} (h : n ≤ 10) : (nam76 a n).length = n := by
  unfold nam76
  rw [List.length_map, List.length_take]
  exact Nat.min_eq_left (by rw [show abc76.length = 10 from rfl]; exact h)
theorem nam76_ln {a : Str} {n : Nat} : ∀ x ∈ nam76 a n, (TL.tl x).length ≤ (TL.tl a).length + 1 := fun x hx => by
  obtain ⟨c, hc, rfl⟩ := List.mem_map.mp hx
  have q : ∀ c ∈ abc76, (TL.tl c).length = 1 := by decide +kernel
  rw [TL.tl_append, List.length_append, q c (List.mem_of_mem_take hc)]
  exact Nat.le_refl _
theorem w_row76 {K : PySem.W.Frag} {Γ : List Fc} {S R : List Vo} {Q : VK} {lp : Addr} {xs : List V} {j : Int} (r : List Str × Nat) (m : Take (own lp (.lst xs)) S R) (hx : xs = r.1.map V.str) (hj : j = (r.2 : Int)) (k : ∀ p, Wh K (.dat (.ref p) (row76D r) :: Γ) R fun H => Q (.ref p) H) : Wh K Γ S fun H => mkL [V.ref lp, .int j] H Q := by
  subst hx hj
  refine w_freeze (p := lp) (ds := r.1.map PyData.str) m DL.strs ?_
  refine w_lstO fun p => ?_
  refine w_freeze (p := p) (ds := [.list (r.1.map PyData.str), .int (r.2 : Int)]) (by k_extra "t") (DL.cons (DV.mem (by k_extra "m")) (DL.cons DV.int DL.nil)) ?_
  refine w_thin ?_ Dr.refl (k p)
  intro f hf
  rcases List.mem_cons.mp hf with rfl | hf
  · exact List.mem_cons_self
  · exact List.mem_cons_of_mem _ (List.mem_cons_of_mem _ hf)
theorem mul_len76 (x : Str) (n : Nat) : (TL.tl (Txt.mul x (n : Int))).length ≤ (TL.tl x).length * n := by
  rw [← TL.len_tl, ← TL.len_tl]
  have h := PyProof.Rows.len_mul x (n : Int)
  rw [decide_eq_false (by omega)] at h
  simp only [Bool.false_eq_true, if_false] at h
  have h2 : ((Txt.mul x (n : Int)).length : Int) = ((x.length * n : Nat) : Int) := by rw [h]; push_cast; rfl
  omega
theorem rep76_len {v : V} {n : Nat} : ((List.replicate n [v]).flatten).length = n := by
  induction n with
  | zero => rfl
  | succ n ih => rw [List.replicate_succ, List.flatten_cons, List.length_append, ih]; show 1 + n = n + 1; omega
theorem rep76_v {x : Str} {n : Nat} : (List.replicate n [V.str x]).flatten = (List.replicate n x).map V.str := by
  induction n with
  | zero => rfl
  | succ n ih => rw [List.replicate_succ, List.flatten_cons, ih, List.replicate_succ]; rfl
theorem w_m76 {K : PySem.W.Frag} {Γ : List Fc} {S : List Vo} {Q : VK} {b : Bool} {j : Int} (hc : Worth j) (k : Wh K Γ S fun H => Q (.int (j * (if b = true then (1 : Int) else 0))) H) : Wh K Γ S fun H => rI CMulX (fun i j => V.int (i * j)) (.int j) (.int (if b = true then 1 else 0)) H Q :=
  w_mul (m := 50) (n := 50) (worth_bd hc) (worth_bd (by cases b <;> constructor <;> decide)) k
theorem int76 {c n k : Nat} {j : Int} (h : j = (n : Int)) : (c : Int) * (if decide ((k : Int) < j) = true then (1 : Int) else 0) = ((if n > k then c else 0 : Nat) : Int) := by
  subst h
  by_cases h : n > k
  · rw [decide_eq_true (by omega), if_pos rfl, if_pos h]
    omega
  · rw [decide_eq_false (by omega), if_neg h]
    simp
section
variable {P : Program} {w : World} {K : PySem.W.Frag} {mg : Str → Option Value} {base : Heap}
theorem ok__law_named (T : Tx K mg) : OkG P w K mg base 1 "_law_named" ["_law_ahead", "_law_many"] (spNam76 K) := by
  refine T.f__law_named.okX sc__law_named (fun vs H Q E h => ?_) (fun cdv A outer s H vs Q E hr h => ?_)
  · obtain ⟨i, _, _, rfl, _⟩ := h
    rfl
  · have hu1 := hu_of hr; have hu0 := hr.units0; have hu64 := hr.units; have hu65 := hu65_of hr; have nd := sc__law_named.nd
    obtain ⟨⟨a, n⟩, Γ, S, rfl, z, ⟨ha, hn⟩, q, x⟩ := h
    dsimp only at z ha hn q x
    refine ⟨_, (pss_one (ps_ret (pe_lc (own := [("_law_k", 2)]) rfl nd (pi_range1 rfl T.b_range (pa_cons (pv 1) pa_nil)) (blkOk_by (own := [("_law_k", 2)]) (N := nm__law_named) (sc := defScope s__law_named) (by decide +kernel)) (fun _ _ _ _ _ => (pg_name (i := 2) nd rfl (Or.inl rfl) (Or.inr rfl))) (fun _ _ _ _ _ => pts_nil) (fun _ _ _ _ _ => (pe_op (op_addK (K := K) rfl) (pv 0) (pe_ix (ix_anyK (K := K) rfl hu1) pe_str (pv 2) (fun _ _ => rfl))))))), ?_⟩
    refine w_start (σ' := [some (.str a), some (.int (n : Int)), none]) rfl z ?_
    dsimp only [List.nil_append] at q ⊢
    k_extra "W"
    refine w_lcR n rfl (by omega) ?_
    refine w_lc_r (ι := Unit) n (fun _ _ => True) (fun j _ => (nam76 a j).map V.str) (fun _ _ => Γ) (fun _ _ => S) () True.intro rfl (by k_extra "sub") (by k_extra "dr") ?_ ?_
    · rintro Dl k _ hk _
      obtain ⟨c, hc1, hc2⟩ := abc_at ⟨k, by omega⟩
      k_extra "W"
      refine w_subS (by decide +kernel) hc1 ?_
      k_extra "W"
      refine w_addTx (by rw [TL.tl_append, List.length_append]; show _ + 1 ≤ _; omega) ?_
      refine w_lcp () True.intro ?_ (by k_extra "t") (by rw [List.length_map, nam76_len (by omega)]; omega) (by k_extra "sub") (by k_extra "dr")
      rw [nam76_succ hc2, List.map_append]
      rfl
    rintro Dl _ _
    exact fun H z => q _ [] _ H ⟨Dl, rfl, rfl, rfl⟩ (z.fit (by k_extra "sub") (by k_extra "dr"))
theorem ok__law_boxes (T : Tx K mg) : OkG P w K mg base 3 "_law_boxes" ["_law_many"] (spRow76 boxes76 10 K) := by
  have G__law_named := ok__law_named (P := P) (w := w) (base := base) T
  refine T.f__law_boxes.okX sc__law_boxes (fun vs H Q E h => ?_) (fun cdv A outer s H vs Q E hr h => ?_)
  · obtain ⟨i, _, _, rfl, _⟩ := h
    rfl
  · have hu1 := hu_of hr; have hu0 := hr.units0; have hu64 := hr.units; have hu65 := hu65_of hr; have nd := sc__law_boxes.nd
    obtain ⟨n, Γ, S, rfl, z, hn, q, x⟩ := h
    dsimp only at z hn q x
    refine ⟨_, (pss_one (ps_ret (pe_lst (pa_cons (pe_op (op_addK (K := K) rfl) (pe_lst (pa_cons pe_str pa_nil)) (pe_lc (own := [("_law_line", 1)]) rfl nd (pi_seqK (K := K) rfl (pcl T.g__law_named G__law_named hr (takes_of rfl rfl rfl rfl) (pa_cons pe_str (pa_cons (pv 0) pa_nil)))) (blkOk_by (own := [("_law_line", 1)]) (N := nm__law_boxes) (sc := defScope s__law_boxes) (by decide +kernel)) (fun _ _ _ _ _ => (pg_name (i := 1) nd rfl (Or.inl rfl) (Or.inr rfl))) (fun _ _ _ _ _ => pts_nil) (fun _ _ _ _ _ => (pe_op (op_addK (K := K) rfl) (pv 1) pe_str)))) (pa_cons (pe_op op_mulX pe_int (pe_callTy call_int1 (by rfl) T.b_int (by decide +kernel) (pa_cons (pe_cmpR (op_gt) (pv 0) pe_int (nomark _)) pa_nil))) pa_nil))))), ?_⟩
    refine w_start (σ' := [some (.int (n : Int)), none]) rfl z ?_
    dsimp only [List.nil_append] at q ⊢
    k_extra "W"
    refine w_lstO fun l1 => ?_
    k_extra "W"
    refine w_don ((Str.ofString "  box ", n) : Str × Nat) (by k_extra "ts") ⟨(by decide +kernel : (TL.tl (Str.ofString "  box ")).length ≤ 20), hn⟩ ?_
    rintro _ Γ' S' ⟨l2, rfl, rfl, rfl⟩
    dsimp only [List.cons_append, List.nil_append]
    k_extra "W"
    refine w_lc_l (ι := Unit) ((nam76 (Str.ofString "  box ") n).map V.str) (fun _ _ => True) (fun i _ => (((nam76 (Str.ofString "  box ") n).take i).map (fun x => x ++ s76 " 1")).map V.str) (fun _ _ => Γ) (fun _ _ => own l2 (.lst ((nam76 (Str.ofString "  box ") n).map V.str)) :: own l1 (.lst [V.str (Str.ofString "machine m")]) :: S) () True.intro rfl (by k_extra "sub") (by k_extra "dr") (fun _ _ => by k_extra "at") ?_ ?_
    · rintro Dl k v _ hv _
      rw [List.getElem?_map] at hv
      obtain ⟨y, hy, rfl⟩ := Option.map_eq_some_iff.mp hv
      have hyl := nam76_ln y (List.mem_of_getElem? hy)
      have e6 : (TL.tl (Str.ofString "  box ")).length = 6 := by decide +kernel
      have e2 : (TL.tl (Str.ofString " 1")).length = 2 := by decide +kernel
      have hkl := (List.getElem?_eq_some_iff.mp hy).1
      rw [nam76_len hn] at hkl
      k_extra "W"
      refine w_addTx (by rw [TL.tl_append, List.length_append]; omega) ?_
      refine w_lcp () True.intro ?_ (by k_extra "t") (by rw [List.length_map, List.length_map, List.length_take]; omega) (by k_extra "sub") (by k_extra "dr")
      rw [List.take_add_one, hy, Option.toList_some, List.map_append, List.map_append]
      rfl
    rintro Dl _ _
    rw [List.length_map, List.take_of_length_le (Nat.le_refl _)]
    k_extra "W"
    refine w_addL (by k_extra "at") (by k_extra "at") (by rw [List.length_map, List.length_map, nam76_len hn, List.length_singleton]; omega) fun l3 => ?_
    k_extra "W"
    refine w_toB ?_
    refine w_m76 (by constructor <;> decide) ?_
    k_extra "W"
    refine w_row76 (boxes76 n) (by k_extra "t") (by rfl) (int76 (c := 8) (k := 6) rfl) fun p => ?_
    exact fun H z => q _ [.dat (.ref p) (row76D (boxes76 n))] [] H ⟨p, rfl, rfl, rfl⟩ (z.fit (by k_extra "sub") (by k_extra "dr"))
theorem ok__law_queues (T : Tx K mg) : OkG P w K mg base 3 "_law_queues" ["_law_many"] (spRow76 queues76 10 K) := by
  have G__law_named := ok__law_named (P := P) (w := w) (base := base) T
  refine T.f__law_queues.okX sc__law_queues (fun vs H Q E h => ?_) (fun cdv A outer s H vs Q E hr h => ?_)
  · obtain ⟨i, _, _, rfl, _⟩ := h
    rfl
  · have hu1 := hu_of hr; have hu0 := hr.units0; have hu64 := hr.units; have hu65 := hu65_of hr; have nd := sc__law_queues.nd
    obtain ⟨n, Γ, S, rfl, z, hn, q, x⟩ := h
    dsimp only at z hn q x
    refine ⟨_, (pss_one (ps_ret (pe_lst (pa_cons (pe_op (op_addK (K := K) rfl) (pe_lst (pa_cons pe_str pa_nil)) (pcl T.g__law_named G__law_named hr (takes_of rfl rfl rfl rfl) (pa_cons pe_str (pa_cons (pv 0) pa_nil)))) (pa_cons (pe_op op_mulX pe_int (pe_callTy call_int1 (by rfl) T.b_int (by decide +kernel) (pa_cons (pe_cmpR (op_gt) (pv 0) pe_int (nomark _)) pa_nil))) pa_nil))))), ?_⟩
    refine w_start (σ' := [some (.int (n : Int))]) rfl z ?_
    dsimp only [List.nil_append] at q ⊢
    k_extra "W"
    refine w_lstO fun l1 => ?_
    k_extra "W"
    refine w_don ((Str.ofString "  queue ", n) : Str × Nat) (by k_extra "ts") ⟨(by decide +kernel : (TL.tl (Str.ofString "  queue ")).length ≤ 20), hn⟩ ?_
    rintro _ Γ' S' ⟨l2, rfl, rfl, rfl⟩
    dsimp only [List.cons_append, List.nil_append]
    k_extra "W"
    refine w_addL (by k_extra "at") (by k_extra "at") (by rw [List.length_map, nam76_len hn, List.length_singleton]; omega) fun l3 => ?_
    k_extra "W"
    refine w_toB ?_
    refine w_m76 (by constructor <;> decide) ?_
    k_extra "W"
    refine w_row76 (queues76 n) (by k_extra "t") (by rfl) (int76 (c := 5) (k := 3) rfl) fun p => ?_
    exact fun H z => q _ [.dat (.ref p) (row76D (queues76 n))] [] H ⟨p, rfl, rfl, rfl⟩ (z.fit (by k_extra "sub") (by k_extra "dr"))
theorem ok__law_signs (T : Tx K mg) : OkG P w K mg base 3 "_law_signs" ["_law_many"] (spRow76 signs76 10 K) := by
  have G__law_named := ok__law_named (P := P) (w := w) (base := base) T
  refine T.f__law_signs.okX sc__law_signs (fun vs H Q E h => ?_) (fun cdv A outer s H vs Q E hr h => ?_)
  · obtain ⟨i, _, _, rfl, _⟩ := h
    rfl
  · have hu1 := hu_of hr; have hu0 := hr.units0; have hu64 := hr.units; have hu65 := hu65_of hr; have nd := sc__law_signs.nd
    obtain ⟨n, Γ, S, rfl, z, hn, q, x⟩ := h
    dsimp only at z hn q x
    refine ⟨_, (pss_one (ps_ret (pe_lst (pa_cons (pe_op (op_addK (K := K) rfl) (pe_lst (pa_cons pe_str pa_nil)) (pcl T.g__law_named G__law_named hr (takes_of rfl rfl rfl rfl) (pa_cons pe_str (pa_cons (pv 0) pa_nil)))) (pa_cons (pe_op op_mulX pe_int (pe_callTy call_int1 (by rfl) T.b_int (by decide +kernel) (pa_cons (pe_cmpR (op_gt) (pv 0) pe_int (nomark _)) pa_nil))) pa_nil))))), ?_⟩
    refine w_start (σ' := [some (.int (n : Int))]) rfl z ?_
    dsimp only [List.nil_append] at q ⊢
    k_extra "W"
    refine w_lstO fun l1 => ?_
    k_extra "W"
    refine w_don ((Str.ofString "  on ", n) : Str × Nat) (by k_extra "ts") ⟨(by decide +kernel : (TL.tl (Str.ofString "  on ")).length ≤ 20), hn⟩ ?_
    rintro _ Γ' S' ⟨l2, rfl, rfl, rfl⟩
    dsimp only [List.cons_append, List.nil_append]
    k_extra "W"
    refine w_addL (by k_extra "at") (by k_extra "at") (by rw [List.length_map, nam76_len hn, List.length_singleton]; omega) fun l3 => ?_
    k_extra "W"
    refine w_toB ?_
    refine w_m76 (by constructor <;> decide) ?_
    k_extra "W"
    refine w_row76 (signs76 n) (by k_extra "t") (by rfl) (int76 (c := 6) (k := 4) rfl) fun p => ?_
    exact fun H z => q _ [.dat (.ref p) (row76D (signs76 n))] [] H ⟨p, rfl, rfl, rfl⟩ (z.fit (by k_extra "sub") (by k_extra "dr"))
theorem ok__law_machines (T : Tx K mg) : OkG P w K mg base 3 "_law_machines" ["_law_many"] (spRow76 machines76 10 K) := by
  have G__law_named := ok__law_named (P := P) (w := w) (base := base) T
  refine T.f__law_machines.okX sc__law_machines (fun vs H Q E h => ?_) (fun cdv A outer s H vs Q E hr h => ?_)
  · obtain ⟨i, _, _, rfl, _⟩ := h
    rfl
  · have hu1 := hu_of hr; have hu0 := hr.units0; have hu64 := hr.units; have hu65 := hu65_of hr; have nd := sc__law_machines.nd
    obtain ⟨n, Γ, S, rfl, z, hn, q, x⟩ := h
    dsimp only at z hn q x
    refine ⟨_, (pss_one (ps_ret (pe_lst (pa_cons (pcl T.g__law_named G__law_named hr (takes_of rfl rfl rfl rfl) (pa_cons pe_str (pa_cons (pv 0) pa_nil))) (pa_cons (pe_op op_mulX pe_int (pe_callTy call_int1 (by rfl) T.b_int (by decide +kernel) (pa_cons (pe_cmpR (op_gt) (pv 0) pe_int (nomark _)) pa_nil))) pa_nil))))), ?_⟩
    refine w_start (σ' := [some (.int (n : Int))]) rfl z ?_
    dsimp only [List.nil_append] at q ⊢
    k_extra "W"
    refine w_don ((Str.ofString "machine ", n) : Str × Nat) (by k_extra "ts") ⟨(by decide +kernel : (TL.tl (Str.ofString "machine ")).length ≤ 20), hn⟩ ?_
    rintro _ Γ' S' ⟨l2, rfl, rfl, rfl⟩
    dsimp only [List.cons_append, List.nil_append]
    k_extra "W"
    refine w_toB ?_
    refine w_m76 (by constructor <;> decide) ?_
    k_extra "W"
    refine w_row76 (machines76 n) (by k_extra "t") (by rfl) (int76 (c := 7) (k := 6) rfl) fun p => ?_
    exact fun H z => q _ [.dat (.ref p) (row76D (machines76 n))] [] H ⟨p, rfl, rfl, rfl⟩ (z.fit (by k_extra "sub") (by k_extra "dr"))
theorem ok__law_draws (T : Tx K mg) : OkG P w K mg base 3 "_law_draws" ["_law_many"] (spRow76 draws76 30 K) := by
  refine T.f__law_draws.okX sc__law_draws (fun vs H Q E h => ?_) (fun cdv A outer s H vs Q E hr h => ?_)
  · obtain ⟨i, _, _, rfl, _⟩ := h
    rfl
  · have hu1 := hu_of hr; have hu0 := hr.units0; have hu64 := hr.units; have hu65 := hu65_of hr; have nd := sc__law_draws.nd
    obtain ⟨n, Γ, S, rfl, z, hn, q, x⟩ := h
    dsimp only at z hn q x
    refine ⟨_, (pss_one (ps_ret (pe_lst (pa_cons (pe_lst (pa_cons pe_str (pa_cons (pe_op (op_addK (K := K) rfl) pe_str (pe_op op_mulT pe_str (pv 0))) pa_nil))) (pa_cons (pe_op op_mulX pe_int (pe_callTy call_int1 (by rfl) T.b_int (by decide +kernel) (pa_cons (pe_cmpR (op_gt) (pv 0) pe_int (nomark _)) pa_nil))) pa_nil))))), ?_⟩
    refine w_start (σ' := [some (.int (n : Int))]) rfl z ?_
    dsimp only [List.nil_append] at q ⊢
    k_extra "W"
    refine w_mulT n rfl (by decide +kernel) (by omega) rfl ?_
    k_extra "W"
    refine w_addTx (by rw [TL.tl_append, List.length_append]; have := mul_len76 (Str.ofString " 7") n; have e2 : (TL.tl (Str.ofString " 7")).length = 2 := (by decide +kernel); have e7 : (TL.tl (Str.ofString "  draws")).length = 7 := (by decide +kernel); rw [e2] at this; omega) ?_
    k_extra "W"
    refine w_lstO fun l3 => ?_
    k_extra "W"
    refine w_toB ?_
    refine w_m76 (by constructor <;> decide) ?_
    k_extra "W"
    refine w_row76 (draws76 n) (by k_extra "t") (by rfl) (int76 (c := 2) (k := 20) rfl) fun p => ?_
    exact fun H z => q _ [.dat (.ref p) (row76D (draws76 n))] [] H ⟨p, rfl, rfl, rfl⟩ (z.fit (by k_extra "sub") (by k_extra "dr"))
theorem ok__law_deep (T : Tx K mg) : OkG P w K mg base 3 "_law_deep" ["_law_many"] (spRow76 deep76 10 K) := by
  refine T.f__law_deep.okX sc__law_deep (fun vs H Q E h => ?_) (fun cdv A outer s H vs Q E hr h => ?_)
  · obtain ⟨i, _, _, rfl, _⟩ := h
    rfl
  · have hu1 := hu_of hr; have hu0 := hr.units0; have hu64 := hr.units; have hu65 := hu65_of hr; have nd := sc__law_deep.nd
    obtain ⟨n, Γ, S, rfl, z, hn, q, x⟩ := h
    dsimp only at z hn q x
    refine ⟨_, (pss_cons (ps_set (i := 1) nd rfl (Or.inl rfl) (pe_lst (pa_cons pe_str (pa_cons pe_str pa_nil))))
      (pss_cons (ps_for (passes_of rfl) rfl (pi_range1 rfl T.b_range (pa_cons (pv 0) pa_nil)) (pg_name (i := 2) nd rfl (Or.inl rfl))
      (pss_one (ps_expr (pe_bmK (K := K) rfl PySem.F.plainAttrs_list PySem.F.slot_list_append PySem.F.type_list_append mt_append (pv 1) (pa_cons (pe_op (op_addK (K := K) rfl) (pe_op (op_addK (K := K) rfl) pe_str (pe_op op_mulT pe_str (pv 2))) pe_str) pa_nil)))))
      (pss_one (ps_ret (pe_lst (pa_cons (pv 1) (pa_cons (pe_op op_mulX pe_int (pe_callTy call_int1 (by rfl) T.b_int (by decide +kernel) (pa_cons (pe_cmpR (op_gt) (pv 0) pe_int (nomark _)) pa_nil))) pa_nil))))))), ?_⟩
    refine w_start (σ' := [some (.int (n : Int)), none, none]) rfl z ?_
    dsimp only [List.nil_append] at q ⊢
    k_extra "W"
    refine w_lstO fun l3 => ?_
    k_extra "W"
    refine w_forR n rfl (by omega) ?_
    refine w_loop_r (ι := Option V) n (fun _ _ => True) (fun _ u => [some (.int (n : Int)), some (.ref l3), u]) (fun _ _ => Γ) (fun j _ => own l3 (.lst ((deep76 j).1.map V.str)) :: S) none True.intro rfl (by k_extra "sub") (by k_extra "dr") ?_ ?_
    · rintro j u hj _
      have hnx : (deep76 (j + 1)).1.map V.str = (deep76 j).1.map V.str ++ [V.str (s76 "    " ++ Txt.mul (s76 "  ") (j : Int) ++ s76 "pull q b")] := by
        unfold deep76
        dsimp only
        simp only [List.range_succ, List.map_append, List.append_assoc]
        rfl
      have hdl : ((deep76 j).1.map V.str).length ≤ 20 := by
        unfold deep76
        dsimp only
        rw [List.length_map, List.length_append, List.length_map, List.length_range]
        show 2 + j ≤ 20
        omega
      k_extra "W"
      refine w_mulT j rfl (by decide +kernel) (by omega) rfl ?_
      k_extra "W"
      have hml := mul_len76 (Str.ofString "  ") j
      have e2 : (TL.tl (Str.ofString "  ")).length = 2 := by decide +kernel
      have e4 : (TL.tl (Str.ofString "    ")).length = 4 := by decide +kernel
      have e8 : (TL.tl (Str.ofString "pull q b")).length = 8 := by decide +kernel
      rw [e2] at hml
      refine w_addTx (by rw [TL.tl_append, List.length_append]; omega) ?_
      k_extra "W"
      refine w_addTx (by rw [TL.tl_append, TL.tl_append, List.length_append, List.length_append]; omega) ?_
      k_extra "W"
      refine w_app (by k_extra "sw") (by omega) ?_
      k_extra "W"
      refine w_again _ True.intro rfl (by k_extra "sub") ?_
      rw [hnx]
      k_extra "dr"
    rintro u _
    k_extra "W"
    refine w_toB ?_
    refine w_m76 (by constructor <;> decide) ?_
    k_extra "W"
    refine w_row76 (deep76 n) (by k_extra "t") (by rfl) (int76 (c := 8) (k := 5) rfl) fun p => ?_
    exact fun H z => q _ [.dat (.ref p) (row76D (deep76 n))] [] H ⟨p, rfl, rfl, rfl⟩ (z.fit (by k_extra "sub") (by k_extra "dr"))
theorem ok__law_deeds (T : Tx K mg) : OkG P w K mg base 3 "_law_deeds" ["_law_many", "_law_inside"] (spRow76B (fun n k => if k = 0 then deedsA76 n else deedsB76 n k) (fun n k => n ≤ 30 ∧ (k = 0 ∨ k + 3 ≤ n)) K) := by
  refine T.f__law_deeds.okX sc__law_deeds (fun vs H Q E h => ?_) (fun cdv A outer s H vs Q E hr h => ?_)
  · obtain ⟨i, _, _, rfl, _⟩ := h
    rfl
  · have hu1 := hu_of hr; have hu0 := hr.units0; have hu64 := hr.units; have hu65 := hu65_of hr; have nd := sc__law_deeds.nd
    obtain ⟨⟨n, k⟩, Γ, S, rfl, z, ⟨hn, hk⟩, q, x⟩ := h
    dsimp only at z hn hk q x
    refine ⟨_, (pss_cons (ps_set (i := 2) nd rfl (Or.inl rfl) (pe_lst (pa_cons pe_str (pa_cons pe_str (pa_cons pe_str pa_nil)))))
      (pss_cons (ps_if (pt_cmpR (op_eqK (K := K) rfl hu64) (pv 1) pe_int (nomark _)) (pss_one (ps_ret (pe_lst (pa_cons (pe_op (op_addK (K := K) rfl) (pv 2) (pe_op op_rep (pe_lst (pa_cons pe_str pa_nil)) (pv 0))) (pa_cons (pe_op op_mulX pe_int (pe_callTy call_int1 (by rfl) T.b_int (by decide +kernel) (pa_cons (pe_cmpR (op_gt) (pv 0) pe_int (nomark _)) pa_nil))) pa_nil)))))
      pss_nil)
      (pss_cons (ps_set (i := 2) nd rfl (Or.inl rfl) (pe_op (op_addK (K := K) rfl) (pe_op (op_addK (K := K) rfl) (pe_op (op_addK (K := K) rfl) (pe_op (op_addK (K := K) rfl) (pv 2) (pe_lst (pa_cons pe_str pa_nil))) (pe_op op_rep (pe_lst (pa_cons pe_str pa_nil)) (pv 1))) (pe_lst (pa_cons pe_str pa_nil))) (pe_op op_rep (pe_lst (pa_cons pe_str pa_nil)) pe_int)))
      (pss_cons (ps_set (i := 2) nd rfl (Or.inl rfl) (pe_op (op_addK (K := K) rfl) (pv 2) (pe_op op_rep (pe_lst (pa_cons pe_str pa_nil)) (pe_op op_sub (pe_op op_sub (pv 0) (pv 1)) pe_int))))
      (pss_one (ps_ret (pe_lst (pa_cons (pv 2) (pa_cons (pe_op op_mulX pe_int (pe_callTy call_int1 (by rfl) T.b_int (by decide +kernel) (pa_cons (pe_cmpR (op_gt) (pv 0) pe_int (nomark _)) pa_nil))) pa_nil))))))))), ?_⟩
    refine w_start (σ' := [some (.int (n : Int)), some (.int (k : Int)), none]) rfl z ?_
    dsimp only [List.nil_append] at q ⊢
    k_extra "W"
    refine w_lstO fun l0 => ?_
    k_extra "W"
    refine w_ite (fun h1 => ?_) (fun h1 => ?_)
    · have hk0 : k = 0 := by omega
      rw [if_pos hk0] at q
      k_extra "W"
      refine w_lstO fun l1 => ?_
      k_extra "W"
      refine w_rep n rfl (by k_extra "at") (by rw [List.length_singleton]; omega) (by omega) rfl fun l2 => ?_
      k_extra "W"
      refine w_addL (by k_extra "at") (by k_extra "at") (by rw [rep76_len]; show 3 + n ≤ _; omega) fun l3 => ?_
      k_extra "W"
      refine w_toB ?_
      refine w_m76 (by constructor <;> decide) ?_
      k_extra "W"
      refine w_row76 (deedsA76 n) (by k_extra "t") (by rw [rep76_v]; unfold deedsA76 rep76; rw [List.map_append]; rfl) (int76 (c := 24) (k := 20) rfl) fun p => ?_
      exact fun H z => q _ [.dat (.ref p) (row76D (deedsA76 n))] [] H ⟨p, rfl, rfl, rfl⟩ (z.fit (by k_extra "sub") (by k_extra "dr"))
    have hk0 : ¬ k = 0 := by omega
    have hk3 : k + 3 ≤ n := by omega
    rw [if_neg hk0] at q
    k_extra "W"
    refine w_lstO fun l1 => ?_
    refine w_addL (by k_extra "at") (by k_extra "at") (by show 3 + 1 ≤ _; omega) fun l2 => ?_
    k_extra "W"
    refine w_lstO fun l3 => ?_
    k_extra "W"
    refine w_rep k rfl (by k_extra "at") (by rw [List.length_singleton]; omega) (by omega) rfl fun l4 => ?_
    k_extra "W"
    refine w_addL (by k_extra "at") (by k_extra "at") (by rw [rep76_len]; show 4 + k ≤ _; omega) fun l5 => ?_
    k_extra "W"
    refine w_lstO fun l6 => ?_
    refine w_addL (by k_extra "at") (by k_extra "at") (by rw [List.length_append, rep76_len]; show (4 + k) + 1 ≤ _; omega) fun l7 => ?_
    k_extra "W"
    refine w_lstO fun l8 => ?_
    k_extra "W"
    refine w_rep 2 rfl (by k_extra "at") (by rw [List.length_singleton]; omega) (by omega) rfl fun l9 => ?_
    k_extra "W"
    refine w_addL (by k_extra "at") (by k_extra "at") (by rw [rep76_len, List.length_append, List.length_append, rep76_len]; show ((4 + k) + 1) + 2 ≤ _; omega) fun l10 => ?_
    k_extra "W"
    refine w_lstO fun l11 => ?_
    k_extra "W"
    refine w_rep (n - k - 3) (by omega) (by k_extra "at") (by rw [List.length_singleton]; omega) (by omega) rfl fun l12 => ?_
    k_extra "W"
    refine w_addL (by k_extra "at") (by k_extra "at") (by rw [rep76_len, List.length_append, rep76_len, List.length_append, List.length_append, rep76_len]; show (((4 + k) + 1) + 2) + (n - k - 3) ≤ _; omega) fun l13 => ?_
    k_extra "W"
    refine w_toB ?_
    refine w_m76 (by constructor <;> decide) ?_
    k_extra "W"
    refine w_row76 (deedsB76 n k) (by k_extra "t") (by rw [rep76_v, rep76_v, rep76_v]; unfold deedsB76 rep76; simp only [List.map_append]; rfl) (int76 (c := 25) (k := 20) rfl) fun p => ?_
    exact fun H z => q _ [.dat (.ref p) (row76D (deedsB76 n k))] [] H ⟨p, rfl, rfl, rfl⟩ (z.fit (by k_extra "sub") (by k_extra "dr"))
theorem ok__law_parts (T : Tx K mg) : OkG P w K mg base 3 "_law_parts" ["_law_many", "_law_word"] (spRow76B parts76 (fun n k => n ≤ 20 ∧ k ≤ 2) K) := by
  refine T.f__law_parts.okX sc__law_parts (fun vs H Q E h => ?_) (fun cdv A outer s H vs Q E hr h => ?_)
  · obtain ⟨i, _, _, rfl, _⟩ := h
    rfl
  · have hu1 := hu_of hr; have hu0 := hr.units0; have hu64 := hr.units; have hu65 := hu65_of hr; have nd := sc__law_parts.nd
    obtain ⟨⟨n, k⟩, Γ, S, rfl, z, ⟨hn, hk⟩, q, x⟩ := h
    dsimp only at z hn hk q x
    refine ⟨_, (pss_cons (ps_set (i := 2) nd rfl (Or.inl rfl) (pe_op (op_addK (K := K) rfl) (pe_op op_mulT pe_str (pv 0)) pe_str))
      (pss_cons (ps_set (i := 3) nd rfl (Or.inl rfl) (pe_lst (pa_cons pe_str (pa_cons pe_str pa_nil))))
      (pss_cons (ps_set (i := 4) nd rfl (Or.inl rfl) (pe_op op_mulX pe_int (pe_callTy call_int1 (by rfl) T.b_int (by decide +kernel) (pa_cons (pe_cmpR (op_gt) (pe_op (op_addK (K := K) rfl) (pe_op op_mulX pe_int (pv 0)) pe_int) pe_int (nomark _)) pa_nil))))
      (pss_cons (ps_if (pt_cmpR (op_eqK (K := K) rfl hu64) (pv 1) pe_int (nomark _)) (pss_one (ps_ret (pe_lst (pa_cons (pe_op (op_addK (K := K) rfl) (pv 3) (pe_lst (pa_cons (pe_op (op_addK (K := K) rfl) pe_str (pv 2)) pa_nil))) (pa_cons (pv 4) pa_nil)))))
      pss_nil)
      (pss_cons (ps_if (pt_cmpR (op_eqK (K := K) rfl hu64) (pv 1) pe_int (nomark _)) (pss_one (ps_ret (pe_lst (pa_cons (pe_op (op_addK (K := K) rfl) (pv 3) (pe_lst (pa_cons (pe_op (op_addK (K := K) rfl) pe_str (pv 2)) (pa_cons pe_str pa_nil)))) (pa_cons (pv 4) pa_nil)))))
      pss_nil)
      (pss_one (ps_ret (pe_lst (pa_cons (pe_op (op_addK (K := K) rfl) (pv 3) (pe_lst (pa_cons (pe_op (op_addK (K := K) rfl) (pe_op (op_addK (K := K) rfl) (pe_op (op_addK (K := K) rfl) pe_str (pv 2)) pe_str) (pv 2)) pa_nil))) (pa_cons (pv 4) pa_nil)))))))))), ?_⟩
    refine w_start (σ' := [some (.int (n : Int)), some (.int (k : Int)), none, none, none]) rfl z ?_
    dsimp only [List.nil_append] at q ⊢
    have hml := mul_len76 (Str.ofString "+ 1 ") n
    have e4 : (TL.tl (Str.ofString "+ 1 ")).length = 4 := by decide +kernel
    have e1 : (TL.tl (Str.ofString "1")).length = 1 := by decide +kernel
    rw [e4] at hml
    have hfl : (TL.tl (form76 n)).length ≤ 81 := by unfold form76; rw [TL.tl_append, List.length_append]; have e1' : (TL.tl (s76 "1")).length = 1 := e1; have hml' : (TL.tl (Txt.mul (s76 "+ 1 ") (n : Int))).length ≤ 4 * n := hml; omega
    k_extra "W"
    refine w_mulT n rfl (by decide +kernel) (by omega) rfl ?_
    k_extra "W"
    refine w_addTx (by rw [TL.tl_append, List.length_append]; omega) ?_
    rw [show Txt.mul (Str.ofString "+ 1 ") (n : Int) ++ Str.ofString "1" = form76 n from rfl]
    k_extra "W"
    refine w_lstO fun l1 => ?_
    k_extra "W"
    refine w_mul (m := 50) (n := 50) (worth_bd ⟨by omega, by omega⟩) (worth_bd ⟨by omega, by omega⟩) ?_
    k_extra "W"
    refine w_toB ?_
    refine w_m76 (by constructor <;> decide) ?_
    k_extra "W"
    have hi76 := int76 (c := 3) (k := 15) (n := 2 * n + 1) (j := (2 : Int) * (n : Int) + 1) (by omega)
    rw [show (3 : Int) * (if decide ((15 : Int) < 2 * (n : Int) + 1) = true then (1 : Int) else 0) = ((if 2 * n + 1 > 15 then 3 else 0 : Nat) : Int) from hi76]
    refine w_ite (fun h1 => ?_) (fun h1 => ?_)
    · have hk0 : k = 0 := by omega
      subst hk0
      k_extra "W"
      have e10 : (TL.tl (Str.ofString "    put a ")).length = 10 := by decide +kernel
      refine w_addTx (by rw [TL.tl_append, List.length_append]; omega) ?_
      k_extra "W"
      refine w_lstO fun l2 => ?_
      refine w_addL (by k_extra "at") (by k_extra "at") (by show 2 + 1 ≤ _; omega) fun l3 => ?_
      k_extra "W"
      refine w_row76 (parts76 n 0) (by k_extra "t") (by rfl) rfl fun p => ?_
      exact fun H z => q _ [.dat (.ref p) (row76D (parts76 n 0))] [] H ⟨p, rfl, rfl, rfl⟩ (z.fit (by k_extra "sub") (by k_extra "dr"))
    k_extra "W"
    refine w_ite (fun h2 => ?_) (fun h2 => ?_)
    · have hk0 : k = 1 := by omega
      subst hk0
      k_extra "W"
      have e10 : (TL.tl (Str.ofString "    if ")).length = 7 := by decide +kernel
      refine w_addTx (by rw [TL.tl_append, List.length_append]; omega) ?_
      k_extra "W"
      refine w_lstO fun l2 => ?_
      refine w_addL (by k_extra "at") (by k_extra "at") (by show 2 + 2 ≤ _; omega) fun l3 => ?_
      k_extra "W"
      refine w_row76 (parts76 n 1) (by k_extra "t") (by rfl) rfl fun p => ?_
      exact fun H z => q _ [.dat (.ref p) (row76D (parts76 n 1))] [] H ⟨p, rfl, rfl, rfl⟩ (z.fit (by k_extra "sub") (by k_extra "dr"))
    have hk0 : k = 2 := by omega
    subst hk0
    k_extra "W"
    have e10 : (TL.tl (Str.ofString "    send 0 t 9 1 ")).length = 17 := by decide +kernel
    have e11 : (TL.tl (Str.ofString " ")).length = 1 := by decide +kernel
    refine w_addTx (by rw [TL.tl_append, List.length_append]; omega) ?_
    k_extra "W"
    refine w_addTx (by rw [TL.tl_append, TL.tl_append, List.length_append, List.length_append]; omega) ?_
    k_extra "W"
    refine w_addTx (by rw [TL.tl_append, TL.tl_append, TL.tl_append, List.length_append, List.length_append, List.length_append]; omega) ?_
    k_extra "W"
    refine w_lstO fun l2 => ?_
    refine w_addL (by k_extra "at") (by k_extra "at") (by show 2 + 1 ≤ _; omega) fun l3 => ?_
    k_extra "W"
    refine w_row76 (parts76 n 2) (by k_extra "t") (by rfl) rfl fun p => ?_
    exact fun H z => q _ [.dat (.ref p) (row76D (parts76 n 2))] [] H ⟨p, rfl, rfl, rfl⟩ (z.fit (by k_extra "sub") (by k_extra "dr"))
end
end Mo
namespace Mo
open PySem PySem.Spec PyProof.Rows L2
/-! ### trees that are not changed any more are data -/
theorem take_head {x : Vo} {R : List Vo} : Take x (x :: R) R := List.Perm.refl _
theorem take_second {x y : Vo} {R : List Vo} : Take y (x :: y :: R) (x :: R) := by
  show (x :: y :: R).flatten.Perm (y ++ (x :: R).flatten)
  rw [List.flatten_cons, List.flatten_cons, List.flatten_cons, ← List.append_assoc, ← List.append_assoc]
  exact List.Perm.append_right _ List.perm_append_comm
theorem take2M {x y : Vo} {S R T : List Vo} (h : Take x S R) (k : Take y R T) : Take (x ++ y) S T := by
  show S.flatten.Perm ((x ++ y) ++ T.flatten)
  rw [List.append_assoc]
  exact h.trans (List.Perm.append_left x k)
section
variable {K : PySem.W.Frag}
mutual
theorem w_frT : ∀ (t : Tr) {Γ : List Fc} {S R : List Vo} {A : Hp → Prop}, trF K t ∈ Γ → Take t.S S R → Wh K (.dat t.v t.dat :: Γ) R A → Wh K Γ S A
  | .wd x, Γ, S, R, A, m, n, k => by
    have n : S.flatten.Perm ([] ++ R.flatten) := by rw [Tr.S] at n; exact n
    refine Wh.cong (S' := R) n.symm ?_
    rw [Tr.dat] at k
    refine w_dat ?_ k
    cases x with
    | i a => exact DV.int
    | s a => exact DV.str
  | .dt v d, Γ, S, R, A, m, n, k => by
    have n : S.flatten.Perm ([] ++ R.flatten) := by rw [Tr.S] at n; exact n
    refine Wh.cong (S' := R) n.symm ?_
    rw [Tr.dat] at k
    exact w_trD m k
  | .ls p ts, Γ, S, R, A, m, n, k => by
    rw [Tr.S] at n
    have n : S.flatten.Perm ((own p (.lst (ts.map Tr.v)) ++ Tr.SS ts) ++ R.flatten) := n
    refine Wh.cong (S' := own p (.lst (ts.map Tr.v)) :: Tr.SS ts :: R) ?_ ?_
    · rw [List.flatten_cons, List.flatten_cons, ← List.append_assoc]
      exact n.symm
    refine w_trLo m ?_
    refine w_frTs ts List.mem_cons_self take_second ?_
    refine w_freeze (p := p) (ds := Tr.dats ts) take_head (DL.mem List.mem_cons_self) ?_
    rw [Tr.dat] at k
    refine w_thin ?_ Dr.refl k
    intro f hf
    rcases List.mem_cons.mp hf with rfl | hf
    · exact List.mem_cons_self
    · exact List.mem_cons_of_mem _ (List.mem_cons_of_mem _ (List.mem_cons_of_mem _ hf))
  | .tu p ts, Γ, S, R, A, m, n, k => by
    rw [Tr.S] at n
    refine w_trTo m ?_
    refine w_frTs ts (List.mem_cons_of_mem _ List.mem_cons_self) n ?_
    rw [Tr.dat] at k
    refine w_dat (v := .ref p) (d := .tuple (Tr.dats ts)) (DV.tup (List.mem_cons_of_mem _ List.mem_cons_self) (DL.mem List.mem_cons_self)) ?_
    refine w_thin ?_ Dr.refl k
    intro f hf
    rcases List.mem_cons.mp hf with rfl | hf
    · exact List.mem_cons_self
    · exact List.mem_cons_of_mem _ (List.mem_cons_of_mem _ (List.mem_cons_of_mem _ (List.mem_cons_of_mem _ hf)))
theorem w_frTs : ∀ (ts : List Tr) {Γ : List Fc} {S R : List Vo} {A : Hp → Prop}, trsF K ts ∈ Γ → Take (Tr.SS ts) S R → Wh K (.dats (ts.map Tr.v) (Tr.dats ts) :: Γ) R A → Wh K Γ S A
  | [], Γ, S, R, A, m, n, k => by
    have n : S.flatten.Perm ([] ++ R.flatten) := by rw [Tr.SS] at n; exact n
    refine Wh.cong (S' := R) n.symm ?_
    rw [Tr.dats] at k
    exact w_dats DL.nil k
  | t :: ts, Γ, S, R, A, m, n, k => by
    rw [Tr.SS] at n
    have n : S.flatten.Perm ((t.S ++ Tr.SS ts) ++ R.flatten) := n
    refine Wh.cong (S' := t.S :: Tr.SS ts :: R) ?_ ?_
    · rw [List.flatten_cons, List.flatten_cons, ← List.append_assoc]
      exact n.symm
    refine w_trsGet (t := t) m List.mem_cons_self ?_
    refine w_frT t List.mem_cons_self take_head ?_
    have hts : ∀ {Γ' : List Fc} {S' : List Vo}, trsF K (t :: ts) ∈ Γ' → Wh K (trsF K ts :: Γ') S' A → Wh K Γ' S' A := fun m k => Wh.learn (f := trsF K ts) (fun G b => fun f hf => (b _ m : ∀ f ∈ Tr.FF (t :: ts), f.In K G) f (by rw [Tr.FF]; exact List.mem_append_right _ hf)) k
    refine hts (List.mem_cons_of_mem _ (List.mem_cons_of_mem _ m)) ?_
    refine w_frTs ts List.mem_cons_self take_head ?_
    rw [Tr.dats, List.map_cons] at k
    refine w_dats (vs := t.v :: ts.map Tr.v) (ds := t.dat :: Tr.dats ts) (DL.cons (DV.mem (by simp)) (DL.mem List.mem_cons_self)) ?_
    refine w_thin ?_ Dr.refl k
    intro f hf
    rcases List.mem_cons.mp hf with rfl | hf
    · exact List.mem_cons_self
    · exact List.mem_cons_of_mem _ (List.mem_cons_of_mem _ (List.mem_cons_of_mem _ (List.mem_cons_of_mem _ (List.mem_cons_of_mem _ hf))))
end
end
end Mo
namespace Mo
open PySem PySem.Spec PyProof.Rows L2
/-! ### dicts by whole numbers -/
def rListD : List V → Hp → VK → Prop := fun xs H Q => ∃ (a : Addr) (kvs : List (Key × V)), xs = [.ref a] ∧ Rd H a (.dK kvs) ∧ ∀ p, H p = none → Q (.ref p) (upd H p (.lst (kvs.map fun kv => kV kv.1)))
def rSortDI : List V → Hp → VK → Prop := fun xs H Q => ∃ (a : Addr) (kvs : List (Key × V)) (ks : List Int), xs = [.ref a] ∧ Rd H a (.dK kvs) ∧ kvs.map (·.1) = ks.map Sum.inl ∧ ks.length < 64 ∧
    ∀ (ys : List Int) (p : Addr), ys.Perm ks → ys.Pairwise (· ≤ ·) → H p = none → Q (.ref p) (upd H p (.lst (ys.map V.int)))
theorem cr_listD {X : Cx} (hc : X.calm = true) : CallR X (.type "list") rListD := call_listD hc
theorem cr_sortDI {X : Cx} (hc : X.calm = true) : CallR X (.builtin "sorted") rSortDI := call_sortedDI hc
section
variable {K : PySem.W.Frag} {Γ : List Fc} {S S' : List Vo} {σ : St} {Q : VK} {d : Addr} {kvs : List (Key × V)} {z : Int} {v : V} {A : Hp → Prop}
theorem w_listD (m : AtH K Γ S d (.dK kvs)) (k : ∀ p, Wh K Γ (own p (.lst (kvs.map fun kv => kV kv.1)) :: S) fun H => Q (.ref p) H) : Wh K Γ S fun H => rListD [.ref d] H Q := fun H z => ⟨d, kvs, rfl, .inl (m H z), fun p hp => k p _ (z.new hp)⟩
theorem w_sortDI (ks : List Int) (m : AtH K Γ S d (.dK kvs)) (e : kvs.map (·.1) = ks.map Sum.inl) (h : ks.length < 64) (k : ∀ (ys : List Int) (p : Addr), ys.Perm ks → ys.Pairwise (· ≤ ·) → Wh K Γ (own p (.lst (ys.map V.int)) :: S) fun H => Q (.ref p) H) : Wh K Γ S fun H => rSortDI [.ref d] H Q := fun H z =>
  ⟨d, kvs, ks, rfl, .inl (m H z), e, h, fun ys p h1 h2 hp => k ys p h1 h2 _ (z.new hp)⟩
theorem w_inKi {b : Bool} (m : AtH K Γ S d (.dK kvs)) (e : (valV kvs (Sum.inl z)).isSome = b) (k : Wh K Γ S fun H => Q (.bl b) H) : Wh K Γ S fun H => rInA K (.int z) (.ref d) H Q := fun H w => by
  subst e
  exact .inl ⟨d, _, rfl, DGet.k (k := Sum.inl z) (m H w), k H w⟩
theorem w_ninKi {b : Bool} (m : AtH K Γ S d (.dK kvs)) (e : (valV kvs (Sum.inl z)).isSome = b) (k : Wh K Γ S fun H => Q (.bl (!b)) H) : Wh K Γ S fun H => rNotInA K (.int z) (.ref d) H Q := fun H w => by
  subst e
  exact .inl ⟨d, _, rfl, DGet.k (k := Sum.inl z) (m H w), k H w⟩
theorem w_subKi (m : AtH K Γ S d (.dK kvs)) (e : valV kvs (Sum.inl z) = some v) (k : Wh K Γ S fun H => Q v H) : Wh K Γ S fun H => rSub K (.ref d) (.int z) H Q := fun H w => go_subD (y := .int z) (by have q := DGet.k (k := Sum.inl z) (m H w); rw [e] at q; exact q) (k H w)
theorem w_setKi (m : Sw d (.dK kvs) (.dK (putK kvs (Sum.inl z) v)) S S') (hl : kvs.length ≤ 100000) (k : Wh K Γ S' A) : Wh K Γ S fun H => rSet (.ref d) (.int z) v H A := fun H w => go_setD (y := .int z) (DPut.k (k := Sum.inl z) (w.own m.mem) (by rw [sizeLine_eq]; omega)) (k _ (w.sw m))
theorem w_dpopKi (m : Sw d (.dK kvs) (.dK (dropK kvs (Sum.inl z))) S S') (e : valV kvs (Sum.inl z) = some v) (k : Wh K Γ S' fun H => Q v H) : Wh K Γ S fun H => rDPop1 (.ref d) [.int z] H Q := fun H w =>
  ⟨d, .int z, v, _, rfl, rfl, .inl ⟨kvs, Sum.inl z, w.own m.mem, rfl, e, rfl⟩, k _ (w.sw m)⟩
/-- xs += ys -/
theorem w_ext {l b : Addr} {xs zs : List V} (m : Sw l (.lst xs) (.lst (xs ++ zs)) S S') (n : AtH K Γ S b (.lst zs)) (hl : xs.length + zs.length ≤ 100000) (k : Wh K Γ S' fun H => Q (.ref l) H) : Wh K Γ S fun H => rExt2 (.ref l) (.ref b) H Q := fun H z =>
  ⟨l, b, xs, zs, rfl, rfl, z.own m.mem, n H z, by rw [sizeLine_eq]; omega, k _ (z.sw m)⟩
end
theorem ip_ext {X : Cx} : PIp X .Add rExt2 := iop_ext
end Mo
namespace Mo
open PySem PySem.Spec PyProof.Rows L2
/-! ### modeltext.py: models written -/
def spDeeper (K : PySem.W.Frag) : Sp := SpF K (fun i : Addr × List Str => [.ref i.1]) (fun i _ => i.2.length ≤ 5000 ∧ ∀ x ∈ i.2, (TL.tl x).length ≤ 5000) (fun i => [own i.1 (.lst (i.2.map V.str))])
  (fun i v Γ' S' => ∃ r : Addr, v = .ref r ∧ Γ' = [] ∧ S' = [own r (.lst ((deepL i.2).map V.str)), own i.1 (.lst (i.2.map V.str))]) noEx
structure DdOk (n : Nat) (d : Dd) : Prop where
  dep : d.depth < n
  d6 : d.depth ≤ 20
  tx : d.Tx
  num : d.num ≤ 200
structure DsOk (n : Nat) (ds : List Dd) : Prop where
  dep : Dd.depths ds ≤ n
  d6 : Dd.depths ds ≤ 20
  tx : Dd.Txs ds
  num : Dd.nums ds ≤ 200
def spDeedL (n : Nat) (K : PySem.W.Frag) : Sp := SpF K (fun i : V × Dd => [i.1]) (fun i Γ => .dat i.1 i.2.data ∈ Γ ∧ DdOk n i.2) (fun _ => []) (fun i v Γ' S' => ∃ r : Addr, v = .ref r ∧ Γ' = [] ∧ S' = [own r (.lst (i.2.lines.map V.str))]) noEx
def spDeedsL (n : Nat) (K : PySem.W.Frag) : Sp := SpF K (fun i : Addr × List Dd => [.ref i.1]) (fun i Γ => .dat (.ref i.1) (.list (Dd.datas i.2)) ∈ Γ ∧ DsOk n i.2) (fun _ => []) (fun i v Γ' S' => ∃ r : Addr, v = .ref r ∧ Γ' = [] ∧ S' = [own r (.lst ((Dd.liness i.2).map V.str))]) noEx
theorem ds_len {n : Nat} {ds : List Dd} (h : DsOk n ds) : (Dd.liness ds).length ≤ 400 ∧ ∀ x ∈ Dd.liness ds, (TL.tl x).length ≤ 940 := ⟨by have := liness_len ds; have := h.num; omega, fun x hx => by have := linez_len h.tx x hx; have := h.d6; omega⟩
theorem d_len {n : Nat} {d : Dd} (h : DdOk n d) : d.lines.length ≤ 400 ∧ ∀ x ∈ d.lines, (TL.tl x).length ≤ 940 := ⟨by have := lines_len d; have := h.num; omega, fun x hx => by have := line_len h.tx x hx; have := h.d6; omega⟩
theorem nums_get : ∀ {ds : List Dd} {i : Nat} {d : Dd}, ds[i]? = some d → d.num ≤ Dd.nums ds
  | [], _, _, h => by simp at h
  | e :: ds, 0, d, h => by
    simp only [List.getElem?_cons_zero, Option.some.injEq] at h
    subst h
    rw [Dd.nums]
    omega
  | e :: ds, i + 1, d, h => by
    rw [List.getElem?_cons_succ] at h
    have := nums_get h
    rw [Dd.nums]
    omega
theorem DsOk.get {n : Nat} {ds : List Dd} (h : DsOk n ds) {i : Nat} {d : Dd} (hi : ds[i]? = some d) : DdOk n d := by
  have h1 := depths_get hi
  have h2 := nums_get hi
  exact ⟨Nat.lt_of_lt_of_le h1 h.dep, by have := h.d6; omega, txs_all.mp h.tx d (List.mem_of_getElem? hi), by have := h.num; omega⟩
theorem fm_arg {f : Fm} (h : FmT f) : f.depth < 15 ∧ f.sg.length ≤ 50000 ∧ f.Nb := by
  have h1 := f.depth_lt_size
  have h2 := h.2
  have h3 := sg_len h.1
  exact ⟨by omega, by omega, h.1.nb⟩
theorem wln2 (a b : Str) : wln [a, b] = a ++ Str.ofString " " ++ b := TL.ext_tl (by
  rw [wln_cons _ (List.cons_ne_nil _ _), wln_one, TL.tl_append, TL.tl_append, show TL.tl (Str.ofString " ") = [32] from by decide +kernel, List.append_assoc]
  rfl)
theorem wln3 (a b c : Str) : wln [a, b, c] = a ++ Str.ofString " " ++ b ++ Str.ofString " " ++ c := TL.ext_tl (by
  rw [wln_cons _ (List.cons_ne_nil _ _), wln2, TL.tl_append, TL.tl_append, TL.tl_append, TL.tl_append, TL.tl_append, TL.tl_append, show TL.tl (Str.ofString " ") = [32] from by decide +kernel]
  simp)
theorem wlnF (a b : Str) (f : Fm) : wln (a :: b :: f.words) = a ++ Str.ofString " " ++ b ++ Str.ofString " " ++ f.text := TL.ext_tl (by
  rw [wln_cons _ (List.cons_ne_nil _ _), wln_cons _ (words_ne f), wln_words, TL.tl_append, TL.tl_append, TL.tl_append, TL.tl_append, show TL.tl (Str.ofString " ") = [32] from by decide +kernel]
  simp)
theorem wlnI (a : Str) (f : Fm) : wln (a :: f.words) = a ++ Str.ofString " " ++ f.text := TL.ext_tl (by
  rw [wln_cons _ (words_ne f), wln_words, TL.tl_append, TL.tl_append, show TL.tl (Str.ofString " ") = [32] from by decide +kernel]
  simp)
theorem wlnS (a b c d : Str) (f g h : Fm) : wln [a, b, c, d, f.text, g.text, h.text] = wln (a :: b :: c :: d :: (f.words ++ (g.words ++ h.words))) := TL.ext_tl (by
  rw [wln_cons a (List.cons_ne_nil _ _), wln_cons b (List.cons_ne_nil _ _), wln_cons c (List.cons_ne_nil _ _), wln_cons d (List.cons_ne_nil _ _), wln_cons f.text (List.cons_ne_nil _ _), wln_cons g.text (List.cons_ne_nil _ _), wln_one]
  rw [wln_cons a (List.cons_ne_nil _ _), wln_cons b (List.cons_ne_nil _ _), wln_cons c (List.cons_ne_nil _ _), wln_cons d (by simp [words_ne]), wln_app (words_ne f) (by simp [words_ne]), wln_app (words_ne g) (words_ne h), wln_words, wln_words, wln_words])
theorem n64 {n : Int} (h : 0 ≤ n) (k : n ≤ 9) : Bd 64 n := by
  show n.natAbs < 2 ^ 64
  omega
section
variable {P : Program} {w : World} {K : PySem.W.Frag} {mg : Str → Option Value} {base : Heap}
theorem ok_deeper (T : Tx K mg) : OkG P w K mg base 1 "deeper" ["lines"] (spDeeper K) := by
  refine T.f_deeper.okX sc_deeper (fun vs H Q E h => ?_) (fun cdv A outer s H vs Q E hr h => ?_)
  · obtain ⟨i, _, _, rfl, _⟩ := h
    rfl
  · have hu1 := hu_of hr; have hu0 := hr.units0; have hu64 := hr.units; have hu65 := hu65_of hr; have nd := sc_deeper.nd
    obtain ⟨⟨l, ls⟩, Γ, S, rfl, z, ⟨hl, hls⟩, q, x⟩ := h
    dsimp only at z hl hls q x
    refine ⟨_, (pss_one (ps_ret (pe_lc (own := [("line", 1)]) rfl nd (pi_seqK (K := K) rfl (pv 0)) (blkOk_by (own := [("line", 1)]) (N := nm_deeper) (sc := defScope s_deeper) (by decide +kernel)) (fun _ _ _ _ _ => (pg_name (i := 1) nd rfl (Or.inl rfl) (Or.inr rfl))) (fun _ _ _ _ _ => pts_nil) (fun _ _ _ _ _ => (pe_op (op_addK (K := K) rfl) pe_str (pv 1)))))), ?_⟩
    refine w_start (σ' := [some (.ref l), none]) rfl z ?_
    dsimp only [List.cons_append, List.nil_append] at q ⊢
    k_extra "W"
    refine w_lc_l (ι := Unit) (ls.map V.str) (fun _ _ => True) (fun i _ => (deepL (ls.take i)).map V.str) (fun _ _ => Γ) (fun _ _ => own l (.lst (ls.map V.str)) :: S) () True.intro rfl (by k_extra "sub") (by k_extra "dr") (fun _ _ => by k_extra "at") ?_ ?_
    · rintro Dl i v _ hv _
      rw [List.getElem?_map] at hv
      obtain ⟨y, hy, rfl⟩ := Option.map_eq_some_iff.mp hv
      have hil := (List.getElem?_eq_some_iff.mp hy).1
      have hyl := hls y (List.mem_of_getElem? hy)
      k_extra "W"
      refine w_addTx (by rw [TL.tl_append, List.length_append]; have : (TL.tl (Str.ofString "  ")).length = 2 := by decide +kernel
                         omega) ?_
      refine w_lcp () True.intro ?_ (by k_extra "t") (by unfold deepL; rw [List.length_map, List.length_map, List.length_take]; omega) (by k_extra "sub") (by k_extra "dr")
      unfold deepL
      rw [List.take_add_one, hy, Option.toList_some, List.map_append, List.map_append]
      rfl
    rintro Dl _ _
    rw [List.length_map, List.take_of_length_le (Nat.le_refl _)]
    exact fun H z => q _ _ _ H ⟨_, rfl, rfl, rfl⟩ (z.fit (by k_extra "sub") (by k_extra "dr"))
theorem ok_deeds_linesA (T : Tx K mg) (n l : Nat) (G_deed_lines : OkG P w K mg base l "deed_lines" ["deed"] (spDeedL n K)) : OkG P w K mg base (l + 1) "deeds_lines" ["deeds"] (spDeedsL n K) := by
  refine T.f_deeds_lines.okX sc_deeds_lines (fun vs H Q E h => ?_) (fun cdv A outer s H vs Q E hr h => ?_)
  · obtain ⟨i, _, _, rfl, _⟩ := h
    rfl
  · have hu1 := hu_of hr; have hu0 := hr.units0; have hu64 := hr.units; have hu65 := hu65_of hr; have nd := sc_deeds_lines.nd
    obtain ⟨⟨p, ds⟩, Γ, S, rfl, z, ⟨hp, hok⟩, q, x⟩ := h
    dsimp only at z hp hok q x
    refine ⟨_, (pss_cons (ps_set (i := 1) nd rfl (Or.inl rfl) (pe_lst pa_nil))
      (pss_cons (ps_for (passes_of rfl) rfl (pi_seqK (K := K) rfl (pv 0)) (pg_name (i := 2) nd rfl (Or.inl rfl))
      (pss_one (ps_aug (i := 1) nd rfl (Or.inl rfl) (pcl T.g_deed_lines G_deed_lines hr (takes_of rfl rfl rfl rfl) (pa_cons (pv 2) pa_nil)) ip_ext)))
      (pss_one (ps_ret (pv 1))))), ?_⟩
    refine w_start (σ' := [some (.ref p), none, none]) rfl z ?_
    dsimp only [List.cons_append, List.nil_append] at q ⊢
    k_extra "W"
    refine w_lstO fun lf => ?_
    k_extra "W"
    refine w_loop_D (ι := Option V) (Dd.datas ds) (fun _ _ => True) (fun _ a => [some (.ref p), some (.ref lf), a]) (fun _ _ => Γ) (fun i _ => own lf (.lst ((Dd.liness (ds.take i)).map V.str)) :: S) none True.intro rfl (by k_extra "sub") (by rw [List.take_zero, Dd.liness]; k_extra "dr") (fun _ _ => hp) ?_ ?_
    · rintro i d v u hd _
      rw [datas_map, List.getElem?_map] at hd
      obtain ⟨dd, hdd, rfl⟩ := Option.map_eq_some_iff.mp hd
      have hil := (List.getElem?_eq_some_iff.mp hdd).1
      have hdo := hok.get hdd
      have hlt := liness_take hdd
      have hl1 := d_len hdo
      have hl2 : (Dd.liness (ds.take i)).length ≤ 400 := by
        have h1 := (ds_len hok).1
        have e : Dd.liness ds = Dd.liness (ds.take i) ++ Dd.liness (ds.drop i) := by rw [← liness_app, List.take_append_drop]
        rw [e, List.length_append] at h1
        omega
      k_extra "W"
      refine w_aug rfl ?_
      k_extra "W"
      refine w_don (⟨v, dd⟩ : V × Dd) (by k_extra "ts") ⟨by k_extra "m", hdo⟩ ?_
      rintro _ Γ' S' ⟨r, rfl, rfl, rfl⟩
      dsimp only [List.cons_append, List.nil_append]
      refine w_ext (by k_extra "sw") (by k_extra "at") (by rw [List.length_map, List.length_map]; omega) ?_
      k_extra "W"
      refine w_again _ True.intro rfl (by k_extra "sub") ?_
      rw [hlt, List.map_append]
      k_extra "dr"
    rintro u _
    rw [datas_map, List.length_map, List.take_of_length_le (Nat.le_refl _)]
    k_extra "W"
    exact fun H z => q _ _ _ H ⟨_, rfl, rfl, rfl⟩ (z.fit (by k_extra "sub") (by k_extra "dr"))
theorem ok_deed_linesA (T : Tx K mg) (n l : Nat) (hl : 17 ≤ l) (G_deeds_lines : OkG P w K mg base l "deeds_lines" ["deeds"] (spDeedsL n K)) : OkG P w K mg base (l + 1) "deed_lines" ["deed"] (spDeedL (n + 1) K) := by
  have G_deeper := ok_deeper (P := P) (w := w) (base := base) T
  have G_formula_words := ok_formula_words (P := P) (w := w) (base := base) T 15
  refine T.f_deed_lines.okX sc_deed_lines (fun vs H Q E h => ?_) (fun cdv A outer s H vs Q E hr h => ?_)
  · obtain ⟨i, _, _, rfl, _⟩ := h
    rfl
  · have hu1 := hu_of hr; have hu0 := hr.units0; have hu64 := hr.units; have hu65 := hu65_of hr; have nd := sc_deed_lines.nd
    obtain ⟨⟨v, d⟩, Γ, S, rfl, z, ⟨hv, hok⟩, q, x⟩ := h
    dsimp only at z hv hok q x
    obtain ⟨hdep, hd6, htx, hnum⟩ := hok
    obtain ⟨l1, l2, l3, l4, l5, l6, l7, l8⟩ := lits72
    have l9 : (TL.tl (Str.ofString " ")).length = 1 := by decide +kernel
    refine ⟨_, (pss_cons (ps_set (i := 1) nd rfl (Or.inl rfl) (pe_ix (ix_anyK (K := K) rfl hu1) (pv 0) pe_int (fun _ _ => rfl)))
      (pss_cons (ps_if (pt_cmpR (op_eqK (K := K) rfl hu64) (pv 1) pe_str (nomark _)) (pss_one (ps_ret (pe_lst (pa_cons pe_str pa_nil))))
      pss_nil)
      (pss_cons (ps_if (pt_cmpR (op_eqK (K := K) rfl hu64) (pv 1) pe_str (nomark _)) (pss_cons (ps_set (i := 2) nd rfl (Or.inl rfl) (pe_lst (pa_cons pe_str (pa_cons (pe_callTy cr_strI (by rfl) T.b_str (by decide +kernel) (pa_cons (pe_ix (ix_anyK (K := K) rfl hu1) (pv 0) pe_int (fun _ _ => rfl)) pa_nil)) (pa_cons (pe_ix (ix_anyK (K := K) rfl hu1) (pv 0) pe_int (fun _ _ => rfl)) (pa_cons (pe_callTy cr_strI (by rfl) T.b_str (by decide +kernel) (pa_cons (pe_ix (ix_anyK (K := K) rfl hu1) (pv 0) pe_int (fun _ _ => rfl)) pa_nil)) pa_nil))))))
      (pss_one (ps_ret (pe_lst (pa_cons (pe_bmK (K := K) rfl PySem.F.plainAttrs_str PySem.F.slot_str_join PySem.F.type_str_join (mt_joinK (K := K) rfl) pe_str (pa_cons (pe_op (op_addK (K := K) rfl) (pv 2) (pe_lc (own := [("formula", 4)]) rfl nd (pi_seqK (K := K) rfl (pe_lst (pa_cons (pe_ix (ix_anyK (K := K) rfl hu1) (pv 0) pe_int (fun _ _ => rfl)) (pa_cons (pe_ix (ix_anyK (K := K) rfl hu1) (pv 0) pe_int (fun _ _ => rfl)) (pa_cons (pe_ix (ix_anyK (K := K) rfl hu1) (pv 0) pe_int (fun _ _ => rfl)) pa_nil))))) (blkOk_by (own := [("formula", 4)]) (N := nm_deed_lines) (sc := defScope s_deed_lines) (by decide +kernel)) (fun _ _ _ _ _ => (pg_name (i := 4) nd rfl (Or.inl rfl) (Or.inr rfl))) (fun _ _ _ _ _ => pts_nil) (fun _ _ _ _ _ => (pcl T.g_formula_words G_formula_words hr takes0 (pa_cons (pv 4) pa_nil))))) pa_nil)) pa_nil)))))
      pss_nil)
      (pss_cons (ps_if (pt_cmpR (op_eqK (K := K) rfl hu64) (pv 1) pe_str (nomark _)) (pss_one (ps_ret (pe_op (op_addK (K := K) rfl) (pe_lst (pa_cons (pe_op (op_addK (K := K) rfl) (pe_op (op_addK (K := K) rfl) (pe_op (op_addK (K := K) rfl) pe_str (pe_ix (ix_anyK (K := K) rfl hu1) (pv 0) pe_int (fun _ _ => rfl))) pe_str) (pe_ix (ix_anyK (K := K) rfl hu1) (pv 0) pe_int (fun _ _ => rfl))) pa_nil)) (pcl T.g_deeper G_deeper hr (takes_of rfl rfl rfl rfl) (pa_cons (pcl T.g_deeds_lines G_deeds_lines hr (takes_of rfl rfl rfl rfl) (pa_cons (pe_ix (ix_anyK (K := K) rfl hu1) (pv 0) pe_int (fun _ _ => rfl)) pa_nil)) pa_nil)))))
      pss_nil)
      (pss_cons (ps_if (pt_cmpR (op_eqK (K := K) rfl hu64) (pv 1) pe_str (nomark _)) (pss_cons (ps_set (i := 3) nd rfl (Or.inl rfl) (pcl T.g_deeper G_deeper hr (takes_of rfl rfl rfl rfl) (pa_cons (pcl T.g_deeds_lines G_deeds_lines hr (takes_of rfl rfl rfl rfl) (pa_cons (pe_ix (ix_anyK (K := K) rfl hu1) (pv 0) pe_int (fun _ _ => rfl)) pa_nil)) pa_nil)))
      (pss_one (ps_ret (pe_op (op_addK (K := K) rfl) (pe_op (op_addK (K := K) rfl) (pe_op (op_addK (K := K) rfl) (pe_lst (pa_cons (pe_op (op_addK (K := K) rfl) pe_str (pcl T.g_formula_words G_formula_words hr (takes_of rfl rfl rfl rfl) (pa_cons (pe_ix (ix_anyK (K := K) rfl hu1) (pv 0) pe_int (fun _ _ => rfl)) pa_nil))) pa_nil)) (pv 3)) (pe_lst (pa_cons pe_str pa_nil))) (pcl T.g_deeper G_deeper hr (takes_of rfl rfl rfl rfl) (pa_cons (pcl T.g_deeds_lines G_deeds_lines hr (takes_of rfl rfl rfl rfl) (pa_cons (pe_ix (ix_anyK (K := K) rfl hu1) (pv 0) pe_int (fun _ _ => rfl)) pa_nil)) pa_nil))))))
      pss_nil)
      (pss_one (ps_ret (pe_lst (pa_cons (pe_op (op_addK (K := K) rfl) (pe_op (op_addK (K := K) rfl) (pe_op (op_addK (K := K) rfl) (pe_op (op_addK (K := K) rfl) (pv 1) pe_str) (pe_ix (ix_anyK (K := K) rfl hu1) (pv 0) pe_int (fun _ _ => rfl))) pe_str) (pcl T.g_formula_words G_formula_words hr (takes_of rfl rfl rfl rfl) (pa_cons (pe_ix (ix_anyK (K := K) rfl hu1) (pv 0) pe_int (fun _ _ => rfl)) pa_nil))) pa_nil))))))))), ?_⟩
    refine w_start (σ' := [some v, none, none, none, none]) rfl z ?_
    dsimp only [List.cons_append, List.nil_append] at q ⊢
    have fin : ∀ (r : Addr) (ls : List V) (Γ2 : List Fc) (S2 : List Vo), ls = d.lines.map V.str → (∀ f ∈ Γ, f ∈ Γ2) → Dr S2 (own r (.lst ls) :: S) → Wh K Γ2 S2 fun H => Q (.ref r) H := fun r ls Γ2 S2 e hs hd H y => by subst e; exact q _ [] _ H ⟨r, rfl, rfl, rfl⟩ (y.fit hs hd)
    cases d with
    | fin =>
      rw [Dd.data] at hv
      k_extra "W"
      refine w_lstO fun r => ?_
      exact fin _ _ _ _ (by rw [Dd.lines]; first | done | rfl) (by k_extra "sub") (by k_extra "dr")
    | put b f =>
      rw [Dd.data] at hv
      rw [Dd.Tx] at htx
      rw [Dd.lines, wlnF] at fin
      have h1 := nm6 htx.1
      have h2 := sg15 htx.2
      obtain ⟨f1, f2, f3⟩ := fm_arg htx.2
      k_extra "W"
      refine w_addTx (by simp only [TL.tl_append, List.length_append]; omega) ?_
      k_extra "W"
      refine w_addTx (by simp only [TL.tl_append, List.length_append]; omega) ?_
      k_extra "W"
      refine w_addTx (by simp only [TL.tl_append, List.length_append]; omega) ?_
      k_extra "W"
      refine w_don (⟨_, f⟩ : V × Fm) (by k_extra "ts") ⟨by k_extra "m", f1, f2, f3⟩ ?_
      rintro _ Γ' S' ⟨rfl, rfl, rfl⟩
      dsimp only [List.cons_append, List.nil_append]
      k_extra "W"
      refine w_addTx (by simp only [TL.tl_append, List.length_append]; omega) ?_
      k_extra "W"
      refine w_lstO fun r => ?_
      exact fin r [_] _ _ rfl (by k_extra "sub") (by k_extra "dr")
    | push b f =>
      rw [Dd.data] at hv
      rw [Dd.Tx] at htx
      rw [Dd.lines, wlnF] at fin
      have h1 := nm6 htx.1
      have h2 := sg15 htx.2
      obtain ⟨f1, f2, f3⟩ := fm_arg htx.2
      k_extra "W"
      refine w_addTx (by simp only [TL.tl_append, List.length_append]; omega) ?_
      k_extra "W"
      refine w_addTx (by simp only [TL.tl_append, List.length_append]; omega) ?_
      k_extra "W"
      refine w_addTx (by simp only [TL.tl_append, List.length_append]; omega) ?_
      k_extra "W"
      refine w_don (⟨_, f⟩ : V × Fm) (by k_extra "ts") ⟨by k_extra "m", f1, f2, f3⟩ ?_
      rintro _ Γ' S' ⟨rfl, rfl, rfl⟩
      dsimp only [List.cons_append, List.nil_append]
      k_extra "W"
      refine w_addTx (by simp only [TL.tl_append, List.length_append]; omega) ?_
      k_extra "W"
      refine w_lstO fun r => ?_
      exact fin r [_] _ _ rfl (by k_extra "sub") (by k_extra "dr")
    | draw b f =>
      rw [Dd.data] at hv
      rw [Dd.Tx] at htx
      rw [Dd.lines, wlnF] at fin
      have h1 := nm6 htx.1
      have h2 := sg15 htx.2
      obtain ⟨f1, f2, f3⟩ := fm_arg htx.2
      k_extra "W"
      refine w_addTx (by simp only [TL.tl_append, List.length_append]; omega) ?_
      k_extra "W"
      refine w_addTx (by simp only [TL.tl_append, List.length_append]; omega) ?_
      k_extra "W"
      refine w_addTx (by simp only [TL.tl_append, List.length_append]; omega) ?_
      k_extra "W"
      refine w_don (⟨_, f⟩ : V × Fm) (by k_extra "ts") ⟨by k_extra "m", f1, f2, f3⟩ ?_
      rintro _ Γ' S' ⟨rfl, rfl, rfl⟩
      dsimp only [List.cons_append, List.nil_append]
      k_extra "W"
      refine w_addTx (by simp only [TL.tl_append, List.length_append]; omega) ?_
      k_extra "W"
      refine w_lstO fun r => ?_
      exact fin r [_] _ _ rfl (by k_extra "sub") (by k_extra "dr")
    | pull b y ds =>
      rw [Dd.data] at hv
      rw [Dd.Tx] at htx
      rw [Dd.lines, wln3, show Str.ofString "pull" ++ Str.ofString " " = Str.ofString "pull " from TL.ext_tl (by decide +kernel)] at fin
      have l0 : (TL.tl (Str.ofString "pull ")).length = 5 := by decide +kernel
      rw [Dd.num] at hnum
      rw [Dd.depth] at hdep hd6
      have h1 := nm6 htx.1
      have h2 := nm6 htx.2.1
      have hds : DsOk n ds := ⟨by omega, by omega, htx.2.2, by omega⟩
      obtain ⟨k1, k2⟩ := ds_len hds
      k_extra "W"
      refine w_addTx (by simp only [TL.tl_append, List.length_append]; omega) ?_
      k_extra "W"
      refine w_addTx (by simp only [TL.tl_append, List.length_append]; omega) ?_
      k_extra "W"
      refine w_addTx (by simp only [TL.tl_append, List.length_append]; omega) ?_
      k_extra "W"
      refine w_lstO fun r1 => ?_
      k_extra "W"
      refine w_don (_, ds) (by k_extra "ts") ⟨by k_extra "m", hds⟩ ?_
      rintro _ Γ' S' ⟨r2, rfl, rfl, rfl⟩
      dsimp only [List.cons_append, List.nil_append]
      k_extra "W"
      refine w_don (r2, Dd.liness ds) (by k_extra "ts") ⟨by dsimp only; omega, fun x hx => Nat.le_trans (k2 x hx) (by decide)⟩ ?_
      rintro _ Γ' S' ⟨r3, rfl, rfl, rfl⟩
      dsimp only [List.cons_append, List.nil_append]
      refine w_addL (by k_extra "at") (by k_extra "at") (by unfold deepL; rw [List.length_map, List.length_map]; simp only [List.length_cons, List.length_nil]; omega) fun r4 => ?_
      k_extra "W"
      exact fin r4 (V.str (Str.ofString "pull " ++ b ++ Str.ofString " " ++ y) :: (deepL (Dd.liness ds)).map V.str) _ _ rfl (by k_extra "sub") (by k_extra "dr")
    | iff f a b =>
      rw [Dd.data] at hv
      rw [Dd.Tx] at htx
      rw [Dd.lines, wlnI, show Str.ofString "if" ++ Str.ofString " " = Str.ofString "if " from TL.ext_tl (by decide +kernel)] at fin
      have l0 : (TL.tl (Str.ofString "if ")).length = 3 := by decide +kernel
      rw [Dd.num] at hnum
      rw [Dd.depth] at hdep hd6
      have h1 := sg15 htx.1
      obtain ⟨f1, f2, f3⟩ := fm_arg htx.1
      have hda : DsOk n a := ⟨by omega, by omega, htx.2.1, by omega⟩
      have hdb : DsOk n b := ⟨by omega, by omega, htx.2.2, by omega⟩
      obtain ⟨k1, k2⟩ := ds_len hda
      obtain ⟨k3, k4⟩ := ds_len hdb
      k_extra "W"
      refine w_don (_, a) (by k_extra "ts") ⟨by k_extra "m", hda⟩ ?_
      rintro _ Γ' S' ⟨r2, rfl, rfl, rfl⟩
      dsimp only [List.cons_append, List.nil_append]
      k_extra "W"
      refine w_don (r2, Dd.liness a) (by k_extra "ts") ⟨by dsimp only; omega, fun x hx => Nat.le_trans (k2 x hx) (by decide)⟩ ?_
      rintro _ Γ' S' ⟨r3, rfl, rfl, rfl⟩
      dsimp only [List.cons_append, List.nil_append]
      k_extra "W"
      refine w_don (⟨_, f⟩ : V × Fm) (by k_extra "ts") ⟨by k_extra "m", f1, f2, f3⟩ ?_
      rintro _ Γ' S' ⟨rfl, rfl, rfl⟩
      dsimp only [List.cons_append, List.nil_append]
      k_extra "W"
      refine w_addTx (by simp only [TL.tl_append, List.length_append]; omega) ?_
      k_extra "W"
      refine w_lstO fun r4 => ?_
      k_extra "W"
      refine w_addL (by k_extra "at") (by k_extra "at") (by unfold deepL; rw [List.length_map, List.length_map]; simp only [List.length_cons, List.length_nil]; omega) fun r5 => ?_
      k_extra "W"
      refine w_lstO fun r6 => ?_
      k_extra "W"
      refine w_addL (by k_extra "at") (by k_extra "at") (by unfold deepL; simp only [List.length_append, List.length_map, List.length_cons, List.length_nil]; omega) fun r7 => ?_
      k_extra "W"
      refine w_don (_, b) (by k_extra "ts") ⟨by k_extra "m", hdb⟩ ?_
      rintro _ Γ' S' ⟨r8, rfl, rfl, rfl⟩
      dsimp only [List.cons_append, List.nil_append]
      k_extra "W"
      refine w_don (r8, Dd.liness b) (by k_extra "ts") ⟨by dsimp only; omega, fun x hx => Nat.le_trans (k4 x hx) (by decide)⟩ ?_
      rintro _ Γ' S' ⟨r9, rfl, rfl, rfl⟩
      dsimp only [List.cons_append, List.nil_append]
      refine w_addL (by k_extra "at") (by k_extra "at") (by unfold deepL; simp only [List.length_append, List.length_map, List.length_cons, List.length_nil]; omega) fun r10 => ?_
      k_extra "W"
      exact fin r10 ((V.str (Str.ofString "if " ++ f.text) :: (deepL (Dd.liness a)).map V.str) ++ [V.str "else"] ++ (deepL (Dd.liness b)).map V.str) _ _ (by simp) (by k_extra "sub") (by k_extra "dr")
    | send to sign span rank g h =>
      rw [Dd.data] at hv
      rw [Dd.Tx] at htx
      rw [Dd.lines, ← wlnS] at fin
      obtain ⟨h1, h2, h3, h4, h5, h6⟩ := htx
      have a1 := int_short (n := to) ⟨h1.1, by omega⟩
      have a2 := nm6 h2
      have a3 := int_short h3
      have a4 := sg15 h4
      have a5 := sg15 h5
      have a6 := sg15 h6
      obtain ⟨f1, f2, f3⟩ := fm_arg h4
      obtain ⟨g1, g2, g3⟩ := fm_arg h5
      obtain ⟨k1, k2, k3⟩ := fm_arg h6
      k_extra "W"
      refine w_strI (n64 h1.1 (by omega)) ?_
      k_extra "W"
      refine w_strI (n64 h3.1 (by omega)) ?_
      k_extra "W"
      refine w_lstO fun r1 => ?_
      k_extra "W"
      refine w_tyS ?_
      k_extra "W"
      refine w_lstO fun r2 => ?_
      k_extra "W"
      rename_i va vb vc
      refine w_lc_l (ι := Unit) [valOf span.data va, valOf g.data vb, valOf h.data vc] (fun _ _ => True) (fun i _ => (([span.text, g.text, h.text] : List Str).take i).map V.str) (fun _ _ => _) (fun _ _ => _) () True.intro rfl sub_refl Dr.refl (fun _ _ => by k_extra "at") ?_ ?_
      · rintro Dl i v2 _ hv2 _
        match i, hv2 with
        | 0, hv2 =>
          cases hv2
          k_extra "W"
          refine w_don (⟨_, span⟩ : V × Fm) (by k_extra "ts") ⟨by k_extra "m", f1, f2, f3⟩ ?_
          rintro _ Γ' S' ⟨rfl, rfl, rfl⟩
          dsimp only [List.cons_append, List.nil_append]
          exact w_lcp () True.intro rfl (by k_extra "t") (Nat.le_of_ble_eq_true rfl) (by k_extra "sub") (by k_extra "dr")
        | 1, hv2 =>
          cases hv2
          k_extra "W"
          refine w_don (⟨_, g⟩ : V × Fm) (by k_extra "ts") ⟨by k_extra "m", g1, g2, g3⟩ ?_
          rintro _ Γ' S' ⟨rfl, rfl, rfl⟩
          dsimp only [List.cons_append, List.nil_append]
          exact w_lcp () True.intro rfl (by k_extra "t") (Nat.le_of_ble_eq_true rfl) (by k_extra "sub") (by k_extra "dr")
        | 2, hv2 =>
          cases hv2
          k_extra "W"
          refine w_don (⟨_, h⟩ : V × Fm) (by k_extra "ts") ⟨by k_extra "m", k1, k2, k3⟩ ?_
          rintro _ Γ' S' ⟨rfl, rfl, rfl⟩
          dsimp only [List.cons_append, List.nil_append]
          exact w_lcp () True.intro rfl (by k_extra "t") (Nat.le_of_ble_eq_true rfl) (by k_extra "sub") (by k_extra "dr")
      rintro Dl _ _
      rw [show (([span.text, g.text, h.text] : List Str).take [valOf span.data va, valOf g.data vb, valOf h.data vc].length).map V.str = [V.str span.text, V.str g.text, V.str h.text] from rfl]
      k_extra "W"
      refine w_addL (by k_extra "at") (by k_extra "at") (Nat.le_of_ble_eq_true rfl) fun r3 => ?_
      dsimp only [List.cons_append, List.nil_append]
      k_extra "W"
      refine w_joinT (xs := [V.str "send", V.str (Str.ofString (toString to)), V.str sign, V.str (Str.ofString (toString rank)), V.str span.text, V.str g.text, V.str h.text]) (ys := [Str.ofString "send", intT to, sign, intT rank, span.text, g.text, h.text]) 1000 (by k_extra "at") rfl (Nat.le_of_ble_eq_true rfl) (fun y hy => ?_) (by decide) (by decide +kernel) ?_
      · rw [TL.len_tl]
        simp only [List.mem_cons, List.not_mem_nil, or_false] at hy
        rcases hy with rfl | rfl | rfl | rfl | rfl | rfl | rfl <;> omega
      k_extra "W"
      refine w_lstO fun r4 => ?_
      exact fin r4 [V.str (Txt.join (Str.ofString " ") [Str.ofString "send", intT to, sign, intT rank, span.text, g.text, h.text])] _ _ rfl (by k_extra "sub") (by k_extra "dr")
end
end Mo
namespace Mo
open PySem PySem.Spec PyProof.Rows L2
/-! ### modeltext.py: a machine's lines, a model's text -/
def spMachL (K : PySem.W.Frag) : Sp := SpF K (fun i : V × Mach => [i.1]) (fun i Γ => .dat i.1 i.2.data ∈ Γ ∧ i.2.Tx) (fun _ => []) (fun i v Γ' S' => ∃ r : Addr, v = .ref r ∧ Γ' = [] ∧ S' = [own r (.lst (i.2.lines.map V.str))]) noEx
def spModelT (K : PySem.W.Frag) : Sp := SpF K (fun i : Addr × List Mach => [.ref i.1]) (fun i Γ => .dat (.ref i.1) (.list (i.2.map Mach.data)) ∈ Γ ∧ (∀ m ∈ i.2, m.Tx) ∧ i.2.length ≤ 6) (fun _ => []) (fun i v Γ' S' => v = .str (modelT i.2) ∧ Γ' = [] ∧ S' = []) noEx
theorem lits72b : (TL.tl (Str.ofString "box ")).length = 4 ∧ (TL.tl (Str.ofString "queue ")).length = 6 ∧ (TL.tl (Str.ofString "on ")).length = 3 ∧ (TL.tl (Str.ofString "machine ")).length = 8 ∧ (TL.tl (Str.ofString "draws")).length = 5 ∧ (TL.tl (Str.ofString " ")).length = 1 := by decide +kernel
theorem box_w (b : Str) (n : Int) : Str.ofString "box " ++ b ++ Str.ofString " " ++ intT n = wln [Str.ofString "box", b, intT n] := by
  rw [wln3, show Str.ofString "box" ++ Str.ofString " " = Str.ofString "box " from TL.ext_tl (by decide +kernel)]
theorem queue_w (b : Str) : Str.ofString "queue " ++ b = wln [Str.ofString "queue", b] := by
  rw [wln2, show Str.ofString "queue" ++ Str.ofString " " = Str.ofString "queue " from TL.ext_tl (by decide +kernel)]
theorem on_w (b : Str) : Str.ofString "on " ++ b = wln [Str.ofString "on", b] := by
  rw [wln2, show Str.ofString "on" ++ Str.ofString " " = Str.ofString "on " from TL.ext_tl (by decide +kernel)]
theorem machine_w (b : Str) : Str.ofString "machine " ++ b = wln [Str.ofString "machine", b] := by
  rw [wln2, show Str.ofString "machine" ++ Str.ofString " " = Str.ofString "machine " from TL.ext_tl (by decide +kernel)]
theorem hearL_len {p : Str × List Dd} (h : NameOk p.1 ∧ Dd.Txs p.2 ∧ Dd.nums p.2 ≤ 20 ∧ Dd.depths p.2 ≤ 10) : (hearL p).length ≤ 41 ∧ ∀ x ∈ hearL p, (TL.tl x).length ≤ 942 := by
  obtain ⟨h1, h2, h3, h4⟩ := h
  have a1 := liness_len p.2
  have a2 := nm6 h1
  have a3 := lits72b
  refine ⟨by unfold hearL deepL; rw [List.length_cons, List.length_map]; omega, fun x hx => ?_⟩
  unfold hearL at hx
  rcases List.mem_cons.mp hx with rfl | hx
  · rw [← on_w, TL.tl_append, List.length_append]
    omega
  · exact deepL_len (n := 940) (fun y hy => by have := linez_len h2 y hy; omega) x hx
theorem Mach.Tx.ls {m : Mach} (h : m.Tx) {i : Nat} : ((m.hears.take i).map hearL).flatten.length ≤ 164 := by
  have q : ∀ (hs : List (Str × List Dd)), (∀ p ∈ hs, NameOk p.1 ∧ Dd.Txs p.2 ∧ Dd.nums p.2 ≤ 20 ∧ Dd.depths p.2 ≤ 10) → (hs.map hearL).flatten.length ≤ hs.length * 41 := fun hs => by
    induction hs with
    | nil => exact fun _ => Nat.zero_le _
    | cons p hs ih =>
      intro hh
      have h1 := ih fun z m => hh z (List.mem_cons_of_mem _ m)
      have h2 := (hearL_len (hh p List.mem_cons_self)).1
      rw [List.map_cons, List.flatten_cons, List.length_append, List.length_cons, Nat.succ_mul]
      omega
  have h1 := q (m.hears.take i) fun p hp => h.h p (List.mem_of_mem_take hp)
  have h2 := h.hl
  have h3 : (m.hears.take i).length ≤ 4 := by rw [List.length_take]; omega
  omega
theorem worth64 {n : Int} (h : Worth n) : Bd 64 n := by
  obtain ⟨h1, h2⟩ := h
  show n.natAbs < 2 ^ 64
  omega
theorem draws_len {ds : List Int} (h : ∀ d ∈ ds, 0 ≤ d ∧ d ≤ 1000000000000000) (hl : ds.length ≤ 20) : (TL.tl (wln (Str.ofString "draws" :: ds.map intT))).length ≤ 21 * 18 := by
  have h1 := join_len (y := blank) (ls := Str.ofString "draws" :: ds.map intT) (n := 17) fun x hx => by
    rcases List.mem_cons.mp hx with rfl | hx
    · have := lits72b; omega
    · obtain ⟨d, hd, rfl⟩ := List.mem_map.mp hx
      have := h d hd
      exact worth_len ⟨by omega, this.2⟩
  rw [tl_blank] at h1
  have h2 : (Str.ofString "draws" :: ds.map intT).length ≤ 21 := by rw [List.length_cons, List.length_map]; omega
  exact Nat.le_trans h1 (Nat.mul_le_mul h2 (by decide))
theorem Mach.Tx.body {m : Mach} (h : m.Tx) : m.body.length ≤ 174 ∧ ∀ x ∈ m.body, (TL.tl x).length ≤ 942 := by
  have h1 := h.ls (i := m.hears.length)
  rw [List.take_of_length_le (Nat.le_refl _)] at h1
  have h2 := h.bl
  have h3 := h.ql
  have a3 := lits72b
  refine ⟨?_, fun x hx => ?_⟩
  · unfold Mach.body
    simp only [List.length_append, List.length_map]
    split
    · rw [List.length_nil]; omega
    · rw [List.length_singleton]; omega
  · unfold Mach.body at hx
    rcases List.mem_append.mp hx with hx | hx
    · rcases List.mem_append.mp hx with hx | hx
      · rcases List.mem_append.mp hx with hx | hx
        · obtain ⟨b, hb, rfl⟩ := List.mem_map.mp hx
          have k := h.b b hb
          have k1 := nm6 k.1
          have k2 : (TL.tl (intT b.2)).length ≤ 17 := worth_len k.2
          rw [← box_w]
          simp only [TL.tl_append, List.length_append]
          omega
        · obtain ⟨b, hb, rfl⟩ := List.mem_map.mp hx
          have k1 := nm6 (h.q b hb)
          rw [← queue_w]
          simp only [TL.tl_append, List.length_append]
          omega
      · split at hx
        · exact nomatch hx
        · rw [List.mem_singleton.mp hx]
          have := draws_len h.d h.dl
          omega
    · obtain ⟨l, hl, hx⟩ := List.mem_flatten.mp hx
      obtain ⟨p, hp, rfl⟩ := List.mem_map.mp hl
      exact (hearL_len (h.h p hp)).2 x hx
theorem Mach.Tx.lines {m : Mach} (h : m.Tx) : m.lines.length ≤ 175 ∧ ∀ x ∈ m.lines, (TL.tl x).length ≤ 944 := by
  obtain ⟨h1, h2⟩ := h.body
  have a3 := lits72b
  have a4 := nm6 h.name
  refine ⟨by unfold Mach.lines deepL; rw [List.length_cons, List.length_map]; omega, fun x hx => ?_⟩
  unfold Mach.lines at hx
  rcases List.mem_cons.mp hx with rfl | hx
  · rw [← machine_w, TL.tl_append, List.length_append]
    omega
  · exact deepL_len h2 x hx
theorem machs_len {ms : List Mach} (h : ∀ m ∈ ms, m.Tx) : (machsL ms).length ≤ ms.length * 175 ∧ ∀ x ∈ machsL ms, (TL.tl x).length ≤ 944 := by
  induction ms with
  | nil => exact ⟨Nat.zero_le _, fun _ h => nomatch h⟩
  | cons m ms ih =>
    obtain ⟨h1, h2⟩ := ih fun z k => h z (List.mem_cons_of_mem _ k)
    obtain ⟨h3, h4⟩ := (h m List.mem_cons_self).lines
    have e : machsL (m :: ms) = m.lines ++ machsL ms := rfl
    rw [e]
    refine ⟨by rw [List.length_append, List.length_cons, Nat.succ_mul]; omega, fun x hx => ?_⟩
    rcases List.mem_append.mp hx with hx | hx
    · exact h4 x hx
    · exact h2 x hx
section
variable {K : PySem.W.Frag} {Γ : List Fc} {S : List Vo} {Q : VK}
/-- more lines than a thousand -/
theorem w_joinW {a : Str} {p : Addr} {xs : List V} {ys : List Str} (n : Nat) (m : AtH K Γ S p (.lst xs)) (e : xs = ys.map V.str) (hl : ys.length ≤ 2000) (hy : ∀ y ∈ ys, y.length ≤ n) (hn : n ≤ 1000) (ha : a.length ≤ 100) (k : Wh K Γ S fun H => Q (.str (Txt.join a ys)) H) :
    Wh K Γ S fun H => rJoin K (.str a) [.ref p] H Q := fun H z => by
  subst e
  have h1 := sum_le hy
  have h2 : ys.length * n ≤ 2000 * 1000 := Nat.mul_le_mul hl hn
  have h3 : ys.length * a.length ≤ 2000 * 100 := Nat.mul_le_mul hl ha
  exact ⟨a, p, ys, rfl, rfl, .inl (SqL.of (m H z)), by omega, k H z⟩
end
section
variable {P : Program} {w : World} {K : PySem.W.Frag} {mg : Str → Option Value} {base : Heap}
theorem ok_deeds_lines (T : Tx K mg) : ∀ n, OkG P w K mg base (2 * n + 19) "deeds_lines" ["deeds"] (spDeedsL n K)
  | 0 => ok_deeds_linesA T 0 18 (by
    refine T.f_deed_lines.okX sc_deed_lines (fun vs H Q E h => ?_) (fun cdv A outer s H vs Q E hr h => ?_)
    · obtain ⟨i, _, _, rfl, _⟩ := h
      rfl
    · obtain ⟨i, _, _, rfl, z, h1, _⟩ := h
      exact absurd h1.2.dep (Nat.not_lt_zero _))
  | n + 1 => by
    have h := ok_deeds_linesA (P := P) (w := w) (base := base) T (n + 1) _ (ok_deed_linesA T n (2 * n + 19) (by omega) (ok_deeds_lines T n))
    exact h
theorem ok_machine_lines (T : Tx K mg) : OkG P w K mg base 41 "machine_lines" ["machine"] (spMachL K) := by
  have G_deeper := ok_deeper (P := P) (w := w) (base := base) T
  have G_deeds_lines := ok_deeds_lines (P := P) (w := w) (base := base) T 10
  refine T.f_machine_lines.okX sc_machine_lines (fun vs H Q E h => ?_) (fun cdv A outer s H vs Q E hr h => ?_)
  · obtain ⟨i, _, _, rfl, _⟩ := h
    rfl
  · have hu1 := hu_of hr; have hu0 := hr.units0; have hu64 := hr.units; have hu65 := hu65_of hr; have nd := sc_machine_lines.nd
    obtain ⟨⟨v, m⟩, Γ, S, rfl, z, ⟨hv, htx⟩, q, x⟩ := h
    dsimp only at z hv htx q x
    obtain ⟨a1, a2, a3, a4, a5, a6⟩ := lits72b
    have hbl := htx.bl
    have hql := htx.ql
    have hdl := htx.dl
    have hhl := htx.hl
    refine ⟨_, (pss_cons (ps_asg (pv 0) (pg_tupK (K := K) (n := 5) rfl rfl (pgs_cons (pg_name (i := 1) nd rfl (Or.inl rfl)) (pgs_cons (pg_name (i := 2) nd rfl (Or.inl rfl)) (pgs_cons (pg_name (i := 3) nd rfl (Or.inl rfl)) (pgs_cons (pg_name (i := 4) nd rfl (Or.inl rfl)) (pgs_cons (pg_name (i := 5) nd rfl (Or.inl rfl)) pgs_nil))))) rfl rfl))
      (pss_cons (ps_setLc (i := 6) rfl nd rfl rfl (sw_true rfl rfl rfl (by decide +kernel)) (own := [("box", 9), ("worth", 10)]) (pi_seqK (K := K) rfl (pv 2)) (blkOk_by (own := [("box", 9), ("worth", 10)]) (N := nm_machine_lines) (sc := defScope s_machine_lines) (by decide +kernel)) (fun _ _ _ _ _ => (pg_tupK (K := K) (n := 2) rfl rfl (pgs_cons (pg_name (i := 9) nd rfl (Or.inl rfl) (Or.inr rfl)) (pgs_cons (pg_name (i := 10) nd rfl (Or.inl rfl) (Or.inr rfl)) pgs_nil)) rfl rfl)) (fun _ _ _ _ _ => pts_nil) (fun _ _ _ _ _ => (pe_op (op_addK (K := K) rfl) (pe_op (op_addK (K := K) rfl) (pe_op (op_addK (K := K) rfl) pe_str (pv 9)) pe_str) (pe_callTy cr_strI (by rfl) T.b_str (by decide +kernel) (pa_cons (pv 10) pa_nil)))))
      (pss_cons (ps_aug (i := 6) nd rfl (Or.inl rfl) (pe_lc (own := [("queue", 11)]) rfl nd (pi_seqK (K := K) rfl (pv 3)) (blkOk_by (own := [("queue", 11)]) (N := nm_machine_lines) (sc := defScope s_machine_lines) (by decide +kernel)) (fun _ _ _ _ _ => (pg_name (i := 11) nd rfl (Or.inl rfl) (Or.inr rfl))) (fun _ _ _ _ _ => pts_nil) (fun _ _ _ _ _ => (pe_op (op_addK (K := K) rfl) pe_str (pv 11)))) ip_ext)
      (Evl.pss_cut (ps_if (pt_cmpR (op_neK (K := K) rfl hu64) (pv 4) (pe_lst pa_nil) (nomark _)) (pss_one (ps_expr (pe_bmK (K := K) rfl PySem.F.plainAttrs_list PySem.F.slot_list_append PySem.F.type_list_append mt_append (pv 6) (pa_cons (pe_bmK (K := K) rfl PySem.F.plainAttrs_str PySem.F.slot_str_join PySem.F.type_str_join (mt_joinK (K := K) rfl) pe_str (pa_cons (pe_op (op_addK (K := K) rfl) (pe_lst (pa_cons pe_str pa_nil)) (pe_lc (own := [("draw", 12)]) rfl nd (pi_seqK (K := K) rfl (pv 4)) (blkOk_by (own := [("draw", 12)]) (N := nm_machine_lines) (sc := defScope s_machine_lines) (by decide +kernel)) (fun _ _ _ _ _ => (pg_name (i := 12) nd rfl (Or.inl rfl) (Or.inr rfl))) (fun _ _ _ _ _ => pts_nil) (fun _ _ _ _ _ => (pe_callTy cr_strI (by rfl) T.b_str (by decide +kernel) (pa_cons (pv 12) pa_nil))))) pa_nil)) pa_nil))))
      pss_nil)
      (pss_cons (ps_for (passes_of rfl) rfl (pi_seqK (K := K) rfl (pv 5)) (pg_tupK (K := K) (n := 2) rfl rfl (pgs_cons (pg_name (i := 7) nd rfl (Or.inl rfl)) (pgs_cons (pg_name (i := 8) nd rfl (Or.inl rfl)) pgs_nil)) rfl rfl)
      (pss_one (ps_aug (i := 6) nd rfl (Or.inl rfl) (pe_op (op_addK (K := K) rfl) (pe_lst (pa_cons (pe_op (op_addK (K := K) rfl) pe_str (pv 7)) pa_nil)) (pcl T.g_deeper G_deeper hr (takes_of rfl rfl rfl rfl) (pa_cons (pcl T.g_deeds_lines G_deeds_lines hr (takes_of rfl rfl rfl rfl) (pa_cons (pv 8) pa_nil)) pa_nil))) ip_ext)))
      (pss_one (ps_ret (pe_op (op_addK (K := K) rfl) (pe_lst (pa_cons (pe_op (op_addK (K := K) rfl) pe_str (pv 1)) pa_nil)) (pcl T.g_deeper G_deeper hr (takes_of rfl rfl rfl rfl) (pa_cons (pv 6) pa_nil)))))))))), ?_⟩
    refine w_start (σ' := [some v, none, none, none, none, none, none, none, none, none, none, none, none]) rfl z ?_
    dsimp only [List.cons_append, List.nil_append] at q ⊢
    rw [Mach.data] at hv
    k_extra "W"
    rename_i pb pq pd ph
    refine w_lc_D (ι := Unit) (m.boxes.map boxD) (fun _ _ => True) (fun i _ => (m.boxes.take i).map fun b => V.str (wln [Str.ofString "box", b.1, intT b.2])) (fun _ _ => _) (fun _ _ => S) () True.intro rfl sub_refl Dr.refl (fun _ _ => by k_extra "m") ?_ ?_
    · rintro Dl i d v2 _ hd _
      rw [List.getElem?_map] at hd
      obtain ⟨b, hb, rfl⟩ := Option.map_eq_some_iff.mp hd
      have hk := htx.b b (List.mem_of_getElem? hb)
      have k1 := nm6 hk.1
      have k2 : (TL.tl (intT b.2)).length ≤ 17 := worth_len hk.2
      rw [show boxD b = .tuple [.str b.1, .int b.2] from rfl]
      k_extra "W"
      refine w_addTx (by simp only [TL.tl_append, List.length_append]; omega) ?_
      k_extra "W"
      refine w_addTx (by simp only [TL.tl_append, List.length_append]; omega) ?_
      k_extra "W"
      refine w_strI (worth64 hk.2) ?_
      rw [show Str.ofString (toString b.2) = intT b.2 from rfl]
      k_extra "W"
      refine w_addTx (by simp only [TL.tl_append, List.length_append]; omega) ?_
      rw [box_w]
      refine w_lcp () True.intro (by rw [List.take_add_one, hb, Option.toList_some, List.map_append]; rfl) (by k_extra "t") (by rw [List.length_map, List.length_take]; omega) (by k_extra "sub") (by k_extra "dr")
    rintro lf _ _
    rw [List.length_map, List.take_of_length_le (Nat.le_refl _)]
    k_extra "W"
    refine w_aug rfl ?_
    k_extra "W"
    refine w_lc_D (ι := Unit) (m.queues.map PyData.str) (fun _ _ => True) (fun i _ => (m.queues.take i).map fun b => V.str (wln [Str.ofString "queue", b])) (fun _ _ => _) (fun _ _ => _) () True.intro rfl sub_refl Dr.refl (fun _ _ => by k_extra "m") ?_ ?_
    · rintro Dl i d v2 _ hd _
      rw [List.getElem?_map] at hd
      obtain ⟨b, hb, rfl⟩ := Option.map_eq_some_iff.mp hd
      have k1 := nm6 (htx.q b (List.mem_of_getElem? hb))
      refine w_str (by k_extra "m") fun ev => ?_
      subst ev
      k_extra "W"
      refine w_addTx (by simp only [TL.tl_append, List.length_append]; omega) ?_
      rw [queue_w]
      refine w_lcp () True.intro (by rw [List.take_add_one, hb, Option.toList_some, List.map_append]; rfl) (by k_extra "t") (by rw [List.length_map, List.length_take]; omega) (by k_extra "sub") (by k_extra "dr")
    rintro lq _ _
    rw [List.length_map, List.take_of_length_le (Nat.le_refl _)]
    k_extra "W"
    refine w_ext (by k_extra "sw") (by k_extra "at") (by rw [List.length_map, List.length_map]; omega) ?_
    rw [show (m.boxes.map fun b => V.str (wln [Str.ofString "box", b.1, intT b.2])) ++ (m.queues.map fun b => V.str (wln [Str.ofString "queue", b])) = (m.boxes.map (fun b => wln [Str.ofString "box", b.1, intT b.2]) ++ m.queues.map (fun q => wln [Str.ofString "queue", q])).map V.str by rw [List.map_append, List.map_map, List.map_map]; rfl]
    have hL1 : (m.boxes.map (fun b => wln [Str.ofString "box", b.1, intT b.2]) ++ m.queues.map (fun q => wln [Str.ofString "queue", q])).length ≤ 9 := by rw [List.length_append, List.length_map, List.length_map]; omega
    have hbody : m.body = (m.boxes.map (fun b => wln [Str.ofString "box", b.1, intT b.2]) ++ m.queues.map (fun q => wln [Str.ofString "queue", q])) ++ (if m.draws = [] then [] else [wln (Str.ofString "draws" :: m.draws.map intT)]) ++ (m.hears.map hearL).flatten := rfl
    generalize m.boxes.map (fun b => wln [Str.ofString "box", b.1, intT b.2]) ++ m.queues.map (fun q => wln [Str.ofString "queue", q]) = L1 at *
    k_extra "W"
    refine w_cut (ι := Unit) (fun _ => True) (fun _ => [some v, some (.str m.name), some (.ref pb), some (.ref pq), some (.ref pd), some (.ref ph), some (.ref lf), none, none, none, none, none, none]) (fun _ => .dat (.ref ph) (.list (m.hears.map hearD)) :: Γ) (fun _ => own lf (.lst ((L1 ++ (if m.draws = [] then [] else [wln (Str.ofString "draws" :: m.draws.map intT)])).map V.str)) :: S) ?_ ?_
    · have hsh1 : SeqAt.shaped (.list (m.draws.map PyData.int)) = true := (Shp.lst (n := 0) Shps.ints).shaped (by decide)
      have hsh0 : SeqAt.shaped (.list ([] : List PyData)) = true := (Shp.lst (n := 0) .nil).shaped (by decide)
      have eqe : PyData.eqv (.list (m.draws.map PyData.int)) (.list []) = decide (m.draws = []) := by cases m.draws <;> rfl
      k_extra "W"
      refine w_lstO fun l0 => ?_
      k_extra "W"
      refine w_neH (d := .list (m.draws.map PyData.int)) (e := .list []) (dpH_dv (DV.mem (by k_extra "m"))) (dpH_own (by k_extra "at") DL.nil) hsh1 hsh0 ?_
      rw [eqe]
      k_extra "W"
      refine w_iteN (fun h0 => ?_) (fun h0 => ?_)
      · k_extra "W"
        refine w_tyS ?_
        k_extra "W"
        refine w_lstO fun l1 => ?_
        k_extra "W"
        refine w_lc_D (ι := Unit) (m.draws.map PyData.int) (fun _ _ => True) (fun i _ => ((m.draws.take i).map intT).map V.str) (fun _ _ => _) (fun _ _ => _) () True.intro rfl sub_refl Dr.refl (fun _ _ => by k_extra "m") ?_ ?_
        · rintro Dl i d v2 _ hd _
          rw [List.getElem?_map] at hd
          obtain ⟨b, hb, rfl⟩ := Option.map_eq_some_iff.mp hd
          have hk := htx.d b (List.mem_of_getElem? hb)
          refine w_intv (by k_extra "m") fun ev => ?_
          subst ev
          k_extra "W"
          refine w_strI (worth64 ⟨by omega, hk.2⟩) ?_
          rw [show Str.ofString (toString b) = intT b from rfl]
          refine w_lcp () True.intro (by rw [List.take_add_one, hb, Option.toList_some, List.map_append, List.map_append]; rfl) (by k_extra "t") (by rw [List.length_map, List.length_map, List.length_take]; omega) (by k_extra "sub") (by k_extra "dr")
        rintro ld _ _
        rw [List.length_map, List.take_of_length_le (Nat.le_refl _)]
        k_extra "W"
        refine w_addL (by k_extra "at") (by k_extra "at") (by rw [List.length_map, List.length_map]; simp only [List.length_cons, List.length_nil]; omega) fun l3 => ?_
        dsimp only [List.cons_append, List.nil_append]
        k_extra "W"
        refine w_joinT (xs := V.str (Str.ofString "draws") :: (m.draws.map intT).map V.str) (ys := Str.ofString "draws" :: m.draws.map intT) 20 (by k_extra "at") rfl (by rw [List.length_cons, List.length_map]; omega) (fun y hy => ?_) (by decide) (by decide +kernel) ?_
        · rw [TL.len_tl]
          rcases List.mem_cons.mp hy with rfl | hy
          · omega
          · obtain ⟨d, hd, rfl⟩ := List.mem_map.mp hy
            have hk := htx.d d hd
            have : (TL.tl (intT d)).length ≤ 17 := worth_len ⟨by omega, hk.2⟩
            omega
        k_extra "W"
        refine w_app (by k_extra "sw") (by rw [List.length_map]; omega) ?_
        k_extra "W"
        refine w_again () True.intro rfl (by k_extra "sub") ?_
        rw [if_neg h0, List.map_append]
        k_extra "dr"
      · k_extra "W"
        refine w_again () True.intro rfl (by k_extra "sub") ?_
        rw [if_pos h0, List.append_nil]
        k_extra "dr"
    rintro _ _
    have hL2 : (L1 ++ (if m.draws = [] then [] else [wln (Str.ofString "draws" :: m.draws.map intT)])).length ≤ 10 := by
      rw [List.length_append]
      split
      · rw [List.length_nil]; omega
      · rw [List.length_singleton]; omega
    generalize L1 ++ (if m.draws = [] then [] else [wln (Str.ofString "draws" :: m.draws.map intT)]) = L2 at *
    k_extra "W"
    refine w_loop_D (ι := Option V × Option V) (m.hears.map hearD) (fun _ _ => True) (fun _ a => [some v, some (.str m.name), some (.ref pb), some (.ref pq), some (.ref pd), some (.ref ph), some (.ref lf), a.1, a.2, none, none, none, none]) (fun _ _ => .dat (.ref ph) (.list (m.hears.map hearD)) :: Γ) (fun i _ => own lf (.lst ((L2 ++ ((m.hears.take i).map hearL).flatten).map V.str)) :: S) (none, none) True.intro rfl (by k_extra "sub") (by show Dr _ (own lf (.lst ((L2 ++ []).map V.str)) :: S); rw [List.append_nil]; k_extra "dr") (fun _ _ => by k_extra "m") ?_ ?_
    · rintro i d v2 ⟨u1, u2⟩ hd _
      rw [List.getElem?_map] at hd
      obtain ⟨p, hp, rfl⟩ := Option.map_eq_some_iff.mp hd
      have hk := htx.h p (List.mem_of_getElem? hp)
      have k1 := nm6 hk.1
      have hds : DsOk 10 p.2 := ⟨by omega, by omega, hk.2.1, by omega⟩
      obtain ⟨k2, k3⟩ := ds_len hds
      have hls := htx.ls (i := i)
      rw [show hearD p = .tuple [.str p.1, .list (Dd.datas p.2)] from rfl]
      k_extra "W"
      refine w_aug rfl ?_
      k_extra "W"
      refine w_addTx (by simp only [TL.tl_append, List.length_append]; omega) ?_
      rw [on_w]
      k_extra "W"
      refine w_lstO fun l4 => ?_
      k_extra "W"
      refine w_don (_, p.2) (by k_extra "ts") ⟨by k_extra "m", hds⟩ ?_
      rintro _ Γ' S' ⟨r2, rfl, rfl, rfl⟩
      dsimp only [List.cons_append, List.nil_append]
      k_extra "W"
      refine w_don (r2, Dd.liness p.2) (by k_extra "ts") ⟨by dsimp only; omega, fun x hx => Nat.le_trans (k3 x hx) (by decide)⟩ ?_
      rintro _ Γ' S' ⟨r3, rfl, rfl, rfl⟩
      dsimp only [List.cons_append, List.nil_append]
      k_extra "W"
      refine w_addL (by k_extra "at") (by k_extra "at") (by unfold deepL; rw [List.length_map, List.length_map]; simp only [List.length_cons, List.length_nil]; omega) fun l5 => ?_
      dsimp only [List.cons_append, List.nil_append]
      k_extra "W"
      refine w_ext (by k_extra "sw") (by k_extra "at") (by unfold deepL; simp only [List.length_map, List.length_append, List.length_cons]; omega) ?_
      k_extra "W"
      refine w_again (_, _) True.intro rfl (by k_extra "sub") ?_
      have hnext : L2 ++ ((m.hears.take (i + 1)).map hearL).flatten = (L2 ++ ((m.hears.take i).map hearL).flatten) ++ hearL p := by rw [List.take_add_one, hp, Option.toList_some, List.map_append, List.flatten_append, List.map_cons, List.map_nil, List.flatten_cons, List.flatten_nil, List.append_nil, List.append_assoc]
      have e : (L2 ++ ((m.hears.take (i + 1)).map hearL).flatten).map V.str = (L2 ++ ((m.hears.take i).map hearL).flatten).map V.str ++ (V.str (wln [Str.ofString "on", p.1]) :: (deepL (Dd.liness p.2)).map V.str) := by rw [hnext, List.map_append]; rfl
      rw [e]
      k_extra "dr"
    rintro ⟨u1, u2⟩ _
    rw [List.length_map, List.take_of_length_le (Nat.le_refl _), ← hbody]
    obtain ⟨b1, b2⟩ := htx.body
    have hn6 := nm6 htx.name
    k_extra "W"
    refine w_addTx (by simp only [TL.tl_append, List.length_append]; omega) ?_
    rw [machine_w]
    k_extra "W"
    refine w_lstO fun l6 => ?_
    k_extra "W"
    refine w_don (lf, m.body) (by k_extra "ts") ⟨by dsimp only; omega, fun x hx => Nat.le_trans (b2 x hx) (by decide)⟩ ?_
    rintro _ Γ' S' ⟨r4, rfl, rfl, rfl⟩
    dsimp only [List.cons_append, List.nil_append]
    refine w_addL (by k_extra "at") (by k_extra "at") (by unfold deepL; rw [List.length_map, List.length_map]; simp only [List.length_cons, List.length_nil]; omega) fun l7 => ?_
    dsimp only [List.cons_append, List.nil_append]
    refine fun H z => q _ [] [own l7 (.lst (m.lines.map V.str))] H ⟨l7, rfl, rfl, rfl⟩ (z.fit (by k_extra "sub") ?_)
    show Dr _ ([own l7 (.lst (V.str (wln [Str.ofString "machine", m.name]) :: (deepL m.body).map V.str))] ++ S)
    dsimp only [List.cons_append, List.nil_append]
    k_extra "dr"
theorem ok_model_text (T : Tx K mg) : OkG P w K mg base 42 "model_text" ["machines"] (spModelT K) := by
  have G_machine_lines := ok_machine_lines (P := P) (w := w) (base := base) T
  refine T.f_model_text.okX sc_model_text (fun vs H Q E h => ?_) (fun cdv A outer s H vs Q E hr h => ?_)
  · obtain ⟨i, _, _, rfl, _⟩ := h
    rfl
  · have hu1 := hu_of hr; have hu0 := hr.units0; have hu64 := hr.units; have hu65 := hu65_of hr; have nd := sc_model_text.nd
    obtain ⟨⟨l, ms⟩, Γ, S, rfl, z, ⟨hv, htx, hml⟩, q, x⟩ := h
    dsimp only at z hv htx hml q x
    obtain ⟨hz1, hz2⟩ := machs_len htx
    refine ⟨_, (pss_cons (ps_set (i := 1) nd rfl (Or.inl rfl) (pe_lst pa_nil))
      (pss_cons (ps_for (passes_of rfl) rfl (pi_seqK (K := K) rfl (pv 0)) (pg_name (i := 2) nd rfl (Or.inl rfl))
      (pss_one (ps_aug (i := 1) nd rfl (Or.inl rfl) (pcl T.g_machine_lines G_machine_lines hr (takes_of rfl rfl rfl rfl) (pa_cons (pv 2) pa_nil)) ip_ext)))
      (pss_one (ps_ret (pe_bmK (K := K) rfl PySem.F.plainAttrs_str PySem.F.slot_str_join PySem.F.type_str_join (mt_joinK (K := K) rfl) pe_str (pa_cons (pv 1) pa_nil)))))), ?_⟩
    refine w_start (σ' := [some (.ref l), none, none]) rfl z ?_
    dsimp only [List.cons_append, List.nil_append] at q ⊢
    k_extra "W"
    refine w_lstO fun lf => ?_
    k_extra "W"
    refine w_loop_D (ι := Option V) (ms.map Mach.data) (fun _ _ => True) (fun _ a => [some (.ref l), some (.ref lf), a]) (fun _ _ => Γ) (fun i _ => own lf (.lst ((machsL (ms.take i)).map V.str)) :: S) none True.intro rfl (by k_extra "sub") (by show Dr _ (own lf (.lst []) :: S); k_extra "dr") (fun _ _ => hv) ?_ ?_
    · rintro i d v u hd _
      rw [List.getElem?_map] at hd
      obtain ⟨m, hm, rfl⟩ := Option.map_eq_some_iff.mp hd
      have hmt := htx m (List.mem_of_getElem? hm)
      have hl1 := hmt.lines.1
      have hnext : machsL (ms.take (i + 1)) = machsL (ms.take i) ++ m.lines := by unfold machsL; rw [List.take_add_one, hm, Option.toList_some, List.map_append, List.flatten_append, List.map_cons, List.map_nil, List.flatten_cons, List.flatten_nil, List.append_nil]
      have hl2 : (machsL (ms.take i)).length ≤ 1050 := by
        have e : machsL ms = machsL (ms.take i) ++ machsL (ms.drop i) := by unfold machsL; rw [← List.flatten_append, ← List.map_append, List.take_append_drop]
        rw [e, List.length_append] at hz1
        omega
      k_extra "W"
      refine w_aug rfl ?_
      k_extra "W"
      refine w_don (⟨v, m⟩ : V × Mach) (by k_extra "ts") ⟨by k_extra "m", hmt⟩ ?_
      rintro _ Γ' S' ⟨r, rfl, rfl, rfl⟩
      dsimp only [List.cons_append, List.nil_append]
      refine w_ext (by k_extra "sw") (by k_extra "at") (by rw [List.length_map, List.length_map]; omega) ?_
      k_extra "W"
      refine w_again _ True.intro rfl (by k_extra "sub") ?_
      rw [hnext, List.map_append]
      k_extra "dr"
    rintro u _
    rw [List.length_map, List.take_of_length_le (Nat.le_refl _)]
    k_extra "W"
    refine w_tyS ?_
    k_extra "W"
    refine w_joinW (ys := machsL ms) 944 (by k_extra "at") rfl (by omega) (fun y hy => by rw [TL.len_tl]; exact hz2 y hy) (by decide) (by decide +kernel) ?_
    exact fun H z => q _ _ _ H ⟨rfl, rfl, rfl⟩ (z.fit (by k_extra "sub") (by k_extra "dr"))
end
end Mo
namespace Mo
open PySem PySem.Spec PyProof.Rows L2
/-! ### isinstance of a kept exception and several classes -/
def rIsTX (K : PySem.W.Frag) : List V → Hp → VK → Prop := fun xs H Q => ∃ (a D tp : Addr) (o : HO) (cs : List V) (us : List Value) (b : Bool), xs = [.ref a, .ref tp] ∧ H a = some o ∧ IsEx D a o ∧ ExcC K D ∧ H tp = some (.tup cs) ∧ Paired ClsV cs us ∧ PySem.W.kitAny K (.ref D) us = some b ∧ Q (.bl b) H
theorem call_isTX {X : Cx} : CallR X (.builtin "isinstance") (rIsTX X.K) := by
  intro pins s σ H xs us Q I r h
  obtain ⟨a, D, tp, o, cs, ws, b, rfl, ha, x, C, hT, k, e, q⟩ := h
  obtain ⟨u1, u2, rfl, r1, r2⟩ := vals2 r
  cases (show u1 = Value.ref a from r1)
  cases (show u2 = Value.ref tp from r2)
  obtain ⟨oe, J⟩ := x.inst (I.hok a o ha)
  obtain ⟨_, its, rv, o2, h1, h2, n, h3⟩ := (show ObjOk X.prog X.w H s.heap tp (.tup cs) from I.hok tp _ hT)
  have e3 := ClsV.all k rv
  subst e3
  obtain ⟨oc, od, dt, sl⟩ := o2
  simp only at h2 h3
  subst h2 h3
  exact PySem.W.kia_tup (PySem.W.handS_kitx_exc C.hg C.hk C.hs C.hd C.ha C.hn C.ht C.hm) I.kIn J h1 e (fun z => nomatch z) fun tk => ⟨.bl b, H, I.tok tk, rfl, q⟩
theorem call_isTXK {X : Cx} {K : PySem.W.Frag} (hK : X.K = K) : CallR X (.builtin "isinstance") (rIsTX K) := hK ▸ call_isTX
def rIsBl : R2 := fun x y H Q => ∃ a b : Bool, x = .bl a ∧ y = .bl b ∧ Q (.bl (decide (a = b))) H
def rNotBl : R2 := fun x y H Q => ∃ a b : Bool, x = .bl a ∧ y = .bl b ∧ Q (.bl (!decide (a = b))) H
theorem op_isA {X : Cx} : OpR X (compareOp .Is) rIsBl := op_is_bl
theorem op_isNotA {X : Cx} : OpR X (compareOp .IsNot) rNotBl := op_isnot_bl
section
variable {K : PySem.W.Frag} {Γ : List Fc} {S : List Vo} {Q : VK}
theorem w_isBl {a b : Bool} (k : Wh K Γ S fun H => Q (.bl (decide (a = b))) H) : Wh K Γ S fun H => rIsBl (.bl a) (.bl b) H Q := fun H z => ⟨a, b, rfl, rfl, k H z⟩
theorem w_notBl {a b : Bool} (k : Wh K Γ S fun H => Q (.bl (!decide (a = b))) H) : Wh K Γ S fun H => rNotBl (.bl a) (.bl b) H Q := fun H z => ⟨a, b, rfl, rfl, k H z⟩
end
section
variable {K : PySem.W.Frag} {Γ : List Fc} {S : List Vo} {Q : VK} {a tp : Addr} {c : Str} {cs : List V} {us : List Value} {b : Bool}
theorem w_isTX (m : exF K c a ∈ Γ) (C : ExcC K (He.ga K c)) (n : .obj tp (.tup cs) ∈ Γ) (hp : Paired ClsV cs us) (hk : PySem.W.kitAny K (.ref (He.ga K c)) us = some b) (k : Wh K Γ S fun H => Q (.bl b) H) : Wh K Γ S fun H => rIsTX K [.ref a, .ref tp] H Q := fun H z => by
  obtain ⟨o, h, x⟩ := z.exc m
  exact ⟨a, _, tp, o, cs, us, b, rfl, h, x, C, z.obj n, hp, hk, k H z⟩
theorem kit_no {t c0 : Value} {cs0 : List Value} {r : Bool} (h : PySem.W.kitOne K t c0 = some false) (hr : PySem.W.kitAny K t cs0 = some r) : PySem.W.kitAny K t (c0 :: cs0) = some r := kitAny_cons h (fun _ => hr) (fun z => nomatch z)
theorem kit_nil {t : Value} : PySem.W.kitAny K t [] = some false := rfl
end
end Mo
namespace Mo
open PySem PySem.Spec PyProof.Rows L2
/-! ### exceptions with data of their own, held as values -/
def IsExG (D a : Addr) (dd : Option Addr) (o : HO) : Prop := ∃ φ : Heap → Prop, o = .ext φ ∧ ∀ h, φ h → ∃ (oe : Obj) (vs : Array Value), h.get? a = some oe ∧ Zc (.ref D) dd oe ∧ oe.data = .fields vs
theorem isExG_G {D a : Addr} {dd : Option Addr} : IsExG D a dd (ExG D a dd) := ⟨_, rfl, fun _ h => h⟩
theorem IsExG.inst {P : Program} {w : World} {H : Hp} {h : Heap} {D a d : Addr} {fs : List (Str × V)} {o : HO} (x : IsExG D a (some d) o) (k : ObjOk P w H h a o) (k2 : ObjOk P w H h d (.xd fs)) :
    ∃ (oe od : Obj) (mA : Str → Option Value), PySem.W.InstAt h a oe D (some od) ∧ (∀ n, PySem.W.lookIn n od = some (mA n)) ∧ ∀ n, RelO (fs.lookup n) (mA n) := by
  obtain ⟨φ, rfl, f⟩ := x
  obtain ⟨oe, vs, e, z, d1⟩ := f h k.1
  obtain ⟨mA, hns, hr⟩ := k2
  obtain ⟨od, ho, hl⟩ := lookIn_ns hns
  refine ⟨oe, od, mA, ⟨e, z.1, ?_, ?_⟩, hl, hr⟩
  · unfold PySem.W.notCls; rw [d1] <;> rfl
  · rw [z.2]; exact ho
/-- isinstance(e, c) -/
def rIsXD (K : PySem.W.Frag) : List V → Hp → VK → Prop := fun xs H Q => ∃ (a D d : Addr) (fs : List (Str × V)) (o : HO) (c : V) (cv : Value) (b : Bool), xs = [.ref a, c] ∧ H a = some o ∧ IsExG D a (some d) o ∧ H d = some (.xd fs) ∧ ExcC K D ∧ ClsV c cv ∧ PySem.W.kitOne K (.ref D) cv = some b ∧ Q (.bl b) H
theorem clsIn_some {K : PySem.W.Frag} {D : Addr} (C : ExcC K D) : (PySem.W.clsIn K D).isSome = true := by obtain ⟨cd, hc, _⟩ := PySem.W.any_some C.hd; rw [hc]; rfl
theorem call_isXD {X : Cx} : CallR X (.builtin "isinstance") (rIsXD X.K) := by
  intro pins s σ H xs us Q I r h
  obtain ⟨a, D, d, fs, o, c, cv, b, rfl, ha, x, hd, C, hc, e, q⟩ := h
  obtain ⟨u1, u2, rfl, r1, r2⟩ := vals2 r
  cases (show u1 = Value.ref a from r1)
  have e2 := hc.eq r2
  subst e2
  obtain ⟨oe, od, mA, J, _⟩ := x.inst (I.hok a o ha) (I.hok d _ hd)
  exact PySem.W.kia_one (PySem.W.kitx_exc (clsIn_some C) C.hg C.hk C.hs C.ha C.hn C.ht C.hm) I.kIn J e (fun z => nomatch z) fun tk => ⟨.bl b, H, I.kept (t' := tk) fun _ _ z => z, rfl, q⟩
/-- isinstance(e, (c, ..)) -/
def rIsTXD (K : PySem.W.Frag) : List V → Hp → VK → Prop := fun xs H Q => ∃ (a D d tp : Addr) (fs : List (Str × V)) (o : HO) (cs : List V) (us : List Value) (b : Bool), xs = [.ref a, .ref tp] ∧ H a = some o ∧ IsExG D a (some d) o ∧ H d = some (.xd fs) ∧ ExcC K D ∧ H tp = some (.tup cs) ∧ Paired ClsV cs us ∧ PySem.W.kitAny K (.ref D) us = some b ∧ Q (.bl b) H
theorem call_isTXD {X : Cx} : CallR X (.builtin "isinstance") (rIsTXD X.K) := by
  intro pins s σ H xs us Q I r h
  obtain ⟨a, D, d, tp, fs, o, cs, ws, b, rfl, ha, x, hd, C, hT, k, e, q⟩ := h
  obtain ⟨u1, u2, rfl, r1, r2⟩ := vals2 r
  cases (show u1 = Value.ref a from r1)
  cases (show u2 = Value.ref tp from r2)
  obtain ⟨oe, od, mA, J, _⟩ := x.inst (I.hok a o ha) (I.hok d _ hd)
  obtain ⟨_, its, rv, o2, h1, h2, n, h3⟩ := (show ObjOk X.prog X.w H s.heap tp (.tup cs) from I.hok tp _ hT)
  have e3 := ClsV.all k rv
  subst e3
  obtain ⟨oc, od, dt, sl⟩ := o2
  simp only at h2 h3
  subst h2 h3
  exact PySem.W.kia_tup (PySem.W.kitx_exc (clsIn_some C) C.hg C.hk C.hs C.ha C.hn C.ht C.hm) I.kIn J h1 e (fun z => nomatch z) fun tk => ⟨.bl b, H, I.tok tk, rfl, q⟩
def rIsiD (K : PySem.W.Frag) : List V → Hp → VK → Prop := fun xs H Q => rIsiX K xs H Q ∨ rIsXD K xs H Q
theorem call_isiDK {X : Cx} {K : PySem.W.Frag} (hK : X.K = K) : CallR X (.builtin "isinstance") (rIsiD K) := hK ▸ (call_isiXK rfl).or call_isXD
theorem call_isTXDK {X : Cx} {K : PySem.W.Frag} (hK : X.K = K) : CallR X (.builtin "isinstance") (rIsTXD K) := hK ▸ call_isTXD
/-- e.f -/
def mkXf (K : PySem.W.Frag) (n : Str) (x : V) (H1 : Hp) (Q : VK) : Prop := ∃ (a C d : Addr) (fs : List (Str × V)) (v : V) (o : HO), x = .ref a ∧ H1 a = some o ∧ IsExG C a (some d) o ∧ H1 d = some (.xd fs) ∧ ExcC K C ∧ PySem.W.findIn K (.ref C) n = some none ∧ fs.lookup n = some v ∧ Q v H1
def tXfG (K : PySem.W.Frag) (n : Str) (te : TE) : TE := fun σ H Q => te σ H fun x H1 => mkXf K n x H1 Q
theorem pe_xfG {X : Cx} {e : Expr} {te : TE} {pos : Pos} {n : Str} (he : PE X e te) (hb : attributeBase e n X.env (eval e X.env) = eval e X.env) : PE X (.Attribute e n pos) (tXfG X.K n te) := by
  refine ⟨fun pins s σ H Q I h => ?_⟩
  refine attr_of hb (thn (he.run pins s σ H _ I h) fun u s1 hh => ?_)
  obtain ⟨x, H1, I1, rx, a, C, d, fs, v, o, ex, ha, hx, hd, T, hno, l, q⟩ := hh
  subst ex
  obtain rfl : u = Value.ref a := rx
  obtain ⟨oe, od, mA, J, hl, hr⟩ := hx.inst (I1.hok a o ha) (I1.hok d _ hd)
  obtain ⟨u, hu, ru⟩ := RelO.some_of (v := v) (o := mA n) (by rw [← l]; exact hr n)
  exact HandSPX.exc_get I1.kIn J T.hg T.hk T.hs (PySem.W.findObj_own T.hd hno rfl (by rw [hl, hu])) (handed_of ru) ⟨v, H1, I1.tok _, ru, q⟩
theorem pe_xfK {X : Cx} {K : PySem.W.Frag} {e : Expr} {te : TE} {pos : Pos} {n : Str} (hK : X.K = K) (he : PE X e te) (hb : attributeBase e n X.env (eval e X.env) = eval e X.env := by rfl) : PE X (.Attribute e n pos) (tXfG K n te) := hK ▸ pe_xfG he hb
/-! #### by facts -/
def exD (K : PySem.W.Frag) (c : Str) (a d : Addr) (fs : List (Str × V)) : Fc := .gen (fun G => (∃ o, G a = some o ∧ IsExG (He.ga K c) a (some d) o) ∧ G d = some (.xd fs)) fun _ _ e ⟨⟨o, h, x⟩, k⟩ => ⟨⟨o, e _ _ h, x⟩, e _ _ k⟩
section
variable {K : PySem.W.Frag} {Γ : List Fc} {S S' : List Vo} {σ : St} {Q : VK} {a d : Addr} {c : Str} {fs : List (Str × V)} {A : Hp → Prop}
theorem Hg.excD {H : Hp} (z : Hg K Γ S H) (m : exD K c a d fs ∈ Γ) : (∃ o, H a = some o ∧ IsExG (He.ga K c) a (some d) o) ∧ H d = some (.xd fs) := z.fact m
theorem w_keptD (m : Take (own d (.xd fs)) S S') (k : Wh K (exD K c a d fs :: Γ) S' A) : Wh K Γ S fun H => H a = none → A (upd H a (ExG (He.ga K c) a (some d))) := fun H z hp =>
  k _ ((((((z.tk1 m).freeze).fix (o := ExG (He.ga K c) a (some d)) hp).learn (f := exD K c a d fs) fun G b => ⟨⟨_, b (.obj a _) List.mem_cons_self, isExG_G⟩, b (.obj d _) (List.mem_cons_of_mem _ List.mem_cons_self)⟩)).weak fun f m => by
    rcases List.mem_cons.mp m with e | m
    · rw [e]; exact List.mem_cons_self
    · exact List.mem_cons_of_mem _ (List.mem_cons_of_mem _ (List.mem_cons_of_mem _ m)))
theorem w_keepD {cv : Value} {i : Nat} {ts : Addr → Value → Option Addr → TS} {Wout : WX} {D : Ends} (hb : PySem.W.exmOne K (.ref (He.ga K c)) cv = some true)
    (k : ∀ a, Wh K Γ S fun H => ts a (.ref (He.ga K c)) (some d) { nx := fun σ' H' => H' a = none → D.nx (σ'.set i none) (upd H' a (ExG (He.ga K c) a (some d))), rt := fun v H' => H' a = none → D.rt v (upd H' a (ExG (He.ga K c) a (some d))), bk := fun σ' H' => H' a = none → D.bk (σ'.set i none) (upd H' a (ExG (He.ga K c) a (some d))), ct := fun σ' H' => H' a = none → D.ct (σ'.set i none) (upd H' a (ExG (He.ga K c) a (some d))) } (σ.set i (some (.ref a))) H) :
    Wh K Γ S fun H => wKeep K cv i ts Wout D (.ref (He.ga K c)) (some d) σ H := fun H z => ⟨true, hb, fun _ => ⟨_, rfl, fun a _ => k a H z⟩, fun h => nomatch h⟩
theorem w_isXD {x : V} {cv : Value} {b : Bool} (m : exD K c a d fs ∈ Γ) (C : ExcC K (He.ga K c)) (hc : ClsV x cv) (hk : PySem.W.kitOne K (.ref (He.ga K c)) cv = some b) (k : Wh K Γ S fun H => Q (.bl b) H) : Wh K Γ S fun H => rIsiD K [.ref a, x] H Q := fun H z => by
  obtain ⟨⟨o, h, y⟩, g⟩ := z.excD m
  exact .inr ⟨a, _, d, fs, o, x, cv, b, rfl, h, y, g, C, hc, hk, k H z⟩
/-- the other things -/
theorem w_isOD {x c : V} {t u : Value} {b : Bool} (hc : ClsV c u) (ht : ∀ H, Hg K Γ S H → TyX K H x t) (hk : PySem.W.kitOne K t u = some b) (k : Wh K Γ S fun H => Q (.bl b) H) : Wh K Γ S fun H => rIsiD K [x, c] H Q := fun H z => .inl (.inl (go_isi hc (ht H z) hk (k H z)))
theorem w_isTXD {tp : Addr} {cs : List V} {us : List Value} {b : Bool} (m : exD K c a d fs ∈ Γ) (C : ExcC K (He.ga K c)) (n : .obj tp (.tup cs) ∈ Γ) (hp : Paired ClsV cs us) (hk : PySem.W.kitAny K (.ref (He.ga K c)) us = some b) (k : Wh K Γ S fun H => Q (.bl b) H) : Wh K Γ S fun H => rIsTXD K [.ref a, .ref tp] H Q := fun H z => by
  obtain ⟨⟨o, h, y⟩, g⟩ := z.excD m
  exact ⟨a, _, d, tp, fs, o, cs, us, b, rfl, h, y, g, C, z.obj n, hp, hk, k H z⟩
theorem w_txf {n : Str} {te : TE} (k : Wh K Γ S fun H => te σ H fun x H1 => mkXf K n x H1 Q) : Wh K Γ S fun H => tXfG K n te σ H Q := k
theorem w_xf {n : Str} {v : V} (m : exD K c a d fs ∈ Γ) (C : ExcC K (He.ga K c)) (hn : PySem.W.findIn K (.ref (He.ga K c)) n = some none) (hl : fs.lookup n = some v) (k : Wh K Γ S fun H => Q v H) : Wh K Γ S fun H => mkXf K n (.ref a) H Q := fun H z => by
  obtain ⟨⟨o, h, y⟩, g⟩ := z.excD m
  exact ⟨a, _, d, fs, v, o, rfl, h, y, g, C, hn, hl, k H z⟩
end
end Mo
namespace Mo
open PySem PySem.Spec PyProof.Rows L2
/-! ### an exception with data caught, its data read in the suite -/
section
variable {K : PySem.W.Frag} {Γ : List Fc} {S : List Vo} {σ : St} {Q : VK} {c : Str} {a d : Addr} {fs : List (Str × V)}
theorem w_asD {cv : Value} {i : Nat} {ts : Addr → Value → Option Addr → TS} {Wout : WX} {D : Ends} (hb : PySem.W.exmOne K (.ref (He.ga K c)) cv = some true)
    (k : ∀ a, Wh K Γ S fun H => ts a (.ref (He.ga K c)) (some d) { nx := fun σ' H' => D.nx (σ'.set i none) H', rt := D.rt, bk := fun σ' H' => D.bk (σ'.set i none) H', ct := fun σ' H' => D.ct (σ'.set i none) H' } (σ.set i (some (.ref a))) H) :
    Wh K Γ S fun H => wAs K cv i ts Wout D (.ref (He.ga K c)) (some d) σ H := fun H z => ⟨true, hb, fun _ a _ => k a H z, fun h => nomatch h⟩
def mkXfE (a : Addr) (cls : Value) (d : Option Addr) (C : Addr) (f : Str) (x : V) (H1 : Hp) (Q : VK) : Prop := x = .ref a ∧ cls = .ref C ∧ ∃ (dd : Addr) (fs : List (Str × V)) (v : V), d = some dd ∧ H1 dd = some (.xd fs) ∧ fs.lookup f = some v ∧ Q v H1
theorem w_txfE {a : Addr} {cls : Value} {d : Option Addr} {C : Addr} {f : Str} {te : TE} (k : Wh K Γ S fun H => te σ H fun x H1 => mkXfE a cls d C f x H1 Q) : Wh K Γ S fun H => tXf a cls d C f te σ H Q := k
theorem w_xfE {C : Addr} {f : Str} {v : V} (m : own d (.xd fs) ∈ S) (hl : fs.lookup f = some v) (k : Wh K Γ S fun H => Q v H) : Wh K Γ S fun H => mkXfE a (.ref C) (some d) C f (.ref a) H Q := fun H z => ⟨rfl, rfl, d, fs, v, rfl, z.own m, hl, k H z⟩
end
end Mo
namespace Mo
open PySem PySem.Spec PyProof.Rows L2
/-! ### law_k76 -/
theorem w_joinD {K : PySem.W.Frag} {Γ : List Fc} {S : List Vo} {Q : VK} {a : Str} {p : Addr} {ys : List Str} (n : Nat) (m : .dat (.ref p) (.list (ys.map PyData.str)) ∈ Γ) (hl : ys.length ≤ 2000) (hy : ∀ y ∈ ys, y.length ≤ n) (hn : n ≤ 1000) (ha : a.length ≤ 100) (k : Wh K Γ S fun H => Q (.str (Txt.join a ys)) H) :
    Wh K Γ S fun H => rJoin K (.str a) [.ref p] H Q := fun H z => by
  have h1 := sum_le hy
  have h2 : ys.length * n ≤ 2000 * 1000 := Nat.mul_le_mul hl hn
  have h3 : ys.length * a.length ≤ 2000 * 100 := Nat.mul_le_mul hl ha
  obtain ⟨b, xs, eb, g1, g2⟩ := dp_lst (z.dat m)
  cases eb
  have e := dpa_strs' g2
  subst e
  exact ⟨a, p, ys, rfl, rfl, .inl g1, by omega, k H z⟩
def spGood76 (K : PySem.W.Frag) : Sp := SpF K (fun x : Addr × (List Str × Nat) => [.ref x.1, .int (x.2.2 : Int)]) (fun x Γ => .dat (.ref x.1) (.list (x.2.1.map PyData.str)) ∈ Γ ∧ good76 x.2 = true) (fun _ => []) (fun _ v Γ' S' => v = .bl true ∧ Γ' = [] ∧ S' = []) noEx
section
variable {P : Program} {w : World} {K : PySem.W.Frag} {mg : Str → Option Value} {base : Heap}
theorem ok__law_good (T : Tx K mg) : OkG P w K mg base 56 "_law_good" ["_law_lines", "_law_bad"] (spGood76 K) := by
  have G_read_model := ok_read_model (P := P) (w := w) (base := base) T
  have G_model_text := ok_model_text (P := P) (w := w) (base := base) T
  refine T.f__law_good.okX sc__law_good (fun vs H Q E h => ?_) (fun cdv A outer s H vs Q E hr h => ?_)
  · obtain ⟨i, _, _, rfl, _⟩ := h
    rfl
  · have hu1 := hu_of hr; have hu0 := hr.units0; have hu64 := hr.units; have hu65 := hu65_of hr; have nd := sc__law_good.nd
    obtain ⟨⟨l, lines, bad⟩, Γ, S, rfl, z, ⟨hv, hgood⟩, q, x⟩ := h
    dsimp only at z hv hgood q x
    obtain ⟨hg, hll, hlx, hne⟩ := good76_of hgood
    dsimp only at hg hll hlx hne
    refine ⟨_, (pss_cons (ps_set (i := 2) nd rfl (Or.inl rfl) (pe_bmK (K := K) rfl PySem.F.plainAttrs_str PySem.F.slot_str_join PySem.F.type_str_join (mt_joinK (K := K) rfl) pe_str (pa_cons (pv 0) pa_nil)))
      (pss_cons (ps_set (i := 3) nd rfl (Or.inl rfl) pe_non)
      (pss_cons (ps_set (i := 4) nd rfl (Or.inl rfl) pe_int)
      (pss_cons (ps_try_as (i := 5) rfl rfl nd rfl rfl ⟨rfl, by decide, .inl T.G_NoText⟩ (takes_of rfl rfl rfl rfl) (fun W2 pn2 xe2 tk2 ho2 => (pss_one (ps_set (i := 3) nd rfl (Or.inl rfl) (pcl T.g_read_model G_read_model hr tk2 (pa_cons (pv 2) pa_nil)))))
      (fun ea eo ecls ed epn ez ef => (pss_one (ps_set (i := 4) nd rfl (Or.inl rfl) (pe_xf (C := He.ga K "NoText") ⟨T.xc_NoText.hg, T.xc_NoText.hk, T.xc_NoText.hs, T.xc_NoText.hd⟩ (T.o_NoText.n "line" List.mem_cons_self) ez ef (pv 5))))))
      (pss_cons (ps_if (pt_cmpR (op_gt) (pv 1) pe_int (nomark _)) (pss_one (ps_ret (pe_cmpR (op_eqK (K := K) rfl hu64) (pv 4) (pv 1) (nomark _))))
      pss_nil)
      (pss_one (ps_ret (pe_and (pe_cmpR (op_eqK (K := K) rfl hu64) (pv 4) pe_int (nomark _)) (pe_one (pe_cmpR (op_eqK (K := K) rfl hu64) (pcl T.g_model_text G_model_text hr (takes_of rfl rfl rfl rfl) (pa_cons (pv 3) pa_nil)) (pv 2) (nomark _))))))))))), ?_⟩
    refine w_start (σ' := [some (.ref l), some (.int (bad : Int)), none, none, none, none]) rfl z ?_
    dsimp only [List.nil_append] at q ⊢
    have hln : linesB (Txt.join nl lines) = lines := linesB_join hne fun y hy => (hlx y hy).2.free
    have hsok : SOk (Txt.join nl lines) := joinT_sok fun y hy => (hlx y hy).2
    have hlen : (TL.tl (Txt.join nl lines)).length ≤ 35000 := by
      have h3 := join_len (y := nl) (ls := lines) (n := 400) fun y hy => (hlx y hy).1
      have e : (TL.tl nl).length = 1 := by decide +kernel
      rw [e] at h3
      have h4 : lines.length * (400 + 1) ≤ 40 * 401 := Nat.mul_le_mul hll (Nat.le_refl _)
      omega
    k_extra "W"
    refine w_tyS ?_
    k_extra "W"
    refine w_joinD (ys := lines) 400 (by k_extra "m") (by omega) (fun y hy => by rw [TL.len_tl]; exact (hlx y hy).1) (by decide) (by decide +kernel) ?_
    rw [show Txt.join (Str.ofString "\n") lines = Txt.join nl lines from rfl]
    k_extra "W"
    refine w_doE (Txt.join nl lines, 200) (by k_extra "ts") ⟨hlen, hsok, by dsimp only; rw [hln]; omega⟩ ?_ ?_
    · rintro _ Γ' S' ⟨lm, os, g1, g2, g3, g4, rfl, rfl, rfl⟩
      dsimp only [List.cons_append, List.nil_append] at g1 g2 g3 g4 ⊢
      rw [hln] at g1
      rcases hg with ⟨ms, h1, h2, h3⟩ | ⟨h1, h2⟩
      rotate_left
      · rw [h2] at g1; cases g1
      rw [h1] at g1
      have hos : os.map MsO.c = ms := (Except.ok.inj g1).symm
      have hdt := MsO.dats g4
      rw [hos] at hdt
      have htx : ∀ m ∈ ms, m.Tx := fun m hm => by
        rw [← hos] at hm
        obtain ⟨o, ho, rfl⟩ := List.mem_map.mp hm
        exact (g4 o ho).rd
      have h6 : ms.length ≤ 6 := by rw [← hos, List.length_map]; exact g2
      subst h2
      refine w_trL (p := lm) (ts := os.map MsO.tree) (by k_extra "m") ?_
      refine w_frT (.ls lm (os.map MsO.tree)) List.mem_cons_self (R := S) (by
        rw [show (Tr.ls lm (os.map MsO.tree)).S = own lm (.lst ((os.map MsO.tree).map Tr.v)) ++ segsV Tr.S (os.map MsO.tree) by rw [Tr.S, Tr.SS_segs]]
        exact take2M (by k_extra "t") (by k_extra "t")) ?_
      rw [show (Tr.ls lm (os.map MsO.tree)).dat = .list (ms.map Mach.data) by rw [Tr.dat, Tr.dats_map, hdt], show (Tr.ls lm (os.map MsO.tree)).v = .ref lm from rfl]
      k_extra "W"
      refine w_ite (fun e => absurd e (by omega)) (fun _ => ?_)
      k_extra "W"
      refine w_ite (fun _ => ?_) (fun e => absurd rfl e)
      k_extra "W"
      refine w_don (lm, ms) (by k_extra "ts") ⟨by k_extra "m", htx, h6⟩ ?_
      rintro _ Γ' S' ⟨rfl, rfl, rfl⟩
      dsimp only [List.cons_append, List.nil_append]
      k_extra "W"
      refine w_eqs ?_
      rw [show modelT ms = Txt.join nl lines by unfold modelT; rw [h3], decide_eq_true rfl]
      exact fun H z => q _ [] [] H ⟨rfl, rfl, rfl⟩ (z.fit (by k_extra "sub") (by k_extra "dr"))
    · rintro e d Γ' S' ⟨n, g1, rfl, dd, rfl, rfl, rfl⟩
      dsimp only [List.cons_append, List.nil_append] at g1 ⊢
      rw [hln] at g1
      rcases hg with ⟨ms, h1, h2, h3⟩ | ⟨h1, h2⟩
      · rw [h1] at g1; cases g1
      rw [h2] at g1
      injection g1 with g1
      subst g1
      refine w_asD T.e_NoText_NoText fun a => ?_
      k_extra "W"
      refine w_txfE ?_
      k_extra "W"
      refine w_xfE (v := .int (bad : Int)) (by k_extra "m") rfl ?_
      k_extra "W"
      refine w_ite (fun _ => ?_) (fun e => absurd e (by omega))
      k_extra "W"
      rw [decide_eq_true rfl]
      exact fun H z => q _ [] [] H ⟨rfl, rfl, rfl⟩ (z.fit (by k_extra "sub") (by k_extra "dr"))
theorem ok_law (T : Tx K mg) : OkG P w K mg base 60 "law" ["_law_script"] (spLaw K) := by
  have G__law_purse := ok__law_purse (P := P) (w := w) (base := base) T
  have G__law_take := ok__law_take (P := P) (w := w) (base := base) T
  have G__law_boxes := ok__law_boxes (P := P) (w := w) (base := base) T
  have G__law_queues := ok__law_queues (P := P) (w := w) (base := base) T
  have G__law_draws := ok__law_draws (P := P) (w := w) (base := base) T
  have G__law_signs := ok__law_signs (P := P) (w := w) (base := base) T
  have G__law_deeds := ok__law_deeds (P := P) (w := w) (base := base) T
  have G__law_deep := ok__law_deep (P := P) (w := w) (base := base) T
  have G__law_parts := ok__law_parts (P := P) (w := w) (base := base) T
  have G__law_machines := ok__law_machines (P := P) (w := w) (base := base) T
  have G__law_good := ok__law_good (P := P) (w := w) (base := base) T
  refine T.f_law.okX sc_law (fun vs H Q E h => ?_) (fun cdv A outer s H vs Q E hr h => ?_)
  · obtain ⟨a, ns, rfl, _⟩ := h
    rfl
  · have hu1 := hu_of hr; have hu0 := hr.units0; have hu64 := hr.units; have hu65 := hu65_of hr; have nd := sc_law.nd
    obtain ⟨a0, ns, rfl, _, hS, hl, hb, q⟩ := h
    refine ⟨_, (pss_cons (ps_set (i := 1) nd rfl (Or.inl rfl) (pcl T.g__law_purse G__law_purse hr (takes_of rfl rfl rfl rfl) (pa_cons (pv 0) pa_nil)))
      (pss_cons (ps_set (i := 2) nd rfl (Or.inl rfl) (pe_lst (pa_cons (pcl T.g__law_boxes G__law_boxes hr (takes_of rfl rfl rfl rfl) (pa_cons (pe_op (op_addK (K := K) rfl) pe_int (pcl T.g__law_take G__law_take hr (takes_of rfl rfl rfl rfl) (pa_cons (pv 1) (pa_cons pe_int pa_nil)))) pa_nil)) (pa_cons (pcl T.g__law_queues G__law_queues hr (takes_of rfl rfl rfl rfl) (pa_cons (pe_op (op_addK (K := K) rfl) pe_int (pcl T.g__law_take G__law_take hr (takes_of rfl rfl rfl rfl) (pa_cons (pv 1) (pa_cons pe_int pa_nil)))) pa_nil)) pa_nil))))
      (pss_cons (ps_set (i := 2) nd rfl (Or.inl rfl) (pe_op (op_addK (K := K) rfl) (pv 2) (pe_lst (pa_cons (pcl T.g__law_draws G__law_draws hr (takes_of rfl rfl rfl rfl) (pa_cons (pe_op (op_addK (K := K) rfl) pe_int (pcl T.g__law_take G__law_take hr (takes_of rfl rfl rfl rfl) (pa_cons (pv 1) (pa_cons pe_int pa_nil)))) pa_nil)) pa_nil))))
      (pss_cons (ps_set (i := 2) nd rfl (Or.inl rfl) (pe_op (op_addK (K := K) rfl) (pv 2) (pe_lst (pa_cons (pcl T.g__law_signs G__law_signs hr (takes_of rfl rfl rfl rfl) (pa_cons (pe_op (op_addK (K := K) rfl) pe_int (pcl T.g__law_take G__law_take hr (takes_of rfl rfl rfl rfl) (pa_cons (pv 1) (pa_cons pe_int pa_nil)))) pa_nil)) (pa_cons (pcl T.g__law_deeds G__law_deeds hr (takes_of rfl rfl rfl rfl) (pa_cons (pe_op (op_addK (K := K) rfl) pe_int (pcl T.g__law_take G__law_take hr (takes_of rfl rfl rfl rfl) (pa_cons (pv 1) (pa_cons pe_int pa_nil)))) (pa_cons pe_int pa_nil))) pa_nil)))))
      (pss_cons (ps_set (i := 2) nd rfl (Or.inl rfl) (pe_op (op_addK (K := K) rfl) (pv 2) (pe_lst (pa_cons (pcl T.g__law_deeds G__law_deeds hr (takes_of rfl rfl rfl rfl) (pa_cons (pe_op (op_addK (K := K) rfl) pe_int (pcl T.g__law_take G__law_take hr (takes_of rfl rfl rfl rfl) (pa_cons (pv 1) (pa_cons pe_int pa_nil)))) (pa_cons (pe_op (op_addK (K := K) rfl) pe_int (pcl T.g__law_take G__law_take hr (takes_of rfl rfl rfl rfl) (pa_cons (pv 1) (pa_cons pe_int pa_nil)))) pa_nil))) (pa_cons (pcl T.g__law_deep G__law_deep hr (takes_of rfl rfl rfl rfl) (pa_cons (pe_op (op_addK (K := K) rfl) pe_int (pcl T.g__law_take G__law_take hr (takes_of rfl rfl rfl rfl) (pa_cons (pv 1) (pa_cons pe_int pa_nil)))) pa_nil)) pa_nil)))))
      (pss_cons (ps_set (i := 2) nd rfl (Or.inl rfl) (pe_op (op_addK (K := K) rfl) (pv 2) (pe_lst (pa_cons (pcl T.g__law_parts G__law_parts hr (takes_of rfl rfl rfl rfl) (pa_cons (pe_op (op_addK (K := K) rfl) pe_int (pcl T.g__law_take G__law_take hr (takes_of rfl rfl rfl rfl) (pa_cons (pv 1) (pa_cons pe_int pa_nil)))) (pa_cons (pcl T.g__law_take G__law_take hr (takes_of rfl rfl rfl rfl) (pa_cons (pv 1) (pa_cons pe_int pa_nil))) pa_nil))) (pa_cons (pcl T.g__law_machines G__law_machines hr (takes_of rfl rfl rfl rfl) (pa_cons (pe_op (op_addK (K := K) rfl) pe_int (pcl T.g__law_take G__law_take hr (takes_of rfl rfl rfl rfl) (pa_cons (pv 1) (pa_cons pe_int pa_nil)))) pa_nil)) pa_nil)))))
      (pss_cons (ps_for (passes_of rfl) rfl (pi_seqK (K := K) rfl (pv 2)) (pg_unlK (K := K) (n := 2) rfl rfl (pgs_cons (pg_name (i := 3) nd rfl (Or.inl rfl)) (pgs_cons (pg_name (i := 4) nd rfl (Or.inl rfl)) pgs_nil)) rfl rfl)
      (pss_one (ps_if (pt_not (pt_truthK (K := K) rfl (pcl T.g__law_good G__law_good hr (takes_of rfl rfl rfl rfl) (pa_cons (pv 3) (pa_cons (pv 4) pa_nil))) (by intro _; rfl))) (pss_one (ps_ret pe_bl))
      pss_nil)))
      (pss_one (ps_ret pe_bl))))))))), ?_⟩
    refine go_start (σ' := [some (.ref a0), none, none, none, none]) rfl ?_
    k_extra "we"
    refine ⟨a0, ns, rfl, hS, hl, fun z hz => bd_bits (hb z hz), fun pu H1 z1 => ?_⟩
    refine Hg.go (K := K) (Γ := []) (S := [pur pu]) ⟨H, z1, fun _ m => nomatch m⟩ ?_
    k_extra "W"
    intro x1 hx1
    k_extra "W"
    rw [show (5 : Int) + (x1 : Int) = ((5 + x1 : Nat) : Int) by omega]
    refine w_don (5 + x1) (by k_extra "ts") (by show 5 + x1 ≤ 10; omega) ?_
    rintro _ Γ' S' ⟨p1, rfl, rfl, rfl⟩
    dsimp only [List.cons_append, List.nil_append]
    k_extra "W"
    intro x2 hx2
    k_extra "W"
    rw [show (2 : Int) + (x2 : Int) = ((2 + x2 : Nat) : Int) by omega]
    refine w_don (2 + x2) (by k_extra "ts") (by show 2 + x2 ≤ 10; omega) ?_
    rintro _ Γ' S' ⟨p2, rfl, rfl, rfl⟩
    dsimp only [List.cons_append, List.nil_append]
    k_extra "W"
    refine w_lstO fun r1 => ?_
    k_extra "W"
    intro x3 hx3
    k_extra "W"
    rw [show (19 : Int) + (x3 : Int) = ((19 + x3 : Nat) : Int) by omega]
    refine w_don (19 + x3) (by k_extra "ts") (by show 19 + x3 ≤ 30; omega) ?_
    rintro _ Γ' S' ⟨p3, rfl, rfl, rfl⟩
    dsimp only [List.cons_append, List.nil_append]
    k_extra "W"
    refine w_lstO fun r2 => ?_
    refine w_addL (by k_extra "at") (by k_extra "at") (by simp only [List.length_cons, List.length_nil]; omega) fun r3 => ?_
    dsimp only [List.cons_append, List.nil_append]
    k_extra "W"
    intro x4 hx4
    k_extra "W"
    rw [show (3 : Int) + (x4 : Int) = ((3 + x4 : Nat) : Int) by omega]
    refine w_don (3 + x4) (by k_extra "ts") (by show 3 + x4 ≤ 10; omega) ?_
    rintro _ Γ' S' ⟨p4, rfl, rfl, rfl⟩
    dsimp only [List.cons_append, List.nil_append]
    k_extra "W"
    intro x5 hx5
    k_extra "W"
    rw [show (19 : Int) + (x5 : Int) = ((19 + x5 : Nat) : Int) by omega]
    rw [show V.int 0 = V.int ((0 : Nat) : Int) from rfl]
    refine w_don ((19 + x5, 0) : Nat × Nat) (by k_extra "ts") ⟨by show 19 + x5 ≤ 30; omega, .inl rfl⟩ ?_
    rintro _ Γ' S' ⟨p5, rfl, rfl, rfl⟩
    dsimp only [List.cons_append, List.nil_append]
    k_extra "W"
    refine w_lstO fun r4 => ?_
    refine w_addL (by k_extra "at") (by k_extra "at") (by simp only [List.length_cons, List.length_nil]; omega) fun r5 => ?_
    dsimp only [List.cons_append, List.nil_append]
    k_extra "W"
    intro x6 hx6
    k_extra "W"
    rw [show (19 : Int) + (x6 : Int) = ((19 + x6 : Nat) : Int) by omega]
    intro x7 hx7
    k_extra "W"
    rw [show (1 : Int) + (x7 : Int) = ((1 + x7 : Nat) : Int) by omega]
    refine w_don ((19 + x6, 1 + x7) : Nat × Nat) (by k_extra "ts") ⟨by show 19 + x6 ≤ 30; omega, .inr (by show 1 + x7 + 3 ≤ 19 + x6; omega)⟩ ?_
    rintro _ Γ' S' ⟨p6, rfl, rfl, rfl⟩
    dsimp only [List.cons_append, List.nil_append]
    k_extra "W"
    intro x8 hx8
    k_extra "W"
    rw [show (4 : Int) + (x8 : Int) = ((4 + x8 : Nat) : Int) by omega]
    refine w_don (4 + x8) (by k_extra "ts") (by show 4 + x8 ≤ 10; omega) ?_
    rintro _ Γ' S' ⟨p7, rfl, rfl, rfl⟩
    dsimp only [List.cons_append, List.nil_append]
    k_extra "W"
    refine w_lstO fun r6 => ?_
    refine w_addL (by k_extra "at") (by k_extra "at") (by simp only [List.length_cons, List.length_nil]; omega) fun r7 => ?_
    dsimp only [List.cons_append, List.nil_append]
    k_extra "W"
    intro x9 hx9
    k_extra "W"
    rw [show (6 : Int) + (x9 : Int) = ((6 + x9 : Nat) : Int) by omega]
    intro x10 hx10
    k_extra "W"
    refine w_don ((6 + x9, x10) : Nat × Nat) (by k_extra "ts") ⟨by show 6 + x9 ≤ 20; omega, by show x10 ≤ 2; omega⟩ ?_
    rintro _ Γ' S' ⟨p8, rfl, rfl, rfl⟩
    dsimp only [List.cons_append, List.nil_append]
    k_extra "W"
    intro x11 hx11
    k_extra "W"
    rw [show (5 : Int) + (x11 : Int) = ((5 + x11 : Nat) : Int) by omega]
    refine w_don (5 + x11) (by k_extra "ts") (by show 5 + x11 ≤ 10; omega) ?_
    rintro _ Γ' S' ⟨p9, rfl, rfl, rfl⟩
    dsimp only [List.cons_append, List.nil_append]
    k_extra "W"
    refine w_lstO fun r8 => ?_
    refine w_addL (by k_extra "at") (by k_extra "at") (by simp only [List.length_cons, List.length_nil]; omega) fun r9 => ?_
    dsimp only [List.cons_append, List.nil_append]
    k_extra "W"
    have hall : ∀ r ∈ [boxes76 (5 + x1), queues76 (2 + x2), draws76 (19 + x3), signs76 (3 + x4), deedsA76 (19 + x5), deedsB76 (19 + x6) (1 + x7), deep76 (4 + x8), parts76 (6 + x9) x10, machines76 (5 + x11)], good76 r = true := by
      intro r hr
      simp only [List.mem_cons, List.not_mem_nil, or_false] at hr
      rcases hr with rfl | rfl | rfl | rfl | rfl | rfl | rfl | rfl | rfl
      · exact boxes76_ok ⟨x1, by omega⟩
      · exact queues76_ok ⟨x2, by omega⟩
      · exact draws76_ok ⟨x3, by omega⟩
      · exact signs76_ok ⟨x4, by omega⟩
      · exact deedsA76_ok ⟨x5, by omega⟩
      · exact deedsB76_ok ⟨x6, by omega⟩ ⟨x7, by omega⟩
      · exact deep76_ok ⟨x8, by omega⟩
      · exact parts76_ok ⟨x9, by omega⟩ ⟨x10, by omega⟩
      · exact machines76_ok ⟨x11, by omega⟩
    generalize hrs : [boxes76 (5 + x1), queues76 (2 + x2), draws76 (19 + x3), signs76 (3 + x4), deedsA76 (19 + x5), deedsB76 (19 + x6) (1 + x7), deep76 (4 + x8), parts76 (6 + x9) x10, machines76 (5 + x11)] = rs at hall
    refine w_dats (vs := [.ref p1, .ref p2, .ref p3, .ref p4, .ref p5, .ref p6, .ref p7, .ref p8, .ref p9]) (ds := rs.map row76D) (by
      rw [← hrs]
      exact .cons (DV.mem (by k_extra "m")) (.cons (DV.mem (by k_extra "m")) (.cons (DV.mem (by k_extra "m")) (.cons (DV.mem (by k_extra "m")) (.cons (DV.mem (by show Fc.dat (.ref p5) (row76D (if (0 : Nat) = 0 then deedsA76 (19 + x5) else deedsB76 (19 + x5) 0)) ∈ _; k_extra "m")) (.cons (DV.mem (by have e : row76D (deedsB76 (19 + x6) (1 + x7)) = row76D (if 1 + x7 = 0 then deedsA76 (19 + x6) else deedsB76 (19 + x6) (1 + x7)) := (by rw [if_neg (by omega)]); show Fc.dat (.ref p6) (row76D (deedsB76 (19 + x6) (1 + x7))) ∈ _; rw [e]; k_extra "m")) (.cons (DV.mem (by k_extra "m")) (.cons (DV.mem (by k_extra "m")) (.cons (DV.mem (by k_extra "m")) .nil))))))))) ?_
    refine w_loop_l (ι := Option V × Option V) [.ref p1, .ref p2, .ref p3, .ref p4, .ref p5, .ref p6, .ref p7, .ref p8, .ref p9] (fun _ _ => True) (fun _ u => [some (.ref a0), some (.ref pu), some (.ref r9), u.1, u.2]) (fun _ _ => [.dats [.ref p1, .ref p2, .ref p3, .ref p4, .ref p5, .ref p6, .ref p7, .ref p8, .ref p9] (rs.map row76D)]) (fun _ _ => [own r9 (.lst [.ref p1, .ref p2, .ref p3, .ref p4, .ref p5, .ref p6, .ref p7, .ref p8, .ref p9])]) (none, none) True.intro rfl (by k_extra "sub") (by k_extra "dr") (fun _ _ => by k_extra "at") ?_ ?_
    · rintro i v u hv _
      refine w_datsGet (vs := [.ref p1, .ref p2, .ref p3, .ref p4, .ref p5, .ref p6, .ref p7, .ref p8, .ref p9]) List.mem_cons_self hv fun d hd => ?_
      rw [List.getElem?_map] at hd
      obtain ⟨r, hr, rfl⟩ := Option.map_eq_some_iff.mp hd
      have hgr := hall r (List.mem_of_getElem? hr)
      unfold row76D
      k_extra "W"
      refine w_un2 (by k_extra "m") fun a b => ?_
      k_extra "W"
      refine w_don (a, r) (by k_extra "ts") ⟨by k_extra "m", hgr⟩ ?_
      rintro _ Γ' S' ⟨rfl, rfl, rfl⟩
      dsimp only [List.cons_append, List.nil_append]
      k_extra "W"
      exact w_again (some (.ref a), some (.int (r.2 : Int))) True.intro rfl (by k_extra "sub") (by k_extra "dr")
    rintro u _
    k_extra "W"
    exact fun H z => q _
end
end Mo
open PySem PySem.W PySem.Calls PyProof.Rows
theorem PySem.Challenge.cw_momentloom_k76_bounds_of_models_holds : PySem.Challenge.rw_momentloom_k76_bounds_of_models.Holds := by
  w_on; o_law
  refine HandSHeadRun.head_any (r := Mo.Rr) (q := view Mo.Rr.prog [52]) (H := Mo.hk) (ob := Mo.ob) (M := 20000) (loose := Mo.loose) (d := HandSHeadRun.topDef Mo.Rr.prog 52) (kwd := []) Mo.ob_eq
    (by kernel_rfl) (fun s => by kernel_rfl) Mo.run (by kernel_rfl) (by kernel_rfl) (by kernel_rfl) (by rfl) (by first | assumption | decide +kernel) (by decide +kernel) ⟨rfl, rfl, rfl, rfl, rfl, by decide +kernel⟩ ?hw ?hc
  case hw => w_witness2
  case hc =>
    refine Mo.walk_ofEB (l := PySem.Challenge.rw_momentloom_k76_bounds_of_models) (n := 63) (k := 60) (x := "_law_script") (CX := fun w => L2.CX PySem.Challenge.rw_momentloom_k76_bounds_of_models.prog w) rfl (by decide) (by kernel_rfl) ⟨rfl, by decide, by decide⟩ ?F (fun _ _ _ _ _ z => Mo.cx_false z)
    intro w mg fa h Y G hmg0
    obtain ⟨K, KX, c⟩ := Y
    have hmg : mg ("law" : PySem.Str) = some (.ref fa) := by
      have e : (HandSHeadRun.topDef Mo.Rr.prog 52).name = ("law" : PySem.Str) := by kernel_rfl
      rw [← e]
      exact hmg0
    have T := Mo.tx_of KX G c
    have e := hmg.symm.trans T.g_law.gl
    cases e
    exact ⟨K, _, Mo.spLaw K, KX, fun s u => Mo.fun_bindsTo T.f_law (ps := ["_law_script"]) (fun _ _ _ _ _ _ us hl => match us, hl with | [_], _ => rfl) s [u] rfl, fun H a ns hl hb hO hS => ⟨a, ns, rfl, hO, hS, hl, hb, fun _ => rfl⟩, fun base _ _ => Mo.ok_law T⟩
