import PyProof.Rows.All
import Wide.All
import OpenK.AllK
import Wide.FinOn
import KE.KStateDown
import Lean
import HandS.ForMost
import HandS.Exc
import HandS.EndBits
import HandS.WordsExc
import HandS.Defaults
import HandS.DictTup
import HandS.TupLen
import HandS.Deep
import HandS.Wide
import HandS.TryOnly
import HandS.TryMany
import HandS.IsInst
import HandS.ExcIs
import HandS.Sort
import HandS.SortInts
import HandS.Head0
import HandS.Head1
import HandS.Head2
import HandS.HeadEnd
import HandS.HeadHook1
import HandS.HeadHook2
import HandS.Conv
import HandS.Style
import PyProof.DictMoreH
import KE.DataMinMax
import HandS.More
import HandS.Evl
import HandS.DeepEq
import PySem.Challenge.RW_momentloom_k03_formulas_alone
set_option Elab.async false
set_option linter.all false
set_option maxRecDepth 100000
set_option maxHeartbeats 4000000
namespace Mo
open PySem PySem.Spec PyProof.Rows L2
/-! ### heaps: a part of a heap, what is tracked and may change -/
def Ext (G H : Hp) : Prop := ∀ a o, G a = some o → H a = some o
theorem Ext.refl (H : Hp) : Ext H H := fun _ _ h => h
theorem Ext.trans {H H1 H2 : Hp} (a : Ext H H1) (b : Ext H1 H2) : Ext H H2 := fun x o h => b x o (a x o h)
theorem Ext.new {H : Hp} {p : Addr} {o : HO} (h : H p = none) : Ext H (upd H p o) := fun a u e => by
  rw [upd_ne (ne_of_none e h)]
  exact e
theorem Ext.put {G H : Hp} {p : Addr} {o : HO} (e : Ext G H) (h : G p = none) : Ext G (upd H p o) := fun a u ha => by
  rw [upd_ne (ne_of_none ha h)]
  exact e a u ha
theorem Ext.made {H : Hp} {x dx C : Addr} {fs : List (Str × V)} (nx : H x = none) (nd : H dx = none) : Ext H (upd (upd H dx (.own x)) x (.ins C dx fs)) := fun a u e => by
  rw [upd_ne (ne_of_none e nx), upd_ne (ne_of_none e nd)]
  exact e
theorem Ext.free {H H' : Hp} (e : Ext H H') {p : Addr} (h : H' p = none) : H p = none := by
  cases q : H p with
  | none => rfl
  | some o =>
    rw [e p o q] at h
    cases h
theorem ext_rd {H H' : Hp} {a : Addr} {u : HO} (e : Ext H H') (h : Rd H a u) : Rd H' a u := by
  rcases h with h | ⟨o, h⟩
  · exact Or.inl (e a _ h)
  · exact Or.inr ⟨o, e a _ h⟩
theorem ext_l {K : PySem.W.Frag} {H H' : Hp} {a : Addr} {xs : List V} (e : Ext H H') (h : SqL K H a xs) : SqL K H' a xs := by
  rcases h with h | h
  · exact Or.inl (ext_rd e h)
  · exact Or.inr h
theorem ext_t {K : PySem.W.Frag} {H H' : Hp} {a : Addr} {xs : List V} (e : Ext H H') (h : SqT K H a xs) : SqT K H' a xs := by
  rcases h with h | h
  · exact Or.inl (ext_rd e h)
  · exact Or.inr h
/-- the volatile objects: addresses, and what is true of what stands there -/
abbrev Vo : Type := List (Addr × (HO → Prop))
structure Hd (G H : Hp) (L : Vo) : Prop where
  ex : Ext G H
  at_ : ∀ p ∈ L, ∃ o, H p.1 = some o ∧ p.2 o
  out : ∀ p ∈ L, G p.1 = none
  nd : (L.map (·.1)).Nodup
section
variable {G H H' : Hp} {L : Vo} {p : Addr} {o o' : HO} {φ ψ : HO → Prop}
theorem Hd.get (h : Hd G H L) (m : (p, φ) ∈ L) : ∃ o, H p = some o ∧ φ o := h.at_ _ m
theorem Hd.eq (h : Hd G H L) (m : (p, Eq o) ∈ L) : H p = some o := by
  obtain ⟨u, h1, h2⟩ := h.at_ _ m
  have h3 : o = u := h2
  rw [h3]
  exact h1
theorem Hd.no (h : Hd G H L) (m : (p, φ) ∈ L) : G p = none := h.out _ m
theorem Hd.nil (e : Ext G H) : Hd G H [] := ⟨e, fun _ z => (nomatch z), fun _ z => (nomatch z), List.nodup_nil⟩
theorem Hd.grow (h : Hd G H L) (e : Ext H H') : Hd G H' L := ⟨h.ex.trans e, fun q m => let ⟨o, a, b⟩ := h.at_ q m; ⟨o, e _ _ a, b⟩, h.out, h.nd⟩
theorem nodup_same : ∀ {L : Vo}, (L.map (·.1)).Nodup → ∀ {p : Addr} {φ ψ : HO → Prop}, (p, φ) ∈ L → (p, ψ) ∈ L → φ = ψ
  | [], _, _, _, _, m, _ => nomatch m
  | (q, χ) :: L, nd, p, φ, ψ, m, n => by
    rw [List.map_cons, List.nodup_cons] at nd
    rcases List.mem_cons.mp m with e | m
    · rcases List.mem_cons.mp n with f | n
      · cases e
        cases f
        rfl
      · cases e
        exact absurd (List.mem_map_of_mem (f := (·.1)) n) nd.1
    · rcases List.mem_cons.mp n with f | n
      · cases f
        exact absurd (List.mem_map_of_mem (f := (·.1)) m) nd.1
      · exact nodup_same nd.2 m n
/-- the object at p is changed, within what is told of it -/
theorem Hd.put (h : Hd G H L) (m : (p, φ) ∈ L) (hφ : φ o') : Hd G (upd H p o') L := by
  refine ⟨h.ex.put (h.no m), fun q n => ?_, h.out, h.nd⟩
  obtain ⟨a, χ⟩ := q
  by_cases e : a = p
  · subst e
    have z := nodup_same h.nd n m
    subst z
    exact ⟨o', upd_same, hφ⟩
  · obtain ⟨u, h1, h2⟩ := h.at_ _ n
    exact ⟨u, by rw [upd_ne e]; exact h1, h2⟩
theorem mem_set_ne : ∀ {L : Vo} {i : Nat} {p : Addr} {φ ψ : HO → Prop}, (L.map (·.1)).Nodup → L[i]? = some (p, φ) → ∀ q ∈ L.set i (p, ψ), q = (p, ψ) ∨ (q ∈ L ∧ q.1 ≠ p)
  | [], _, _, _, _, _, e, _, _ => by simp at e
  | x :: L, 0, p, φ, ψ, nd, e, q, hq => by
    simp only [List.getElem?_cons_zero, Option.some.injEq] at e
    subst e
    rw [List.map_cons, List.nodup_cons] at nd
    rw [List.set_cons_zero] at hq
    rcases List.mem_cons.mp hq with h | h
    · exact Or.inl h
    · refine Or.inr ⟨List.mem_cons_of_mem _ h, fun z => ?_⟩
      have w : q.1 ∈ L.map (·.1) := List.mem_map_of_mem (f := (·.1)) h
      rw [z] at w
      exact nd.1 w
  | x :: L, i + 1, p, φ, ψ, nd, e, q, hq => by
    rw [List.getElem?_cons_succ] at e
    rw [List.map_cons, List.nodup_cons] at nd
    rw [List.set_cons_succ] at hq
    rcases List.mem_cons.mp hq with h | h
    · refine Or.inr ⟨by rw [h]; exact List.mem_cons_self, fun z => ?_⟩
      have w : p ∈ L.map (·.1) := List.mem_map_of_mem (f := (·.1)) (List.mem_of_getElem? e)
      rw [h] at z
      rw [z] at nd
      exact nd.1 w
    · rcases mem_set_ne nd.2 e q h with r | ⟨r, s⟩
      · exact Or.inl r
      · exact Or.inr ⟨List.mem_cons_of_mem _ r, s⟩
theorem map_set_fst : ∀ {L : Vo} {i : Nat} {p : Addr} {φ ψ : HO → Prop}, L[i]? = some (p, φ) → (L.set i (p, ψ)).map (·.1) = L.map (·.1)
  | [], _, _, _, _, e => by simp at e
  | x :: L, 0, p, φ, ψ, e => by
    simp only [List.getElem?_cons_zero, Option.some.injEq] at e
    subst e
    rfl
  | x :: L, i + 1, p, φ, ψ, e => by
    rw [List.getElem?_cons_succ] at e
    rw [List.set_cons_succ, List.map_cons, List.map_cons, map_set_fst e]
theorem Hd.set (h : Hd G H L) (i : Nat) (m : L[i]? = some (p, φ)) (hψ : ψ o') : Hd G (upd H p o') (L.set i (p, ψ)) :=
  ⟨h.ex.put (h.no (List.mem_of_getElem? m)), fun q n => by
    rcases mem_set_ne h.nd m q n with e | ⟨n', e⟩
    · subst e
      exact ⟨o', upd_same, hψ⟩
    · obtain ⟨u, h1, h2⟩ := h.at_ _ n'
      exact ⟨u, by rw [upd_ne e]; exact h1, h2⟩, fun q n => by
    rcases mem_set_ne h.nd m q n with e | ⟨n', e⟩
    · subst e
      exact h.no (List.mem_of_getElem? m)
    · exact h.out _ n', by rw [map_set_fst m]; exact h.nd⟩
/-- what is told of the object at place i is told otherwise -/
theorem Hd.re (h : Hd G H L) (i : Nat) (m : L[i]? = some (p, φ)) (hψ : ∀ o, H p = some o → φ o → ψ o) : Hd G H (L.set i (p, ψ)) :=
  ⟨h.ex, fun q n => by
    rcases mem_set_ne h.nd m q n with e | ⟨n', e⟩
    · subst e
      obtain ⟨u, h1, h2⟩ := h.at_ _ (List.mem_of_getElem? m)
      exact ⟨u, h1, hψ u h1 h2⟩
    · exact h.at_ _ n', fun q n => by
    rcases mem_set_ne h.nd m q n with e | ⟨n', e⟩
    · subst e
      exact h.no (List.mem_of_getElem? m)
    · exact h.out _ n', by rw [map_set_fst m]; exact h.nd⟩
theorem Hd.set0 (h : Hd G H ((p, φ) :: L)) (hψ : ψ o') : Hd G (upd H p o') ((p, ψ) :: L) := h.set 0 rfl hψ
theorem Hd.set1 {x : Addr × (HO → Prop)} (h : Hd G H (x :: (p, φ) :: L)) (hψ : ψ o') : Hd G (upd H p o') (x :: (p, ψ) :: L) := h.set 1 rfl hψ
theorem Hd.set2 {x y : Addr × (HO → Prop)} (h : Hd G H (x :: y :: (p, φ) :: L)) (hψ : ψ o') : Hd G (upd H p o') (x :: y :: (p, ψ) :: L) := h.set 2 rfl hψ
theorem Hd.re0 (h : Hd G H ((p, φ) :: L)) (hψ : ∀ o, H p = some o → φ o → ψ o) : Hd G H ((p, ψ) :: L) := h.re 0 rfl hψ
theorem Hd.re1 {x : Addr × (HO → Prop)} (h : Hd G H (x :: (p, φ) :: L)) (hψ : ∀ o, H p = some o → φ o → ψ o) : Hd G H (x :: (p, ψ) :: L) := h.re 1 rfl hψ
theorem Hd.setA {A : Vo} (h : Hd G H (A ++ (p, φ) :: L)) (hψ : ψ o') : Hd G (upd H p o') (A ++ (p, ψ) :: L) := by
  have e : (A ++ (p, φ) :: L)[A.length]? = some (p, φ) := by rw [List.getElem?_append_right (Nat.le_refl _), Nat.sub_self]; rfl
  have z := h.set A.length e hψ
  rw [List.set_append_right A.length _ (Nat.le_refl _), Nat.sub_self] at z
  exact z
theorem Hd.getA {A : Vo} (h : Hd G H (A ++ (p, φ) :: L)) : ∃ o, H p = some o ∧ φ o := h.get (List.mem_append_right _ List.mem_cons_self)
theorem Hd.fresh (h : Hd G H L) (hp : H p = none) : p ∉ L.map (·.1) := fun m => by
  obtain ⟨q, n, e⟩ := List.mem_map.mp m
  obtain ⟨u, h1, _⟩ := h.at_ q n
  rw [e, hp] at h1
  cases h1
/-- a new object that may change -/
theorem Hd.new (h : Hd G H L) (hp : H p = none) (hφ : φ o) : Hd G (upd H p o) ((p, φ) :: L) :=
  ⟨h.ex.trans (Ext.new hp), fun q n => by
    rcases List.mem_cons.mp n with e | n
    · subst e
      exact ⟨o, upd_same, hφ⟩
    · obtain ⟨u, h1, h2⟩ := h.at_ q n
      exact ⟨u, by rw [upd_ne (ne_of_none h1 hp)]; exact h1, h2⟩, fun q n => by
    rcases List.mem_cons.mp n with e | n
    · subst e
      exact h.ex.free hp
    · exact h.out q n, by rw [List.map_cons, List.nodup_cons]; exact ⟨h.fresh hp, h.nd⟩⟩
/-- a new object that stays -/
theorem Hd.fix (h : Hd G H L) (hp : H p = none) : Hd (upd G p o) (upd H p o) L :=
  ⟨fun a u e => by
    by_cases z : a = p
    · subst z
      rw [upd_same] at e ⊢
      exact e
    · rw [upd_ne z] at e ⊢
      exact h.ex a u e, fun q n => by
    obtain ⟨u, h1, h2⟩ := h.at_ q n
    exact ⟨u, by rw [upd_ne (ne_of_none h1 hp)]; exact h1, h2⟩, fun q n => by
    obtain ⟨u, h1, _⟩ := h.at_ q n
    rw [upd_ne (ne_of_none h1 hp)]
    exact h.out q n, h.nd⟩
/-- the first volatile object is to stay as it is -/
theorem Hd.freeze (h : Hd G H ((p, φ) :: L)) (e : H p = some o) : Hd (upd G p o) H L :=
  ⟨fun a u q => by
    by_cases z : a = p
    · subst z
      rw [upd_same] at q
      rw [e]
      exact q
    · rw [upd_ne z] at q
      exact h.ex a u q, fun q n => h.at_ q (List.mem_cons_of_mem _ n), fun q n => by
    have nd := h.nd
    rw [List.map_cons, List.nodup_cons] at nd
    have z : q.1 ≠ p := fun z => by
      have w : q.1 ∈ L.map (·.1) := List.mem_map_of_mem (f := (·.1)) n
      rw [z] at w
      exact nd.1 w
    rw [upd_ne z]
    exact h.out q (List.mem_cons_of_mem _ n), by
    have nd := h.nd
    rw [List.map_cons, List.nodup_cons] at nd
    exact nd.2⟩
theorem Hd.made {x dx C : Addr} {fs : List (Str × V)} (h : Hd G H L) (nx : H x = none) (nd : H dx = none) (ne : dx ≠ x) (hφ : φ (.ins C dx fs)) : Hd G (upd (upd H dx (.own x)) x (.ins C dx fs)) ((x, φ) :: L) :=
  (h.grow (Ext.new nd)).new (by rw [upd_ne (fun z => ne z.symm)]; exact nx) hφ
theorem Hd.drop {x : Addr × (HO → Prop)} (h : Hd G H (x :: L)) : Hd G H L :=
  ⟨h.ex, fun q n => h.at_ q (List.mem_cons_of_mem _ n), fun q n => h.out q (List.mem_cons_of_mem _ n), by
    have nd := h.nd
    rw [List.map_cons, List.nodup_cons] at nd
    exact nd.2⟩
theorem Hd.perm {M : Vo} (h : Hd G H L) (q : M.Perm L) : Hd G H M :=
  ⟨h.ex, fun x n => h.at_ x (q.mem_iff.mp n), fun x n => h.out x (q.mem_iff.mp n), (List.Perm.nodup_iff (q.map (·.1))).mpr h.nd⟩
theorem Hd.swap {x y : Addr × (HO → Prop)} (h : Hd G H (x :: y :: L)) : Hd G H (y :: x :: L) := h.perm (List.Perm.swap x y L)
theorem Hd.ext {G0 : Hp} (h : Hd G H L) (e : Ext G0 G) : Hd G0 H L := ⟨e.trans h.ex, h.at_, fun q n => e.free (h.out q n), h.nd⟩
theorem Hd.newG (_ : Hd G H L) (hG : G p = none) : Ext G (upd G p o) := Ext.new hG
theorem Hd.gno (h : Hd G H L) (hp : H p = none) : G p = none := h.ex.free hp
theorem Hd.ne (h : Hd G H L) {q : Addr} {i j : Nat} (m : L[i]? = some (p, φ)) (n : L[j]? = some (q, ψ)) (hij : i ≠ j) : p ≠ q := fun e => by
  have h1 : (L.map (·.1))[i]? = some p := by rw [List.getElem?_map, m]; rfl
  have h2 : (L.map (·.1))[j]? = some q := by rw [List.getElem?_map, n]; rfl
  rw [← e] at h2
  have l1 : i < (L.map (·.1)).length := (List.getElem?_eq_some_iff.mp h1).1
  have l2 : j < (L.map (·.1)).length := (List.getElem?_eq_some_iff.mp h2).1
  exact hij ((List.getElem?_inj l1 h.nd).mp (h1.trans h2.symm))
end
/-! ### data that stands in a heap -/
section
variable {K : PySem.W.Frag} {G H : Hp}
mutual
theorem dp_mono (e : Ext G H) : ∀ {v : V} {d : PyData}, Dp K G v d → Dp K H v d
  | _, _, .non => .non
  | _, _, .bl b => .bl b
  | _, _, .int i => .int i
  | _, _, .str x => .str x
  | _, _, .lst h r => .lst (ext_l e h) (dpa_mono e r)
  | _, _, .tup h r => .tup (ext_t e h) (dpa_mono e r)
theorem dpa_mono (e : Ext G H) : ∀ {vs : List V} {ds : List PyData}, DpAll K G vs ds → DpAll K H vs ds
  | _, _, .nil => .nil
  | _, _, .cons h r => .cons (dp_mono e h) (dpa_mono e r)
end
theorem dp_int {v : V} {i : Int} (h : Dp K H v (.int i)) : v = .int i := by cases h; rfl
theorem dp_str {v : V} {x : Str} (h : Dp K H v (.str x)) : v = .str x := by cases h; rfl
theorem dp_bl {v : V} {b : Bool} (h : Dp K H v (.bool b)) : v = .bl b := by cases h; rfl
theorem dp_non {v : V} (h : Dp K H v .none) : v = .non := by cases h; rfl
theorem dp_tup {v : V} {ds : List PyData} (h : Dp K H v (.tuple ds)) : ∃ a xs, v = .ref a ∧ SqT K H a xs ∧ DpAll K H xs ds := by
  cases h with
  | tup a b => exact ⟨_, _, rfl, a, b⟩
theorem dp_lst {v : V} {ds : List PyData} (h : Dp K H v (.list ds)) : ∃ a xs, v = .ref a ∧ SqL K H a xs ∧ DpAll K H xs ds := by
  cases h with
  | lst a b => exact ⟨_, _, rfl, a, b⟩
theorem dpa_len : ∀ {vs : List V} {ds : List PyData}, DpAll K H vs ds → vs.length = ds.length
  | _, _, .nil => rfl
  | _, _, .cons _ r => by rw [List.length_cons, List.length_cons, dpa_len r]
theorem dpa_get : ∀ {vs : List V} {ds : List PyData} {i : Nat} {d : PyData}, DpAll K H vs ds → ds[i]? = some d → ∃ v, vs[i]? = some v ∧ Dp K H v d
  | _, _, _, _, .nil, e => by simp at e
  | _, _, 0, _, .cons h _, e => by
    simp only [List.getElem?_cons_zero, Option.some.injEq] at e
    subst e
    exact ⟨_, rfl, h⟩
  | _, _, i + 1, _, .cons _ r, e => by
    rw [List.getElem?_cons_succ] at e
    obtain ⟨v, h1, h2⟩ := dpa_get r e
    exact ⟨v, by rw [List.getElem?_cons_succ]; exact h1, h2⟩
theorem dpa_get' : ∀ {vs : List V} {ds : List PyData} {i : Nat} {v : V}, DpAll K H vs ds → vs[i]? = some v → ∃ d, ds[i]? = some d ∧ Dp K H v d
  | _, _, _, _, .nil, e => by simp at e
  | _, _, 0, _, .cons h _, e => by
    simp only [List.getElem?_cons_zero, Option.some.injEq] at e
    subst e
    exact ⟨_, rfl, h⟩
  | _, _, i + 1, _, .cons _ r, e => by
    rw [List.getElem?_cons_succ] at e
    obtain ⟨v, h1, h2⟩ := dpa_get' r e
    exact ⟨v, by rw [List.getElem?_cons_succ]; exact h1, h2⟩
theorem dpa_app : ∀ {vs ws : List V} {ds es : List PyData}, DpAll K H vs ds → DpAll K H ws es → DpAll K H (vs ++ ws) (ds ++ es)
  | _, _, _, _, .nil, s => s
  | _, _, _, _, .cons h r, s => .cons h (dpa_app r s)
theorem dpa_one {v : V} {d : PyData} (h : Dp K H v d) : DpAll K H [v] [d] := .cons h .nil
theorem dpa_ints : ∀ ns : List Int, DpAll K H (ns.map V.int) (ns.map PyData.int)
  | [] => .nil
  | n :: ns => .cons (.int n) (dpa_ints ns)
end
theorem nodup_take {α : Type} {l : List α} {i : Nat} {x : α} (h : l.Nodup) (hi : l[i]? = some x) : x ∉ l.take i := fun m => by
  obtain ⟨j, hj, e⟩ := List.mem_iff_getElem.mp m
  rw [List.length_take] at hj
  rw [List.getElem_take] at e
  have h1 : l[j]? = some x := by rw [List.getElem?_eq_getElem (by omega), e]
  have h2 : j < l.length := by omega
  have := (List.getElem?_inj h2 h).mp (h1.trans hi.symm)
  omega
end Mo
namespace Mo
open PySem PySem.Spec PyProof.Rows L2
abbrev St := L2.St
/-! ### rules: any subscript, any store, any in, any ==, len of anything, calls that may raise -/
section
variable {X : Cx}
def CMulX (i j : Int) : Prop := i.natAbs.log2 + j.natAbs.log2 < 134000000
theorem CMulX.ok {i j : Int} (h : CMulX i j) : IntMulOk i j := by
  have b : ∀ x : Int, Builtin.Int.intBits x ≤ x.natAbs.log2 + 1 := fun x => by
    unfold Builtin.Int.intBits
    split <;> omega
  have h1 := b i
  have h2 := b j
  have h3 : i.natAbs.log2 + j.natAbs.log2 < 134000000 := h
  have e : bitsLine = 134217728 := by decide
  unfold IntMulOk
  intro z
  rw [Bool.and_eq_true] at z
  have z2 := z.2
  unfold Builtin.Int.intTooBig at z2
  have z3 := of_decide_eq_true z2
  rw [e] at z3
  omega
theorem log2_bd {x : Int} {a : Nat} (h : x.natAbs < 2 ^ a) (h0 : 0 < a) : x.natAbs.log2 < a := PySem.Flt.log2_lt_of h0 h
theorem mulX_of {i j : Int} (a b : Nat) (hi : i.natAbs < 2 ^ a) (hj : j.natAbs < 2 ^ b) (h0 : 0 < a) (h1 : 0 < b) (h : a + b ≤ 134000000) : CMulX i j := by
  have x := log2_bd hi h0
  have y := log2_bd hj h1
  unfold CMulX
  omega
theorem op_mulX : OpR X (binaryOp .Mult) (rI CMulX fun i j => .int (i * j)) := opI fun _ _ _ _ _ _ _ hc q => mul_int q hc.ok
def CDivX (_ j : Int) : Prop := j ≠ 0 ∧ j.natAbs.log2 < 9000
theorem op_fdivX : OpR X (binaryOp .FloorDiv) (rI CDivX fun i j => .int (i.fdiv j)) := opI fun _ _ _ _ _ _ _ hc q => floordiv_int hc.1 q (.inl (PyProof.noPylong_of_log2 hc.2))
def CMod (_ j : Int) : Prop := j ≠ 0
theorem op_modX : OpR X (binaryOp .Mod) (rI CMod fun i j => .int (i.fmod j)) := opI fun _ _ _ _ _ _ _ hc q => mod_int' hc q
/-- d[y] by values -/
def rDGet : R2 := fun x y H Q => ∃ a v, x = .ref a ∧ DGet H a y (some v) ∧ Q v H
theorem ix_dict (hu : X.A.units + 1 < cLine) : IxR X rDGet := by
  intro value slice pins s σ H x y v u Q I rx ry h hs
  obtain ⟨a, z, rfl, g, q⟩ := h
  obtain rfl : v = Value.ref a := rx
  have hT := dict_typeIs I g
  unfold subscriptTail
  refine wpAny_bind ?_
  rw [getitemInPython_of_ne hT.not_modules]
  refine wpAny_bind (wpAny_specialOf hT PySem.F.slot_dict_getitem.lookup ?_)
  have fin : wpAny (model X.prog X.w) X.A (subscripted slice false (Value.ref a) u) (fun r s₃ => wpAny (model X.prog X.w) X.A (letTemporaryGo value (Value.ref a) r >>= fun _ => pure r) (EP X pins σ Q) X.xe s₃) X.xe s := by
    rw [hs]
    refine wpAny_operating (d_getItem hu I g ry fun w' s3 I3 rw' => wpAny_bind (wpAny_letTemporaryGo (wpAny_pure ⟨z, H, I3, rw', q⟩)))
  first
    | exact wpAny_pure (wpAny_bind fin)
    | exact wpAny_bind (wpAny_pure (wpAny_bind fin))
    | exact wpAny_bind fin
def rSub (K : PySem.W.Frag) : R2 := fun x y H Q => (rIxL K x y H Q ∨ rIxT K x y H Q) ∨ (rIxS x y H Q ∨ rDGet x y H Q)
theorem ix_any (hu : X.A.units + 1 < cLine) : IxR X (rSub X.K) := (ix_list.or ix_tup).or (ix_str.or (ix_dict hu))
def rSli (K : PySem.W.Frag) : V → Option Int → Option Int → Hp → VK → Prop := fun x lo hi H Q => rSlL K x lo hi H Q ∨ rSlT K x lo hi H Q
theorem sl_any : SlR X (rSli X.K) := sl_list.or sl_tup
def rSet : TSet := fun o i v H Q => rSetL o i v H Q ∨ ∃ a H', o = .ref a ∧ DPut H a i v H' ∧ Q H'
theorem set_any (hu : X.A.units + 1 < cLine) : PSet X rSet := by
  intro pins s σ H o i v ov iv u Q I ro ri rv h
  rcases h with h | ⟨a, H', rfl, g, q⟩
  · exact set_list pins s σ H o i v ov iv u Q I ro ri rv h
  · obtain rfl : ov = Value.ref a := ro
    exact d_setItem hu I g ri rv fun s' I' => ⟨H', I', q⟩
/-- y in d, by values -/
def rDIn : R2 := fun y x H Q => ∃ a o, x = .ref a ∧ DGet H a y o ∧ Q (.bl o.isSome) H
def rDNotIn : R2 := fun y x H Q => ∃ a o, x = .ref a ∧ DGet H a y o ∧ Q (.bl (!o.isSome)) H
theorem op_inDict (hu : X.A.units + 1 < cLine) : OpR X (compareOp .In) rDIn := by
  intro pins s σ H x y v u Q I rx ry h
  obtain ⟨a, o, rfl, g, q⟩ := h
  obtain rfl : u = Value.ref a := ry
  exact d_in hu I g rx fun s3 I3 => ⟨.bl o.isSome, H, I3, rfl, q⟩
theorem op_notInDict (hu : X.A.units + 1 < cLine) : OpR X (compareOp .NotIn) rDNotIn := by
  intro pins s σ H x y v u Q I rx ry h
  obtain ⟨a, o, rfl, g, q⟩ := h
  obtain rfl : u = Value.ref a := ry
  exact d_notIn hu I g rx fun s3 I3 => ⟨.bl (!o.isSome), H, I3, rfl, q⟩
def rInA (K : PySem.W.Frag) : R2 := fun x y H Q => rDIn x y H Q ∨ (rIn K false x y H Q ∨ rInD K x y H Q)
def rNotInA (K : PySem.W.Frag) : R2 := fun x y H Q => rDNotIn x y H Q ∨ (rIn K true x y H Q ∨ rNotInD K x y H Q)
theorem op_inA (hu : X.A.units + 65 < cLine) : OpR X (compareOp .In) (rInA X.K) := (op_inDict (by omega)).or (op_in_seq.or (op_inD hu))
theorem op_notInA (hu : X.A.units + 65 < cLine) : OpR X (compareOp .NotIn) (rNotInA X.K) := (op_notInDict (by omega)).or (op_notIn_seq.or (op_notInD hu))
def rEqA (K : PySem.W.Frag) : R2 := fun x y H Q => rEq x y H Q ∨ (rEqD K x y H Q ∨ rEqV K x y H Q)
def rNeA (K : PySem.W.Frag) : R2 := fun x y H Q => rNe x y H Q ∨ rNeD K x y H Q
theorem op_eqA (hu : X.A.units + 64 < cLine) : OpR X (compareOp .Eq) (rEqA X.K) := op_eq.or ((op_eqD hu).or (op_eqV hu))
theorem op_neA (hu : X.A.units + 64 < cLine) : OpR X (compareOp .NotEq) (rNeA X.K) := op_ne.or (op_neD hu)
def rLenA (K : PySem.W.Frag) : List V → Hp → VK → Prop := fun xs H Q =>
  ((∃ p ys, xs = [.ref p] ∧ (SqL K H p ys ∨ SqT K H p ys) ∧ Q (.int ys.length) H) ∨ (∃ z, xs = [.str z] ∧ z.length ≤ sizeLine ∧ Q (.int z.length) H)) ∨ ((∃ a kvs, xs = [V.ref a] ∧ H a = some (.dK kvs) ∧ Q (.int kvs.length) H) ∨ rLenT xs H Q)
theorem call_lenA : CallR X (.builtin "len") (rLenA X.K) := (call_len_seq.or call_len_str).or (call_lenD.or call_len_dT)
/-- {}: of the one kind or the other -/
def tDNew : TE := fun σ H Q => tDNewK σ H Q ∨ tDNewT σ H Q
theorem pe_dnew {pos : Pos} : PE X (.Dict [] [] pos) tDNew := ⟨fun pins s σ H Q I h => by
  rcases h with h | h
  · exact pe_dnewK.run pins s σ H Q I h
  · exact pe_dnewT.run pins s σ H Q I h⟩
end
/-! ### calls, what is raised wished for at the caller's slots -/
section
variable {X : Cx} {CX : CXT} {k : Nat} {f C : Addr} {fd : FuncData} {ps : List Str} {sp : Sp} {E : St → XK} {x m : Str} {p pos apos : Pos} {e o : Expr} {es : List Expr} {ta : TE} {t : TA}
theorem pe_call0S (F : FnOk X.prog X.w X.K X.mg X.base CX k f fd ps sp) (hr : Room k X.A) (hg : Gl X x) (hm : X.mg x = some (.ref f)) (hk : PySem.W.keepIn X.K (.ref f) = true) (hb : Binds X.K fd ps []) (hx : ∀ σ, PassesAt CX X σ (E σ))
    (hdb : (x == ("__debug__" : Str)) = false := by decide) : PE X (.Call (.Name x p) [] [] pos) (tCallS sp E tNil) := by
  refine ⟨fun pins s σ H Q I h => ?_⟩
  refine wpAny_Call_Name_kw (ld_glob I hg hm ?_ hdb)
  exact PySem.W.callWith_K0 I.kIn hk (run_fnS (us := []) F hr hb (hx σ) I .nil h)
def tMethS (C : Addr) (m : Str) (sp : Sp) (E : St → XK) (ta : TE) (t : TA) : TE := fun σ H Q => ta σ H fun x H1 => ∃ a dx fs, x = .ref a ∧ H1 a = some (.ins C dx fs) ∧ fs.lookup m = none ∧
  t σ H1 fun vs H2 => sp (x :: vs) H2 Q (E σ)
theorem pe_methS {pl : Sem Bool} (he : PE X o ta) (c : Cls X.K C) (hm : Meth X.K C m f) (F : FnOk X.prog X.w X.K X.mg X.base CX k f fd ps sp) (hr : Room k X.A) (hb : Binds X.K fd ps []) (hx : ∀ σ, PassesAt CX X σ (E σ)) (ha : PA X (e :: es) t)
    (hst : starEach (e :: es) X.env = (false, eval e X.env) :: starEach es X.env := by rfl) (hpl : (backTo pos (starEach es X.env)).any (·.1) = false := by rfl)
    (ht : eval (.Call (.Attribute o m apos) (e :: es) [] pos) X.env = (do
      let ov ← eval o X.env
      standAt apos.atName
      let (f, first) ← holding [ov] (getMethod ov m pl)
      callWith pos f first (backTo pos (starEach (e :: es) X.env)) (backToKw pos (keywordEach [] X.env))) := by rfl) :
    PE X (.Call (.Attribute o m apos) (e :: es) [] pos) (tMethS C m sp E ta t) := by
  refine ⟨fun pins s σ H Q I h => ?_⟩
  refine PySem.W.methodCall_KW (pl := pl) (thn (he.run pins s σ H _ I h) fun u s1 ⟨x, H1, I1, rx, a, dx, fs, ex, ea, l, q⟩ => ?_) ht
  subst ex
  obtain rfl : u = Value.ref a := rx
  refine getmeth_ok I1 ea c hm l ?_
  refine PySem.W.callWith_K (first := [.ref a]) (h₀ := X.base) I.ok.mod.kin hm.kp (thn (ha.run pos pins s1 σ H1 _ I1 q) fun us s2 ⟨vs, H2, I2, r, q2⟩ => ⟨I2.kIn, ?_⟩) hst hpl
  exact run_fnS (us := .ref a :: us) (vs := .ref a :: vs) F hr hb (hx σ) I2 (.cons rfl r) q2
theorem pe_meth0S {pl : Sem Bool} (he : PE X o ta) (c : Cls X.K C) (hm : Meth X.K C m f) (F : FnOk X.prog X.w X.K X.mg X.base CX k f fd ps sp) (hr : Room k X.A) (hb : Binds X.K fd ps []) (hx : ∀ σ, PassesAt CX X σ (E σ))
    (ht : eval (.Call (.Attribute o m apos) [] [] pos) X.env = (do
      let ov ← eval o X.env
      standAt apos.atName
      let (f, first) ← holding [ov] (getMethod ov m pl)
      callWith pos f first (backTo pos (starEach [] X.env)) (backToKw pos (keywordEach [] X.env))) := by rfl) :
    PE X (.Call (.Attribute o m apos) [] [] pos) (tMethS C m sp E ta tNil) := by
  refine ⟨fun pins s σ H Q I h => ?_⟩
  refine PySem.W.methodCall_KW (pl := pl) (thn (he.run pins s σ H _ I h) fun u s1 ⟨x, H1, I1, rx, a, dx, fs, ex, ea, l, q⟩ => ?_) ht
  subst ex
  obtain rfl : u = Value.ref a := rx
  refine getmeth_ok I1 ea c hm l ?_
  exact PySem.W.callWith_K0 (first := [.ref a]) I1.kIn hm.kp (run_fnS (us := [.ref a]) (vs := [.ref a]) F hr hb (hx σ) I1 (.cons rfl .nil) q)
def tMakeS (C : Addr) (sp : Sp) (E : St → XK) (t : TA) : TE := fun σ H Q => t σ H fun vs H1 => ∀ x dx, H1 x = none → H1 dx = none → dx ≠ x →
  sp (.ref x :: vs) (upd (upd H1 dx (.own x)) x (.ins C dx [])) (fun v H2 => v = .non ∧ Q (.ref x) H2) (E σ)
theorem passes_of_at {σ0 : St} (hx : ∀ σ, PassesAt CX X σ (E σ)) (pins : List (Addr × Obj)) (H : Hp) (s : Shared) (e : Value) (s' : Shared) (I : Inv X pins σ0 H s) (h : CX X.stack H s (E σ0) e s') : X.xe e s' := hx σ0 pins H s e s' I h
theorem run_makeS {pins : List (Addr × Obj)} {σ : St} {H : Hp} {s : Shared} {Q : VK} {us : List Value} {vs : List V} (M : Mk X.K C f) (F : FnOk X.prog X.w X.K X.mg X.base CX k f fd ps sp) (hr : Room (k + 1) X.A) (hb : Binds X.K fd ps [])
    (hx : PassesAt CX X σ (E σ)) (I : Inv X pins σ H s) (r : Vals vs us)
    (h : ∀ x dx, H x = none → H dx = none → dx ≠ x → sp (.ref x :: vs) (upd (upd H dx (.own x)) x (.ins C dx [])) (fun v H2 => v = .non ∧ Q (.ref x) H2) (E σ)) :
    wpAny (model X.prog X.w) X.A (call (.ref C) us) (EP X pins σ Q) X.xe s := by
  have hq := h (s.heap.objs.size + 1) s.heap.objs.size (I.hok.fresh (Nat.le_succ _)) (I.hok.fresh (Nat.le_refl _)) (Nat.ne_of_lt (Nat.lt_succ_self _))
  have I2 := Inv.made (C := C) I
  have r2 : Vals (V.ref (s.heap.objs.size + 1) :: vs) (Value.ref (s.heap.objs.size + 1) :: us) := .cons rfl r
  have hl : (Value.ref (s.heap.objs.size + 1) :: us).length = ps.length := by
    have e := r2.length
    rw [F.len _ _ _ _ hq] at e
    exact e.symm
  have b := hb _ (Value.ref (s.heap.objs.size + 1) :: us) I2.kIn (by rw [List.append_nil]; exact hl)
  rw [List.append_nil] at b
  refine wpAny_call (make_map (f := f) I.kIn M.makes M.init (beq_iff_eq.mp M.fn) (codeAny_mono (F.run _ X.stack _ _ ⟨Value.ref (s.heap.objs.size + 1) :: us, []⟩ (Value.ref (s.heap.objs.size + 1) :: us) _ _ (E σ) (hr.make C us [])
    (I2.env0.make C us []) b r2 hq) fun r s' hq' => ?_))
  cases r with
  | error e => exact hx pins _ _ e s' I2 hq'
  | ok fl =>
    cases fl with
    | ret u =>
      obtain ⟨v, H', I3, rv, ev, q3⟩ := I2.after hq'
      subst ev
      exact ⟨rv, ⟨V.ref (s.heap.objs.size + 1), H', I3, rfl, q3⟩⟩
    | next => exact False.elim hq'
    | brk => exact False.elim hq'
    | cont => exact False.elim hq'
theorem pe_makeS (M : Mk X.K C f) (F : FnOk X.prog X.w X.K X.mg X.base CX k f fd ps sp) (hr : Room (k + 1) X.A) (hg : Gl X x) (hm : X.mg x = some (.ref C)) (hb : Binds X.K fd ps []) (hx : ∀ σ, PassesAt CX X σ (E σ))
    (ha : PA X (e :: es) t) (hdb : (x == ("__debug__" : Str)) = false := by decide) (he : starEach (e :: es) X.env = (false, eval e X.env) :: starEach es X.env := by rfl) (hpl : (backTo pos (starEach es X.env)).any (·.1) = false := by rfl) :
    PE X (.Call (.Name x p) (e :: es) [] pos) (tMakeS C sp E t) := by
  refine ⟨fun pins s σ H Q I h => ?_⟩
  refine wpAny_Call_Name_kw (ld_glob I hg hm ?_ hdb)
  refine PySem.W.callWith_K (h₀ := X.base) I.ok.mod.kin M.kp (thn (ha.run pos pins s σ H _ I h) fun us s1 ⟨vs, H1, I1, r, q⟩ => ⟨I1.kIn, ?_⟩) he hpl
  exact run_makeS M F hr hb (hx σ) I1 r q
theorem pe_make0S (M : Mk X.K C f) (F : FnOk X.prog X.w X.K X.mg X.base CX k f fd ps sp) (hr : Room (k + 1) X.A) (hg : Gl X x) (hm : X.mg x = some (.ref C)) (hb : Binds X.K fd ps []) (hx : ∀ σ, PassesAt CX X σ (E σ))
    (hdb : (x == ("__debug__" : Str)) = false := by decide) : PE X (.Call (.Name x p) [] [] pos) (tMakeS C sp E tNil) := by
  refine ⟨fun pins s σ H Q I h => ?_⟩
  refine wpAny_Call_Name_kw (ld_glob I hg hm ?_ hdb)
  exact PySem.W.callWith_K0 I.kIn M.kp (run_makeS (us := []) M F hr hb (hx σ) I .nil h)
end
/-! ### what the top has written -/
def fdA (K : PySem.W.Frag) (a : Addr) : FuncData := match K.lookup a with
  | some ⟨_, _, .func fd, _⟩ => fd
  | _ => default
theorem fun_of {K : PySem.W.Frag} {x qual : PySem.Str} {st : Stmt} {f : Addr} {kws : List (PySem.Str × L2.V)} (h : ∃ fd, L2.FunD K x qual (L2.defArgs st) (L2.defBody st) (L2.defScope st) [] kws f fd) : L2.Fun K x qual st f (fdA K f) := by
  obtain ⟨fd, F⟩ := h
  obtain ⟨oc, od, dV, kV, doc, pm, an, cdv, ct, osl, e, l, c, hd, _⟩ := F.ex
  have e2 : fdA K f = fd := by
    unfold fdA
    rw [l]
  rw [e2]
  rcases hd with ⟨_, e2⟩ | ⟨e2, _⟩
  · subst e2
    exact ⟨⟨oc, od, kV, doc, pm, an, cdv, ct, osl, e, l, c⟩, F.kp⟩
  · exact absurd rfl e2
/-- a global def as its callers need it -/
structure GF (K : PySem.W.Frag) (mg : Str → Option Value) (x : Str) (ps : List Str) : Prop where
  gl : mg x = some (.ref (He.fAd K (x, none)))
  kp : PySem.W.keepIn K (.ref (He.fAd K (x, none))) = true
  bd : Binds K (fdA K (He.fAd K (x, none))) ps []
/-- a method -/
structure MF (K : PySem.W.Frag) (C m : Str) (ps : List Str) : Prop where
  me : Meth K (He.ga K C) m (He.fAd K (C, some m))
  bd : Binds K (fdA K (He.fAd K (C, some m))) ps []
/-- a class that is made -/
structure KF (K : PySem.W.Frag) (mg : Str → Option Value) (C : Str) (ps : List Str) : Prop where
  gl : mg C = some (.ref (He.ga K C))
  mker : Mk K (He.ga K C) (He.fAd K (C, some "__init__"))
  bd : Binds K (fdA K (He.fAd K (C, some "__init__"))) ps []
section
variable {P : Program} {w : World} {K : PySem.W.Frag} {mg : Str → Option Value} {base : Heap}
/-- a global def of level k keeps a promise -/
abbrev OkG (P : Program) (w : World) (K : PySem.W.Frag) (mg : Str → Option Value) (base : Heap) (k : Nat) (x : Str) (ps : List Str) (sp : Sp) : Prop := FnOk P w K mg base (L2.CX P w) k (He.fAd K (x, none)) (fdA K (He.fAd K (x, none))) ps sp
abbrev OkM (P : Program) (w : World) (K : PySem.W.Frag) (mg : Str → Option Value) (base : Heap) (k : Nat) (C m : Str) (ps : List Str) (sp : Sp) : Prop := FnOk P w K mg base (L2.CX P w) k (He.fAd K (C, some m)) (fdA K (He.fAd K (C, some m))) ps sp
end
section
variable {X : Cx} {k j : Nat} {C m x : Str} {ps : List Str} {sp : Sp} {W : WX} {p pos apos : Pos} {e o : Expr} {es : List Expr} {ta : TE} {t : TA}
/-- f(e, ..) -/
theorem pcl (G : GF X.K X.mg x ps) (F : OkG X.prog X.w X.K X.mg X.base k x ps sp) (hr : Room j X.A) (tk : Takes X W) (ha : PA X (e :: es) t) (hj : k ≤ j := by omega) (hg : Gl X x := by rfl)
    (hdb : (x == ("__debug__" : Str)) = false := by decide) (he : starEach (e :: es) X.env = (false, eval e X.env) :: starEach es X.env := by rfl) (hpl : (backTo pos (starEach es X.env)).any (·.1) = false := by rfl) :
    PE X (.Call (.Name x p) (e :: es) [] pos) (tCallS sp (WE W) t) := pe_callS F (hr.mono hj) hg G.gl G.kp G.bd (passAt tk) ha hdb he hpl
theorem pcl0 (G : GF X.K X.mg x ps) (F : OkG X.prog X.w X.K X.mg X.base k x ps sp) (hr : Room j X.A) (tk : Takes X W) (hj : k ≤ j := by omega) (hg : Gl X x := by rfl)
    (hdb : (x == ("__debug__" : Str)) = false := by decide) : PE X (.Call (.Name x p) [] [] pos) (tCallS sp (WE W) tNil) := pe_call0S F (hr.mono hj) hg G.gl G.kp G.bd (passAt tk) hdb
theorem pme {pl : Sem Bool} (G : MF X.K C m ps) (c : Cls X.K (He.ga X.K C)) (F : OkM X.prog X.w X.K X.mg X.base k C m ps sp) (hr : Room j X.A) (tk : Takes X W) (he : PE X o ta) (ha : PA X (e :: es) t) (hj : k ≤ j := by omega)
    (hst : starEach (e :: es) X.env = (false, eval e X.env) :: starEach es X.env := by rfl) (hpl : (backTo pos (starEach es X.env)).any (·.1) = false := by rfl)
    (ht : eval (.Call (.Attribute o m apos) (e :: es) [] pos) X.env = (do
      let ov ← eval o X.env
      standAt apos.atName
      let (f, first) ← holding [ov] (getMethod ov m pl)
      callWith pos f first (backTo pos (starEach (e :: es) X.env)) (backToKw pos (keywordEach [] X.env))) := by rfl) :
    PE X (.Call (.Attribute o m apos) (e :: es) [] pos) (tMethS (He.ga X.K C) m sp (WE W) ta t) := pe_methS (pl := pl) he c G.me F (hr.mono hj) G.bd (passAt tk) ha hst hpl ht
theorem pme0 {pl : Sem Bool} (G : MF X.K C m ps) (c : Cls X.K (He.ga X.K C)) (F : OkM X.prog X.w X.K X.mg X.base k C m ps sp) (hr : Room j X.A) (tk : Takes X W) (he : PE X o ta) (hj : k ≤ j := by omega)
    (ht : eval (.Call (.Attribute o m apos) [] [] pos) X.env = (do
      let ov ← eval o X.env
      standAt apos.atName
      let (f, first) ← holding [ov] (getMethod ov m pl)
      callWith pos f first (backTo pos (starEach [] X.env)) (backToKw pos (keywordEach [] X.env))) := by rfl) :
    PE X (.Call (.Attribute o m apos) [] [] pos) (tMethS (He.ga X.K C) m sp (WE W) ta tNil) := pe_meth0S (pl := pl) he c G.me F (hr.mono hj) G.bd (passAt tk) ht
theorem pmk (G : KF X.K X.mg C ps) (F : OkM X.prog X.w X.K X.mg X.base k C "__init__" ps sp) (hr : Room j X.A) (tk : Takes X W) (ha : PA X (e :: es) t) (hj : k + 1 ≤ j := by omega) (hg : Gl X C := by rfl)
    (hdb : (C == ("__debug__" : Str)) = false := by decide) (he : starEach (e :: es) X.env = (false, eval e X.env) :: starEach es X.env := by rfl) (hpl : (backTo pos (starEach es X.env)).any (·.1) = false := by rfl) :
    PE X (.Call (.Name C p) (e :: es) [] pos) (tMakeS (He.ga X.K C) sp (WE W) t) := pe_makeS G.mker F (hr.mono hj) hg G.gl G.bd (passAt tk) ha hdb he hpl
theorem pmk0 (G : KF X.K X.mg C ps) (F : OkM X.prog X.w X.K X.mg X.base k C "__init__" ps sp) (hr : Room j X.A) (tk : Takes X W) (hj : k + 1 ≤ j := by omega) (hg : Gl X C := by rfl)
    (hdb : (C == ("__debug__" : Str)) = false := by decide) : PE X (.Call (.Name C p) [] [] pos) (tMakeS (He.ga X.K C) sp (WE W) tNil) := pe_make0S G.mker F (hr.mono hj) hg G.gl G.bd (passAt tk) hdb
end
/-! ### more rules by values -/
section
variable {X : Cx}
theorem hu65_of {A : Around} {k : Nat} (hr : Room k A) : A.units + 65 < cLine := by
  have := hr.un
  omega
def rAddS : R2 := fun x y H Q => ∃ i j, x = .str i ∧ y = .str j ∧ i.length + j.length ≤ sizeLine ∧ Q (.str (i ++ j)) H
def rAddA (K : PySem.W.Frag) : R2 := fun x y H Q => rI0 (fun i j => .int (i + j)) x y H Q ∨ (rCat x y H Q ∨ (rAddS x y H Q ∨ rCatT K x y H Q))
theorem op_addA : OpR X (binaryOp .Add) (rAddA X.K) := op_add.or (op_cat.or (OpR.or (r := rAddS) op_add_str op_catT))
def rLtA (K : PySem.W.Frag) : R2 := fun x y H Q => rI0 (fun i j => .bl (decide (i < j))) x y H Q ∨ rLtT K x y H Q
theorem op_ltA (hu : X.A.units < cLine) : OpR X (compareOp .Lt) (rLtA X.K) := op_lt.or (op_ltT hu)
def rIsN1 : R2 := fun x y H Q => y = .non ∧ Q (.bl (decide (x = .non))) H
def rNotN1 : R2 := fun x y H Q => y = .non ∧ Q (.bl (!decide (x = .non))) H
theorem op_isN1 : OpR X (compareOp .Is) rIsN1 := op_isN
theorem op_notN1 : OpR X (compareOp .IsNot) rNotN1 := op_notN
def iSeq (K : PySem.W.Frag) (tl : TE) : TI := fun σ H R => tl σ H fun x H1 => ∃ a, x = .ref a ∧ (((∃ xs, SqL K H1 a xs) ∧ R (Itl K a) H1) ∨ ((∃ xs, SqT K H1 a xs) ∧ R (Itt K a) H1))
theorem pi_seq {tg l : Expr} {tl : TE} (hl : PE X l tl) : PI X tg l (iSeq X.K tl) := by
  refine ⟨fun pins s σ H R I h => ?_⟩
  refine thn (hl.run pins s σ H _ I h) fun v s1 ⟨x, H1, I1, r1, q1⟩ => ?_
  obtain ⟨a, e, q⟩ := q1
  subst e
  cases r1
  rcases q with ⟨⟨xs, hq⟩, q⟩ | ⟨⟨xs, hq⟩, q⟩
  · obtain ⟨its, rv, p, hz⟩ := I1.list hq
    refine wpAny_pyIter_list p.isList ?_
    refine ⟨s1.heap.objs.size, [s1.heap.objs.size], _, _, H1, rfl, I1.kept (t' := s1.toks) fun b o e => Heap.get?_push_of_some _ e, turn_list a _, ⟨_, Heap.get?_push_size _ rfl, rfl, rfl⟩, fun b hb => ?_, q⟩
    have e : b = s1.heap.objs.size := by simpa using hb
    subst e
    exact I1.fpOk (Nat.le_refl _) (I1.hok.fresh (Nat.le_refl _))
  · obtain ⟨its, rv, p, hz⟩ := I1.tuple hq
    refine wpAny_pyIter_tuple (show s1.heap.IsTuple a its.toArray from p) ?_
    refine ⟨s1.heap.objs.size, [s1.heap.objs.size], _, _, H1, rfl, I1.kept (t' := s1.toks) fun b o e => Heap.get?_push_of_some _ e, turn_tuple a _, ⟨_, Heap.get?_push_size _ rfl, rfl, rfl⟩, fun b hb => ?_, q⟩
    have e : b = s1.heap.objs.size := by simpa using hb
    subst e
    exact I1.fpOk (Nat.le_refl _) (I1.hok.fresh (Nat.le_refl _))
theorem call_isiA : CallR X (.builtin "isinstance") (rIsi X.K) := call_isi
end
/-- an own exception -/
structure ExF (K : PySem.W.Frag) (mg : Str → Option Value) (c : Str) : Prop where
  gl : mg c = some (.ref (He.ga K c))
  ex : PySem.W.excIn K (He.ga K c) He.veBase "ValueError.__new__" = true
  kp : PySem.W.keepIn K (.ref (He.ga K c)) = true
  sb : PySem.W.subIn K (.ref (He.ga K c)) (.type "BaseException") = some true
  ty : PySem.W.typeIn K (.ref (He.ga K c)) = some (.type "type")
/-! ### the rules, the written part named -/
section
variable {X : Cx} {K : PySem.W.Frag} {o e value a b : Expr} {es : List Expr} {f m : Str} {pos pos' tpos apos : Pos} {ta tb tv te : TE} {t : TA} {T name id : String} {r : V → List V → Hp → VK → Prop}
theorem op_addK (hK : X.K = K) : OpR X (binaryOp .Add) (rAddA K) := hK ▸ op_addA
theorem op_ltK (hK : X.K = K) (hu : X.A.units < cLine) : OpR X (compareOp .Lt) (rLtA K) := hK ▸ op_ltA hu
theorem op_eqK (hK : X.K = K) (hu : X.A.units + 64 < cLine) : OpR X (compareOp .Eq) (rEqA K) := hK ▸ op_eqA hu
theorem op_neK (hK : X.K = K) (hu : X.A.units + 64 < cLine) : OpR X (compareOp .NotEq) (rNeA K) := hK ▸ op_neA hu
theorem op_inK (hK : X.K = K) (hu : X.A.units + 65 < cLine) : OpR X (compareOp .In) (rInA K) := hK ▸ op_inA hu
theorem op_notInK (hK : X.K = K) (hu : X.A.units + 65 < cLine) : OpR X (compareOp .NotIn) (rNotInA K) := hK ▸ op_notInA hu
theorem ix_anyK (hK : X.K = K) (hu : X.A.units + 1 < cLine) : IxR X (rSub K) := hK ▸ ix_any hu
theorem sl_anyK (hK : X.K = K) : SlR X (rSli K) := hK ▸ sl_any
theorem call_lenK (hK : X.K = K) : CallR X (.builtin "len") (rLenA K) := hK ▸ call_lenA
theorem call_isiKK (hK : X.K = K) : CallR X (.builtin "isinstance") (rIsi K) := hK ▸ call_isiA
def rListOf (K : PySem.W.Frag) : List V → Hp → VK → Prop := fun xs H Q => ∃ p ys, xs = [.ref p] ∧ (SqL K H p ys ∨ SqT K H p ys) ∧ ∀ l, H l = none → Q (.ref l) (upd H l (.lst ys))
theorem call_listK (hK : X.K = K) : CallR X (.type "list") (rListOf K) := hK ▸ call_list_of
def rTupleOf (K : PySem.W.Frag) : List V → Hp → VK → Prop := fun xs H Q => ∃ p ys, xs = [.ref p] ∧ ((SqL K H p ys ∧ ∀ l, H l = none → Q (.ref l) (upd H l (.tup ys))) ∨ (SqT K H p ys ∧ Q (.ref p) H))
theorem call_tupleK (hK : X.K = K) : CallR X (.type "tuple") (rTupleOf K) := hK ▸ call_tuple_of
theorem pe_fldK (hK : X.K = K) (he : PE X e ta) (hb : attributeBase e f X.env (eval e X.env) = eval e X.env) : PE X (.Attribute e f pos) (tFld K ta f) := hK ▸ pe_fld he hb
theorem ps_fldK (hK : X.K = K) (ha : PE X o ta) (hv : PE X value tv) (hs : swapsWith value (some (.Attribute o f pos')) pos.line X.env = pure false) : PS X (.Assign [.Attribute o f pos'] value pos) (sFld K ta tv f) := hK ▸ ps_fld ha hv hs
theorem ps_fldaugK {op : Operator} {rd : V → V → Hp → VK → Prop} (hK : X.K = K) (ha : PE X o ta) (hv : PE X value tv) (hop : InOp X op rd) : PS X (.AugAssign (.Attribute o f tpos) op value pos) (sFldAug K ta tv rd f) := hK ▸ ps_fldaug ha hv hop
theorem pi_seqK {tg l : Expr} {tl : TE} (hK : X.K = K) (hl : PE X l tl) : PI X tg l (iSeq K tl) := hK ▸ pi_seq hl
theorem pg_tupK {es : List Expr} {k : Nat} {t : TGs} {n : Nat} (hK : X.K = K) (hc : X.calm = true) (h : PGs X es t) (hn : (assignEach es X.env).length = n) (hst : (assignEach es X.env).findIdx? (·.1) = none) : PG X (.Tuple es k pos) (gTup K n t) := hK ▸ pg_tup hc h hn hst
theorem pe_bm0K {cpos : Pos} (hK : X.K = K) (pa : PlainAttrs T) (slot : Slot T name id) (hty : typeOf (.builtin id) = pure (.type "method_descriptor")) (hm : MtR X id r) (ho : PE X o ta)
    (hbase : attributeBase o name X.env (eval o X.env) = eval o X.env := by rfl) (hline : (apos.endLine == cpos.line) = true := by rfl) : PE X (.Call (.Attribute o name apos) [] [] cpos) (tBM0 K T r ta) := hK ▸ pe_bm0 pa slot hty hm ho hbase hline
theorem pe_bmK {cpos : Pos} (hK : X.K = K) (pa : PlainAttrs T) (slot : Slot T name id) (hty : typeOf (.builtin id) = pure (.type "method_descriptor")) (hm : MtR X id r) (ho : PE X o ta) (ha : PA X (e :: es) t)
    (hbase : attributeBase o name X.env (eval o X.env) = eval o X.env := by rfl)
    (hfew : ((backTo cpos (starEach (e :: es) X.env)).all (fun x => !x.1) && (backToKw cpos (keywordEach [] X.env)).all (fun x => x.1.isSome)
      && decide ((e :: es).length + ([] : List Keyword).length + (if ([] : List Keyword).isEmpty then 0 else 1) < 30)) = true := by rfl)
    (hline : (apos.endLine == cpos.line) = true := by rfl) (hs : starEach (e :: es) X.env = (false, eval e X.env) :: starEach es X.env := by rfl) (hplain : (backTo cpos (starEach es X.env)).any (·.1) = false := by rfl) :
    PE X (.Call (.Attribute o name apos) (e :: es) [] cpos) (tBM K T r ta t) := hK ▸ pe_bm pa slot hty hm ho ha hbase hfew hline hs hplain
end
section
variable {X : Cx} {K : PySem.W.Frag} {k j : Nat} {C m x : Str} {ps : List Str} {sp : Sp} {W : WX} {p pos apos : Pos} {e o : Expr} {es : List Expr} {ta : TE} {t : TA}
theorem pmeK {pl : Sem Bool} (hK : X.K = K) (G : MF X.K C m ps) (c : Cls X.K (He.ga X.K C)) (F : OkM X.prog X.w X.K X.mg X.base k C m ps sp) (hr : Room j X.A) (tk : Takes X W) (he : PE X o ta) (ha : PA X (e :: es) t) (hj : k ≤ j := by omega)
    (hst : starEach (e :: es) X.env = (false, eval e X.env) :: starEach es X.env := by rfl) (hpl : (backTo pos (starEach es X.env)).any (·.1) = false := by rfl)
    (ht : eval (.Call (.Attribute o m apos) (e :: es) [] pos) X.env = (do
      let ov ← eval o X.env
      standAt apos.atName
      let (f, first) ← holding [ov] (getMethod ov m pl)
      callWith pos f first (backTo pos (starEach (e :: es) X.env)) (backToKw pos (keywordEach [] X.env))) := by rfl) :
    PE X (.Call (.Attribute o m apos) (e :: es) [] pos) (tMethS (He.ga K C) m sp (WE W) ta t) := hK ▸ pme (pl := pl) G c F hr tk he ha hj hst hpl ht
theorem pme0K {pl : Sem Bool} (hK : X.K = K) (G : MF X.K C m ps) (c : Cls X.K (He.ga X.K C)) (F : OkM X.prog X.w X.K X.mg X.base k C m ps sp) (hr : Room j X.A) (tk : Takes X W) (he : PE X o ta) (hj : k ≤ j := by omega)
    (ht : eval (.Call (.Attribute o m apos) [] [] pos) X.env = (do
      let ov ← eval o X.env
      standAt apos.atName
      let (f, first) ← holding [ov] (getMethod ov m pl)
      callWith pos f first (backTo pos (starEach [] X.env)) (backToKw pos (keywordEach [] X.env))) := by rfl) :
    PE X (.Call (.Attribute o m apos) [] [] pos) (tMethS (He.ga K C) m sp (WE W) ta tNil) := hK ▸ pme0 (pl := pl) G c F hr tk he hj ht
theorem pmkK (hK : X.K = K) (G : KF X.K X.mg C ps) (F : OkM X.prog X.w X.K X.mg X.base k C "__init__" ps sp) (hr : Room j X.A) (tk : Takes X W) (ha : PA X (e :: es) t) (hj : k + 1 ≤ j := by omega) (hg : Gl X C := by rfl)
    (hdb : (C == ("__debug__" : Str)) = false := by decide) (he : starEach (e :: es) X.env = (false, eval e X.env) :: starEach es X.env := by rfl) (hpl : (backTo pos (starEach es X.env)).any (·.1) = false := by rfl) :
    PE X (.Call (.Name C p) (e :: es) [] pos) (tMakeS (He.ga K C) sp (WE W) t) := hK ▸ pmk G F hr tk ha hj hg hdb he hpl
theorem pmk0K (hK : X.K = K) (G : KF X.K X.mg C ps) (F : OkM X.prog X.w X.K X.mg X.base k C "__init__" ps sp) (hr : Room j X.A) (tk : Takes X W) (hj : k + 1 ≤ j := by omega) (hg : Gl X C := by rfl)
    (hdb : (C == ("__debug__" : Str)) = false := by decide) : PE X (.Call (.Name C p) [] [] pos) (tMakeS (He.ga K C) sp (WE W) tNil) := hK ▸ pmk0 G F hr tk hj hg hdb
end
/-! ### isinstance of an own instance -/
structure IsC (K : PySem.W.Frag) (C : Str) : Prop where
  ha : PySem.W.findIn K (.ref (He.ga K C)) "__class__" = some (some (.builtin "object.__class__"))
  hn : PySem.W.specialIn K (.builtin "object.__class__") "__get__" = some (some (.builtin "getset_descriptor.__get__"))
  htk : PySem.W.takesIn K (.builtin "object.__class__") = some true
  hm : PySem.W.mroIn K (He.ga K C) (.type "object") = some true
def isCB (K : PySem.W.Frag) (C : Str) : Bool := He.eqO (PySem.W.findIn K (.ref (He.ga K C)) "__class__") (some (some (.builtin "object.__class__"))) && (He.eqO (PySem.W.specialIn K (.builtin "object.__class__") "__get__") (some (some (.builtin "getset_descriptor.__get__"))) &&
  (decide (PySem.W.takesIn K (.builtin "object.__class__") = some true) && decide (PySem.W.mroIn K (He.ga K C) (.type "object") = some true)))
theorem isC_of {K : PySem.W.Frag} {C : Str} (h : isCB K C = true) : IsC K C := by
  unfold isCB at h
  rw [Bool.and_eq_true, Bool.and_eq_true, Bool.and_eq_true] at h
  exact ⟨He.eqO_ok h.1, He.eqO_ok h.2.1, of_decide_eq_true h.2.2.1, of_decide_eq_true h.2.2.2⟩
def kitB (K : PySem.W.Frag) (C D : Str) (b : Bool) : Bool := decide (PySem.W.kitOne K (.ref (He.ga K C)) (.ref (He.ga K D)) = some b)
theorem kit_of' {K : PySem.W.Frag} {C D : Str} {b : Bool} (h : kitB K C D b = true) : PySem.W.kitOne K (.ref (He.ga K C)) (.ref (He.ga K D)) = some b := of_decide_eq_true h
/-- an instance and its class -/
theorem go_isi_ins {K : PySem.W.Frag} {H : Hp} {Q : VK} {a dx : Addr} {C D : Str} {fs : List (Str × V)} {b : Bool} (h : H a = some (.ins (He.ga K C) dx fs)) (c : Cls K (He.ga K C)) (i : IsC K C) (k : PySem.W.kitOne K (.ref (He.ga K C)) (.ref (He.ga K D)) = some b) (q : Q (.bl b) H) : rIsi K [.ref a, .ref (He.ga K D)] H Q :=
  ⟨_, _, _, _, b, rfl, .own _, .base (.ins h c i.ha i.hn i.htk i.hm), k, q⟩
/-! ### one of two promises -/
def tAlt (t u : TE) : TE := fun σ H Q => t σ H Q ∨ u σ H Q
theorem pe_alt {X : Cx} {e : Expr} {t u : TE} (h : PE X e t) (k : PE X e u) : PE X e (tAlt t u) := ⟨fun pins s σ H Q I q => by
  rcases q with q | q
  · exact h.run pins s σ H Q I q
  · exact k.run pins s σ H Q I q⟩
theorem go_alt1 {t u : TE} {σ : L2.St} {H : Hp} {Q : VK} (k : t σ H Q) : tAlt t u σ H Q := .inl k
theorem go_alt2 {t u : TE} {σ : L2.St} {H : Hp} {Q : VK} (k : u σ H Q) : tAlt t u σ H Q := .inr k
def spOr (a b : Sp) : Sp := fun vs H Q E => a vs H Q E ∨ b vs H Q E
theorem fn_or {P : Program} {w : World} {K : PySem.W.Frag} {mg : Str → Option Value} {base : Heap} {CX : CXT} {k : Nat} {f : Addr} {fd : FuncData} {ps : List Str} {a b : Sp} (F : FnOk P w K mg base CX k f fd ps a) (G : FnOk P w K mg base CX k f fd ps b) : FnOk P w K mg base CX k f fd ps (spOr a b) :=
  ⟨fun vs H Q E h => by
    rcases h with h | h
    · exact F.len vs H Q E h
    · exact G.len vs H Q E h, fun A outer s H args us vs Q E hr he hb hv hs => by
    rcases hs with hs | hs
    · exact F.run A outer s H args us vs Q E hr he hb hv hs
    · exact G.run A outer s H args us vs Q E hr he hb hv hs⟩
end Mo
namespace Mo
open PySem PySem.Spec PyProof.Rows L2
def top (i : Nat) : Stmt := PySem.Challenge.pw_momentloom_k03_formulas_alone.main.body.getD i (.Pass ⟨0, 0, 0, 0⟩)
abbrev s_Fault_word : Stmt := inClass (top 2) 0
abbrev s_Nought_word : Stmt := inClass (top 3) 0
abbrev s_Great_word : Stmt := inClass (top 4) 0
abbrev s_kept_in : Stmt := top 7
abbrev s_of_two : Stmt := top 8
abbrev s_worth_of : Stmt := top 9
abbrev s_copied : Stmt := top 11
abbrev s_copied_machine : Stmt := top 12
abbrev s_Model_init : Stmt := inClass (top 13) 0
abbrev s_State_init : Stmt := inClass (top 14) 0
abbrev s_State_copy : Stmt := inClass (top 14) 1
abbrev s_first_state : Stmt := top 15
abbrev s__law_whole : Stmt := top 17
abbrev s__law_mixed : Stmt := top 18
abbrev s__law_purse : Stmt := top 19
abbrev s__law_draw : Stmt := top 20
abbrev s__law_names : Stmt := top 21
abbrev s__law_worth : Stmt := top 22
abbrev s__law_state_of : Stmt := top 23
abbrev s_law : Stmt := top 24
def nm_Fault_word : List Str := ["self"]
theorem sc_Fault_word : FnScope nm_Fault_word ["self"] (defScope s_Fault_word) := ⟨rfl, rfl, rfl, by decide +kernel, rfl, by decide +kernel, by decide +kernel⟩
def nm_Nought_word : List Str := ["self"]
theorem sc_Nought_word : FnScope nm_Nought_word ["self"] (defScope s_Nought_word) := ⟨rfl, rfl, rfl, by decide +kernel, rfl, by decide +kernel, by decide +kernel⟩
def nm_Great_word : List Str := ["self"]
theorem sc_Great_word : FnScope nm_Great_word ["self"] (defScope s_Great_word) := ⟨rfl, rfl, rfl, by decide +kernel, rfl, by decide +kernel, by decide +kernel⟩
def nm_kept_in : List Str := ["number"]
theorem sc_kept_in : FnScope nm_kept_in ["number"] (defScope s_kept_in) := ⟨rfl, rfl, rfl, by decide +kernel, rfl, by decide +kernel, by decide +kernel⟩
def nm_of_two : List Str := ["word", "one", "other"]
theorem sc_of_two : FnScope nm_of_two ["word", "one", "other"] (defScope s_of_two) := ⟨rfl, rfl, rfl, by decide +kernel, rfl, by decide +kernel, by decide +kernel⟩
def nm_worth_of : List Str := ["formula", "state", "now", "got", "word", "one"]
theorem sc_worth_of : FnScope nm_worth_of ["formula", "state", "now", "got"] (defScope s_worth_of) := ⟨rfl, rfl, rfl, by decide +kernel, rfl, by decide +kernel, by decide +kernel⟩
def nm_copied : List Str := ["deeds", "found", "deed"]
theorem sc_copied : FnScope nm_copied ["deeds"] (defScope s_copied) := ⟨rfl, rfl, rfl, by decide +kernel, rfl, by decide +kernel, by decide +kernel⟩
def nm_copied_machine : List Str := ["machine", "name", "boxes", "queues", "draws", "hears", "sign", "deeds"]
theorem sc_copied_machine : FnScope nm_copied_machine ["machine"] (defScope s_copied_machine) := ⟨rfl, rfl, rfl, by decide +kernel, rfl, by decide +kernel, by decide +kernel⟩
def nm_Model_init : List Str := ["self", "machines", "machine"]
theorem sc_Model_init : FnScope nm_Model_init ["self", "machines"] (defScope s_Model_init) := ⟨rfl, rfl, rfl, by decide +kernel, rfl, by decide +kernel, by decide +kernel⟩
def nm_State_init : List Str := ["self", "boxes", "queues", "drawn", "sent"]
theorem sc_State_init : FnScope nm_State_init ["self", "boxes", "queues", "drawn", "sent"] (defScope s_State_init) := ⟨rfl, rfl, rfl, by decide +kernel, rfl, by decide +kernel, by decide +kernel⟩
def nm_State_copy : List Str := ["self", "queues", "name", "worths"]
theorem sc_State_copy : FnScope nm_State_copy ["self"] (defScope s_State_copy) := ⟨rfl, rfl, rfl, by decide +kernel, rfl, by decide +kernel, by decide +kernel⟩
def nm_first_state : List Str := ["model", "at", "boxes", "name", "worth", "queues"]
theorem sc_first_state : FnScope nm_first_state ["model", "at"] (defScope s_first_state) := ⟨rfl, rfl, rfl, by decide +kernel, rfl, by decide +kernel, by decide +kernel⟩
def nm__law_whole : List Str := ["_law_found"]
theorem sc__law_whole : FnScope nm__law_whole ["_law_found"] (defScope s__law_whole) := ⟨rfl, rfl, rfl, by decide +kernel, rfl, by decide +kernel, by decide +kernel⟩
def nm__law_mixed : List Str := ["_law_cell", "_law_k", "_law_number"]
theorem sc__law_mixed : FnScope nm__law_mixed ["_law_cell", "_law_k"] (defScope s__law_mixed) := ⟨rfl, rfl, rfl, by decide +kernel, rfl, by decide +kernel, by decide +kernel⟩
def nm__law_purse : List Str := ["_law_script", "_law_cells", "_law_number", "_law_k"]
theorem sc__law_purse : FnScope nm__law_purse ["_law_script"] (defScope s__law_purse) := ⟨rfl, rfl, rfl, by decide +kernel, rfl, by decide +kernel, by decide +kernel⟩
def nm__law_draw : List Str := ["_law_purse_here", "_law_out_of", "_law_drawn"]
theorem sc__law_draw : FnScope nm__law_draw ["_law_purse_here", "_law_out_of"] (defScope s__law_draw) := ⟨rfl, rfl, rfl, by decide +kernel, rfl, by decide +kernel, by decide +kernel⟩
def nm__law_names : List Str := ["_law_purse_here", "_law_many", "_law_letters", "_law_first", "_law_names_here", "_law_k", "_law_name", "_law_j"]
theorem sc__law_names : FnScope nm__law_names ["_law_purse_here", "_law_many"] (defScope s__law_names) := ⟨rfl, rfl, rfl, by decide +kernel, rfl, by decide +kernel, by decide +kernel⟩
def nm__law_worth : List Str := ["_law_purse_here", "_law_way"]
theorem sc__law_worth : FnScope nm__law_worth ["_law_purse_here"] (defScope s__law_worth) := ⟨rfl, rfl, rfl, by decide +kernel, rfl, by decide +kernel, by decide +kernel⟩
def nm__law_state_of : List Str := ["_law_purse_here", "_law_boxes", "_law_queues", "_law_name", "_law_machine", "_law_state", "_law_k"]
theorem sc__law_state_of : FnScope nm__law_state_of ["_law_purse_here", "_law_boxes", "_law_queues"] (defScope s__law_state_of) := ⟨rfl, rfl, rfl, by decide +kernel, rfl, by decide +kernel, by decide +kernel⟩
def nm_law : List Str := ["_law_script", "_law_purse_here", "_law_names_here", "_law_boxes", "_law_queues", "_law_state", "_law_now", "_law_got", "_law_kept", "_law_asked", "_law_k", "_law_number", "_law_held", "_law_formula", "_law_due", "_law_found", "_law_name"]
theorem sc_law : FnScope nm_law ["_law_script"] (defScope s_law) := ⟨rfl, rfl, rfl, by decide +kernel, rfl, by decide +kernel, by decide +kernel⟩
def fl_Model (a0 : V) : List (Str × V) := [(("machines" : Str), a0)]
theorem lk_Model_machines {a0 : V} : (fl_Model a0).lookup ("machines" : Str) = some a0 := by kernel_rfl
theorem pt_Model_machines {a0 z : V} : putF "machines" z (fl_Model a0) = fl_Model z := by kernel_rfl
theorem in_Model_0 {a0 : V} : putF "machines" a0 ([] : List (Str × V)) = [(("machines" : Str), a0)] := by kernel_rfl
def fl_State (a0 a1 a2 a3 : V) : List (Str × V) := [(("boxes" : Str), a0), (("queues" : Str), a1), (("drawn" : Str), a2), (("sent" : Str), a3)]
theorem lk_State_boxes {a0 a1 a2 a3 : V} : (fl_State a0 a1 a2 a3).lookup ("boxes" : Str) = some a0 := by kernel_rfl
theorem pt_State_boxes {a0 a1 a2 a3 z : V} : putF "boxes" z (fl_State a0 a1 a2 a3) = fl_State z a1 a2 a3 := by kernel_rfl
theorem in_State_0 {a0 : V} : putF "boxes" a0 ([] : List (Str × V)) = [(("boxes" : Str), a0)] := by kernel_rfl
theorem lk_State_queues {a0 a1 a2 a3 : V} : (fl_State a0 a1 a2 a3).lookup ("queues" : Str) = some a1 := by kernel_rfl
theorem pt_State_queues {a0 a1 a2 a3 z : V} : putF "queues" z (fl_State a0 a1 a2 a3) = fl_State a0 z a2 a3 := by kernel_rfl
theorem in_State_1 {a0 a1 : V} : putF "queues" a1 ([(("boxes" : Str), a0)] : List (Str × V)) = [(("boxes" : Str), a0), (("queues" : Str), a1)] := by kernel_rfl
theorem lk_State_drawn {a0 a1 a2 a3 : V} : (fl_State a0 a1 a2 a3).lookup ("drawn" : Str) = some a2 := by kernel_rfl
theorem pt_State_drawn {a0 a1 a2 a3 z : V} : putF "drawn" z (fl_State a0 a1 a2 a3) = fl_State a0 a1 z a3 := by kernel_rfl
theorem in_State_2 {a0 a1 a2 : V} : putF "drawn" a2 ([(("boxes" : Str), a0), (("queues" : Str), a1)] : List (Str × V)) = [(("boxes" : Str), a0), (("queues" : Str), a1), (("drawn" : Str), a2)] := by kernel_rfl
theorem lk_State_sent {a0 a1 a2 a3 : V} : (fl_State a0 a1 a2 a3).lookup ("sent" : Str) = some a3 := by kernel_rfl
theorem pt_State_sent {a0 a1 a2 a3 z : V} : putF "sent" z (fl_State a0 a1 a2 a3) = fl_State a0 a1 a2 z := by kernel_rfl
theorem in_State_3 {a0 a1 a2 a3 : V} : putF "sent" a3 ([(("boxes" : Str), a0), (("queues" : Str), a1), (("drawn" : Str), a2)] : List (Str × V)) = [(("boxes" : Str), a0), (("queues" : Str), a1), (("drawn" : Str), a2), (("sent" : Str), a3)] := by kernel_rfl
theorem no_State_copy {a0 a1 a2 a3 : V} : (fl_State a0 a1 a2 a3).lookup ("copy" : Str) = none := by kernel_rfl
/-- what the top has written -/
structure Tx (K : PySem.W.Frag) (mg : Str → Option Value) : Prop where
  G_MomentError : mg "MomentError" = some (.ref (He.ga K "MomentError"))
  G_Fault : mg "Fault" = some (.ref (He.ga K "Fault"))
  G_Nought : mg "Nought" = some (.ref (He.ga K "Nought"))
  G_Great : mg "Great" = some (.ref (He.ga K "Great"))
  G_Model : mg "Model" = some (.ref (He.ga K "Model"))
  c_Model : Cls K (He.ga K "Model")
  n_Model_machines : NoAttr K (He.ga K "Model") "machines"
  k_Model : KF K mg "Model" ["self", "machines"]
  G_State : mg "State" = some (.ref (He.ga K "State"))
  c_State : Cls K (He.ga K "State")
  n_State_boxes : NoAttr K (He.ga K "State") "boxes"
  n_State_drawn : NoAttr K (He.ga K "State") "drawn"
  n_State_queues : NoAttr K (He.ga K "State") "queues"
  n_State_sent : NoAttr K (He.ga K "State") "sent"
  k_State : KF K mg "State" ["self", "boxes", "queues", "drawn", "sent"]
  x_Fault : ExF K mg "Fault"
  x_Great : ExF K mg "Great"
  x_MomentError : ExF K mg "MomentError"
  x_Nought : ExF K mg "Nought"
  e_Fault_Fault : PySem.W.exmOne K (.ref (He.ga K "Fault")) (.ref (He.ga K "Fault")) = some true
  e_Fault_Great : PySem.W.exmOne K (.ref (He.ga K "Fault")) (.ref (He.ga K "Great")) = some false
  e_Fault_MomentError : PySem.W.exmOne K (.ref (He.ga K "Fault")) (.ref (He.ga K "MomentError")) = some true
  e_Fault_Nought : PySem.W.exmOne K (.ref (He.ga K "Fault")) (.ref (He.ga K "Nought")) = some false
  e_Great_Fault : PySem.W.exmOne K (.ref (He.ga K "Great")) (.ref (He.ga K "Fault")) = some true
  e_Great_Great : PySem.W.exmOne K (.ref (He.ga K "Great")) (.ref (He.ga K "Great")) = some true
  e_Great_MomentError : PySem.W.exmOne K (.ref (He.ga K "Great")) (.ref (He.ga K "MomentError")) = some true
  e_Great_Nought : PySem.W.exmOne K (.ref (He.ga K "Great")) (.ref (He.ga K "Nought")) = some false
  e_MomentError_Fault : PySem.W.exmOne K (.ref (He.ga K "MomentError")) (.ref (He.ga K "Fault")) = some false
  e_MomentError_Great : PySem.W.exmOne K (.ref (He.ga K "MomentError")) (.ref (He.ga K "Great")) = some false
  e_MomentError_MomentError : PySem.W.exmOne K (.ref (He.ga K "MomentError")) (.ref (He.ga K "MomentError")) = some true
  e_MomentError_Nought : PySem.W.exmOne K (.ref (He.ga K "MomentError")) (.ref (He.ga K "Nought")) = some false
  e_Nought_Fault : PySem.W.exmOne K (.ref (He.ga K "Nought")) (.ref (He.ga K "Fault")) = some true
  e_Nought_Great : PySem.W.exmOne K (.ref (He.ga K "Nought")) (.ref (He.ga K "Great")) = some false
  e_Nought_MomentError : PySem.W.exmOne K (.ref (He.ga K "Nought")) (.ref (He.ga K "MomentError")) = some true
  e_Nought_Nought : PySem.W.exmOne K (.ref (He.ga K "Nought")) (.ref (He.ga K "Nought")) = some true
  b_bool : mg "bool" = none
  b_int : mg "int" = none
  b_isinstance : mg "isinstance" = none
  b_len : mg "len" = none
  b_list : mg "list" = none
  b_max : mg "max" = none
  b_range : mg "range" = none
  w_MOST : ∃ t, mg "MOST" = some (.int 1000000000000000 t)
  f_Fault_word : Fun K "word" "Fault.word" s_Fault_word (He.fAd K ("Fault", some "word")) (fdA K (He.fAd K ("Fault", some "word")))
  f_Nought_word : Fun K "word" "Nought.word" s_Nought_word (He.fAd K ("Nought", some "word")) (fdA K (He.fAd K ("Nought", some "word")))
  f_Great_word : Fun K "word" "Great.word" s_Great_word (He.fAd K ("Great", some "word")) (fdA K (He.fAd K ("Great", some "word")))
  f_kept_in : Fun K "kept_in" "kept_in" s_kept_in (He.fAd K ("kept_in", none)) (fdA K (He.fAd K ("kept_in", none)))
  g_kept_in : GF K mg "kept_in" ["number"]
  f_of_two : Fun K "of_two" "of_two" s_of_two (He.fAd K ("of_two", none)) (fdA K (He.fAd K ("of_two", none)))
  g_of_two : GF K mg "of_two" ["word", "one", "other"]
  f_worth_of : Fun K "worth_of" "worth_of" s_worth_of (He.fAd K ("worth_of", none)) (fdA K (He.fAd K ("worth_of", none)))
  g_worth_of : GF K mg "worth_of" ["formula", "state", "now", "got"]
  f_copied : Fun K "copied" "copied" s_copied (He.fAd K ("copied", none)) (fdA K (He.fAd K ("copied", none)))
  g_copied : GF K mg "copied" ["deeds"]
  f_copied_machine : Fun K "copied_machine" "copied_machine" s_copied_machine (He.fAd K ("copied_machine", none)) (fdA K (He.fAd K ("copied_machine", none)))
  g_copied_machine : GF K mg "copied_machine" ["machine"]
  f_Model_init : Fun K "__init__" "Model.__init__" s_Model_init (He.fAd K ("Model", some "__init__")) (fdA K (He.fAd K ("Model", some "__init__")))
  f_State_init : Fun K "__init__" "State.__init__" s_State_init (He.fAd K ("State", some "__init__")) (fdA K (He.fAd K ("State", some "__init__")))
  f_State_copy : Fun K "copy" "State.copy" s_State_copy (He.fAd K ("State", some "copy")) (fdA K (He.fAd K ("State", some "copy")))
  f_first_state : Fun K "first_state" "first_state" s_first_state (He.fAd K ("first_state", none)) (fdA K (He.fAd K ("first_state", none)))
  g_first_state : GF K mg "first_state" ["model", "at"]
  f__law_whole : Fun K "_law_whole" "_law_whole" s__law_whole (He.fAd K ("_law_whole", none)) (fdA K (He.fAd K ("_law_whole", none)))
  g__law_whole : GF K mg "_law_whole" ["_law_found"]
  f__law_mixed : Fun K "_law_mixed" "_law_mixed" s__law_mixed (He.fAd K ("_law_mixed", none)) (fdA K (He.fAd K ("_law_mixed", none)))
  g__law_mixed : GF K mg "_law_mixed" ["_law_cell", "_law_k"]
  f__law_purse : Fun K "_law_purse" "_law_purse" s__law_purse (He.fAd K ("_law_purse", none)) (fdA K (He.fAd K ("_law_purse", none)))
  g__law_purse : GF K mg "_law_purse" ["_law_script"]
  f__law_draw : Fun K "_law_draw" "_law_draw" s__law_draw (He.fAd K ("_law_draw", none)) (fdA K (He.fAd K ("_law_draw", none)))
  g__law_draw : GF K mg "_law_draw" ["_law_purse_here", "_law_out_of"]
  f__law_names : Fun K "_law_names" "_law_names" s__law_names (He.fAd K ("_law_names", none)) (fdA K (He.fAd K ("_law_names", none)))
  g__law_names : GF K mg "_law_names" ["_law_purse_here", "_law_many"]
  f__law_worth : Fun K "_law_worth" "_law_worth" s__law_worth (He.fAd K ("_law_worth", none)) (fdA K (He.fAd K ("_law_worth", none)))
  g__law_worth : GF K mg "_law_worth" ["_law_purse_here"]
  f__law_state_of : Fun K "_law_state_of" "_law_state_of" s__law_state_of (He.fAd K ("_law_state_of", none)) (fdA K (He.fAd K ("_law_state_of", none)))
  g__law_state_of : GF K mg "_law_state_of" ["_law_purse_here", "_law_boxes", "_law_queues"]
  f_law : Fun K "law" "law" s_law (He.fAd K ("law", none)) (fdA K (He.fAd K ("law", none)))
  g_law : GF K mg "law" ["_law_script"]
  m_Fault_word : Meth K (He.ga K "Fault") "word" (He.fAd K ("Fault", some "word")) ∧ Fun K "word" "Fault.word" s_Fault_word (He.fAd K ("Fault", some "word")) (fdA K (He.fAd K ("Fault", some "word")))
  m_Nought_word : Meth K (He.ga K "Nought") "word" (He.fAd K ("Nought", some "word")) ∧ Fun K "word" "Nought.word" s_Nought_word (He.fAd K ("Nought", some "word")) (fdA K (He.fAd K ("Nought", some "word")))
  m_Great_word : Meth K (He.ga K "Great") "word" (He.fAd K ("Great", some "word")) ∧ Fun K "word" "Great.word" s_Great_word (He.fAd K ("Great", some "word")) (fdA K (He.fAd K ("Great", some "word")))
  m_State_copy : MF K "State" "copy" ["self"]
section
variable {X : Cx}
theorem Tx.v_MOST (T : Tx X.K X.mg) {pos : Pos} (hg : Gl X "MOST" := by rfl) : PE X (.Name "MOST" pos) (tC (.int 1000000000000000)) := let ⟨_, h⟩ := T.w_MOST; pe_glob hg h ⟨_, rfl⟩
theorem mk_Fault {K : PySem.W.Frag} {mg : Str → Option Value} (T : Tx K mg) (hK : X.K = K) (hm : X.mg = mg) {m : Str} {j : Nat} {p p2 pos : Pos} (hg : Gl X "Fault" := by rfl) (he : starEach ((.Constant (.str m) j p2 : Expr) :: []) X.env = (false, eval (.Constant (.str m) j p2) X.env) :: starEach [] X.env := by rfl) : PMk X (.Call (.Name "Fault" p) [.Constant (.str m) j p2] [] pos) (fun _ H Q => Q (.ref (He.ga K "Fault")) none H) := by
  subst hK hm
  exact pmk_own PySem.F.excBase_ValueError T.x_Fault.ex T.x_Fault.gl T.x_Fault.kp (raises_own T.x_Fault.sb T.x_Fault.ty) hg
theorem mk_Great {K : PySem.W.Frag} {mg : Str → Option Value} (T : Tx K mg) (hK : X.K = K) (hm : X.mg = mg) {m : Str} {j : Nat} {p p2 pos : Pos} (hg : Gl X "Great" := by rfl) (he : starEach ((.Constant (.str m) j p2 : Expr) :: []) X.env = (false, eval (.Constant (.str m) j p2) X.env) :: starEach [] X.env := by rfl) : PMk X (.Call (.Name "Great" p) [.Constant (.str m) j p2] [] pos) (fun _ H Q => Q (.ref (He.ga K "Great")) none H) := by
  subst hK hm
  exact pmk_own PySem.F.excBase_ValueError T.x_Great.ex T.x_Great.gl T.x_Great.kp (raises_own T.x_Great.sb T.x_Great.ty) hg
theorem mk_MomentError {K : PySem.W.Frag} {mg : Str → Option Value} (T : Tx K mg) (hK : X.K = K) (hm : X.mg = mg) {m : Str} {j : Nat} {p p2 pos : Pos} (hg : Gl X "MomentError" := by rfl) (he : starEach ((.Constant (.str m) j p2 : Expr) :: []) X.env = (false, eval (.Constant (.str m) j p2) X.env) :: starEach [] X.env := by rfl) : PMk X (.Call (.Name "MomentError" p) [.Constant (.str m) j p2] [] pos) (fun _ H Q => Q (.ref (He.ga K "MomentError")) none H) := by
  subst hK hm
  exact pmk_own PySem.F.excBase_ValueError T.x_MomentError.ex T.x_MomentError.gl T.x_MomentError.kp (raises_own T.x_MomentError.sb T.x_MomentError.ty) hg
theorem mk_Nought {K : PySem.W.Frag} {mg : Str → Option Value} (T : Tx K mg) (hK : X.K = K) (hm : X.mg = mg) {m : Str} {j : Nat} {p p2 pos : Pos} (hg : Gl X "Nought" := by rfl) (he : starEach ((.Constant (.str m) j p2 : Expr) :: []) X.env = (false, eval (.Constant (.str m) j p2) X.env) :: starEach [] X.env := by rfl) : PMk X (.Call (.Name "Nought" p) [.Constant (.str m) j p2] [] pos) (fun _ H Q => Q (.ref (He.ga K "Nought")) none H) := by
  subst hK hm
  exact pmk_own PySem.F.excBase_ValueError T.x_Nought.ex T.x_Nought.gl T.x_Nought.kp (raises_own T.x_Nought.sb T.x_Nought.ty) hg
end
end Mo
namespace Mo
open PySem PySem.Spec PyProof.Rows L2
/-! ### steps through a reading -/
section
variable {K : PySem.W.Frag} {σ σ' : St} {H : Hp} {Q : VK} {ta tb te tc : TE} {t u c : TT} {tA tB1 : TA} {D : Ends} {s1 s2 : TS} {v x y : V} {i : Nat} {r : R2} {g : TG}
theorem go_start {f : TS} (h : σ = σ') (k : f D σ' H) : f D σ H := by
  rw [h]
  exact k
theorem go_var (h : σ[i]? = some (some v)) (k : Q v H) : tVar i σ H Q := ⟨v, h, k⟩
theorem go_c (k : Q v H) : tC v σ H Q := k
theorem go_op (k : ta σ H fun x H1 => tb σ H1 fun y H2 => r x y H2 Q) : tOp r ta tb σ H Q := k
theorem go_un {r : V → Hp → VK → Prop} (k : ta σ H fun x H1 => r x H1 Q) : tUn r ta σ H Q := k
theorem go_cb {r : List V → Hp → VK → Prop} (k : tA σ H fun vs H1 => r vs H1 Q) : tCB r tA σ H Q := k
theorem go_nil {Q : List V → Hp → Prop} (k : Q [] H) : tNil σ H Q := k
theorem go_cons {Q : List V → Hp → Prop} (k : ta σ H fun x H1 => tA σ H1 fun xs H2 => Q (x :: xs) H2) : tCons ta tA σ H Q := k
theorem go_tup (k : tA σ H fun xs H1 => xs.length ≤ sizeLine ∧ ∀ p, H1 p = none → Q (.ref p) (upd H1 p (.tup xs))) : tTup tA σ H Q := k
theorem go_lst (k : tA σ H fun xs H1 => xs.length ≤ sizeLine ∧ ∀ p, H1 p = none → Q (.ref p) (upd H1 p (.lst xs))) : tLst tA σ H Q := k
theorem go_test {Q : Bool → Hp → Prop} (k : te σ H fun x H1 => ∃ b, x = .bl b ∧ Q b H1) : tTest te σ H Q := k
theorem go_tb {Q : Bool → Hp → Prop} (k : te σ H fun x H1 => ∃ b, x = .bl b ∧ Q b H1) : tB te σ H Q := k
theorem go_bl {b : Bool} {Q : Bool → Prop} (k : Q b) : ∃ d, V.bl b = V.bl d ∧ Q d := ⟨b, rfl, k⟩
theorem go_and {Q : Bool → Hp → Prop} (k : t σ H fun d H1 => if d = true then u σ H1 Q else Q false H1) : tAnd t u σ H Q := k
theorem go_or {Q : Bool → Hp → Prop} (k : t σ H fun d H1 => if d = true then Q true H1 else u σ H1 Q) : tOr t u σ H Q := k
theorem go_not {Q : Bool → Hp → Prop} (k : t σ H fun d H1 => Q (!d) H1) : tNot t σ H Q := k
theorem go_andV (k : ta σ H fun x H1 => ∃ d, x = .bl d ∧ if d = true then tb σ H1 Q else Q (.bl false) H1) : tAndV ta tb σ H Q := k
theorem go_orV (k : ta σ H fun x H1 => ∃ d, x = .bl d ∧ if d = true then Q (.bl true) H1 else tb σ H1 Q) : tOrV ta tb σ H Q := k
theorem go_notV (k : ta σ H fun x H1 => ∃ d, x = .bl d ∧ Q (.bl (!d)) H1) : tNotV ta σ H Q := k
theorem go_ifE (k : c σ H fun d H1 => if d = true then ta σ H1 Q else tb σ H1 Q) : tIf c ta tb σ H Q := k
theorem go_seq (k : s1 { D with nx := s2 D } σ H) : tSeq s1 s2 D σ H := k
theorem go_next (k : D.nx σ H) : tNext D σ H := k
theorem go_brk (k : D.bk σ H) : tBreak D σ H := k
theorem go_cont (k : D.ct σ H) : tCont D σ H := k
theorem go_ifS (k : c σ H fun d H1 => if d = true then s1 D σ H1 else s2 D σ H1) : tIfS c s1 s2 D σ H := k
theorem go_asg (k : te σ H fun x H1 => g x σ H1 D.nx) : tAsg te g D σ H := k
theorem go_gn {Q : St → Hp → Prop} (k : Q (σ.set i (some v)) H) : gName i v σ H Q := k
theorem go_gsub {st : TSet} {Q : St → Hp → Prop} (k : ta σ H fun o H1 => tb σ H1 fun j H2 => st o j v H2 fun H3 => Q σ H3) : gSub ta tb st v σ H Q := k
theorem go_gcons {tg : TG} {tgs : TGs} {vs : List V} {Q : St → Hp → Prop} (k : tg v σ H fun σ1 H1 => tgs vs σ1 H1 Q) : gCons tg tgs (v :: vs) σ H Q := ⟨v, vs, rfl, k⟩
theorem go_gnil {Q : St → Hp → Prop} (k : Q σ H) : gNil [] σ H Q := ⟨rfl, k⟩
theorem go_gtup {n : Nat} {tgs : TGs} {a : Addr} {xs : List V} {Q : St → Hp → Prop} (h : SqT K H a xs) (hn : xs.length = n) (k : tgs xs σ H Q) : gTup K n tgs (.ref a) σ H Q := ⟨a, xs, rfl, h, hn, k⟩
theorem go_ret (k : te σ H D.rt) : tRet te D σ H := k
theorem go_drop (k : te σ H fun _ H1 => D.nx σ H1) : tDrop te D σ H := k
theorem go_fld {f : Str} (k : ta σ H fun x H1 => ∃ a C dx fs v, x = .ref a ∧ H1 a = some (.ins C dx fs) ∧ Cls K C ∧ NoAttr K C f ∧ fs.lookup f = some v ∧ Q v H1) : tFld K ta f σ H Q := k
theorem go_fldL {a C dx : Addr} {fs : List (Str × V)} {f : Str} {v : V} {Q : V → Prop} (h : H a = some (.ins C dx fs)) (hc : Cls K C) (hn : NoAttr K C f) (hl : fs.lookup f = some v) (k : Q v) :
    ∃ b C' dx' fs' v', V.ref a = .ref b ∧ H b = some (.ins C' dx' fs') ∧ Cls K C' ∧ NoAttr K C' f ∧ fs'.lookup f = some v' ∧ Q v' := ⟨a, C, dx, fs, v, rfl, h, hc, hn, hl, k⟩
theorem go_sfld {f : Str} (k : tb σ H fun y H1 => ta σ H1 fun x H2 => ∃ a C dx fs, x = .ref a ∧ H2 a = some (.ins C dx fs) ∧ Cls K C ∧ NoAttr K C f ∧ fs.length < 1000 ∧ D.nx σ (upd H2 a (.ins C dx (putF f y fs)))) : sFld K ta tb f D σ H := k
theorem go_sfldL {a C dx : Addr} {fs : List (Str × V)} {f : Str} {y : V} {Q : Hp → Prop} (h : H a = some (.ins C dx fs)) (hc : Cls K C) (hn : NoAttr K C f) (hl : Nat.blt fs.length 1000 = true) (k : Q (upd H a (.ins C dx (putF f y fs)))) :
    ∃ b C' dx' fs', V.ref a = .ref b ∧ H b = some (.ins C' dx' fs') ∧ Cls K C' ∧ NoAttr K C' f ∧ fs'.length < 1000 ∧ Q (upd H b (.ins C' dx' (putF f y fs'))) := ⟨a, C, dx, fs, rfl, h, hc, hn, Nat.blt_eq.mp hl, k⟩
theorem go_fldaug {rd : V → V → Hp → VK → Prop} {f : Str} (k : ta σ H fun x H1 => ∃ a C dx fs v, x = .ref a ∧ H1 a = some (.ins C dx fs) ∧ Cls K C ∧ NoAttr K C f ∧ fs.lookup f = some v ∧ tb σ H1 fun y H2 => rd v y H2 fun z H3 => ∃ dx' fs', H3 a = some (.ins C dx' fs') ∧ fs'.length < 1000 ∧ D.nx σ (upd H3 a (.ins C dx' (putF f z fs')))) : sFldAug K ta tb rd f D σ H := k
theorem go_fldaugL {a C dx : Addr} {fs : List (Str × V)} {f : Str} {v : V} {Q : Addr → Addr → V → Prop} (h : H a = some (.ins C dx fs)) (hc : Cls K C) (hn : NoAttr K C f) (hl : fs.lookup f = some v) (k : Q a C v) :
    ∃ b C' dx' fs' v', V.ref a = .ref b ∧ H b = some (.ins C' dx' fs') ∧ Cls K C' ∧ NoAttr K C' f ∧ fs'.lookup f = some v' ∧ Q b C' v' := ⟨a, C, dx, fs, v, rfl, h, hc, hn, hl, k⟩
theorem go_addR {a b : Int} (k : Q (.int (a + b)) H) : rAdd (.int a) (.int b) H Q := ⟨a, b, rfl, rfl, k⟩
theorem go_subR {a b : Int} (k : Q (.int (a - b)) H) : L2.rSub (.int a) (.int b) H Q := ⟨a, b, rfl, rfl, k⟩
theorem go_putL {a C dx : Addr} {fs : List (Str × V)} {f : Str} {z : V} {R : Hp → Prop} (h : H a = some (.ins C dx fs)) (hl : Nat.blt fs.length 1000 = true) (k : R (upd H a (.ins C dx (putF f z fs)))) :
    ∃ dx' fs', H a = some (.ins C dx' fs') ∧ fs'.length < 1000 ∧ R (upd H a (.ins C dx' (putF f z fs'))) := ⟨dx, fs, h, Nat.blt_eq.mp hl, k⟩
theorem go_call {sp : Sp} {E : St → XK} (k : tA σ H fun vs H1 => sp vs H1 Q (E σ)) : tCallS sp E tA σ H Q := k
theorem go_meth {C : Addr} {m : Str} {sp : Sp} {E : St → XK} (k : ta σ H fun x H1 => ∃ a dx fs, x = .ref a ∧ H1 a = some (.ins C dx fs) ∧ fs.lookup m = none ∧ tA σ H1 fun vs H2 => sp (x :: vs) H2 Q (E σ)) : tMethS C m sp E ta tA σ H Q := k
theorem go_methL {a C dx : Addr} {fs : List (Str × V)} {m : Str} {R : Prop} (h : H a = some (.ins C dx fs)) (hl : fs.lookup m = none) (k : R) :
    ∃ b dx' fs', V.ref a = .ref b ∧ H b = some (.ins C dx' fs') ∧ fs'.lookup m = none ∧ R := ⟨a, dx, fs, rfl, h, hl, k⟩
theorem go_make {C : Addr} {sp : Sp} {E : St → XK} (k : tA σ H fun vs H1 => ∀ x dx, H1 x = none → H1 dx = none → dx ≠ x → sp (.ref x :: vs) (upd (upd H1 dx (.own x)) x (.ins C dx [])) (fun v H2 => v = .non ∧ Q (.ref x) H2) (E σ)) : tMakeS C sp E tA σ H Q := k
theorem go_bm0 {T : String} {r : V → List V → Hp → VK → Prop} (k : ta σ H fun x H1 => tyV K T x H1 ∧ r x [] H1 Q) : tBM0 K T r ta σ H Q := k
theorem go_bm {T : String} {r : V → List V → Hp → VK → Prop} (k : ta σ H fun x H1 => tyV K T x H1 ∧ tA σ H1 fun xs H2 => r x xs H2 Q) : tBM K T r ta tA σ H Q := k
theorem go_sl {r : V → Option Int → Option Int → Hp → VK → Prop} {tl th : TO} (k : te σ H fun x H1 => tl σ H1 fun l H2 => th σ H2 fun u H3 => r x l u H3 Q) : tSl r te tl th σ H Q := k
theorem go_nopart {Q : Option Int → Hp → Prop} (k : Q none H) : tNoPart σ H Q := k
theorem go_part {Q : Option Int → Hp → Prop} (k : te σ H fun x H1 => ∃ i, x = .int i ∧ Q (some i) H1) : tPart te σ H Q := k
theorem go_int {j : Int} {Q : Int → Prop} (k : Q j) : ∃ i, V.int j = .int i ∧ Q i := ⟨j, rfl, k⟩
theorem go_aug {ti : TIp} (h : σ[i]? = some (some x)) (k : te σ H fun y H1 => ti x y H1 fun z H2 => D.nx (σ.set i (some z)) H2) : tAug i te ti D σ H := ⟨x, h, k⟩
theorem go_ipI {f : Int → Int → Int} {a b : Int} (k : Q (.int (f a b)) H) : ipI f (.int a) (.int b) H Q := ⟨a, b, rfl, rfl, k⟩
/-! #### operations on values -/
theorem go_I0 {f : Int → Int → V} {a b : Int} (k : Q (f a b) H) : rI0 f (.int a) (.int b) H Q := ⟨a, b, rfl, rfl, k⟩
theorem go_I {C : Int → Int → Prop} {f : Int → Int → V} {a b : Int} (hc : C a b) (k : Q (f a b) H) : rI C f (.int a) (.int b) H Q := ⟨a, b, rfl, rfl, hc, k⟩
theorem go_rU {f : Int → V} {a : Int} (k : Q (f a) H) : rU f (.int a) H Q := ⟨a, rfl, k⟩
theorem dec_i {a b : Int} : decide (V.int a = V.int b) = decide (a = b) := by simp
theorem dec_s {a b : Str} : decide (V.str a = V.str b) = decide (a = b) := by simp
theorem dec_b {a b : Bool} : decide (V.bl a = V.bl b) = decide (a = b) := by simp
theorem go_eqi {a b : Int} (k : Q (.bl (decide (a = b))) H) : rEqA K (.int a) (.int b) H Q := .inl ⟨rfl, by rw [dec_i]; exact k⟩
theorem go_nei {a b : Int} (k : Q (.bl (!decide (a = b))) H) : rNeA K (.int a) (.int b) H Q := .inl ⟨rfl, by rw [dec_i]; exact k⟩
theorem go_eqb {a b : Bool} (k : Q (.bl (decide (a = b))) H) : rEqA K (.bl a) (.bl b) H Q := .inl ⟨rfl, by rw [dec_b]; exact k⟩
theorem go_neb {a b : Bool} (k : Q (.bl (!decide (a = b))) H) : rNeA K (.bl a) (.bl b) H Q := .inl ⟨rfl, by rw [dec_b]; exact k⟩
theorem go_eqsT {a b : Str} (h : a = b) (k : Q (.bl true) H) : rEqA K (.str a) (.str b) H Q := .inl ⟨rfl, by rw [dec_s, decide_eq_true h]; exact k⟩
theorem go_eqsF {a b : Str} (h : ¬ a = b) (k : Q (.bl false) H) : rEqA K (.str a) (.str b) H Q := .inl ⟨rfl, by rw [dec_s, decide_eq_false h]; exact k⟩
theorem go_eqs {a b : Str} (k : Q (.bl (decide (a = b))) H) : rEqA K (.str a) (.str b) H Q := .inl ⟨rfl, by rw [dec_s]; exact k⟩
theorem go_nes {a b : Str} (k : Q (.bl (!decide (a = b))) H) : rNeA K (.str a) (.str b) H Q := .inl ⟨rfl, by rw [dec_s]; exact k⟩
theorem go_eqD {a b : V} {d e : PyData} (ha : Dp K H a d) (hb : Dp K H b e) (sa : SeqAt.shaped d = true) (sb : SeqAt.shaped e = true) (k : Q (.bl (PyData.eqv d e)) H) : rEqA K a b H Q := .inr (.inl ⟨d, e, ha, hb, sa, sb, k⟩)
theorem go_neD {a b : V} {d e : PyData} (ha : Dp K H a d) (hb : Dp K H b e) (sa : SeqAt.shaped d = true) (sb : SeqAt.shaped e = true) (k : Q (.bl (!PyData.eqv d e)) H) : rNeA K a b H Q := .inr ⟨d, e, ha, hb, sa, sb, k⟩
theorem go_isN (k : Q (.bl (decide (x = .non))) H) : rIsN1 x .non H Q := ⟨rfl, k⟩
theorem go_notN (k : Q (.bl (!decide (x = .non))) H) : rNotN1 x .non H Q := ⟨rfl, k⟩
theorem go_isN_t (k : Q (.bl true) H) : rIsN1 .non .non H Q := ⟨rfl, k⟩
theorem go_notN_t (k : Q (.bl false) H) : rNotN1 .non .non H Q := ⟨rfl, k⟩
theorem go_isN_r {a : Addr} (k : Q (.bl false) H) : rIsN1 (.ref a) .non H Q := ⟨rfl, k⟩
theorem go_notN_r {a : Addr} (k : Q (.bl true) H) : rNotN1 (.ref a) .non H Q := ⟨rfl, k⟩
theorem go_isN_i {a : Int} (k : Q (.bl false) H) : rIsN1 (.int a) .non H Q := ⟨rfl, k⟩
theorem go_notN_i {a : Int} (k : Q (.bl true) H) : rNotN1 (.int a) .non H Q := ⟨rfl, k⟩
theorem go_addI {a b : Int} (k : Q (.int (a + b)) H) : rAddA K (.int a) (.int b) H Q := .inl ⟨a, b, rfl, rfl, k⟩
theorem go_addS {a b : Str} (h : a.length + b.length ≤ sizeLine) (k : Q (.str (a ++ b)) H) : rAddA K (.str a) (.str b) H Q := .inr (.inr (.inl ⟨a, b, rfl, rfl, h, k⟩))
theorem go_addL {a b : Addr} {xs ys : List V} (ha : H a = some (.lst xs)) (hb : H b = some (.lst ys)) (hl : xs.length + ys.length ≤ sizeLine) (k : ∀ p, H p = none → Q (.ref p) (upd H p (.lst (xs ++ ys)))) : rAddA K (.ref a) (.ref b) H Q :=
  .inr (.inl ⟨a, b, xs, ys, rfl, rfl, ha, hb, hl, k⟩)
theorem go_ltI {a b : Int} (k : Q (.bl (decide (a < b))) H) : rLtA K (.int a) (.int b) H Q := .inl ⟨a, b, rfl, rfl, k⟩
theorem go_ltT {a b : Addr} {ns ms : List Int} (ha : SqT K H a (ns.map V.int)) (hb : SqT K H b (ms.map V.int)) (k : Q (.bl (HT.lexLt ns ms)) H) : rLtA K (.ref a) (.ref b) H Q := .inr ⟨a, b, ns, ms, rfl, rfl, ha, hb, k⟩
/-- truth of a value -/
theorem go_truB {b : Bool} {Q : Bool → Prop} (k : Q b) : ∃ d, TruV K (.bl b) H d ∧ Q d := ⟨b, rfl, k⟩
theorem go_truN {Q : Bool → Prop} (k : Q false) : ∃ d, TruV K .non H d ∧ Q d := ⟨false, rfl, k⟩
theorem go_isi {x c : V} {t u : Value} {b : Bool} (hc : ClsV c u) (ht : TyX K H x t) (hk : PySem.W.kitOne K t u = some b) (k : Q (.bl b) H) : rIsi K [x, c] H Q := ⟨x, c, t, u, b, rfl, hc, ht, hk, k⟩
theorem go_isi_ii {r1 : Int} (k : Q (.bl true) H) : rIsi K [.int r1, .ty "int"] H Q := go_isi (.ty _) (.base (.int _)) (kit_ty (by decide +kernel)) k
theorem go_isi_ib {r1 : Int} (k : Q (.bl false) H) : rIsi K [.int r1, .ty "bool"] H Q := go_isi (.ty _) (.base (.int _)) (kit_ty (by decide +kernel)) k
theorem go_isi_is {r1 : Int} (k : Q (.bl false) H) : rIsi K [.int r1, .ty "str"] H Q := go_isi (.ty _) (.base (.int _)) (kit_ty (by decide +kernel)) k
theorem go_isi_ss {z : Str} (k : Q (.bl true) H) : rIsi K [.str z, .ty "str"] H Q := go_isi (.ty _) (.base (.str _)) (kit_ty (by decide +kernel)) k
theorem go_isi_si {z : Str} (k : Q (.bl false) H) : rIsi K [.str z, .ty "int"] H Q := go_isi (.ty _) (.base (.str _)) (kit_ty (by decide +kernel)) k
theorem go_isi_bi {z : Bool} (k : Q (.bl true) H) : rIsi K [.bl z, .ty "int"] H Q := go_isi (.ty _) (.base (.bl _)) (kit_ty (by decide +kernel)) k
theorem go_isi_bb {z : Bool} (k : Q (.bl true) H) : rIsi K [.bl z, .ty "bool"] H Q := go_isi (.ty _) (.base (.bl _)) (kit_ty (by decide +kernel)) k
theorem go_isi_ni (k : Q (.bl false) H) : rIsi K [.non, .ty "int"] H Q := go_isi (.ty _) (.base .non) (kit_ty (by decide +kernel)) k
theorem go_pow15 (k : Q (.int 1000000000000000) H) : rI CPow (fun i j => .int (i ^ j.toNat)) (.int 10) (.int 15) H Q := ⟨10, 15, rfl, rfl, ⟨by decide, by decide, by decide⟩, k⟩
theorem go_pow12 (k : Q (.int 1000000000000) H) : rI CPow (fun i j => .int (i ^ j.toNat)) (.int 10) (.int 12) H Q := ⟨10, 12, rfl, rfl, ⟨by decide, by decide, by decide⟩, k⟩
theorem go_pow6 (k : Q (.int 1000000) H) : rI CPow (fun i j => .int (i ^ j.toNat)) (.int 10) (.int 6) H Q := ⟨10, 6, rfl, rfl, ⟨by decide, by decide, by decide⟩, k⟩
theorem go_abs {r1 : Int} {Q1 : Int → Prop} (k : Q1 r1) : ∃ i, [V.int r1] = [V.int i] ∧ Q1 i := ⟨r1, rfl, k⟩
theorem go_max {r1 r2 : Int} {Q1 : Int → Int → Prop} (k : Q1 r1 r2) : ∃ i j, [V.int r1, V.int r2] = [V.int i, V.int j] ∧ Q1 i j := ⟨r1, r2, rfl, k⟩
theorem go_listL {p : Addr} {xs : List V} (h : SqL K H p xs) (k : ∀ l, H l = none → Q (.ref l) (upd H l (.lst xs))) : rListOf K [.ref p] H Q := ⟨p, xs, rfl, .inl h, k⟩
theorem go_listT {p : Addr} {xs : List V} (h : SqT K H p xs) (k : ∀ l, H l = none → Q (.ref l) (upd H l (.lst xs))) : rListOf K [.ref p] H Q := ⟨p, xs, rfl, .inr h, k⟩
theorem go_intI {a : Int} {Q1 : Int → Prop} {Q2 : Bool → Prop} (k : Q1 a) : (∃ i, [V.int a] = [V.int i] ∧ Q1 i) ∨ (∃ d, [V.int a] = [V.bl d] ∧ Q2 d) := .inl ⟨a, rfl, k⟩
theorem go_intB {b : Bool} {Q1 : Int → Prop} {Q2 : Bool → Prop} (k : Q2 b) : (∃ i, [V.bl b] = [V.int i] ∧ Q1 i) ∨ (∃ d, [V.bl b] = [V.bl d] ∧ Q2 d) := .inr ⟨b, rfl, k⟩
theorem go_subL {p : Addr} {xs : List V} {j : Int} {v : V} (h : SqL K H p xs) (e : atI xs j = some v) (k : Q v H) : rSub K (.ref p) (.int j) H Q := .inl (.inl ⟨p, xs, j, v, rfl, rfl, h, e, k⟩)
theorem go_subT {p : Addr} {xs : List V} {j : Int} {v : V} (h : SqT K H p xs) (e : atI xs j = some v) (k : Q v H) : rSub K (.ref p) (.int j) H Q := .inl (.inr ⟨p, xs, j, v, rfl, rfl, h, e, k⟩)
theorem go_subS {z : Str} {j : Int} {c : Nat} (h : z.length ≤ sizeLine) (e : atI z.cps.toList j = some c) (k : Q (.str ⟨#[c]⟩) H) : rSub K (.str z) (.int j) H Q := .inr (.inl ⟨z, j, c, rfl, rfl, h, e, k⟩)
theorem go_subD {p : Addr} {v : V} (g : DGet H p y (some v)) (k : Q v H) : rSub K (.ref p) y H Q := .inr (.inr ⟨p, v, rfl, g, k⟩)
theorem go_subK {p : Addr} {kvs : List (Key × V)} {z : Str} {v : V} (h : H p = some (.dK kvs)) (e : valV kvs (Sum.inr z) = some v) (k : Q v H) : rSub K (.ref p) (.str z) H Q := go_subD (y := .str z) (by have q := DGet.k (k := Sum.inr z) h; rw [e] at q; exact q) k
/-- an item of a told tuple, of a told list -/
theorem go_subDT {ds : List PyData} {j : Int} {n : Nat} {d : PyData} (h : Dp K H x (.tuple ds)) (hj : j = (n : Int)) (e : ds[n]? = some d) (k : ∀ v, Dp K H v d → Q v H) : rSub K x (.int j) H Q := by
  obtain ⟨a, xs, rfl, h1, h2⟩ := dp_tup h
  obtain ⟨v, e1, e2⟩ := dpa_get h2 e
  subst hj
  exact go_subT h1 (atI_nat e1) (k v e2)
theorem go_subDL {ds : List PyData} {j : Int} {n : Nat} {d : PyData} (h : Dp K H x (.list ds)) (hj : j = (n : Int)) (e : ds[n]? = some d) (k : ∀ v, Dp K H v d → Q v H) : rSub K x (.int j) H Q := by
  obtain ⟨a, xs, rfl, h1, h2⟩ := dp_lst h
  obtain ⟨v, e1, e2⟩ := dpa_get h2 e
  subst hj
  exact go_subL h1 (atI_nat e1) (k v e2)
/-- the same, of data that stays (in G) -/
theorem go_gT {G : Hp} {ds : List PyData} {j : Int} {n : Nat} {d : PyData} (e : Ext G H) (h : Dp K G x (.tuple ds)) (hj : j = (n : Int)) (hd : ds[n]? = some d) (k : ∀ v, Dp K G v d → Q v H) : rSub K x (.int j) H Q := by
  obtain ⟨a, xs, rfl, h1, h2⟩ := dp_tup h
  obtain ⟨v, e1, e2⟩ := dpa_get h2 hd
  subst hj
  exact go_subT (ext_t e h1) (atI_nat e1) (k v e2)
theorem go_gL {G : Hp} {ds : List PyData} {j : Int} {n : Nat} {d : PyData} (e : Ext G H) (h : Dp K G x (.list ds)) (hj : j = (n : Int)) (hd : ds[n]? = some d) (k : ∀ v, Dp K G v d → Q v H) : rSub K x (.int j) H Q := by
  obtain ⟨a, xs, rfl, h1, h2⟩ := dp_lst h
  obtain ⟨v, e1, e2⟩ := dpa_get h2 hd
  subst hj
  exact go_subL (ext_l e h1) (atI_nat e1) (k v e2)
theorem go_setL {p : Addr} {xs : List V} {j : Int} {n : Nat} {Q : Hp → Prop} (h : H p = some (.lst xs)) (e : ixN xs.length j = some n) (k : Q (upd H p (.lst (xs.set n v)))) : rSet (.ref p) (.int j) v H Q := .inl ⟨p, xs, j, n, rfl, rfl, h, e, k⟩
theorem go_setD {p : Addr} {H' : Hp} {Q : Hp → Prop} (g : DPut H p y v H') (k : Q H') : rSet (.ref p) y v H Q := .inr ⟨p, H', rfl, g, k⟩
theorem go_setK {p : Addr} {kvs : List (Key × V)} {z : Str} {Q : Hp → Prop} (h : H p = some (.dK kvs)) (hl : kvs.length < sizeLine) (k : Q (upd H p (.dK (putK kvs (Sum.inr z) v)))) : rSet (.ref p) (.str z) v H Q := go_setD (y := .str z) (DPut.k (k := Sum.inr z) h hl) k
theorem go_lenL {p : Addr} {xs : List V} (h : SqL K H p xs) (k : Q (.int (xs.length : Int)) H) : rLenA K [.ref p] H Q := .inl (.inl ⟨p, xs, rfl, .inl h, k⟩)
theorem go_lenT {p : Addr} {xs : List V} (h : SqT K H p xs) (k : Q (.int (xs.length : Int)) H) : rLenA K [.ref p] H Q := .inl (.inl ⟨p, xs, rfl, .inr h, k⟩)
theorem go_lenS {z : Str} (h : z.length ≤ sizeLine) (k : Q (.int (z.length : Int)) H) : rLenA K [.str z] H Q := .inl (.inr ⟨z, rfl, h, k⟩)
theorem go_lenK {p : Addr} {kvs : List (Key × V)} (h : H p = some (.dK kvs)) (k : Q (.int (kvs.length : Int)) H) : rLenA K [.ref p] H Q := .inr (.inl ⟨p, kvs, rfl, h, k⟩)
theorem go_lenDT {p : Addr} {kvs : List (List Key × V)} (h : H p = some (.dT kvs)) (k : Q (.int (kvs.length : Int)) H) : rLenA K [.ref p] H Q := .inr (.inr ⟨p, kvs, rfl, h, k⟩)
theorem go_app {p : Addr} {xs : List V} (h : H p = some (.lst xs)) (hl : xs.length < sizeLine) (k : Q .non (upd H p (.lst (xs ++ [y])))) : rAppend (.ref p) [y] H Q := ⟨p, xs, y, rfl, rfl, h, hl, k⟩
theorem go_tyL {p : Addr} {xs : List V} {R : Prop} (h : SqL K H p xs) (k : R) : tyV K "list" (.ref p) H ∧ R := ⟨.inl ⟨rfl, xs, h⟩, k⟩
theorem go_dK (k : ∀ p, H p = none → Q (.ref p) (upd H p (.dK []))) : tDNew σ H Q := .inl k
theorem go_dT (k : ∀ p, H p = none → Q (.ref p) (upd H p (.dT []))) : tDNew σ H Q := .inr k
theorem go_size {n : Nat} {R : Prop} (h : n ≤ 100000) (k : R) : n ≤ sizeLine ∧ R := ⟨by rw [sizeLine_eq]; omega, k⟩
theorem go_sz {n : Nat} {R : Prop} (h : Nat.ble n 100000 = true) (k : R) : n ≤ sizeLine ∧ R := go_size (Nat.le_of_ble_eq_true h) k
theorem go_iteT {A B : Prop} (h : A) : if true = true then A else B := iteT h
theorem go_iteF {A B : Prop} (h : B) : if false = true then A else B := iteF h
theorem go_iteFn {A B : Prop} (h : A) : if (!false) = true then A else B := h
theorem go_iteTn {A B : Prop} (h : B) : if (!true) = true then A else B := h
theorem go_ite {p : Prop} [Decidable p] {A B : Prop} (h1 : p → A) (h2 : ¬ p → B) : if decide p = true then A else B := by
  by_cases h : p
  · rw [decide_eq_true h]
    exact iteT (h1 h)
  · rw [decide_eq_false h]
    exact iteF (h2 h)
theorem go_iteN {p : Prop} [Decidable p] {A B : Prop} (h1 : ¬ p → A) (h2 : p → B) : if (!decide p) = true then A else B := by
  by_cases h : p
  · rw [decide_eq_true h]
    exact iteF (h2 h)
  · rw [decide_eq_false h]
    exact iteT (h1 h)
end
theorem ixN_nat {n : Nat} {i : Int} {j : Nat} (h : i = (j : Int)) (hj : j < n) : ixN n i = some j := by
  unfold ixN
  subst h
  rw [if_pos (by omega), if_pos (by omega)]
  simp
end Mo
namespace Mo
open PySem PySem.Spec PyProof.Rows L2
/-! #### loops -/
section
variable {K : PySem.W.Frag} {σ : St} {H : Hp} {tl : TE} {tA : TA} {D : Ends} {g : TG} {tb : TS} {c : TT}
def LoopX (g : TG) (tb : TS) (D : Ends) (σ : St) (H : Hp) (J : It) : Prop := ∃ W : Nat → Nat → St → Hp → Prop, (∃ m, W 0 m σ H) ∧ ∀ i m σ H, W i m σ H →
  (J.stop i H ∧ D.nx σ H) ∨ (J.go i H ∧ ∃ N : St → Hp → Prop, (∀ σ' H', N σ' H' → ∃ m', m' < m ∧ W (i + 1) m' σ' H') ∧ ∀ x H', J.yld i H x H' → g x σ H' fun σ2 H2 => tb { D with nx := N, ct := N, bk := D.nx } σ2 H2)
theorem go_for {wi : TI} (k : wi σ H fun J H1 => LoopX g tb D σ H1 J) : tFor wi g tb D σ H := k
theorem go_iR1 {R : It → Hp → Prop} (k : tA σ H fun vs H1 => ∃ j : Int, vs = [.int j] ∧ -(2 ^ 62) ≤ j ∧ j < 2 ^ 62 ∧ R (Itr 0 j.toNat) H1) : iRng1 tA σ H R := k
theorem go_iSeq {R : It → Hp → Prop} (k : tl σ H fun x H1 => ∃ a, x = .ref a ∧ (((∃ xs, SqL K H1 a xs) ∧ R (Itl K a) H1) ∨ ((∃ xs, SqT K H1 a xs) ∧ R (Itt K a) H1))) : iSeq K tl σ H R := k
theorem go_r1 {j : Int} {R : It → Prop} (n : Nat) (hj : j = (n : Int)) (hn : (n : Int) < 2 ^ 62) (k : R (Itr 0 n)) : ∃ j' : Int, [V.int j] = [V.int j'] ∧ -(2 ^ 62) ≤ j' ∧ j' < 2 ^ 62 ∧ R (Itr 0 j'.toNat) := by
  subst hj
  exact ⟨(n : Int), rfl, by omega, hn, by rw [Int.toNat_natCast]; exact k⟩
theorem loop_r (n : Nat) (Pv : Nat → St → Hp → Prop) (h0 : Pv 0 σ H)
    (hs : ∀ (i : Nat) σ' H', i < n → Pv i σ' H' → g (.int (i : Int)) σ' H' fun σ2 H2 => tb { D with nx := Pv (i + 1), ct := Pv (i + 1), bk := D.nx } σ2 H2) (hd : ∀ σ' H', Pv n σ' H' → D.nx σ' H') : LoopX g tb D σ H (Itr 0 n) :=
  for_range (lo := 0) (n := n) Pv h0 (fun i σ' H' hi p => by
    have q := hs i σ' H' hi p
    rw [Int.zero_add]
    exact q) hd
theorem go_sqL {p : Addr} {xs : List V} {R : It → Prop} (h : SqL K H p xs) (k : R (Itl K p)) : ∃ a, V.ref p = .ref a ∧ (((∃ xs, SqL K H a xs) ∧ R (Itl K a)) ∨ ((∃ xs, SqT K H a xs) ∧ R (Itt K a))) := ⟨p, rfl, .inl ⟨⟨xs, h⟩, k⟩⟩
theorem go_sqT {p : Addr} {xs : List V} {R : It → Prop} (h : SqT K H p xs) (k : R (Itt K p)) : ∃ a, V.ref p = .ref a ∧ (((∃ xs, SqL K H a xs) ∧ R (Itl K a)) ∨ ((∃ xs, SqT K H a xs) ∧ R (Itt K a))) := ⟨p, rfl, .inr ⟨⟨xs, h⟩, k⟩⟩
theorem loop_l {p : Addr} {xs : List V} (Pv : Nat → St → Hp → Prop) (h0 : Pv 0 σ H) (hl : ∀ i σ' H', i ≤ xs.length → Pv i σ' H' → SqL K H' p xs)
    (hs : ∀ i x σ' H', xs[i]? = some x → Pv i σ' H' → g x σ' H' fun σ2 H2 => tb { D with nx := Pv (i + 1), ct := Pv (i + 1), bk := D.nx } σ2 H2) (hd : ∀ σ' H', Pv xs.length σ' H' → D.nx σ' H') : LoopX g tb D σ H (Itl K p) :=
  for_list (xs := xs) Pv h0 hl hs hd
theorem loop_t {p : Addr} {xs : List V} (Pv : Nat → St → Hp → Prop) (h0 : Pv 0 σ H) (hl : ∀ i σ' H', i ≤ xs.length → Pv i σ' H' → SqT K H' p xs)
    (hs : ∀ i x σ' H', xs[i]? = some x → Pv i σ' H' → g x σ' H' fun σ2 H2 => tb { D with nx := Pv (i + 1), ct := Pv (i + 1), bk := D.nx } σ2 H2) (hd : ∀ σ' H', Pv xs.length σ' H' → D.nx σ' H') : LoopX g tb D σ H (Itt K p) :=
  for_tup (xs := xs) Pv h0 hl hs hd
theorem go_while (W : Nat → St → Hp → Prop) (m0 : Nat) (h0 : W m0 σ H)
    (hs : ∀ m σ' H', W m σ' H' → c σ' H' fun b H1 => if b = true then ∃ N : St → Hp → Prop, (∀ σ2 H2, N σ2 H2 → ∃ m', m' < m ∧ W m' σ2 H2) ∧ tb { D with nx := N, ct := N, bk := D.nx } σ' H1 else D.nx σ' H1) : tWhile c tb D σ H := ⟨W, ⟨m0, h0⟩, hs⟩
/-! #### list comprehensions -/
def LcX (J : It) (g : TG) (tt : TT) (te : TE) (vs : List Nat) (σ : St) (Dl : Addr) (Q : VK) (H : Hp) : Prop := ∃ W : Nat → Nat → Hp → Prop, (∃ m, W 0 m (upd H Dl (.lst []))) ∧ ∀ i m H, W i m H →
  (J.stop i H ∧ Q (.ref Dl) H) ∨ (J.go i H ∧ ∃ Nx : Hp → Prop, (∀ H', Nx H' → ∃ m', m' < m ∧ W (i + 1) m' H') ∧ ∀ x H', J.yld i H x H' → g x (wipe σ vs) H' fun σ2 H2 => wipe σ2 vs = wipe σ vs ∧ tt σ2 H2 fun b H3 =>
    if b = true then te σ2 H3 fun y H4 => ∃ acc, H4 Dl = some (.lst acc) ∧ acc.length < sizeLine ∧ Nx (upd H4 Dl (.lst (acc ++ [y]))) else Nx H3)
def LcA (g : TG) (tt : TT) (te : TE) (vs : List Nat) (σ : St) (Q : VK) (H : Hp) (J : It) : Prop := ∀ Dl, H Dl = none → LcX J g tt te vs σ Dl Q H
theorem go_lcA {tt : TT} {te : TE} {vs : List Nat} {Q : VK} {J : It} (k : ∀ Dl, H Dl = none → LcX J g tt te vs σ Dl Q H) : LcA g tt te vs σ Q H J := k
theorem go_lc {wi : TI} {tt : TT} {te : TE} {vs : List Nat} {Q : VK} (k : wi σ H fun J H1 => LcA g tt te vs σ Q H1 J) : tLc wi g tt te vs σ H Q := k
theorem lcx_r (n : Nat) {tt : TT} {te : TE} {vs : List Nat} {Dl : Addr} {Q : VK} (Pv : Nat → Hp → Prop) (h0 : Pv 0 (upd H Dl (.lst [])))
    (hs : ∀ (i : Nat) H', i < n → Pv i H' → g (.int (i : Int)) (wipe σ vs) H' fun σ2 H2 => wipe σ2 vs = wipe σ vs ∧ tt σ2 H2 fun b H3 =>
      if b = true then te σ2 H3 fun y H4 => ∃ acc, H4 Dl = some (.lst acc) ∧ acc.length < sizeLine ∧ Pv (i + 1) (upd H4 Dl (.lst (acc ++ [y]))) else Pv (i + 1) H3) (hd : ∀ H', Pv n H' → Q (.ref Dl) H') : LcX (Itr 0 n) g tt te vs σ Dl Q H :=
  lc_range (lo := 0) (n := n) Pv h0 (fun i H' hi p => by
    have q := hs i H' hi p
    rw [Int.zero_add]
    exact q) hd
theorem lcx_l {p : Addr} {xs : List V} {tt : TT} {te : TE} {vs : List Nat} {Dl : Addr} {Q : VK} (Pv : Nat → Hp → Prop) (h0 : Pv 0 (upd H Dl (.lst []))) (hl : ∀ i H', i ≤ xs.length → Pv i H' → SqL K H' p xs)
    (hs : ∀ i x H', xs[i]? = some x → Pv i H' → g x (wipe σ vs) H' fun σ2 H2 => wipe σ2 vs = wipe σ vs ∧ tt σ2 H2 fun b H3 =>
      if b = true then te σ2 H3 fun y H4 => ∃ acc, H4 Dl = some (.lst acc) ∧ acc.length < sizeLine ∧ Pv (i + 1) (upd H4 Dl (.lst (acc ++ [y]))) else Pv (i + 1) H3) (hd : ∀ H', Pv xs.length H' → Q (.ref Dl) H') : LcX (Itl K p) g tt te vs σ Dl Q H :=
  lc_list (xs := xs) Pv h0 hl hs hd
theorem lcx_t {p : Addr} {xs : List V} {tt : TT} {te : TE} {vs : List Nat} {Dl : Addr} {Q : VK} (Pv : Nat → Hp → Prop) (h0 : Pv 0 (upd H Dl (.lst []))) (hl : ∀ i H', i ≤ xs.length → Pv i H' → SqT K H' p xs)
    (hs : ∀ i x H', xs[i]? = some x → Pv i H' → g x (wipe σ vs) H' fun σ2 H2 => wipe σ2 vs = wipe σ vs ∧ tt σ2 H2 fun b H3 =>
      if b = true then te σ2 H3 fun y H4 => ∃ acc, H4 Dl = some (.lst acc) ∧ acc.length < sizeLine ∧ Pv (i + 1) (upd H4 Dl (.lst (acc ++ [y]))) else Pv (i + 1) H3) (hd : ∀ H', Pv xs.length H' → Q (.ref Dl) H') : LcX (Itt K p) g tt te vs σ Dl Q H :=
  lc_tup (xs := xs) Pv h0 hl hs hd
theorem go_yes {Q : Bool → Hp → Prop} (k : Q true H) : tYes σ H Q := k
theorem go_acc {Dl : Addr} {acc : List V} {y : V} {Q : Hp → Prop} (h : H Dl = some (.lst acc)) (hl : acc.length < sizeLine) (k : Q (upd H Dl (.lst (acc ++ [y])))) : ∃ acc', H Dl = some (.lst acc') ∧ acc'.length < sizeLine ∧ Q (upd H Dl (.lst (acc' ++ [y]))) := ⟨acc, h, hl, k⟩
end
/-! #### how large a number is -/
def Bd (n : Nat) (x : Int) : Prop := x.natAbs < 2 ^ n
instance {n : Nat} {x : Int} : Decidable (Bd n x) := inferInstanceAs (Decidable (x.natAbs < 2 ^ n))
theorem Bd.mono {a b : Nat} {x : Int} (h : Bd a x) (e : a ≤ b) : Bd b x := Nat.lt_of_lt_of_le h (Nat.pow_le_pow_right (by decide) e)
theorem Bd.mul {a b : Nat} {x y : Int} (h : Bd a x) (k : Bd b y) : Bd (a + b) (x * y) := by
  unfold Bd at *
  rw [Int.natAbs_mul, Nat.pow_add]
  exact Nat.mul_lt_mul'' h k
theorem Bd.add {a : Nat} {x y : Int} (h : Bd a x) (k : Bd a y) : Bd (a + 1) (x + y) := by
  unfold Bd at *
  have e : (2 : Nat) ^ (a + 1) = 2 ^ a + 2 ^ a := by rw [Nat.pow_succ]; omega
  rw [e]
  have := Int.natAbs_add_le x y
  omega
theorem Bd.cmul {a b : Nat} {x y : Int} (h : Bd a x) (k : Bd b y) (h0 : 0 < a := by decide) (h1 : 0 < b := by decide) (e : a + b ≤ 134000000 := by decide) : CMulX x y := mulX_of a b h k h0 h1 e
theorem bd_bits {x : Int} (h : Builtin.Int.intBits x ≤ 1048576) : Bd 1048576 x := by
  unfold Builtin.Int.intBits at h
  show x.natAbs < 2 ^ 1048576
  generalize 1048576 = n at h
  by_cases e : x.natAbs = 0
  · rw [e]
    exact Nat.pow_pos (by decide)
  · refine (Nat.log2_lt e).mp ?_
    have z : (x == 0) = false := beq_eq_false_iff_ne.mpr (by omega)
    rw [z, if_neg Bool.false_ne_true] at h
    omega
theorem go_mod {H : Hp} {Q : VK} {f : Int → Int → V} {a b : Int} (hb : b ≠ 0) (k : Q (f a b) H) : rI CMod f (.int a) (.int b) H Q := go_I hb k
theorem go_div {H : Hp} {Q : VK} {f : Int → Int → V} {a b : Int} (n : Nat) (hb : b ≠ 0) (h : Bd n b) (k : Q (f a b) H) (h0 : 0 < n := by decide) (h9 : n ≤ 9000 := by decide) : rI CDivX f (.int a) (.int b) H Q := go_I ⟨hb, Nat.lt_of_lt_of_le (log2_bd h h0) h9⟩ k
theorem bd_range {n : Nat} {x m : Int} (h0 : 0 ≤ x) (h : x < m) (k : Bd n m) : Bd n x := Nat.lt_trans (by omega) k
end Mo
local macro_rules | `(tactic| walk_at "s0") => `(tactic| with_reducible first
  | refine Mo.go_seq ?_
  | refine Mo.go_asg ?_
  | refine Mo.go_op ?_
  | refine Mo.go_c ?_
  | refine Mo.go_gn ?_
  | refine Mo.go_test ?_
  | refine Mo.go_bl ?_
  | refine Mo.go_iteT ?_
  | refine Mo.go_iteF ?_
  | refine Mo.go_I0 ?_
  | refine Mo.go_cons ?_
  | refine Mo.go_nil ?_
  | refine Mo.go_call ?_
  | refine Mo.go_ret ?_
  | refine Mo.go_eqi ?_
  | refine Mo.go_addI ?_
  | refine Mo.go_ltI ?_
  | refine Mo.go_truB ?_
  | refine Mo.go_truN ?_
  | refine Mo.go_intB ?_
  | refine Mo.go_isN_t ?_
  | refine Mo.go_notN_t ?_
  | refine Mo.go_isN_r ?_
  | refine Mo.go_notN_r ?_
  | refine Mo.go_nei ?_
  | refine Mo.go_cb ?_
  | refine Mo.go_drop ?_
  | refine Mo.go_tup ?_
  | refine Mo.go_lst ?_
  | refine Mo.go_next ?_
  | refine Mo.go_fld ?_
  | refine Mo.go_sfld ?_
  | refine Mo.go_meth ?_
  | refine Mo.go_make ?_
  | refine Mo.go_bm ?_
  | refine Mo.go_bm0 ?_
  | refine Mo.go_gsub ?_
  | refine Mo.go_gcons ?_
  | refine Mo.go_gnil ?_
  | refine Mo.go_and ?_
  | refine Mo.go_or ?_
  | refine Mo.go_not ?_
  | refine Mo.go_andV ?_
  | refine Mo.go_orV ?_
  | refine Mo.go_notV ?_
  | refine Mo.go_un ?_
  | refine Mo.go_rU ?_
  | refine Mo.go_sl ?_
  | refine Mo.go_nopart ?_
  | refine Mo.go_part ?_
  | refine Mo.go_int ?_
  | refine Mo.go_ifE ?_
  | refine Mo.go_tb ?_
  | refine Mo.go_ipI ?_
  | refine Mo.go_iteFn ?_
  | refine Mo.go_iteTn ?_
  | refine Mo.go_eqb ?_
  | refine Mo.go_neb ?_
  | refine Mo.go_brk ?_
  | refine Mo.go_for ?_
  | refine Mo.go_iR1 ?_
  | refine Mo.go_iSeq ?_
  | refine Mo.go_lc ?_
  | refine Mo.go_yes ?_
  | refine Mo.go_cont ?_
  | refine Mo.go_isi_ii ?_
  | refine Mo.go_isi_ib ?_
  | refine Mo.go_isi_is ?_
  | refine Mo.go_isi_ss ?_
  | refine Mo.go_isi_si ?_
  | refine Mo.go_isi_bi ?_
  | refine Mo.go_isi_bb ?_
  | refine Mo.go_isi_ni ?_
  | refine Mo.go_pow15 ?_
  | refine Mo.go_pow12 ?_
  | refine Mo.go_pow6 ?_
  | refine Mo.go_fldaug ?_
  | refine Mo.go_addR ?_
  | refine Mo.go_subR ?_)
local macro_rules | `(tactic| walk_at "s") => `(tactic| first
  | walk_at "s0"
  | (with_reducible refine Mo.go_ifS ?_))
local macro_rules | `(tactic| walk_at "v") => `(tactic| ((with_reducible refine' Mo.go_var ?k1 ?_); (case k1 => exact rfl)))
local macro_rules | `(tactic| walk_at "e") => `(tactic| first
  | ((with_reducible refine Mo.go_eqsT ?k1 ?_); (case k1 => with_reducible exact rfl))
  | ((with_reducible refine Mo.go_eqsF ?k1 ?_); (case k1 => decide +kernel)))
local macro_rules | `(tactic| walk_at "w") => `(tactic| repeat (first | walk_at "v" | walk_at "s"))
local macro_rules | `(tactic| walk_at "we") => `(tactic| repeat (first | walk_at "v" | walk_at "s" | walk_at "e"))
local macro_rules | `(tactic| walk_at "w0") => `(tactic| repeat (first | walk_at "v" | walk_at "s0" | walk_at "e"))
namespace Mo
open PySem PySem.Spec PyProof.Rows L2
/-! ### formulas, faults, states: plain Lean -/
inductive Op where
  | plus | less | times | part | rest | below | same
  deriving DecidableEq
def Op.name : Op → Str
  | .plus => "plus" | .less => "less" | .times => "times" | .part => "part" | .rest => "rest" | .below => "below" | .same => "same"
inductive Fm where
  | num (n : Int) | box (x : Str) | long (q : Str) | got (j : Nat) | now | two (o : Op) (f g : Fm)
  deriving DecidableEq
def Fm.data : Fm → PyData
  | .num n => .tuple [.str "number", .int n]
  | .box x => .tuple [.str "box", .str x]
  | .long q => .tuple [.str "long", .str q]
  | .got j => .tuple [.str "got", .int (j : Int)]
  | .now => .tuple [.str "now"]
  | .two o f g => .tuple [.str o.name, f.data, g.data]
inductive Flt where
  | nought | great | full | dry | span | late
  deriving DecidableEq
def Flt.cls : Flt → Str
  | .nought => "Nought" | .great => "Great" | .full => "Full" | .dry => "Dry" | .span => "Span" | .late => "Late"
def Flt.word : Flt → Str
  | .nought => "nought" | .great => "great" | .full => "full" | .dry => "dry" | .span => "span" | .late => "late"
def Worth (n : Int) : Prop := -1000000000000000 ≤ n ∧ n ≤ 1000000000000000
theorem worth_bd {n : Int} (h : Worth n) : Bd 50 n := by
  obtain ⟨h1, h2⟩ := h
  show n.natAbs < 1125899906842624
  omega
def Op.raw (o : Op) (a b : Int) : Except Flt Int := match o with
  | .plus => .ok (a + b)
  | .less => .ok (a - b)
  | .times => .ok (a * b)
  | .below => .ok (if a < b then 1 else 0)
  | .same => .ok (if a = b then 1 else 0)
  | .part => if b = 0 then .error .nought else .ok (a.fdiv b)
  | .rest => if b = 0 then .error .nought else .ok (a.fmod b)
def keptIn (n : Int) : Except Flt Int := if n < -1000000000000000 ∨ 1000000000000000 < n then .error .great else .ok n
def Op.ev (o : Op) (a b : Int) : Except Flt Int := match o.raw a b with
  | .ok n => keptIn n
  | .error e => .error e
/-- what a formula is reckoned by -/
structure Env where
  boxes : Str → Int
  longs : Str → Nat
  now : Int
  got : Nat → Int
def Fm.ev (e : Env) : Fm → Except Flt Int
  | .num n => .ok n
  | .box x => .ok (e.boxes x)
  | .long q => .ok (e.longs q : Int)
  | .got j => .ok (e.got j)
  | .now => .ok e.now
  | .two o f g => match f.ev e with
    | .error x => .error x
    | .ok a => match g.ev e with
      | .error x => .error x
      | .ok b => o.ev a b
def Fm.depth : Fm → Nat
  | .two _ f g => max f.depth g.depth + 1
  | _ => 0
def Fm.size : Fm → Nat
  | .two _ f g => f.size + g.size + 1
  | _ => 1
theorem Fm.depth_lt_size : ∀ f : Fm, f.depth < f.size
  | .num _ => Nat.zero_lt_one
  | .box _ => Nat.zero_lt_one
  | .long _ => Nat.zero_lt_one
  | .got _ => Nat.zero_lt_one
  | .now => Nat.zero_lt_one
  | .two _ f g => by
    have h1 := depth_lt_size f
    have h2 := depth_lt_size g
    show max f.depth g.depth + 1 < f.size + g.size + 1
    omega
/-- a formula by names that are there, with worths -/
def Fm.Ok (bs qs : List Str) : Fm → Prop
  | .num n => Worth n
  | .box x => x ∈ bs
  | .long q => q ∈ qs
  | .got j => j < 2
  | .now => True
  | .two _ f g => f.Ok bs qs ∧ g.Ok bs qs
structure Env.Ok (e : Env) (bs qs : List Str) : Prop where
  boxes : ∀ x ∈ bs, Worth (e.boxes x)
  longs : ∀ q ∈ qs, e.longs q ≤ 100000
  now : Worth e.now
  got : ∀ j, j < 2 → Worth (e.got j)
theorem keptIn_ok {n m : Int} (h : keptIn n = .ok m) : Worth m := by
  unfold keptIn at h
  split at h
  · cases h
  · cases h
    unfold Worth
    omega
theorem Fm.ev_worth {e : Env} {bs qs : List Str} (he : e.Ok bs qs) : ∀ {f : Fm} {n : Int}, f.Ok bs qs → f.ev e = .ok n → Worth n
  | .num m, n, h, q => by cases q; exact h
  | .box x, n, h, q => by cases q; exact he.boxes x h
  | .long x, n, h, q => by
    cases q
    have := he.longs x h
    show -(1000000000000000 : Int) ≤ (e.longs x : Int) ∧ (e.longs x : Int) ≤ 1000000000000000
    omega
  | .got j, n, h, q => by cases q; exact he.got j h
  | .now, n, h, q => by cases q; exact he.now
  | .two o f g, n, h, q => by
    unfold Fm.ev at q
    cases h1 : f.ev e with
    | error x => rw [h1] at q; cases q
    | ok a =>
      rw [h1] at q
      cases h2 : g.ev e with
      | error x => rw [h2] at q; cases q
      | ok b =>
        rw [h2] at q
        have q' : o.ev a b = .ok n := q
        unfold Op.ev at q'
        cases h3 : o.raw a b with
        | error x => rw [h3] at q'; cases q'
        | ok c =>
          rw [h3] at q'
          exact keptIn_ok q'
/-- a machine's state -/
structure MSt where
  boxes : List (Str × Int)
  queues : List (Str × List Int)
  drawn : Int
  sent : Int
def boxesV (bs : List (Str × Int)) : List (Key × V) := bs.map fun p => (Sum.inr p.1, V.int p.2)
/-- the pairs of the dict of queues: the lists' addresses -/
def queuesV (qs : List (Str × List Int)) (as : List Addr) : List (Key × V) := (qs.zip as).map fun p => (Sum.inr p.1.1, V.ref p.2)
def lookD {α : Type} (d : α) (x : Str) : List (Str × α) → α
  | [] => d
  | p :: r => if p.1 = x then p.2 else lookD d x r
theorem val_boxes : ∀ {bs : List (Str × Int)} {x : Str}, x ∈ bs.map (·.1) → valV (boxesV bs) (Sum.inr x) = some (.int (lookD 0 x bs))
  | [], x, h => by simp at h
  | p :: r, x, h => by
    show valV ((Sum.inr p.1, V.int p.2) :: boxesV r) (Sum.inr x) = some (.int (if p.1 = x then p.2 else lookD 0 x r))
    by_cases e : p.1 = x
    · rw [if_pos e]
      exact valV_pos (by show (Sum.inr p.1 : Key) = Sum.inr x; rw [e])
    · rw [if_neg e, valV_neg (by show ¬ (Sum.inr p.1 : Key) = Sum.inr x; exact fun z => e (Sum.inr.inj z))]
      rw [List.map_cons] at h
      exact val_boxes ((List.mem_cons.mp h).resolve_left fun z => e z.symm)
theorem val_queues : ∀ {qs : List (Str × List Int)} {as : List Addr} {x : Str}, qs.length = as.length → x ∈ qs.map (·.1) → ∃ (i : Nat) (a : Addr), qs[i]? = some (x, lookD [] x qs) ∧ as[i]? = some a ∧ valV (queuesV qs as) (Sum.inr x) = some (.ref a)
  | [], _, x, _, h => by simp at h
  | p :: r, [], _, hl, _ => by simp at hl
  | p :: r, a :: as, x, hl, h => by
    have ev : queuesV (p :: r) (a :: as) = (Sum.inr p.1, V.ref a) :: queuesV r as := rfl
    by_cases e : p.1 = x
    · refine ⟨0, a, ?_, rfl, ?_⟩
      · show some p = some (x, if p.1 = x then p.2 else lookD [] x r)
        rw [if_pos e, ← e]
      · rw [ev]
        exact valV_pos (by show (Sum.inr p.1 : Key) = Sum.inr x; rw [e])
    · rw [List.map_cons] at h
      obtain ⟨i, b, h1, h2, h3⟩ := val_queues (qs := r) (as := as) (x := x) (by simpa using hl) ((List.mem_cons.mp h).resolve_left fun z => e z.symm)
      refine ⟨i + 1, b, ?_, h2, ?_⟩
      · show r[i]? = some (x, if p.1 = x then p.2 else lookD [] x r)
        rw [if_neg e]
        exact h1
      · rw [ev, valV_neg (by show ¬ (Sum.inr p.1 : Key) = Sum.inr x; exact fun z => e (Sum.inr.inj z))]
        exact h3
/-- objects that stand in a heap -/
abbrev Ck : Type := List (Addr × HO)
def InH (H : Hp) (C : Ck) : Prop := ∀ e ∈ C, H e.1 = some e.2
def vo (C : Ck) : Vo := C.map fun e => (e.1, Eq e.2)
theorem InH.ext {H H' : Hp} {C : Ck} (h : InH H C) (e : Ext H H') : InH H' C := fun x m => e _ _ (h x m)
theorem Hd.inH {G H : Hp} {L : Vo} {C : Ck} (h : Hd G H L) (s : ∀ e ∈ vo C, e ∈ L) : InH H C := fun e m => h.eq (s (e.1, Eq e.2) (List.mem_map_of_mem m))
/-- the envelope of a state, a time, two worths that came -/
def MSt.env (s : MSt) (now : Int) (g0 g1 : Int) : Env := ⟨fun x => lookD 0 x s.boxes, fun x => (lookD [] x s.queues).length, now, fun j => if j = 0 then g0 else g1⟩
def MSt.bs (s : MSt) : List Str := s.boxes.map (·.1)
def MSt.qs (s : MSt) : List Str := s.queues.map (·.1)
end Mo
namespace Mo
open PySem PySem.Spec PyProof.Rows L2
/-- a state's objects: itself, its two dicts, its queues -/
def StC (K : PySem.W.Frag) (p dx b q : Addr) (as : List Addr) (s : MSt) : Ck :=
  (p, .ins (He.ga K "State") dx (fl_State (.ref b) (.ref q) (.int s.drawn) (.int s.sent))) :: (b, .dK (boxesV s.boxes)) :: (q, .dK (queuesV s.queues as)) :: (s.queues.zip as).map fun e => (e.2, .lst (e.1.2.map V.int))
structure StAt (K : PySem.W.Frag) (H : Hp) (p : Addr) (s : MSt) : Prop where
  there : ∃ dx b q as, s.queues.length = as.length ∧ InH H (StC K p dx b q as s)
theorem StAt.ext {K : PySem.W.Frag} {H H' : Hp} {p : Addr} {s : MSt} (h : StAt K H p s) (e : Ext H H') : StAt K H' p s :=
  let ⟨dx, b, q, as, h1, h2⟩ := h.there
  ⟨dx, b, q, as, h1, h2.ext e⟩
end Mo
namespace Mo
open PySem PySem.Spec PyProof.Rows L2
/-! ### deeds, machines: plain Lean -/
inductive Dd where
  | put (b : Str) (f : Fm) | push (q : Str) (f : Fm) | pull (q b : Str) (ds : List Dd) | draw (b : Str) (f : Fm)
  | send (to : Int) (sign : Str) (span : Fm) (rank : Int) (g h : Fm) | iff (f : Fm) (ones others : List Dd) | fin
mutual
def Dd.data : Dd → PyData
  | .put b f => .tuple [.str "put", .str b, f.data]
  | .push q f => .tuple [.str "push", .str q, f.data]
  | .pull q b ds => .tuple [.str "pull", .str q, .str b, .list (Dd.datas ds)]
  | .draw b f => .tuple [.str "draw", .str b, f.data]
  | .send to sign span rank g h => .tuple [.str "send", .int to, .str sign, span.data, .int rank, g.data, h.data]
  | .iff f ones others => .tuple [.str "if", f.data, .list (Dd.datas ones), .list (Dd.datas others)]
  | .fin => .tuple [.str "end"]
def Dd.datas : List Dd → List PyData
  | [] => []
  | d :: ds => d.data :: Dd.datas ds
end
mutual
def Dd.depth : Dd → Nat
  | .pull _ _ ds => Dd.depths ds + 1
  | .iff _ ones others => max (Dd.depths ones) (Dd.depths others) + 1
  | _ => 0
def Dd.depths : List Dd → Nat
  | [] => 0
  | d :: ds => max (d.depth + 1) (Dd.depths ds)
end
mutual
/-- no list of more than a thousand deeds -/
def Dd.Sm : Dd → Prop
  | .pull _ _ ds => ds.length ≤ 1000 ∧ Dd.Sms ds
  | .iff _ a b => (a.length ≤ 1000 ∧ Dd.Sms a) ∧ (b.length ≤ 1000 ∧ Dd.Sms b)
  | _ => True
def Dd.Sms : List Dd → Prop
  | [] => True
  | d :: ds => d.Sm ∧ Dd.Sms ds
end
theorem sms_get : ∀ {ds : List Dd} {i : Nat} {d : Dd}, Dd.Sms ds → ds[i]? = some d → d.Sm
  | [], _, _, _, h => by simp at h
  | e :: ds, 0, d, k, h => by
    simp only [List.getElem?_cons_zero, Option.some.injEq] at h
    subst h
    rw [Dd.Sms] at k
    exact k.1
  | e :: ds, i + 1, d, k, h => by
    rw [List.getElem?_cons_succ] at h
    rw [Dd.Sms] at k
    exact sms_get k.2 h
theorem datas_map : ∀ ds : List Dd, Dd.datas ds = ds.map Dd.data
  | [] => by rw [Dd.datas, List.map_nil]
  | d :: ds => by rw [Dd.datas, datas_map ds, List.map_cons]
theorem datas_app (ds es : List Dd) : Dd.datas (ds ++ es) = Dd.datas ds ++ Dd.datas es := by rw [datas_map, datas_map, datas_map, List.map_append]
theorem datas_take {ds : List Dd} {i : Nat} {d : Dd} (h : ds[i]? = some d) : Dd.datas (ds.take (i + 1)) = Dd.datas (ds.take i) ++ [d.data] := by
  rw [datas_map, datas_map, List.take_add_one, h, List.map_append]
  rfl
theorem depths_get : ∀ {ds : List Dd} {i : Nat} {d : Dd}, ds[i]? = some d → d.depth < Dd.depths ds
  | [], _, _, h => by simp at h
  | e :: ds, 0, d, h => by
    simp only [List.getElem?_cons_zero, Option.some.injEq] at h
    subst h
    rw [Dd.depths]
    omega
  | e :: ds, i + 1, d, h => by
    rw [List.getElem?_cons_succ] at h
    have := depths_get h
    rw [Dd.depths]
    omega
structure Mach where
  name : Str
  boxes : List (Str × Int)
  queues : List Str
  draws : List Int
  hears : List (Str × List Dd)
def boxD (p : Str × Int) : PyData := .tuple [.str p.1, .int p.2]
def hearD (p : Str × List Dd) : PyData := .tuple [.str p.1, .list (Dd.datas p.2)]
def Mach.data (m : Mach) : PyData := .tuple [.str m.name, .list (m.boxes.map boxD), .list (m.queues.map PyData.str), .list (m.draws.map PyData.int), .list (m.hears.map hearD)]
def Mach.depth (m : Mach) : Nat := m.hears.foldr (fun p n => max (Dd.depths p.2) n) 0
theorem Mach.depth_get {hs : List (Str × List Dd)} {i : Nat} {p : Str × List Dd} (h : hs[i]? = some p) : Dd.depths p.2 ≤ hs.foldr (fun p n => max (Dd.depths p.2) n) 0 := by
  induction hs generalizing i with
  | nil => simp at h
  | cons q hs ih =>
    rw [List.foldr_cons]
    cases i with
    | zero =>
      simp only [List.getElem?_cons_zero, Option.some.injEq] at h
      subst h
      omega
    | succ i =>
      rw [List.getElem?_cons_succ] at h
      have := ih h
      omega
/-- the state in which a machine begins -/
def Mach.first (m : Mach) : MSt := ⟨m.boxes, m.queues.map fun q => (q, []), 0, 0⟩
/-! ### deeds that stand in a heap: their lists in H, what is of tuples alone in G -/
section
variable (K : PySem.W.Frag) (G H : Hp)
mutual
inductive DdIn : V → Dd → Prop
  | put {v : V} {b : Str} {f : Fm} (h : Dp K G v (Dd.data (.put b f))) : DdIn v (.put b f)
  | push {v : V} {q : Str} {f : Fm} (h : Dp K G v (Dd.data (.push q f))) : DdIn v (.push q f)
  | draw {v : V} {b : Str} {f : Fm} (h : Dp K G v (Dd.data (.draw b f))) : DdIn v (.draw b f)
  | send {v : V} {to : Int} {sign : Str} {span : Fm} {rank : Int} {g h : Fm} (q : Dp K G v (Dd.data (.send to sign span rank g h))) : DdIn v (.send to sign span rank g h)
  | fin {v : V} (h : Dp K G v (Dd.data .fin)) : DdIn v .fin
  | pull {a l : Addr} {q b : Str} {vs : List V} {ds : List Dd} (ht : SqT K H a [.str "pull", .str q, .str b, .ref l]) (hl : SqL K H l vs) (hs : DdsIn vs ds) : DdIn (.ref a) (.pull q b ds)
  | iff {a l m : Addr} {f : Fm} {v : V} {vs ws : List V} {ones others : List Dd} (ht : SqT K H a [.str "if", v, .ref l, .ref m]) (hf : Dp K G v f.data) (hl : SqL K H l vs) (hs : DdsIn vs ones) (hm : SqL K H m ws) (hr : DdsIn ws others) : DdIn (.ref a) (.iff f ones others)
inductive DdsIn : List V → List Dd → Prop
  | nil : DdsIn [] []
  | cons {v : V} {vs : List V} {d : Dd} {ds : List Dd} (h : DdIn v d) (r : DdsIn vs ds) : DdsIn (v :: vs) (d :: ds)
end
end
section
variable {K : PySem.W.Frag} {G G' H H' : Hp}
mutual
theorem ddIn_mono (e : Ext G G') (e' : Ext H H') : ∀ {v : V} {d : Dd}, DdIn K G H v d → DdIn K G' H' v d
  | _, _, .put h => .put (dp_mono e h)
  | _, _, .push h => .push (dp_mono e h)
  | _, _, .draw h => .draw (dp_mono e h)
  | _, _, .send h => .send (dp_mono e h)
  | _, _, .fin h => .fin (dp_mono e h)
  | _, _, .pull h1 h2 h3 => .pull (ext_t e' h1) (ext_l e' h2) (ddsIn_mono e e' h3)
  | _, _, .iff h1 h2 h3 h4 h5 h6 => .iff (ext_t e' h1) (dp_mono e h2) (ext_l e' h3) (ddsIn_mono e e' h4) (ext_l e' h5) (ddsIn_mono e e' h6)
theorem ddsIn_mono (e : Ext G G') (e' : Ext H H') : ∀ {vs : List V} {ds : List Dd}, DdsIn K G H vs ds → DdsIn K G' H' vs ds
  | _, _, .nil => .nil
  | _, _, .cons h r => .cons (ddIn_mono e e' h) (ddsIn_mono e e' r)
end
theorem ddsIn_len : ∀ {vs : List V} {ds : List Dd}, DdsIn K G H vs ds → vs.length = ds.length
  | _, _, .nil => rfl
  | _, _, .cons _ r => by rw [List.length_cons, List.length_cons, ddsIn_len r]
theorem ddsIn_get : ∀ {vs : List V} {ds : List Dd} {i : Nat} {v : V}, DdsIn K G H vs ds → vs[i]? = some v → ∃ d, ds[i]? = some d ∧ DdIn K G H v d
  | _, _, _, _, .nil, e => by simp at e
  | _, _, 0, _, .cons h _, e => by
    simp only [List.getElem?_cons_zero, Option.some.injEq] at e
    subst e
    exact ⟨_, rfl, h⟩
  | _, _, i + 1, _, .cons _ r, e => by
    rw [List.getElem?_cons_succ] at e
    obtain ⟨d, h1, h2⟩ := ddsIn_get r e
    exact ⟨d, by rw [List.getElem?_cons_succ]; exact h1, h2⟩
mutual
/-- what stays is also in the heap -/
theorem ddIn_of (e : Ext G H) : ∀ (d : Dd) {v : V}, Dp K G v d.data → DdIn K G H v d
  | .put b f, _, h => .put h
  | .push q f, _, h => .push h
  | .draw b f, _, h => .draw h
  | .send to sign span rank g k, _, h => .send h
  | .fin, _, h => .fin h
  | .pull q b ds, v, h => by
    rw [Dd.data] at h
    obtain ⟨a, xs, rfl, h1, h2⟩ := dp_tup h
    cases h2 with
    | cons e1 h2 => cases h2 with
      | cons e2 h2 => cases h2 with
        | cons e3 h2 => cases h2 with
          | cons e4 h2 =>
            cases h2
            obtain rfl := dp_str e1
            obtain rfl := dp_str e2
            obtain rfl := dp_str e3
            obtain ⟨l, ys, rfl, h3, h4⟩ := dp_lst e4
            exact .pull (ext_t e h1) (ext_l e h3) (ddsIn_of e ds h4)
  | .iff f ones others, v, h => by
    rw [Dd.data] at h
    obtain ⟨a, xs, rfl, h1, h2⟩ := dp_tup h
    cases h2 with
    | cons e1 h2 => cases h2 with
      | cons e2 h2 => cases h2 with
        | cons e3 h2 => cases h2 with
          | cons e4 h2 =>
            cases h2
            obtain rfl := dp_str e1
            obtain ⟨l, ys, rfl, h3, h4⟩ := dp_lst e3
            obtain ⟨m, zs, rfl, h5, h6⟩ := dp_lst e4
            exact .iff (ext_t e h1) e2 (ext_l e h3) (ddsIn_of e ones h4) (ext_l e h5) (ddsIn_of e others h6)
theorem ddsIn_of (e : Ext G H) : ∀ (ds : List Dd) {vs : List V}, DpAll K G vs (Dd.datas ds) → DdsIn K G H vs ds
  | [], _, h => by
    rw [Dd.datas] at h
    cases h
    exact .nil
  | d :: ds, _, h => by
    rw [Dd.datas] at h
    cases h with
    | cons h1 h2 => exact .cons (ddIn_of e d h1) (ddsIn_of e ds h2)
end
def Dd.tag : Dd → Str
  | .put _ _ => "put" | .push _ _ => "push" | .pull _ _ _ => "pull" | .draw _ _ => "draw" | .send _ _ _ _ _ _ => "send" | .iff _ _ _ => "if" | .fin => "end"
theorem ddIn_head (e : Ext G H) : ∀ {d : Dd} {x : V}, DdIn K G H x d → ∃ t xs, x = .ref t ∧ SqT K H t (.str d.tag :: xs) := by
  have one : ∀ {x : V} {s : Str} {ds : List PyData}, Dp K G x (.tuple (.str s :: ds)) → ∃ t xs, x = .ref t ∧ SqT K H t (.str s :: xs) := fun {x s ds} h => by
    obtain ⟨t, xs, rfl, h1, h2⟩ := dp_tup h
    cases h2 with
    | cons e1 h2 =>
      obtain rfl := dp_str e1
      exact ⟨t, _, rfl, ext_t e h1⟩
  intro d x h
  cases h with
  | put h => rw [Dd.data] at h; exact one h
  | push h => rw [Dd.data] at h; exact one h
  | draw h => rw [Dd.data] at h; exact one h
  | send h => rw [Dd.data] at h; exact one h
  | fin h => rw [Dd.data] at h; exact one h
  | pull h1 h2 h3 => exact ⟨_, _, rfl, h1⟩
  | iff h1 h2 h3 h4 h5 h6 => exact ⟨_, _, rfl, h1⟩
theorem ddIn_plain {d : Dd} {x : V} (h : DdIn K G H x d) (h1 : ¬ d.tag = "if") (h2 : ¬ d.tag = "pull") : Dp K G x d.data := by
  cases h with
  | put h => exact h
  | push h => exact h
  | draw h => exact h
  | send h => exact h
  | fin h => exact h
  | pull _ _ _ => exact absurd rfl h2
  | iff _ _ _ _ _ _ => exact absurd rfl h1
theorem ddIn_if {d : Dd} {x : V} (h : DdIn K G H x d) (ht : d.tag = "if") : ∃ f ones others a l m v vs ws, d = .iff f ones others ∧ x = .ref a ∧ SqT K H a [.str "if", v, .ref l, .ref m] ∧ Dp K G v f.data ∧ SqL K H l vs ∧ DdsIn K G H vs ones ∧ SqL K H m ws ∧ DdsIn K G H ws others := by
  cases h with
  | iff h1 h2 h3 h4 h5 h6 => exact ⟨_, _, _, _, _, _, _, _, _, rfl, rfl, h1, h2, h3, h4, h5, h6⟩
  | _ => dsimp only [Dd.tag] at ht; exact absurd ht (by decide +kernel)
theorem ddIn_pull {d : Dd} {x : V} (h : DdIn K G H x d) (ht : d.tag = "pull") : ∃ q b ds a l vs, d = .pull q b ds ∧ x = .ref a ∧ SqT K H a [.str "pull", .str q, .str b, .ref l] ∧ SqL K H l vs ∧ DdsIn K G H vs ds := by
  cases h with
  | pull h1 h2 h3 => exact ⟨_, _, _, _, _, _, rfl, rfl, h1, h2, h3⟩
  | _ => dsimp only [Dd.tag] at ht; exact absurd ht (by decide +kernel)
end
/-- a machine that stands in a heap: its lists in H -/
def MachIn (K : PySem.W.Frag) (G H : Hp) (x : V) (m : Mach) : Prop := ∃ (a lb lq ld lh : Addr), x = .ref a ∧ SqT K H a [.str m.name, .ref lb, .ref lq, .ref ld, .ref lh] ∧
  (∃ vs, SqL K H lb vs ∧ DpAll K G vs (m.boxes.map boxD)) ∧ SqL K H lq (m.queues.map V.str) ∧ SqL K H ld (m.draws.map V.int) ∧
  ∃ vs : List V, SqL K H lh vs ∧ vs.length = m.hears.length ∧ ∀ (i : Nat) (v : V), vs[i]? = some v → ∃ (t l : Addr) (ws : List V) (p : Str × List Dd), v = .ref t ∧ SqT K H t [.str p.1, .ref l] ∧ SqL K H l ws ∧ DdsIn K G H ws p.2 ∧ m.hears[i]? = some p
/-- its lists are not long -/
structure Mach.Sm (m : Mach) : Prop where
  boxes : m.boxes.length ≤ 1000
  queues : m.queues.length ≤ 1000
  draws : m.draws.length ≤ 1000
  hears : m.hears.length ≤ 1000
  deeds : ∀ p ∈ m.hears, p.2.length ≤ 1000 ∧ Dd.Sms p.2
theorem dpa_strs {K : PySem.W.Frag} {H : Hp} : ∀ ns : List Str, DpAll K H (ns.map V.str) (ns.map PyData.str)
  | [] => .nil
  | n :: ns => .cons (.str n) (dpa_strs ns)
theorem dpa_strs' {K : PySem.W.Frag} {H : Hp} : ∀ {vs : List V} {ns : List Str}, DpAll K H vs (ns.map PyData.str) → vs = ns.map V.str
  | _, [], .nil => rfl
  | _, n :: ns, .cons h r => by rw [dp_str h, dpa_strs' r]; rfl
theorem dpa_ints' {K : PySem.W.Frag} {H : Hp} : ∀ {vs : List V} {ns : List Int}, DpAll K H vs (ns.map PyData.int) → vs = ns.map V.int
  | _, [], .nil => rfl
  | _, n :: ns, .cons h r => by rw [dp_int h, dpa_ints' r]; rfl
theorem machIn_of {K : PySem.W.Frag} {G H : Hp} (e : Ext G H) {x : V} {m : Mach} (h : Dp K G x m.data) : MachIn K G H x m := by
  unfold Mach.data at h
  obtain ⟨a, xs, rfl, h1, h2⟩ := dp_tup h
  cases h2 with
  | cons e1 h2 => cases h2 with
    | cons e2 h2 => cases h2 with
      | cons e3 h2 => cases h2 with
        | cons e4 h2 => cases h2 with
          | cons e5 h2 =>
            cases h2
            obtain rfl := dp_str e1
            obtain ⟨lb, vb, rfl, b1, b2⟩ := dp_lst e2
            obtain ⟨lq, vq, rfl, q1, q2⟩ := dp_lst e3
            obtain ⟨ld, vd, rfl, d1, d2⟩ := dp_lst e4
            obtain ⟨lh, vh, rfl, g1, g2⟩ := dp_lst e5
            obtain rfl := dpa_strs' q2
            obtain rfl := dpa_ints' d2
            refine ⟨a, lb, lq, ld, lh, rfl, ext_t e h1, ⟨vb, ext_l e b1, b2⟩, ext_l e q1, ext_l e d1, vh, ext_l e g1, by rw [dpa_len g2, List.length_map], fun i v hv => ?_⟩
            obtain ⟨d, hd, hp⟩ := dpa_get' g2 hv
            rw [List.getElem?_map] at hd
            cases hq : m.hears[i]? with
            | none => rw [hq] at hd; cases hd
            | some p =>
              rw [hq] at hd
              obtain rfl := Option.some.inj hd
              unfold hearD at hp
              obtain ⟨t, ys, rfl, t1, t2⟩ := dp_tup hp
              cases t2 with
              | cons f1 t2 => cases t2 with
                | cons f2 t2 =>
                  cases t2
                  obtain rfl := dp_str f1
                  obtain ⟨l, ws, rfl, l1, l2⟩ := dp_lst f2
                  exact ⟨t, l, ws, p, rfl, ext_t e t1, ext_l e l1, ddsIn_of e _ l2, rfl⟩
theorem machIn_mono {K : PySem.W.Frag} {G G' H H' : Hp} (e : Ext G G') (e' : Ext H H') {x : V} {m : Mach} (h : MachIn K G H x m) : MachIn K G' H' x m := by
  obtain ⟨a, lb, lq, ld, lh, rfl, ht, ⟨vb, b1, b2⟩, hq, hd, vs, h1, h2, h3⟩ := h
  refine ⟨a, lb, lq, ld, lh, rfl, ext_t e' ht, ⟨vb, ext_l e' b1, dpa_mono e b2⟩, ext_l e' hq, ext_l e' hd, vs, ext_l e' h1, h2, fun i v hv => ?_⟩
  obtain ⟨t, l, ws, p, e1, t1, l1, d1, hp⟩ := h3 i v hv
  exact ⟨t, l, ws, p, e1, ext_t e' t1, ext_l e' l1, ddsIn_mono e e' d1, hp⟩
/-! ### dicts by names -/
theorem val_none : ∀ {kvs : List (Key × V)} {k : Key}, k ∉ kvs.map (·.1) → valV kvs k = none
  | [], _, _ => rfl
  | p :: r, k, h => by
    rw [List.map_cons, List.mem_cons, not_or] at h
    rw [valV_neg (fun e => h.1 e.symm)]
    exact val_none h.2
theorem boxesV_keys (bs : List (Str × Int)) : (boxesV bs).map (·.1) = bs.map fun p => Sum.inr p.1 := by
  unfold boxesV
  rw [List.map_map]
  rfl
theorem boxesV_put {bs : List (Str × Int)} {x : Str} {n : Int} (h : x ∉ bs.map (·.1)) : putK (boxesV bs) (Sum.inr x) (.int n) = boxesV (bs ++ [(x, n)]) := by
  rw [putK_new]
  · unfold boxesV
    rw [List.map_append]
    rfl
  · refine val_none fun m => h ?_
    rw [boxesV_keys] at m
    obtain ⟨p, hp, e⟩ := List.mem_map.mp m
    rw [← Sum.inr.inj e]
    exact List.mem_map_of_mem hp
theorem queuesV_put {qs : List (Str × List Int)} {as : List Addr} {x : Str} {a : Addr} {ns : List Int} (hl : qs.length = as.length) (h : x ∉ qs.map (·.1)) : putK (queuesV qs as) (Sum.inr x) (.ref a) = queuesV (qs ++ [(x, ns)]) (as ++ [a]) := by
  rw [putK_new]
  · unfold queuesV
    rw [List.zip_append hl, List.map_append]
    rfl
  · refine val_none fun m => h ?_
    obtain ⟨p, hp, e⟩ := List.mem_map.mp m
    unfold queuesV at hp
    obtain ⟨q, hq, rfl⟩ := List.mem_map.mp hp
    rw [← Sum.inr.inj e]
    exact List.mem_map_of_mem (List.of_mem_zip hq).1
end Mo
namespace Mo
open PySem PySem.Spec PyProof.Rows L2
section
variable {K : PySem.W.Frag}
theorem dp_freeze {G H : Hp} {L : Vo} {l : Addr} {xs : List V} {ds : List PyData} {φ : HO → Prop} (h : Hd G H ((l, φ) :: L)) (e : H l = some (.lst xs)) (d : DpAll K G xs ds) : Ext G (upd G l (.lst xs)) ∧ Hd (upd G l (.lst xs)) H L ∧ Dp K (upd G l (.lst xs)) (.ref l) (.list ds) := by
  have x : Ext G (upd G l (.lst xs)) := Ext.new (h.no List.mem_cons_self)
  exact ⟨x, h.freeze e, .lst (SqL.of upd_same) (dpa_mono x d)⟩
theorem dp_fix {G H : Hp} {L : Vo} {t : Addr} {xs : List V} {ds : List PyData} (h : Hd G H L) (e : H t = none) (d : DpAll K G xs ds) : Ext G (upd G t (.tup xs)) ∧ Hd (upd G t (.tup xs)) (upd H t (.tup xs)) L ∧ Dp K (upd G t (.tup xs)) (.ref t) (.tuple ds) := by
  have x : Ext G (upd G t (.tup xs)) := Ext.new (h.gno e)
  exact ⟨x, h.fix e, .tup (SqT.of upd_same) (dpa_mono x d)⟩
theorem dp_fixL {G H : Hp} {L : Vo} {t : Addr} {xs : List V} {ds : List PyData} (h : Hd G H L) (e : H t = none) (d : DpAll K G xs ds) : Ext G (upd G t (.lst xs)) ∧ Hd (upd G t (.lst xs)) (upd H t (.lst xs)) L ∧ Dp K (upd G t (.lst xs)) (.ref t) (.list ds) := by
  have x : Ext G (upd G t (.lst xs)) := Ext.new (h.gno e)
  exact ⟨x, h.fix e, .lst (SqL.of upd_same) (dpa_mono x d)⟩
end
end Mo
namespace Mo
open PySem PySem.Spec PyProof.Rows L2
/-! ### model.py -/
def spCopied (n : Nat) (K : PySem.W.Frag) : Sp := fun vs H Q _ => ∃ (G : Hp) (L : Vo) (a : Addr) (xs : List V) (ds : List Dd), vs = [.ref a] ∧ Hd G H L ∧ SqL K H a xs ∧ DdsIn K G H xs ds ∧ Dd.depths ds < n ∧ ds.length ≤ 1000 ∧ Dd.Sms ds ∧
  ∀ p G' H', Ext G G' → Ext H H' → Hd G' H' L → Dp K G' (.ref p) (.list (Dd.datas ds)) → Q (.ref p) H'
section
variable {P : Program} {w : World} {K : PySem.W.Frag} {mg : Str → Option Value} {base : Heap}
theorem ok_copied (T : Tx K mg) : ∀ n, OkG P w K mg base (n + 1) "copied" ["deeds"] (spCopied n K) := by
  intro n
  induction n with
  | zero =>
    refine T.f_copied.okX sc_copied (fun vs H Q E h => ?_) (fun cdv A outer s H vs Q E hr h => ?_)
    · obtain ⟨G, L, a, xs, ds, rfl, _⟩ := h
      rfl
    · obtain ⟨G, L, a, xs, ds, rfl, _, _, _, hd, _⟩ := h
      exact absurd hd (Nat.not_lt_zero _)
  | succ n G_copied =>
    refine T.f_copied.okX sc_copied (fun vs H Q E h => ?_) (fun cdv A outer s H vs Q E hr h => ?_)
    · obtain ⟨G, L, a, xs, ds, rfl, _⟩ := h
      rfl
    · have hu1 := hu_of hr; have hu0 := hr.units0; have hu64 := hr.units; have hu65 := hu65_of hr; have nd := sc_copied.nd
      obtain ⟨G, L, a, xs, ds, rfl, hH, hS, hD, hd, hl, hsm, q⟩ := h
      refine ⟨_, (pss_cons (ps_set (i := 1) nd rfl (Or.inl rfl) (pe_lst pa_nil))
      (pss_cons (ps_for (passes_of rfl) rfl (pi_seqK (K := K) rfl (pv 0)) (pg_name (i := 2) nd rfl (Or.inl rfl))
      (pss_one (ps_if (pt_cmpR (op_eqK (K := K) rfl hu64) (pe_ix (ix_anyK (K := K) rfl hu1) (pv 2) pe_int (fun _ _ => rfl)) pe_str (nomark _)) (pss_one (ps_expr (pe_bmK (K := K) rfl PySem.F.plainAttrs_list PySem.F.slot_list_append PySem.F.type_list_append mt_append (pv 1) (pa_cons (pe_tup (pa_cons pe_str (pa_cons (pe_ix (ix_anyK (K := K) rfl hu1) (pv 2) pe_int (fun _ _ => rfl)) (pa_cons (pcl T.g_copied G_copied hr (takes_of rfl rfl rfl rfl) (pa_cons (pe_ix (ix_anyK (K := K) rfl hu1) (pv 2) pe_int (fun _ _ => rfl)) pa_nil)) (pa_cons (pcl T.g_copied G_copied hr (takes_of rfl rfl rfl rfl) (pa_cons (pe_ix (ix_anyK (K := K) rfl hu1) (pv 2) pe_int (fun _ _ => rfl)) pa_nil)) pa_nil))))) pa_nil))))
      (pss_one (ps_if (pt_cmpR (op_eqK (K := K) rfl hu64) (pe_ix (ix_anyK (K := K) rfl hu1) (pv 2) pe_int (fun _ _ => rfl)) pe_str (nomark _)) (pss_one (ps_expr (pe_bmK (K := K) rfl PySem.F.plainAttrs_list PySem.F.slot_list_append PySem.F.type_list_append mt_append (pv 1) (pa_cons (pe_tup (pa_cons pe_str (pa_cons (pe_ix (ix_anyK (K := K) rfl hu1) (pv 2) pe_int (fun _ _ => rfl)) (pa_cons (pe_ix (ix_anyK (K := K) rfl hu1) (pv 2) pe_int (fun _ _ => rfl)) (pa_cons (pcl T.g_copied G_copied hr (takes_of rfl rfl rfl rfl) (pa_cons (pe_ix (ix_anyK (K := K) rfl hu1) (pv 2) pe_int (fun _ _ => rfl)) pa_nil)) pa_nil))))) pa_nil))))
      (pss_one (ps_expr (pe_bmK (K := K) rfl PySem.F.plainAttrs_list PySem.F.slot_list_append PySem.F.type_list_append mt_append (pv 1) (pa_cons (pv 2) pa_nil)))))))))
      (pss_one (ps_ret (pv 1))))), ?_⟩
      refine go_start (σ' := [some (.ref a), none, none]) rfl ?_
      have hlen := ddsIn_len hD
      walk_at "we"
      refine go_sz rfl fun l hl0 => ?_
      walk_at "we"
      refine go_sqL (ext_l (Ext.new hl0) hS) ?_
      refine loop_l (fun i σ H' => ∃ G' acc v, σ = [some (.ref a), some (.ref l), v] ∧ Ext G G' ∧ Ext H H' ∧ Hd G' H' ((l, Eq (.lst acc)) :: L) ∧ DpAll K G' acc (Dd.datas (ds.take i)))
        ⟨G, [], none, rfl, Ext.refl G, Ext.new hl0, hH.new hl0 rfl, by rw [List.take_zero, Dd.datas]; exact .nil⟩ (fun i σ' H' _ ⟨G', acc, v, _, _, eH, _⟩ => ext_l eH hS) ?_ ?_
      · rintro i x σ' H' hi ⟨G', acc, v, rfl, eG, eH, hH', hA⟩
        obtain ⟨d, hd1, hd2⟩ := ddsIn_get hD hi
        have hd3 := ddIn_mono eG eH hd2
        have hdep := depths_get hd1
        have hsm1 := sms_get hsm hd1
        have hacc : acc.length < sizeLine := by
          have e1 := dpa_len hA
          rw [datas_map, List.length_map, List.length_take] at e1
          rw [sizeLine_eq]
          omega
        have hlE : H' l = some (.lst acc) := hH'.eq List.mem_cons_self
        have htk : i + 1 ≤ ds.length → True := fun _ => True.intro
        obtain ⟨t, ts, rfl, ht⟩ := ddIn_head hH'.ex hd3
        -- the deed is put behind the others
        have fin : ∀ (G2 H2 : Hp) (y : V), Ext G' G2 → Ext H H2 → Hd G2 H2 ((l, Eq (.lst acc)) :: L) → Dp K G2 y d.data → ∃ G3 acc3 v3, [some (V.ref a), some (V.ref l), some (V.ref t)] = [some (.ref a), some (.ref l), v3] ∧ Ext G G3 ∧ Ext H (upd H2 l (.lst (acc ++ [y]))) ∧ Hd G3 (upd H2 l (.lst (acc ++ [y]))) ((l, Eq (.lst acc3)) :: L) ∧ DpAll K G3 acc3 (Dd.datas (ds.take (i + 1))) := fun G2 H2 y x1 x2 x3 x4 => by
          refine ⟨G2, acc ++ [y], _, rfl, eG.trans x1, x2.put (hl0), x3.set 0 rfl rfl, ?_⟩
          rw [datas_take hd1]
          exact dpa_app (dpa_mono x1 hA) (dpa_one x4)
        walk_at "we"
        refine go_subT ht (atI_nat (j := 0) rfl) ?_
        walk_at "we"
        refine go_eqs ?_
        walk_at "we"
        refine go_ite (fun hif => ?_) (fun nif => ?_)
        · obtain ⟨f, ones, others, a2, m1, m2, v2, vs2, ws2, rfl, e2, k1, k2, k3, k4, k5, k6⟩ := ddIn_if hd3 hif
          cases e2
          rw [Dd.depth] at hdep
          have hdep' : max (Dd.depths ones) (Dd.depths others) + 1 < n + 1 := by omega
          rw [Dd.Sm] at hsm1
          walk_at "we"
          refine go_tyL (SqL.of hlE) ?_
          walk_at "we"
          refine go_subT k1 rfl ?_
          walk_at "we"
          refine go_subT k1 rfl ?_
          walk_at "we"
          refine ⟨G', _, m1, vs2, ones, rfl, hH', k3, k4, by omega, hsm1.1.1, hsm1.1.2, fun p1 G1 H1 x1 y1 z1 w1 => ?_⟩
          walk_at "we"
          refine go_subT (ext_t y1 k1) rfl ?_
          walk_at "we"
          refine ⟨G1, _, m2, ws2, others, rfl, z1, ext_l y1 k5, ddsIn_mono x1 y1 k6, by omega, hsm1.2.1, hsm1.2.2, fun p2 G2 H2 x2 y2 z2 w2 => ?_⟩
          walk_at "we"
          refine go_sz rfl fun t2 ht2 => ?_
          obtain ⟨x3, z3, w3⟩ := dp_fix (K := K) (xs := [.str "if", v2, .ref p1, .ref p2]) (ds := [.str "if", f.data, .list (Dd.datas ones), .list (Dd.datas others)]) z2 ht2 (.cons (.str _) (.cons (dp_mono (x1.trans x2) k2) (.cons (dp_mono x2 w1) (.cons w2 .nil))))
          walk_at "we"
          refine go_app (z3.eq List.mem_cons_self) hacc ?_
          exact fin _ _ _ ((x1.trans x2).trans x3) (((eH.trans y1).trans y2).trans (Ext.new ht2)) z3 w3
        · walk_at "we"
          refine go_subT ht (atI_nat (j := 0) rfl) ?_
          walk_at "we"
          refine go_eqs ?_
          walk_at "we"
          refine go_ite (fun hpu => ?_) (fun npu => ?_)
          · obtain ⟨qq, b2, ds2, a2, m1, vs2, rfl, e2, k1, k3, k4⟩ := ddIn_pull hd3 hpu
            cases e2
            rw [Dd.depth] at hdep
            rw [Dd.Sm] at hsm1
            walk_at "we"
            refine go_tyL (SqL.of hlE) ?_
            walk_at "we"
            refine go_subT k1 rfl ?_
            walk_at "we"
            refine go_subT k1 rfl ?_
            walk_at "we"
            refine go_subT k1 rfl ?_
            walk_at "we"
            refine ⟨G', _, m1, vs2, ds2, rfl, hH', k3, k4, by omega, hsm1.1, hsm1.2, fun p1 G1 H1 x1 y1 z1 w1 => ?_⟩
            walk_at "we"
            refine go_sz rfl fun t2 ht2 => ?_
            obtain ⟨x3, z3, w3⟩ := dp_fix (K := K) (xs := [.str "pull", .str qq, .str b2, .ref p1]) (ds := [.str "pull", .str qq, .str b2, .list (Dd.datas ds2)]) z1 ht2 (.cons (.str _) (.cons (.str _) (.cons (.str _) (.cons w1 .nil))))
            walk_at "we"
            refine go_app (z3.eq List.mem_cons_self) hacc ?_
            exact fin _ _ _ (x1.trans x3) ((eH.trans y1).trans (Ext.new ht2)) z3 w3
          · walk_at "we"
            refine go_tyL (SqL.of hlE) ?_
            walk_at "we"
            refine go_app hlE hacc ?_
            exact fin _ _ _ (Ext.refl _) eH hH' (ddIn_plain hd3 nif npu)
      · rintro σ' H' ⟨G', acc, v, rfl, eG, eH, hH', hA⟩
        walk_at "we"
        rw [List.take_of_length_le (by omega)] at hA
        obtain ⟨x1, x2, x3⟩ := dp_freeze hH' (hH'.eq List.mem_cons_self) hA
        exact q l _ H' (eG.trans x1) eH x2 x3
/-! #### a machine, copied; a model made; first states -/
def spCopiedMachine (n : Nat) (K : PySem.W.Frag) : Sp := fun vs H Q _ => ∃ (G : Hp) (L : Vo) (x : V) (m : Mach), vs = [x] ∧ Hd G H L ∧ MachIn K G H x m ∧ m.depth < n ∧ m.Sm ∧
  ∀ y G' H', Ext G G' → Ext H H' → Hd G' H' L → Dp K G' y m.data → Q y H'
theorem ok_copied_machine (T : Tx K mg) (n : Nat) : OkG P w K mg base (n + 2) "copied_machine" ["machine"] (spCopiedMachine n K) := by
  have G_copied := ok_copied (P := P) (w := w) (base := base) T n
  refine T.f_copied_machine.okX sc_copied_machine (fun vs H Q E h => ?_) (fun cdv A outer s H vs Q E hr h => ?_)
  · obtain ⟨G, L, x, m, rfl, _⟩ := h
    rfl
  · have hu1 := hu_of hr; have hu0 := hr.units0; have hu64 := hr.units; have hu65 := hu65_of hr; have nd := sc_copied_machine.nd
    obtain ⟨G, L, x, m, rfl, hH, hM, hd, hsm, q⟩ := h
    refine ⟨_, (pss_cons (ps_asg (pv 0) (pg_tupK (K := K) (n := 5) rfl rfl (pgs_cons (pg_name (i := 1) nd rfl (Or.inl rfl)) (pgs_cons (pg_name (i := 2) nd rfl (Or.inl rfl)) (pgs_cons (pg_name (i := 3) nd rfl (Or.inl rfl)) (pgs_cons (pg_name (i := 4) nd rfl (Or.inl rfl)) (pgs_cons (pg_name (i := 5) nd rfl (Or.inl rfl)) pgs_nil))))) rfl rfl))
      (pss_one (ps_ret (pe_tup (pa_cons (pv 1) (pa_cons (pe_callTy (call_listK (K := K) rfl) (by rfl) T.b_list (by decide +kernel) (pa_cons (pv 2) pa_nil)) (pa_cons (pe_callTy (call_listK (K := K) rfl) (by rfl) T.b_list (by decide +kernel) (pa_cons (pv 3) pa_nil)) (pa_cons (pe_callTy (call_listK (K := K) rfl) (by rfl) T.b_list (by decide +kernel) (pa_cons (pv 4) pa_nil)) (pa_cons (pe_lc (own := [("sign", 6), ("deeds", 7)]) rfl nd (pi_seqK (K := K) rfl (pv 5)) (blkOk_by (own := [("sign", 6), ("deeds", 7)]) (N := nm_copied_machine) (sc := defScope s_copied_machine) (by decide +kernel)) (fun _ _ _ _ _ => (pg_tupK (K := K) (n := 2) rfl rfl (pgs_cons (pg_name (i := 6) nd rfl (Or.inl rfl) (Or.inr rfl)) (pgs_cons (pg_name (i := 7) nd rfl (Or.inl rfl) (Or.inr rfl)) pgs_nil)) rfl rfl)) (fun _ _ _ _ _ => pts_nil) (fun _ _ _ _ _ => (pe_tup (pa_cons (pv 6) (pa_cons (pcl T.g_copied G_copied hr takes0 (pa_cons (pv 7) pa_nil)) pa_nil))))) pa_nil))))))))), ?_⟩
    refine go_start (σ' := [some x, none, none, none, none, none, none, none]) rfl ?_
    obtain ⟨a, lb, lq, ld, lh, rfl, ht, hb, hq, hdr, vs, hh, hhs⟩ := hM
    walk_at "we"
    refine go_gtup ht rfl ?_
    walk_at "we"
    obtain ⟨vb, hb1, hb2⟩ := hb
    have hlb := dpa_len hb2
    rw [List.length_map] at hlb
    refine go_listL hb1 fun p1 hp1 => ?_
    obtain ⟨x1, z1, w1⟩ := dp_freeze (K := K) (hH.new hp1 (φ := Eq (.lst vb)) rfl) upd_same hb2
    walk_at "we"
    refine go_listL (ext_l (Ext.new hp1) hq) fun p2 hp2 => ?_
    obtain ⟨x2, z2, w2⟩ := dp_freeze (K := K) (z1.new hp2 (φ := Eq (.lst (m.queues.map V.str))) rfl) upd_same (dpa_strs _)
    walk_at "we"
    refine go_listL (ext_l ((Ext.new hp1).trans (Ext.new hp2)) hdr) fun p3 hp3 => ?_
    obtain ⟨x3, z3, w3⟩ := dp_freeze (K := K) (z2.new hp3 (φ := Eq (.lst (m.draws.map V.int))) rfl) upd_same (dpa_ints _)
    have e3 := ((Ext.new (o := .lst vb) hp1).trans (Ext.new (o := .lst (m.queues.map V.str)) hp2)).trans (Ext.new (o := .lst (m.draws.map V.int)) hp3)
    walk_at "we"
    refine go_sqL (ext_l e3 hh) (go_lcA fun Dl hD => ?_)
    obtain ⟨H3, eH3⟩ : ∃ H3, H3 = upd (upd (upd H p1 (.lst vb)) p2 (.lst (m.queues.map V.str))) p3 (.lst (m.draws.map V.int)) := ⟨_, rfl⟩
    obtain ⟨G3, eG3⟩ : ∃ G3, G3 = upd (upd (upd G p1 (.lst vb)) p2 (.lst (m.queues.map V.str))) p3 (.lst (m.draws.map V.int)) := ⟨_, rfl⟩
    rw [← eH3, ← eG3] at z3
    rw [← eG3] at x3 w3
    rw [← eH3] at e3 hD ⊢
    have xG := (x1.trans x2).trans x3
    refine lcx_l (fun i H' => ∃ G' acc, Ext G3 G' ∧ Ext H3 H' ∧ Hd G' H' ((Dl, Eq (.lst acc)) :: L) ∧ acc.length = i ∧ DpAll K G' acc ((m.hears.take i).map hearD))
      ⟨G3, [], Ext.refl _, Ext.new hD, z3.new hD rfl, rfl, .nil⟩ (fun i H' _ ⟨G', acc, _, eH, _⟩ => ext_l (e3.trans eH) hh) ?_ ?_
    · rintro i x H' hi ⟨G', acc, eG, eH, hH', hlen, hA⟩
      obtain ⟨hh2, hh3⟩ := hhs
      obtain ⟨t, l, ws, p, rfl, t1, l1, d1, hp⟩ := hh3 i x hi
      have e4 := e3.trans eH
      have hdp : Dd.depths p.2 < n := Nat.lt_of_le_of_lt (Mach.depth_get hp) hd
      have hsm2 := hsm.deeds p (List.mem_of_getElem? hp)
      have hlt : i < m.hears.length := (List.getElem?_eq_some_iff.mp hp).1
      refine go_gtup (ext_t e4 t1) rfl ?_
      walk_at "we"
      refine ⟨rfl, ?_⟩
      walk_at "we"
      refine ⟨G', _, l, ws, p.2, rfl, hH', ext_l e4 l1, ddsIn_mono (xG.trans eG) e4 d1, hdp, hsm2.1, hsm2.2, fun p4 G4 H4 x4 y4 z4 w4 => ?_⟩
      walk_at "we"
      refine go_sz rfl fun t2 ht2 => ?_
      obtain ⟨x5, z5, w5⟩ := dp_fix (K := K) (xs := [.str p.1, .ref p4]) (ds := [.str p.1, .list (Dd.datas p.2)]) z4 ht2 (.cons (.str _) (.cons w4 .nil))
      refine ⟨acc, z5.eq List.mem_cons_self, by rw [hlen, sizeLine_eq]; have := hsm.hears; omega, _, acc ++ [.ref t2], (eG.trans x4).trans x5, ((eH.trans y4).trans (Ext.new ht2)).put hD, z5.set 0 rfl rfl, by rw [List.length_append, hlen, List.length_singleton], ?_⟩
      rw [List.take_add_one, hp, List.map_append]
      exact dpa_app (dpa_mono (x4.trans x5) hA) (dpa_one w5)
    · rintro H' ⟨G', acc, eG, eH, hH', hlen, hA⟩
      rw [hhs.1, List.take_of_length_le (Nat.le_refl _)] at hA
      obtain ⟨x6, z6, w6⟩ := dp_freeze (K := K) hH' (hH'.eq List.mem_cons_self) hA
      walk_at "we"
      refine go_sz rfl fun t2 ht2 => ?_
      have y1 := (x2.trans x3).trans (eG.trans x6)
      obtain ⟨x7, z7, w7⟩ := dp_fix (K := K) (xs := [.str m.name, .ref p1, .ref p2, .ref p3, .ref Dl]) (ds := [.str m.name, .list (m.boxes.map boxD), .list (m.queues.map PyData.str), .list (m.draws.map PyData.int), .list (m.hears.map hearD)]) z6 ht2
        (.cons (.str _) (.cons (dp_mono y1 w1) (.cons (dp_mono (x3.trans (eG.trans x6)) w2) (.cons (dp_mono (eG.trans x6) w3) (.cons w6 .nil)))))
      exact q _ _ _ (((xG.trans eG).trans x6).trans x7) ((e3.trans eH).trans (Ext.new ht2)) z7 w7
/-- a model's object -/
def ModelAt (K : PySem.W.Frag) (H : Hp) (p dx l : Addr) : Prop := H p = some (.ins (He.ga K "Model") dx (fl_Model (.ref l)))
def spModelInit (n : Nat) (K : PySem.W.Frag) : Sp := fun vs H Q _ => ∃ (G : Hp) (L : Vo) (p dx a : Addr) (xs : List V) (ms : List Mach), vs = [.ref p, .ref a] ∧ Hd G H ((p, Eq (.ins (He.ga K "Model") dx [])) :: L) ∧ SqL K H a xs ∧ xs.length = ms.length ∧
  (∀ (i : Nat) (x : V) (m : Mach), xs[i]? = some x → ms[i]? = some m → MachIn K G H x m) ∧ (∀ m ∈ ms, m.depth < n ∧ m.Sm) ∧ ms.length ≤ 1000 ∧
  ∀ l G' H', Ext G G' → (∀ b o, H b = some o → b ≠ p → H' b = some o) → Hd G' H' ((p, Eq (.ins (He.ga K "Model") dx (fl_Model (.ref l)))) :: L) → Dp K G' (.ref l) (.list (ms.map Mach.data)) → Q .non H'
theorem ok_Model_init (T : Tx K mg) (n : Nat) : OkM P w K mg base (n + 3) "Model" "__init__" ["self", "machines"] (spModelInit n K) := by
  have G_copied_machine := ok_copied_machine (P := P) (w := w) (base := base) T n
  refine T.f_Model_init.okX sc_Model_init (fun vs H Q E h => ?_) (fun cdv A outer s H vs Q E hr h => ?_)
  · obtain ⟨G, L, p, dx, a, xs, ms, rfl, _⟩ := h
    rfl
  · have hu1 := hu_of hr; have hu0 := hr.units0; have hu64 := hr.units; have hu65 := hu65_of hr; have nd := sc_Model_init.nd
    obtain ⟨G, L, p, dx, a, xs, ms, rfl, hH, hS, hxl, hM, hd, hml, q⟩ := h
    refine ⟨_, (pss_one (ps_fldK (K := K) rfl (pv 0) (pe_lc (own := [("machine", 2)]) rfl nd (pi_seqK (K := K) rfl (pv 1)) (blkOk_by (own := [("machine", 2)]) (N := nm_Model_init) (sc := defScope s_Model_init) (by decide +kernel)) (fun _ _ _ _ _ => (pg_name (i := 2) nd rfl (Or.inl rfl) (Or.inr rfl))) (fun _ _ _ _ _ => pts_nil) (fun _ _ _ _ _ => (pcl T.g_copied_machine G_copied_machine hr takes0 (pa_cons (pv 2) pa_nil)))) rfl)), ?_⟩
    refine go_start (σ' := [some (.ref p), some (.ref a), none]) rfl ?_
    walk_at "we"
    refine go_sqL hS (go_lcA fun Dl hD => ?_)
    refine lcx_l (fun i H' => ∃ G' acc, Ext G G' ∧ Ext H H' ∧ Hd G' H' ((Dl, Eq (.lst acc)) :: (p, Eq (.ins (He.ga K "Model") dx [])) :: L) ∧ acc.length = i ∧ DpAll K G' acc ((ms.take i).map Mach.data))
      ⟨G, [], Ext.refl _, Ext.new hD, hH.new hD rfl, rfl, .nil⟩ (fun i H' _ ⟨G', acc, _, eH, _⟩ => ext_l eH hS) ?_ ?_
    · rintro i x H' hi ⟨G', acc, eG, eH, hH', hlen, hA⟩
      have hlt : i < ms.length := by rw [← hxl]; exact (List.getElem?_eq_some_iff.mp hi).1
      have hm : ms[i]? = some ms[i] := List.getElem?_eq_getElem hlt
      obtain ⟨h1, h2⟩ := hd _ (List.getElem_mem hlt)
      walk_at "we"
      refine ⟨rfl, ?_⟩
      walk_at "we"
      refine ⟨G', _, x, ms[i], rfl, hH', machIn_mono eG eH (hM i x _ hi hm), h1, h2, fun y G4 H4 x4 y4 z4 w4 => ?_⟩
      walk_at "we"
      refine ⟨acc, z4.eq List.mem_cons_self, by rw [hlen, sizeLine_eq]; omega, _, acc ++ [y], eG.trans x4, (eH.trans y4).put hD, z4.set 0 rfl rfl, by rw [List.length_append, hlen, List.length_singleton], ?_⟩
      rw [List.take_add_one, hm, List.map_append]
      exact dpa_app (dpa_mono x4 hA) (dpa_one w4)
    · rintro H' ⟨G', acc, eG, eH, hH', hlen, hA⟩
      rw [hxl, List.take_of_length_le (Nat.le_refl _)] at hA
      obtain ⟨x6, z6, w6⟩ := dp_freeze (K := K) hH' (hH'.eq List.mem_cons_self) hA
      walk_at "we"
      refine go_sfldL (z6.eq List.mem_cons_self) T.c_Model T.n_Model_machines rfl ?_
      refine q Dl _ _ (eG.trans x6) (fun b o hb hn => by rw [upd_ne hn]; exact eH b o hb) ?_ w6
      have z7 := z6.set (o' := .ins (He.ga K "Model") dx (putF "machines" (.ref Dl) [])) (ψ := Eq (.ins (He.ga K "Model") dx (fl_Model (.ref Dl)))) 0 rfl (by rw [in_Model_0]; rfl)
      exact z7
def spStateInit (K : PySem.W.Frag) : Sp := fun vs H Q _ => ∃ (p dx : Addr) (a b c d : V), vs = [.ref p, a, b, c, d] ∧ H p = some (.ins (He.ga K "State") dx []) ∧ Q .non (upd H p (.ins (He.ga K "State") dx (fl_State a b c d)))
theorem ok_State_init (T : Tx K mg) : OkM P w K mg base 1 "State" "__init__" ["self", "boxes", "queues", "drawn", "sent"] (spStateInit K) := by
  refine T.f_State_init.okX sc_State_init (fun vs H Q E h => ?_) (fun cdv A outer s H vs Q E hr h => ?_)
  · obtain ⟨p, dx, a, b, c, d, rfl, _⟩ := h
    rfl
  · have hu1 := hu_of hr; have hu0 := hr.units0; have hu64 := hr.units; have hu65 := hu65_of hr; have nd := sc_State_init.nd
    obtain ⟨p, dx, a, b, c, d, rfl, hp, q⟩ := h
    refine ⟨_, (pss_cons (ps_fldK (K := K) rfl (pv 0) (pv 1) rfl)
      (pss_cons (ps_fldK (K := K) rfl (pv 0) (pv 2) rfl)
      (pss_cons (ps_fldK (K := K) rfl (pv 0) (pv 3) rfl)
      (pss_one (ps_fldK (K := K) rfl (pv 0) (pv 4) rfl))))), ?_⟩
    refine go_start (σ' := [some (.ref p), some a, some b, some c, some d]) rfl ?_
    walk_at "we"
    refine go_sfldL hp T.c_State T.n_State_boxes rfl ?_
    rw [in_State_0]
    walk_at "we"
    refine go_sfldL upd_same T.c_State T.n_State_queues rfl ?_
    rw [upd_upd, in_State_1]
    walk_at "we"
    refine go_sfldL upd_same T.c_State T.n_State_drawn rfl ?_
    rw [upd_upd, in_State_2]
    walk_at "we"
    refine go_sfldL upd_same T.c_State T.n_State_sent rfl ?_
    rw [upd_upd, in_State_3]
    exact q
/-- a model that stays: its object, its machines -/
structure ModelG (K : PySem.W.Frag) (G : Hp) (p : Addr) (ms : List Mach) : Prop where
  there : ∃ dx l, G p = some (.ins (He.ga K "Model") dx (fl_Model (.ref l))) ∧ Dp K G (.ref l) (.list (ms.map Mach.data))
theorem ModelG.mono {G G' : Hp} {p : Addr} {ms : List Mach} (h : ModelG K G p ms) (e : Ext G G') : ModelG K G' p ms :=
  let ⟨dx, l, h1, h2⟩ := h.there
  ⟨dx, l, e _ _ h1, dp_mono e h2⟩
/-- its names are unlike -/
structure Mach.Nd (m : Mach) : Prop where
  boxes : (m.boxes.map (·.1)).Nodup
  queues : m.queues.Nodup
theorem perm_back {α : Type} (z c b : α) (E L : List α) : (z :: c :: b :: (E ++ L)).Perm (c :: b :: (E ++ (z :: L))) :=
  (List.perm_middle (a := z) (l₁ := c :: b :: E) (l₂ := L)).symm
def spFirst (K : PySem.W.Frag) : Sp := fun vs H Q _ => ∃ (G : Hp) (L : Vo) (pm : Addr) (ms : List Mach) (i : Nat) (m : Mach), vs = [.ref pm, .int (i : Int)] ∧ Hd G H L ∧ ModelG K G pm ms ∧ ms[i]? = some m ∧ m.Nd ∧ m.Sm ∧
  ∀ p dx b q as H', as.length = m.queues.length → Ext H H' → Hd G H' (vo (StC K p dx b q as m.first) ++ L) → Q (.ref p) H'
theorem ok_first_state (T : Tx K mg) : OkG P w K mg base 3 "first_state" ["model", "at"] (spFirst K) := by
  have G_State_init := ok_State_init (P := P) (w := w) (base := base) T
  refine T.f_first_state.okX sc_first_state (fun vs H Q E h => ?_) (fun cdv A outer s H vs Q E hr h => ?_)
  · obtain ⟨G, L, pm, ms, i, m, rfl, _⟩ := h
    rfl
  · have hu1 := hu_of hr; have hu0 := hr.units0; have hu64 := hr.units; have hu65 := hu65_of hr; have nd := sc_first_state.nd
    obtain ⟨G, L, pm, ms, i, m, rfl, hH, hM, hm, hnd, hsm, q⟩ := h
    refine ⟨_, (pss_cons (ps_set (i := 2) nd rfl (Or.inl rfl) pe_dnew)
      (pss_cons (ps_for (passes_of rfl) rfl (pi_seqK (K := K) rfl (pe_ix (ix_anyK (K := K) rfl hu1) (pe_ix (ix_anyK (K := K) rfl hu1) (pe_fldK (K := K) rfl (pv 0) rfl) (pv 1) (fun _ _ => rfl)) pe_int (fun _ _ => rfl))) (pg_tupK (K := K) (n := 2) rfl rfl (pgs_cons (pg_name (i := 3) nd rfl (Or.inl rfl)) (pgs_cons (pg_name (i := 4) nd rfl (Or.inl rfl)) pgs_nil)) rfl rfl)
      (pss_one (ps_asg (pv 4) (pg_sub (pv 2) (pv 3) (set_any hu1)))))
      (pss_cons (ps_set (i := 5) nd rfl (Or.inl rfl) pe_dnew)
      (pss_cons (ps_for (passes_of rfl) rfl (pi_seqK (K := K) rfl (pe_ix (ix_anyK (K := K) rfl hu1) (pe_ix (ix_anyK (K := K) rfl hu1) (pe_fldK (K := K) rfl (pv 0) rfl) (pv 1) (fun _ _ => rfl)) pe_int (fun _ _ => rfl))) (pg_name (i := 3) nd rfl (Or.inl rfl))
      (pss_one (ps_asg (pe_lst pa_nil) (pg_sub (pv 5) (pv 3) (set_any hu1)))))
      (pss_one (ps_ret (pmkK (K := K) rfl T.k_State G_State_init hr (takes_of rfl rfl rfl rfl) (pa_cons (pv 2) (pa_cons (pv 5) (pa_cons pe_int (pa_cons pe_int pa_nil))))))))))), ?_⟩
    refine go_start (σ' := [some (.ref pm), some (.int (i : Int)), none, none, none, none]) rfl ?_
    obtain ⟨dxm, lm, hpm, hDm⟩ := hM.there
    have eG := hH.ex
    have hmi : (ms.map Mach.data)[i]? = some m.data := by rw [List.getElem?_map, hm]; rfl
    walk_at "we"
    refine go_dK fun b hb => ?_
    have z1 := hH.new hb (φ := Eq (.dK (boxesV []))) rfl
    walk_at "we"
    refine go_fldL (z1.ex _ _ hpm) T.c_Model T.n_Model_machines lk_Model_machines ?_
    walk_at "we"
    refine go_gL z1.ex hDm (n := i) rfl hmi fun vm hvm => ?_
    unfold Mach.data at hvm
    walk_at "we"
    refine go_gT z1.ex hvm (n := 1) rfl rfl fun vb hvb => ?_
    obtain ⟨lb, bs, rfl, hlb, hbs⟩ := dp_lst hvb
    have hbl := dpa_len hbs
    rw [List.length_map] at hbl
    walk_at "we"
    refine go_sqL (ext_l z1.ex hlb) ?_
    refine loop_l (xs := bs) (fun j σ H' => ∃ v1 v2, σ = [some (.ref pm), some (.int (i : Int)), some (.ref b), v1, v2, none] ∧ Ext H H' ∧ Hd G H' ((b, Eq (.dK (boxesV (m.boxes.take j)))) :: L))
      ⟨none, none, rfl, Ext.new hb, z1⟩ ?_ ?_ ?_
    · rintro j σ' H' _ ⟨v1, v2, _, e1, e2⟩
      exact ext_l e2.ex hlb
    · rintro j x σ' H' hj ⟨v1, v2, rfl, e1, e2⟩
      obtain ⟨d, hd1, hd2⟩ := dpa_get' hbs hj
      rw [List.getElem?_map] at hd1
      cases hbx : m.boxes[j]? with
      | none => rw [hbx] at hd1; cases hd1
      | some bx =>
        rw [hbx] at hd1
        obtain rfl := Option.some.inj hd1
        unfold boxD at hd2
        obtain ⟨t, ts, rfl, ht, hts⟩ := dp_tup hd2
        cases hts with
        | cons f1 hts => cases hts with
          | cons f2 hts =>
            cases hts
            obtain rfl := dp_str f1
            obtain rfl := dp_int f2
            have hlt : j < m.boxes.length := (List.getElem?_eq_some_iff.mp hbx).1
            have hnin : bx.1 ∉ (m.boxes.take j).map (·.1) := by
              rw [List.map_take]
              exact nodup_take hnd.boxes (by rw [List.getElem?_map, hbx]; rfl)
            refine go_gtup (ext_t e2.ex ht) rfl ?_
            walk_at "we"
            refine go_setK (e2.eq List.mem_cons_self) (by unfold boxesV; rw [List.length_map, List.length_take, sizeLine_eq]; have := hsm.boxes; omega) ?_
            rw [boxesV_put hnin]
            refine ⟨_, _, rfl, e1.put hb, ?_⟩
            have et : m.boxes.take j ++ [(bx.1, bx.2)] = m.boxes.take (j + 1) := by rw [List.take_add_one, hbx]; rfl
            rw [et]
            exact e2.set 0 rfl rfl
    · rintro σ' H1 ⟨v1, v2, rfl, e1, e2⟩
      rw [hbl, List.take_of_length_le (Nat.le_refl _)] at e2
      walk_at "we"
      refine go_dK fun c hc => ?_
      have z2 := e2.new hc (φ := Eq (.dK (queuesV [] []))) rfl
      have hcH := e1.free hc
      walk_at "we"
      refine go_fldL (z2.ex _ _ hpm) T.c_Model T.n_Model_machines lk_Model_machines ?_
      walk_at "we"
      refine go_gL z2.ex hDm (n := i) rfl hmi fun vm' hvm' => ?_
      unfold Mach.data at hvm'
      walk_at "we"
      refine go_gT z2.ex hvm' (n := 2) rfl rfl fun vq hvq => ?_
      obtain ⟨lq, qs, rfl, hlq, hqs⟩ := dp_lst hvq
      obtain rfl := dpa_strs' hqs
      walk_at "we"
      refine go_sqL (ext_l z2.ex hlq) ?_
      refine loop_l (xs := m.queues.map V.str) (fun j σ H' => ∃ v1 v2 as, σ = [some (.ref pm), some (.int (i : Int)), some (.ref b), v1, v2, some (.ref c)] ∧ as.length = min j m.queues.length ∧ Ext H H' ∧
          Hd G H' ((c, Eq (.dK (queuesV ((m.queues.take j).map fun q => (q, [])) as))) :: (b, Eq (.dK (boxesV m.boxes))) :: ((((m.queues.take j).map fun q => (q, ([] : List Int))).zip as).map fun e => (e.2, Eq (HO.lst (e.1.2.map V.int)))) ++ L))
        ⟨_, _, [], rfl, by simp, e1.trans (Ext.new hc), z2⟩ ?_ ?_ ?_
      · rintro j σ' H' _ ⟨v1, v2, as, _, _, _, e4⟩
        exact ext_l e4.ex hlq
      · rintro j x σ' H' hj ⟨v1, v2, as, rfl, hal, e3, e4⟩
        rw [List.getElem?_map] at hj
        cases hqx : m.queues[j]? with
        | none => rw [hqx] at hj; cases hj
        | some qx =>
          rw [hqx] at hj
          obtain rfl := Option.some.inj hj
          have hlt : j < m.queues.length := (List.getElem?_eq_some_iff.mp hqx).1
          have htl : (m.queues.take j).length = as.length := by rw [List.length_take, hal]
          have hnin : qx ∉ ((m.queues.take j).map fun q => (q, ([] : List Int))).map (·.1) := by
            rw [List.map_map]
            have ee : ((·.1) ∘ fun q => (q, ([] : List Int))) = (id : Str → Str) := rfl
            rw [ee, List.map_id]
            exact nodup_take hnd.queues hqx
          walk_at "we"
          refine go_sz rfl fun z hz => ?_
          walk_at "we"
          have z3 := e4.new hz (φ := Eq (.lst [])) rfl
          refine go_setK (z3.eq (List.mem_cons_of_mem _ List.mem_cons_self)) (by unfold queuesV; rw [List.length_map, List.length_zip, List.length_map, List.length_take, sizeLine_eq]; have := hsm.queues; omega) ?_
          rw [queuesV_put (ns := []) (by rw [List.length_map]; exact htl) hnin]
          have et : ((m.queues.take j).map fun q => (q, ([] : List Int))) ++ [(qx, [])] = (m.queues.take (j + 1)).map fun q => (q, []) := by rw [List.take_add_one, hqx, List.map_append]; rfl
          rw [et]
          refine ⟨_, _, as ++ [z], rfl, by rw [List.length_append, hal, List.length_singleton]; omega, (e3.trans (Ext.new hz)).put hcH, ?_⟩
          have z4 := z3.set (o' := .dK (queuesV ((m.queues.take (j + 1)).map fun q => (q, [])) (as ++ [z]))) (ψ := Eq (.dK (queuesV ((m.queues.take (j + 1)).map fun q => (q, [])) (as ++ [z])))) 1 rfl rfl
          refine z4.perm ?_
          rw [← et, List.zip_append (by rw [List.length_map]; exact htl), List.map_append]
          simp only [List.cons_append, List.set_cons_succ, List.set_cons_zero, List.append_assoc]
          exact (perm_back _ _ _ _ _).symm
      · rintro σ' H2 ⟨v1, v2, as, rfl, hal, e3, e4⟩
        rw [List.length_map, List.take_of_length_le (Nat.le_refl _)] at e4
        rw [List.length_map] at hal
        walk_at "we"
        intro p dx np ndx nex
        refine ⟨p, dx, _, _, _, _, rfl, upd_same, ?_⟩
        refine ⟨rfl, ?_⟩
        rw [upd_upd]
        refine q p dx b c as _ (by omega) (e3.trans (Ext.made np ndx)) ?_
        have z5 := e4.made (φ := Eq (.ins (He.ga K "State") dx (fl_State (.ref b) (.ref c) (.int 0) (.int 0)))) np ndx nex rfl
        unfold StC vo
        simp only [List.map_cons, List.map_map, List.cons_append]
        simp only [List.cons_append] at z5
        exact z5.perm (.cons _ (.swap _ _ _))
end
end Mo
namespace Mo
open PySem PySem.Spec PyProof.Rows L2
/-! ### a state that changes -/
def setA {α : Type} (x : Str) (v : α) (l : List (Str × α)) : List (Str × α) := l.map fun p => if p.1 = x then (x, v) else p
theorem setA_keys {α : Type} (x : Str) (v : α) (l : List (Str × α)) : (setA x v l).map (·.1) = l.map (·.1) := by
  unfold setA
  rw [List.map_map]
  refine List.map_congr_left fun p _ => ?_
  show (if p.1 = x then (x, v) else p).1 = p.1
  split
  · rename_i h; exact h.symm
  · rfl
theorem setA_len {α : Type} (x : Str) (v : α) (l : List (Str × α)) : (setA x v l).length = l.length := List.length_map ..
theorem lookD_set {α : Type} {d v : α} {x y : Str} : ∀ {l : List (Str × α)}, x ∈ l.map (·.1) → lookD d y (setA x v l) = if y = x then v else lookD d y l
  | [], h => by simp at h
  | p :: r, h => by
    by_cases e : p.1 = x
    · have e1 : setA x v (p :: r) = (x, v) :: setA x v r := by unfold setA; rw [List.map_cons, if_pos e]
      rw [e1]
      show (if x = y then v else lookD d y (setA x v r)) = if y = x then v else (if p.1 = y then p.2 else lookD d y r)
      by_cases f : y = x
      · rw [if_pos f.symm, if_pos f]
      · rw [if_neg (fun z => f z.symm), if_neg f, if_neg (fun z => f (by rw [← z, e]))]
        by_cases g : x ∈ r.map (·.1)
        · rw [lookD_set g, if_neg f]
        · have : setA x v r = r := by
            unfold setA
            conv => rhs; rw [← List.map_id r]
            refine List.map_congr_left fun q hq => ?_
            rw [if_neg]
            · rfl
            · intro z
              exact g (by rw [← z]; exact List.mem_map_of_mem hq)
          rw [this]
    · have e1 : setA x v (p :: r) = p :: setA x v r := by unfold setA; rw [List.map_cons, if_neg e]
      rw [List.map_cons, List.mem_cons] at h
      have h2 := h.resolve_left fun z => e z.symm
      rw [e1]
      show (if p.1 = y then p.2 else lookD d y (setA x v r)) = if y = x then v else (if p.1 = y then p.2 else lookD d y r)
      rw [lookD_set h2]
      by_cases f : p.1 = y
      · rw [if_pos f, if_pos f, if_neg (fun z => e (by rw [f, z]))]
      · rw [if_neg f, if_neg f]
theorem boxesV_set {bs : List (Str × Int)} {x : Str} {n : Int} (h : x ∈ bs.map (·.1)) : putK (boxesV bs) (Sum.inr x) (.int n) = boxesV (setA x n bs) := by
  unfold putK
  rw [valV_any, val_boxes h, Option.isSome_some, if_pos rfl]
  unfold boxesV setA
  rw [List.map_map, List.map_map]
  refine List.map_congr_left fun p _ => ?_
  show (if (Sum.inr p.1 : Key) = Sum.inr x then ((Sum.inr p.1 : Key), V.int n) else (Sum.inr p.1, V.int p.2)) = ((Sum.inr (if p.1 = x then (x, n) else p).1 : Key), V.int (if p.1 = x then (x, n) else p).2)
  by_cases e : p.1 = x
  · rw [if_pos e, if_pos (by rw [e]), e]
  · rw [if_neg e, if_neg (fun z => e (Sum.inr.inj z))]
theorem queuesV_set {qs : List (Str × List Int)} {as : List Addr} {x : Str} {ns : List Int} : queuesV (setA x ns qs) as = queuesV qs as := by
  unfold queuesV setA
  rw [List.zip_map_left, List.map_map]
  refine List.map_congr_left fun p _ => ?_
  show ((Sum.inr (if p.1.1 = x then (x, ns) else p.1).1 : Key), V.ref p.2) = (Sum.inr p.1.1, V.ref p.2)
  split
  · rename_i h; rw [h]
  · rfl
def MSt.setB (s : MSt) (x : Str) (n : Int) : MSt := { s with boxes := setA x n s.boxes }
def MSt.setQ (s : MSt) (x : Str) (ns : List Int) : MSt := { s with queues := setA x ns s.queues }
theorem MSt.setB_bs (s : MSt) (x : Str) (n : Int) : (s.setB x n).bs = s.bs := setA_keys ..
theorem MSt.setB_qs (s : MSt) (x : Str) (n : Int) : (s.setB x n).qs = s.qs := rfl
theorem MSt.setQ_bs (s : MSt) (x : Str) (n : List Int) : (s.setQ x n).bs = s.bs := rfl
theorem MSt.setQ_qs (s : MSt) (x : Str) (n : List Int) : (s.setQ x n).qs = s.qs := setA_keys ..
abbrev stV (K : PySem.W.Frag) (p dx b q : Addr) (as : List Addr) (s : MSt) : Vo := vo (StC K p dx b q as s)
theorem stV_eq (K : PySem.W.Frag) (p dx b q : Addr) (as : List Addr) (s : MSt) : stV K p dx b q as s = (p, Eq (.ins (He.ga K "State") dx (fl_State (.ref b) (.ref q) (.int s.drawn) (.int s.sent)))) :: (b, Eq (.dK (boxesV s.boxes))) :: (q, Eq (.dK (queuesV s.queues as))) :: (s.queues.zip as).map fun e => (e.2, Eq (.lst (e.1.2.map V.int))) := by
  unfold stV StC vo
  simp only [List.map_cons, List.map_map]
  rfl
section
variable {K : PySem.W.Frag} {G H : Hp} {L : Vo} {p dx b q : Addr} {as : List Addr} {s : MSt} {x : Str}
theorem st_obj (z : Hd G H (stV K p dx b q as s ++ L)) : H p = some (.ins (He.ga K "State") dx (fl_State (.ref b) (.ref q) (.int s.drawn) (.int s.sent))) := by
  rw [stV_eq] at z
  exact z.eq List.mem_cons_self
theorem st_box (z : Hd G H (stV K p dx b q as s ++ L)) : H b = some (.dK (boxesV s.boxes)) := by
  rw [stV_eq] at z
  exact z.eq (List.mem_cons_of_mem _ List.mem_cons_self)
theorem st_que (z : Hd G H (stV K p dx b q as s ++ L)) : H q = some (.dK (queuesV s.queues as)) := by
  rw [stV_eq] at z
  exact z.eq (List.mem_cons_of_mem _ (List.mem_cons_of_mem _ List.mem_cons_self))
theorem st_at (z : Hd G H (stV K p dx b q as s ++ L)) (hl : s.queues.length = as.length) : StAt K H p s := ⟨dx, b, q, as, hl, z.inH fun e he => List.mem_append_left _ he⟩
theorem st_setB (z : Hd G H (stV K p dx b q as s ++ L)) (h : x ∈ s.bs) (n : Int) : Hd G (upd H b (.dK (putK (boxesV s.boxes) (Sum.inr x) (.int n)))) (stV K p dx b q as (s.setB x n) ++ L) := by
  rw [stV_eq] at z ⊢
  rw [boxesV_set h]
  exact z.set1 rfl
theorem st_setN (z : Hd G H (stV K p dx b q as s ++ L)) (d e : Int) : Hd G (upd H p (.ins (He.ga K "State") dx (fl_State (.ref b) (.ref q) (.int d) (.int e)))) (stV K p dx b q as { s with drawn := d, sent := e } ++ L) := by
  rw [stV_eq] at z ⊢
  exact z.set0 rfl
theorem nodup_at {α : Type} {l : List (Str × α)} {i : Nat} {y : Str × α} (h : (l.map (·.1)).Nodup) (hi : l[i]? = some y) : ∀ j z, l[j]? = some z → z.1 = y.1 → j = i := fun j z hj e => by
  have h1 : (l.map (·.1))[i]? = some y.1 := by rw [List.getElem?_map, hi]; rfl
  have h2 : (l.map (·.1))[j]? = some y.1 := by rw [List.getElem?_map, hj, ← e]; rfl
  have hl : i < (l.map (·.1)).length := (List.getElem?_eq_some_iff.mp h1).1
  exact (List.getElem?_inj hl h).mp (h1.trans h2.symm) |>.symm
theorem setA_at {α : Type} {l : List (Str × α)} {i : Nat} {x : Str} {v w : α} (h : (l.map (·.1)).Nodup) (hi : l[i]? = some (x, w)) : setA x v l = l.set i (x, v) := by
  apply List.ext_getElem?
  intro j
  unfold setA
  rw [List.getElem?_map, List.getElem?_set]
  by_cases e : i = j
  · subst e
    rw [hi, if_pos rfl, if_pos (List.getElem?_eq_some_iff.mp hi).1]
    show some (if x = x then (x, v) else (x, w)) = _
    rw [if_pos rfl]
  · rw [if_neg e]
    cases hj : l[j]? with
    | none => rfl
    | some y =>
      show some (if y.1 = x then (x, v) else y) = some y
      rw [if_neg]
      intro z
      exact e (nodup_at h hi j y hj z).symm
theorem st_setQ (z : Hd G H (stV K p dx b q as s ++ L)) (hl : s.queues.length = as.length) (nd : s.qs.Nodup) (h : x ∈ s.qs) : ∃ a, valV (queuesV s.queues as) (Sum.inr x) = some (.ref a) ∧ H a = some (.lst ((lookD [] x s.queues).map V.int)) ∧
    ∀ ns : List Int, Hd G (upd H a (.lst (ns.map V.int))) (stV K p dx b q as (s.setQ x ns) ++ L) := by
  obtain ⟨i, a, h1, h2, h3⟩ := val_queues hl h
  rw [stV_eq] at z
  have hz : (s.queues.zip as)[i]? = some ((x, lookD [] x s.queues), a) := by rw [List.getElem?_zip_eq_some]; exact ⟨h1, h2⟩
  have hz2 : ((s.queues.zip as).map fun e => (e.2, Eq (HO.lst (e.1.2.map V.int))))[i]? = some (a, Eq (HO.lst ((lookD [] x s.queues).map V.int))) := by rw [List.getElem?_map, hz]; rfl
  have hil := (List.getElem?_eq_some_iff.mp hz2).1
  have hi3 : ((p, Eq (HO.ins (He.ga K "State") dx (fl_State (.ref b) (.ref q) (.int s.drawn) (.int s.sent)))) :: (b, Eq (HO.dK (boxesV s.boxes))) :: (q, Eq (HO.dK (queuesV s.queues as))) :: ((s.queues.zip as).map fun e => (e.2, Eq (HO.lst (e.1.2.map V.int)))) ++ L)[i + 3]? = some (a, Eq (HO.lst ((lookD [] x s.queues).map V.int))) := by
    simp only [List.cons_append, List.getElem?_cons_succ]
    rw [List.getElem?_append_left hil]
    exact hz2
  refine ⟨a, h3, z.eq (List.mem_of_getElem? hi3), fun ns => ?_⟩
  have z2 := z.set (o' := .lst (ns.map V.int)) (ψ := Eq (.lst (ns.map V.int))) (i + 3) hi3 rfl
  rw [stV_eq]
  have e1 : (s.setQ x ns).queues = s.queues.set i (x, ns) := setA_at nd h1
  have e2 : ((s.setQ x ns).queues.zip as).map (fun e => (e.2, Eq (HO.lst (e.1.2.map V.int)))) = ((s.queues.zip as).map fun e => (e.2, Eq (HO.lst (e.1.2.map V.int)))).set i (a, Eq (.lst (ns.map V.int))) := by
    rw [e1]
    apply List.ext_getElem?
    intro j
    rw [List.getElem?_set, List.getElem?_map, List.getElem?_map]
    by_cases e : i = j
    · subst e
      rw [if_pos rfl, if_pos hil]
      have : ((s.queues.set i (x, ns)).zip as)[i]? = some ((x, ns), a) := by
        rw [List.getElem?_zip_eq_some]
        refine ⟨?_, h2⟩
        rw [List.getElem?_set, if_pos rfl, if_pos (List.getElem?_eq_some_iff.mp h1).1]
      rw [this]
      rfl
    · rw [if_neg e]
      have : ((s.queues.set i (x, ns)).zip as)[j]? = (s.queues.zip as)[j]? := by
        rw [List.zip, List.getElem?_zipWith, List.getElem?_zipWith, List.getElem?_set, if_neg e]
      rw [this]
  have e3 : queuesV (s.setQ x ns).queues as = queuesV s.queues as := queuesV_set
  rw [e2, e3]
  simp only [List.cons_append, List.set_cons_succ] at z2
  rw [List.set_append_left _ _ hil] at z2
  exact z2
end
theorem lookD_mem {bs : List (Str × Int)} (h : ∀ p ∈ bs, Worth p.2) (x : Str) : Worth (lookD 0 x bs) := by
  induction bs with
  | nil =>
    show Worth 0
    exact ⟨by decide, by decide⟩
  | cons p r ih =>
    show Worth (if p.1 = x then p.2 else lookD 0 x r)
    split
    · exact h p List.mem_cons_self
    · exact ih fun q hq => h q (List.mem_cons_of_mem _ hq)
theorem lookQ_len {qs : List (Str × List Int)} {n : Nat} (h : ∀ p ∈ qs, p.2.length ≤ n) (x : Str) : (lookD [] x qs).length ≤ n := by
  induction qs with
  | nil => exact Nat.zero_le _
  | cons p r ih =>
    show (if p.1 = x then p.2 else lookD [] x r).length ≤ n
    split
    · exact h p List.mem_cons_self
    · exact ih fun q hq => h q (List.mem_cons_of_mem _ hq)
theorem setQ_all {s : MSt} {x : Str} {ns : List Int} {φ : List Int → Prop} (h : ∀ p ∈ s.queues, φ p.2) (hn : φ ns) : ∀ p ∈ (s.setQ x ns).queues, φ p.2 := fun p hp => by
  obtain ⟨q, hq, rfl⟩ := List.mem_map.mp hp
  show φ (if q.1 = x then (x, ns) else q).2
  split
  · exact hn
  · exact h q hq
end Mo
namespace Mo
open PySem PySem.Spec PyProof.Rows L2
/-! ### the order of tuples of ints -/
theorem lex_irr : ∀ a : List Int, HT.lexLt a a = false
  | [] => rfl
  | x :: r => by rw [HT.lexLt_cons, if_pos rfl]; exact lex_irr r
theorem lex_tri : ∀ {a b : List Int}, HT.lexLt a b = false → HT.lexLt b a = false → a = b
  | [], [], _, _ => rfl
  | [], y :: s, h, _ => by rw [HT.lexLt_nil_cons] at h; cases h
  | x :: r, [], _, h => by rw [HT.lexLt_nil_cons] at h; cases h
  | x :: r, y :: s, h, k => by
    rw [HT.lexLt_cons] at h k
    by_cases e : x = y
    · subst e
      rw [if_pos rfl] at h k
      rw [lex_tri h k]
    · rw [if_neg e] at h
      rw [if_neg (fun z => e z.symm)] at k
      have h1 := of_decide_eq_false h
      have h2 := of_decide_eq_false k
      omega
theorem lex_trans : ∀ {a b c : List Int}, HT.lexLt a b = true → HT.lexLt b c = true → HT.lexLt a c = true
  | [], [], _, h, _ => by rw [HT.lexLt_nil_nil] at h; cases h
  | _ :: _, [], _, h, _ => by rw [HT.lexLt_cons_nil] at h; cases h
  | _, _ :: _, [], _, k => by rw [HT.lexLt_cons_nil] at k; cases k
  | [], _ :: _, _ :: _, _, _ => HT.lexLt_nil_cons _ _
  | x :: r, y :: s, z :: t, h, k => by
    rw [HT.lexLt_cons] at h k ⊢
    by_cases e : x = y
    · subst e
      rw [if_pos rfl] at h
      by_cases f : x = z
      · subst f
        rw [if_pos rfl] at k ⊢
        exact lex_trans h k
      · rw [if_neg f] at k ⊢
        exact k
    · rw [if_neg e] at h
      have h1 := of_decide_eq_true h
      by_cases f : y = z
      · subst f
        rw [if_neg e]
        exact h
      · rw [if_neg f] at k
        have h2 := of_decide_eq_true k
        rw [if_neg (by omega)]
        exact decide_eq_true (by omega)
theorem lex_asym {a b : List Int} (h : HT.lexLt a b = true) : HT.lexLt b a = false := by
  cases e : HT.lexLt b a with
  | false => rfl
  | true =>
    have := lex_trans h e
    rw [lex_irr] at this
    cases this
theorem lex_ne {a b : List Int} (h : HT.lexLt a b = true) : a ≠ b := fun e => by
  rw [e, lex_irr] at h
  cases h
/-- a ≤ b < c -/
theorem lex_le_lt {a b c : List Int} (h : HT.lexLt b a = false) (k : HT.lexLt b c = true) : HT.lexLt a c = true := by
  cases e : HT.lexLt a b with
  | true => exact lex_trans e k
  | false => rw [lex_tri e h]; exact k
theorem lex_lt_le {a b c : List Int} (h : HT.lexLt a b = true) (k : HT.lexLt c b = false) : HT.lexLt a c = true := by
  cases e : HT.lexLt b c with
  | true => exact lex_trans h e
  | false => rw [← lex_tri e k]; exact h
/-- the least, found from the left -/
theorem best_least (f : Nat → List Int) : ∀ n, argBest (fun i j => HT.lexLt (f i) (f j)) n ≤ n ∧ ∀ j, j ≤ n → HT.lexLt (f j) (f (argBest (fun i j => HT.lexLt (f i) (f j)) n)) = false
  | 0 => ⟨Nat.le_refl _, fun j hj => by
    obtain rfl := Nat.le_zero.mp hj
    exact lex_irr _⟩
  | n + 1 => by
    obtain ⟨h1, h2⟩ := best_least f n
    have e : argBest (fun i j => HT.lexLt (f i) (f j)) (n + 1) = if HT.lexLt (f (n + 1)) (f (argBest (fun i j => HT.lexLt (f i) (f j)) n)) = true then n + 1 else argBest (fun i j => HT.lexLt (f i) (f j)) n := rfl
    rw [e]
    cases hb : HT.lexLt (f (n + 1)) (f (argBest (fun i j => HT.lexLt (f i) (f j)) n)) with
    | true =>
      rw [if_pos rfl]
      refine ⟨Nat.le_refl _, fun j hj => ?_⟩
      rcases Nat.lt_or_ge j (n + 1) with hj | hj
      · cases hc : HT.lexLt (f j) (f (n + 1)) with
        | false => rfl
        | true =>
          have := lex_trans hc hb
          rw [h2 j (by omega)] at this
          cases this
      · have : j = n + 1 := by omega
        subst this
        exact lex_irr _
    | false =>
      rw [if_neg Bool.false_ne_true]
      refine ⟨by omega, fun j hj => ?_⟩
      rcases Nat.lt_or_ge j (n + 1) with hj | hj
      · exact h2 j (by omega)
      · have : j = n + 1 := by omega
        subst this
        exact hb
/-! ### dicts: pop of what is there -/
/-- d.pop(y): v leaves, H' is left -/
def DPop (H : Hp) (a : Addr) (y v : V) (H' : Hp) : Prop :=
  (∃ kvs k, H a = some (.dK kvs) ∧ y = kV k ∧ valV kvs k = some v ∧ H' = upd H a (.dK (dropK kvs k))) ∨
  ∃ kvs k b, H a = some (.dT kvs) ∧ y = .ref b ∧ H b = some (.tup (k.map kV)) ∧ valV kvs k = some v ∧ H' = upd H a (.dT (dropK kvs k))
def rDPop1 : V → List V → Hp → VK → Prop := fun x xs H Q => ∃ a y v H', x = .ref a ∧ xs = [y] ∧ DPop H a y v H' ∧ Q v H'
theorem paired_get {α β : Type} {F : α → β → Prop} : ∀ {l : List α} {r : List β} {i : Nat} {b : β}, Paired F l r → r[i]? = some b → ∃ a, l[i]? = some a ∧ F a b
  | _, _, i, b, .nil, e => by simp at e
  | _, _, 0, b, .cons h _, e => by
    simp only [List.getElem?_cons_zero, Option.some.injEq] at e
    subst e
    exact ⟨_, rfl, h⟩
  | _, _, i + 1, b, .cons _ t, e => by
    rw [List.getElem?_cons_succ] at e
    obtain ⟨a, h1, h2⟩ := paired_get t e
    exact ⟨a, by rw [List.getElem?_cons_succ]; exact h1, h2⟩
theorem moved_eq {wr : List Addr} {s s' : Shared} (h : Moved wr (fun a b => b = a) s s') : s' = { s with heap := s'.heap, toks := s'.toks } := by
  obtain ⟨hp, g, d, tk, os⟩ := s
  obtain ⟨hp', g', d', tk', os'⟩ := s'
  obtain ⟨_, h2, h3, h4, _⟩ := h
  cases h2
  cases h3
  cases h4
  rfl
theorem withoutH_eq {K : Type} [DecidableEq K] (xs : List (K × Addr × Value)) (k : K) : withoutH xs k = DT.dropH xs k := rfl
section
variable {X : Cx}
theorem mt_dpop1 (hu : X.A.units + 1 < cLine) : MtR X "dict.pop" rDPop1 := by
  intro pins s σ H x xs v us Q I rx rxs h
  obtain ⟨a, y, w', H', rfl, rfl, g, q⟩ := h
  cases rx
  obtain ⟨u, rfl, ry⟩ := rxs.one
  rcases g with ⟨kvs, k, ea, rfl, l, rfl⟩ | ⟨kvs, k, b, ea, rfl, eb, l, rfl⟩
  · exact d_pop (more := []) I ea ry l (.inl rfl) fun w2 s3 I3 rw' => ⟨w', _, I3, rw', q⟩
  · cases ry
    obtain ⟨z, hd, xs', rel, dd⟩ := dt_of I.hok ea
    have hz : xs'.length ≤ sizeLine := by rw [← Paired.length rel]; exact z
    have r := rel.val k
    rw [l] at r
    obtain ⟨p, hp, rp⟩ : ∃ p, atKey xs' k = some p ∧ RelV w' p.2 := by
      cases e : atKey xs' k with
      | none =>
        rw [e] at r
        exact (show False from r).elim
      | some p =>
        rw [e] at r
        exact ⟨p, rfl, r⟩
    refine call_pop_heap (knd := tupleKind (mixKind X.prog X.w)) (more := []) (.inl rfl) (PySem.F.args_dict_pop_2 _ _) (tupleKind_room_in1 hu) (key_of I.hok eb) hd dd hp (fun h' dd' hs => ?_) hz
    obtain ⟨o, es, ep, hq, h2, h3, h4, _, h5⟩ := dd'
    have I2 : Inv X pins σ (upd H a (.dT (dropK kvs k))) { s with heap := h', toks := s.toks + (tupleKind (mixKind X.prog X.w)).draws k } :=
      d_write I (by rw [ea]; exact True.intro) hs ⟨o, hq⟩ ⟨Nat.le_trans (dropK_le kvs k) z, hd, _, (DX.KT_drop k rel).keeps (fun c ys ec => (by rw [upd_ne (ne_of ec ea (fun z => nomatch z))]; exact ec)), o, es, ep, hq, h2, h3, h4, h5⟩
    exact ⟨w', _, I2, rp, q⟩
/-! ### min of a dict whose keys are tuples of ints -/
def rMinT : List V → Hp → VK → Prop := fun vs H Q => ∃ (a : Addr) (kvs : List (List Key × V)) (F : List (List Int)), vs = [V.ref a] ∧ H a = some (.dT kvs) ∧ kvs.map (·.1) = F.map (fun ns => ns.map Sum.inl) ∧ F ≠ [] ∧
  ∀ (b : Addr) (ns : List Int), ns ∈ F → (∀ ms ∈ F, HT.lexLt ms ns = false) → H b = some (.tup (ns.map V.int)) → Q (.ref b) H
theorem map_kV_inl (ns : List Int) : (ns.map (Sum.inl : Int → Key)).map kV = ns.map V.int := by
  rw [List.map_map]
  rfl
theorem cr_minT (hc : X.calm = true) (hu : X.A.units + 1 < cLine) : CallR X (.builtin "min") rMinT := by
  intro pins s σ H vs us Q I r h
  obtain ⟨a, kvs, F, rfl, ha, hF, hne, q⟩ := h
  rw [Vals.ref1 r]
  obtain ⟨z, hs, ks, pr, o, es, ep, ho, hx, hdt, he, hn⟩ := (show ObjOk X.prog X.w H s.heap a (.dT kvs) from I.hok a _ ha)
  have l1 : es.size = ks.length := size_of_entries he
  have l2 : kvs.length = ks.length := Paired.length pr
  have l3 : kvs.length = F.length := by
    have e := congrArg List.length hF
    rw [List.length_map, List.length_map] at e
    exact e
  have hlt : a < s.heap.objs.size := Heap.lt_size ho
  have hpos : 0 < es.size := by
    have := List.length_pos_iff.mpr hne
    omega
  -- the key at a place
  have key : ∀ (i : Nat) (v : Value), (∃ en : DictEntry, es[i]? = some en ∧ v = en.key) → ∃ (b : Addr) (ns : List Int), v = .ref b ∧ F[i]? = some ns ∧ H b = some (.tup (ns.map V.int)) := fun i v ⟨en, hen, hv⟩ => by
    have qe := entry_at he i
    rw [hen] at qe
    cases hb : ks[i]? with
    | none => rw [hb] at qe; exact nomatch (show some en = none from qe)
    | some x =>
      rw [hb] at qe
      have e2 : en = entryOfKey (tupleKind (mixKind X.prog X.w)) x := Option.some.inj qe
      obtain ⟨p, hp, e3, e4, _⟩ : ∃ p, kvs[i]? = some p ∧ p.1 = x.1 ∧ H x.2.1 = some (.tup (p.1.map kV)) ∧ True := by
        obtain ⟨p, hp, h1, h2, _⟩ := paired_get pr hb
        exact ⟨p, hp, h1, h2, True.intro⟩
      have e5 : (kvs.map (·.1))[i]? = some p.1 := by rw [List.getElem?_map, hp] <;> rfl
      rw [hF, List.getElem?_map] at e5
      obtain ⟨ns, hns, e6⟩ := Option.map_eq_some_iff.mp e5
      refine ⟨x.2.1, ns, by rw [hv, e2] <;> rfl, hns, ?_⟩
      rw [e4, ← e6, map_kV_inl]
  have key2 : ∀ (b : Addr) (ns : List Int), H b = some (.tup (ns.map V.int)) → ∃ its : Array Value, IsTup s.heap b its ∧ IntsAre its.toList ns := fun b ns e => by
    obtain ⟨its, rv, hT, _⟩ := I.tuple (SqT.of e)
    exact ⟨its.toArray, hT, by simpa using rv.ints⟩
  refine call_min_walkH (iter_keys hs ho hx hdt ?_)
  refine ⟨_, _, _, _, _, _, _, s.heap, fun i j => HT.lexLt (F.getD i []) (F.getD j []), rfl, (walks_raw (A := X.A.in1) (I.ok.hd hc) s.heap.objs.size a (Nat.ne_of_lt hlt) hdt).toS,
    ⟨⟨_, Heap.get?_push_size _ rfl, rfl, rfl⟩, Heap.get?_push_of_some _ ho⟩, fun b hb => ?_, hpos, fun b u e hm => ?_, fun b u e => Heap.get?_push_of_some _ e, ?_, fun v s' hP hk => ?_⟩
  · show b < (s.heap.push _).objs.size
    rw [Heap.size_push]
    rcases List.mem_cons.mp hb with e | hb
    · rw [e]
      exact Nat.lt_succ_self _
    · rw [List.mem_singleton.mp hb]
      exact Nat.lt_succ_of_lt hlt
  · have e1 := List.mem_singleton.mp hm
    have e2 := Heap.lt_size e
    rw [e1] at e2
    exact absurd e2 (Nat.lt_irrefl _)
  · intro i j vi vj s2 Q2 E2 hkeep hi hj hq
    obtain ⟨b1, n1, rfl, f1, t1⟩ := key i vi hi
    obtain ⟨b2, n2, rfl, f2, t2⟩ := key j vj hj
    obtain ⟨its1, T1, a1⟩ := key2 b1 n1 t1
    obtain ⟨its2, T2, a2⟩ := key2 b2 n2 t2
    refine HT.lt_tupInts (let ⟨o, e, z⟩ := T1; ⟨o, hkeep _ o e, z⟩) (let ⟨o, e, z⟩ := T2; ⟨o, hkeep _ o e, z⟩) a1 a2 (show X.A.in1.units < cLine from by show X.A.units + 1 < cLine; exact hu) ?_
    have g1 : F.getD i [] = n1 := by rw [List.getD_eq_getElem?_getD, f1] <;> rfl
    have g2 : F.getD j [] = n2 := by rw [List.getD_eq_getElem?_getD, f2] <;> rfl
    have hq' : Q2 (Value.bool (HT.lexLt (F.getD i []) (F.getD j []))) s2 := hq
    rw [g1, g2] at hq'
    exact hq'
  · obtain ⟨b, ns, rfl, hf, hb⟩ := key _ v hP
    obtain ⟨b1, b2⟩ := best_least (fun i => F.getD i []) (es.size - 1)
    have g1 : F.getD (argBest (fun i j => HT.lexLt (F.getD i []) (F.getD j [])) (es.size - 1)) [] = ns := by rw [List.getD_eq_getElem?_getD, hf] <;> rfl
    rw [g1] at b2
    have I2 : Inv X pins σ H s' := by
      rw [moved_eq hk]
      exact I.kept (t' := s'.toks) fun b u e => hk.heap b u (fun hmem => by
        have e1 := List.mem_singleton.mp hmem
        have e2 := Heap.lt_size e
        rw [e1] at e2
        exact absurd e2 (Nat.lt_irrefl _)) (Heap.get?_push_of_some _ e)
    refine ⟨.ref b, H, I2, rfl, q b ns (List.mem_of_getElem? hf) (fun ms hm => ?_) hb⟩
    obtain ⟨j, hj, e⟩ := List.mem_iff_getElem.mp hm
    have := b2 j (by omega)
    rw [List.getD_eq_getElem?_getD, List.getElem?_eq_getElem hj] at this
    rw [← e]
    exact this
end
/-! ### d.copy() -/
def rDCopy : V → List V → Hp → VK → Prop := fun x xs H Q => ∃ a kvs, x = .ref a ∧ xs = [] ∧ H a = some (.dK kvs) ∧ ∀ p, H p = none → Q (.ref p) (upd H p (.dK kvs))
section
variable {X : Cx}
theorem mt_dcopy : MtR X "dict.copy" rDCopy := by
  intro pins s σ H x xs v us Q I rx rxs h
  obtain ⟨a, kvs, rfl, rfl, ha, q⟩ := h
  cases rx
  cases rxs
  obtain ⟨z, hd, vs, rel, dd⟩ := dk_of I.hok ha
  refine call_meetsIn PySem.F.slot_dict_copy dd.typeIs PySem.F.entry_dict_copy (PySem.F.args_dict_copy_1 _) (meets_dict_copy (mixKind X.prog X.w) a hd) ?_
  refine ⟨vs, dd, by rw [← rel.length]; exact z, fun h' d1 _ k => ?_⟩
  refine ⟨.ref s.heap.objs.size, upd H s.heap.objs.size (.dK kvs), I.laid (t' := s.toks) k (Nat.le_refl _) ?_, rfl, q _ (I.hok.fresh (Nat.le_refl _))⟩
  exact dk_new z (beq_eq_false_iff_ne.mpr (Nat.ne_of_gt I.big)) rel d1
end
theorem go_dcopy {H : Hp} {Q : VK} {a : Addr} {kvs : List (Key × V)} (h : H a = some (.dK kvs)) (k : ∀ p, H p = none → Q (.ref p) (upd H p (.dK kvs))) : rDCopy (.ref a) [] H Q := ⟨a, kvs, rfl, rfl, h, k⟩
end Mo
namespace Mo
open PySem PySem.Spec PyProof.Rows L2
/-! ### what a calendar keeps: plain Lean -/
structure Ent where
  k : List Int
  v : V
  t : V
abbrev Asc (es : List Ent) : Prop := es.Pairwise fun x y => HT.lexLt x.k y.k = true
def insE (e : Ent) : List Ent → List Ent
  | [] => [e]
  | x :: r => if HT.lexLt x.k e.k = true then x :: insE e r else e :: x :: r
def remE (k : List Int) (es : List Ent) : List Ent := es.filter fun e => decide (e.k ≠ k)
def getE (k : List Int) : List Ent → Option V
  | [] => none
  | x :: r => if x.k = k then some x.t else getE k r
theorem mem_insE {e x : Ent} : ∀ {es : List Ent}, x ∈ insE e es ↔ x = e ∨ x ∈ es
  | [] => by simp [insE]
  | y :: r => by
    unfold insE
    split
    · rw [List.mem_cons, mem_insE (es := r), List.mem_cons]
      constructor
      · rintro (h | h | h)
        · exact .inr (.inl h)
        · exact .inl h
        · exact .inr (.inr h)
      · rintro (h | h | h)
        · exact .inr (.inl h)
        · exact .inl h
        · exact .inr (.inr h)
    · rw [List.mem_cons]
theorem insE_perm (e : Ent) : ∀ es : List Ent, (insE e es).Perm (e :: es)
  | [] => .refl _
  | y :: r => by
    unfold insE
    split
    · exact ((insE_perm e r).cons y).trans (.swap _ _ _)
    · exact .refl _
theorem insE_len (e : Ent) (es : List Ent) : (insE e es).length = es.length + 1 := by rw [(insE_perm e es).length_eq]; rfl
theorem insE_asc {e : Ent} : ∀ {es : List Ent}, Asc es → e.k ∉ es.map (·.k) → Asc (insE e es)
  | [], _, _ => List.pairwise_singleton _ _
  | x :: r, h, n => by
    rw [List.map_cons, List.mem_cons, not_or] at n
    have h2 := List.pairwise_cons.mp h
    unfold insE
    split
    · rename_i hl
      refine List.pairwise_cons.mpr ⟨fun y hy => ?_, insE_asc h2.2 n.2⟩
      rcases mem_insE.mp hy with rfl | hy
      · exact hl
      · exact h2.1 y hy
    · rename_i hl
      have hl2 : HT.lexLt x.k e.k = false := by simpa using hl
      have h3 : HT.lexLt e.k x.k = true := by
        cases q : HT.lexLt e.k x.k with
        | true => rfl
        | false => exact absurd (lex_tri q hl2) n.1
      refine List.pairwise_cons.mpr ⟨fun y hy => ?_, h⟩
      rcases List.mem_cons.mp hy with rfl | hy
      · exact h3
      · exact lex_trans h3 (h2.1 y hy)
theorem insE_at {e : Ent} : ∀ {es : List Ent} {n : Nat}, n ≤ es.length → (∀ i x, i < n → es[i]? = some x → HT.lexLt x.k e.k = true) → (∀ i x, n ≤ i → es[i]? = some x → HT.lexLt x.k e.k = false) → insE e es = es.take n ++ e :: es.drop n
  | [], n, hn, _, _ => by
    obtain rfl : n = 0 := by simpa using hn
    rfl
  | x :: r, 0, _, _, h => by
    have := h 0 x (Nat.le_refl _) rfl
    unfold insE
    rw [this, if_neg Bool.false_ne_true]
    rfl
  | x :: r, n + 1, hn, h1, h2 => by
    have := h1 0 x (Nat.succ_pos _) rfl
    unfold insE
    rw [this, if_pos rfl, insE_at (n := n) (by simpa using hn) (fun i y hi hy => h1 (i + 1) y (by omega) (by simpa using hy)) (fun i y hi hy => h2 (i + 1) y (by omega) (by simpa using hy))]
    rfl
theorem asc_nodup {es : List Ent} (h : Asc es) : (es.map (·.k)).Nodup := by
  rw [List.nodup_iff_pairwise_ne, List.pairwise_map]
  exact h.imp fun q => lex_ne q
theorem remE_asc {k : List Int} {es : List Ent} (h : Asc es) : Asc (remE k es) := h.filter _
theorem mem_remE {k : List Int} {x : Ent} {es : List Ent} : x ∈ remE k es ↔ x ∈ es ∧ x.k ≠ k := by
  unfold remE
  rw [List.mem_filter, decide_eq_true_iff]
theorem getE_none {k : List Int} : ∀ {es : List Ent}, getE k es = none ↔ k ∉ es.map (·.k)
  | [] => by simp [getE]
  | x :: r => by
    unfold getE
    rw [List.map_cons, List.mem_cons, not_or]
    by_cases e : x.k = k
    · rw [if_pos e]
      constructor
      · intro z; cases z
      · intro z; exact absurd e.symm z.1
    · rw [if_neg e, getE_none (es := r)]
      exact ⟨fun z => ⟨fun q => e q.symm, z⟩, fun z => z.2⟩
theorem getE_mem {k : List Int} {t : V} : ∀ {es : List Ent}, getE k es = some t → ∃ x ∈ es, x.k = k ∧ x.t = t
  | [], h => by simp [getE] at h
  | x :: r, h => by
    unfold getE at h
    by_cases e : x.k = k
    · rw [if_pos e] at h
      exact ⟨x, List.mem_cons_self, e, Option.some.inj h⟩
    · rw [if_neg e] at h
      obtain ⟨y, h1, h2⟩ := getE_mem h
      exact ⟨y, List.mem_cons_of_mem _ h1, h2⟩
theorem getE_of {es : List Ent} {x : Ent} (h : (es.map (·.k)).Nodup) (m : x ∈ es) : getE x.k es = some x.t := by
  induction es with
  | nil => cases m
  | cons y r ih =>
    rw [List.map_cons, List.nodup_cons] at h
    unfold getE
    rcases List.mem_cons.mp m with rfl | m
    · rw [if_pos rfl]
    · rw [if_neg (fun e => h.1 (by rw [e]; exact List.mem_map_of_mem m))]
      exact ih h.2 m
theorem remE_none {k : List Int} {es : List Ent} (h : k ∉ es.map (·.k)) : remE k es = es := by
  unfold remE
  refine List.filter_eq_self.mpr fun y hy => ?_
  exact decide_eq_true fun z => h (by rw [← z]; exact List.mem_map_of_mem hy)
/-- the key at n leaves -/
theorem remE_at : ∀ {es : List Ent} {n : Nat} {x : Ent}, (es.map (·.k)).Nodup → es[n]? = some x → es.eraseIdx n = remE x.k es
  | [], n, x, _, h => by simp at h
  | y :: r, 0, x, hn, h => by
    obtain rfl : y = x := by simpa using h
    rw [List.map_cons, List.nodup_cons] at hn
    rw [List.eraseIdx_cons_zero]
    unfold remE
    rw [List.filter_cons_of_neg (by simp)]
    exact (remE_none hn.1).symm
  | y :: r, n + 1, x, hn, h => by
    have h2 : r[n]? = some x := by simpa using h
    rw [List.map_cons, List.nodup_cons] at hn
    have ne : y.k ≠ x.k := fun z => hn.1 (by rw [z]; exact List.mem_map_of_mem (List.mem_of_getElem? h2))
    rw [List.eraseIdx_cons_succ, remE_at hn.2 h2]
    unfold remE
    rw [List.filter_cons_of_pos (by simpa using ne)]
theorem remE_head {e : Ent} {r : List Ent} (h : Asc (e :: r)) : remE e.k (e :: r) = r := by
  have := remE_at (n := 0) (asc_nodup h) (x := e) rfl
  rw [← this]
  rfl
/-- where a key that is there stands -/
theorem place_at {es : List Ent} {k : List Int} {n : Nat} (h : Asc es) (h1 : ∀ i x, i < n → es[i]? = some x → HT.lexLt x.k k = true) (h2 : ∀ i x, n ≤ i → es[i]? = some x → HT.lexLt x.k k = false) {x : Ent} (m : x ∈ es) (hk : x.k = k) : es[n]? = some x := by
  obtain ⟨i, hi⟩ := List.mem_iff_getElem?.mp m
  rcases Nat.lt_trichotomy i n with z | z | z
  · have := h1 i x z hi
    rw [hk, lex_irr] at this
    cases this
  · rw [← z]; exact hi
  · have hil := (List.getElem?_eq_some_iff.mp hi).1
    have hn : es[n]? = some es[n] := List.getElem?_eq_getElem (by omega)
    have q := h2 n _ (Nat.le_refl _) hn
    have p := List.pairwise_iff_getElem.mp h n i (by omega) hil z
    rw [(List.getElem?_eq_some_iff.mp hi).2, hk, q] at p
    cases p
/-! #### dicts of them -/
section
variable {κ : Type} [DecidableEq κ]
theorem val_mem : ∀ {kvs : List (κ × V)} {k : κ} {v : V}, (kvs.map (·.1)).Nodup → ((k, v) ∈ kvs ↔ valV kvs k = some v)
  | [], k, v, _ => by
    constructor
    · intro z; cases z
    · intro z; cases (show (none : Option V) = some v from z)
  | (q, u) :: r, k, v, h => by
    rw [List.map_cons, List.nodup_cons] at h
    by_cases e : q = k
    · rw [valV_pos e]
      constructor
      · intro m
        rcases List.mem_cons.mp m with m | m
        · cases m; rfl
        · exact absurd (List.mem_map_of_mem (f := (·.1)) m) (by rw [← e]; exact h.1)
      · intro z
        cases z
        rw [← e]
        exact List.mem_cons_self
    · rw [valV_neg e, ← val_mem h.2]
      constructor
      · intro m
        rcases List.mem_cons.mp m with m | m
        · cases m; exact absurd rfl e
        · exact m
      · exact fun m => List.mem_cons_of_mem _ m
theorem val_perm {a b : List (κ × V)} {k : κ} (p : a.Perm b) (h : (b.map (·.1)).Nodup) : valV a k = valV b k := by
  have h2 : (a.map (·.1)).Nodup := (List.Perm.nodup_iff (p.map _)).mpr h
  apply Option.ext
  intro v
  rw [← val_mem h2, ← val_mem h]
  exact p.mem_iff
variable (f : Ent → κ)
theorem g_val {es : List Ent} {q : κ} {k : List Int} (hi : ∀ e ∈ es, f e = q ↔ e.k = k) : valV (es.map fun e => (f e, e.t)) q = getE k es := by
  induction es with
  | nil => rfl
  | cons x r ih =>
    have h := hi x List.mem_cons_self
    unfold getE
    rw [List.map_cons]
    by_cases e : x.k = k
    · rw [if_pos e]
      exact valV_pos (h.mpr e)
    · rw [if_neg e, valV_neg (fun z => e (h.mp z))]
      exact ih fun y hy => hi y (List.mem_cons_of_mem _ hy)
theorem g_put {kvs : List (κ × V)} {es : List Ent} {e : Ent} (p : kvs.Perm (es.map fun e => (f e, e.t))) (n : valV kvs (f e) = none) : (putK kvs (f e) e.t).Perm ((insE e es).map fun e => (f e, e.t)) := by
  rw [putK_new _ n]
  exact (List.perm_append_comm.trans (p.cons _)).trans ((insE_perm e es).map _).symm
theorem g_drop {kvs : List (κ × V)} {es : List Ent} {q : κ} {k : List Int} (hi : ∀ e ∈ es, f e = q ↔ e.k = k) (p : kvs.Perm (es.map fun e => (f e, e.t))) : (dropK kvs q).Perm ((remE k es).map fun e => (f e, e.t)) := by
  refine (p.filter _).trans (List.Perm.of_eq ?_)
  unfold remE
  rw [List.filter_map]
  congr 1
  refine List.filter_congr fun e he => ?_
  show decide (f e ≠ q) = decide (e.k ≠ k)
  exact decide_eq_decide.mpr (not_congr (hi e he))
end
/-! #### keys as values -/
def GoodK (b : Bool) (G : Hp) (e : Ent) : Prop := match b with
  | true => ∃ a, e.v = .ref a ∧ G a = some (.tup (e.k.map V.int))
  | false => ∃ i, e.v = .int i ∧ e.k = [i]
theorem GoodK.mono {b : Bool} {G G' : Hp} {e : Ent} (h : GoodK b G e) (x : Ext G G') : GoodK b G' e := by
  cases b with
  | true => obtain ⟨a, h1, h2⟩ := h; exact ⟨a, h1, x _ _ h2⟩
  | false => exact h
abbrev fT (e : Ent) : List Key := e.k.map Sum.inl
abbrev fK (e : Ent) : Key := Sum.inl (e.k.headD 0)
/-- the dict of things -/
def Thg (b : Bool) (es : List Ent) (o : HO) : Prop := match b with
  | true => ∃ kvs, o = .dT kvs ∧ kvs.Perm (es.map fun e => (fT e, e.t))
  | false => ∃ kvs, o = .dK kvs ∧ kvs.Perm (es.map fun e => (fK e, e.t))
theorem fT_inj {e x : Ent} : fT e = fT x ↔ e.k = x.k := ⟨fun h => (List.map_inj_right (fun _ _ q => Sum.inl.inj q)).mp h, fun h => by unfold fT; rw [h]⟩
theorem fK_inj {G G' : Hp} {e x : Ent} (h : GoodK false G e) (k : GoodK false G' x) : fK e = fK x ↔ e.k = x.k := by
  obtain ⟨i, _, h1⟩ := h
  obtain ⟨j, _, h2⟩ := k
  unfold fK
  rw [h1, h2]
  constructor
  · intro z
    have := Sum.inl.inj z
    simp only [List.headD_cons] at this
    rw [this]
  · intro z
    rw [z]
theorem fT_nodup {es : List Ent} (h : Asc es) : ((es.map fun e => (fT e, e.t)).map (·.1)).Nodup := by
  rw [List.map_map, List.nodup_iff_pairwise_ne, List.pairwise_map]
  exact h.imp fun q z => lex_ne q (fT_inj.mp z)
theorem fK_nodup {G : Hp} {es : List Ent} (h : Asc es) (g : ∀ e ∈ es, GoodK false G e) : ((es.map fun e => (fK e, e.t)).map (·.1)).Nodup := by
  rw [List.map_map, List.nodup_iff_pairwise_ne, List.pairwise_map]
  exact List.Pairwise.imp_of_mem (fun {a b} ha hb q z => lex_ne q ((fK_inj (g a ha) (g b hb)).mp z)) h
section
variable {b : Bool} {K : PySem.W.Frag} {G H : Hp} {x y e : Ent} {es : List Ent} {Q : VK} {th : Addr} {o : HO}
theorem go_ltE (xe : Ext G H) (ha : GoodK b G x) (hb : GoodK b G y) (k : Q (.bl (HT.lexLt x.k y.k)) H) : rLtA K x.v y.v H Q := by
  cases b with
  | true =>
    obtain ⟨a, e1, h1⟩ := ha
    obtain ⟨c, e2, h2⟩ := hb
    rw [e1, e2]
    exact go_ltT (SqT.of (xe _ _ h1)) (SqT.of (xe _ _ h2)) k
  | false =>
    obtain ⟨i, e1, h1⟩ := ha
    obtain ⟨j, e2, h2⟩ := hb
    rw [h1, h2, HT.lexLt_cons, HT.lexLt_nil_nil] at k
    rw [e1, e2]
    refine go_ltI ?_
    by_cases e : i = j
    · rw [if_pos e] at k
      rw [decide_eq_false (by omega)]
      exact k
    · rw [if_neg e] at k
      exact k
theorem thg_get (xe : Ext G H) (ht : H th = some o) (h : Thg b es o) (ha : Asc es) (hg : ∀ e ∈ es, GoodK b G e) (hx : GoodK b G x) : DGet H th x.v (getE x.k es) := by
  cases b with
  | true =>
    obtain ⟨kvs, rfl, p⟩ := h
    obtain ⟨a, e1, h1⟩ := hx
    have q := DGet.t (k := fT x) ht (b := a) (by rw [map_kV_inl]; exact xe _ _ h1)
    rw [e1]
    rw [val_perm p (fT_nodup ha), g_val fT (k := x.k) (fun e _ => fT_inj)] at q
    exact q
  | false =>
    obtain ⟨kvs, rfl, p⟩ := h
    have q := DGet.k (k := fK x) ht
    rw [val_perm p (fK_nodup ha hg), g_val fK (k := x.k) (fun e he => fK_inj (hg e he) hx)] at q
    obtain ⟨i, e1, h1⟩ := hx
    rw [e1]
    have e2 : kV (fK x) = .int i := by unfold fK; rw [h1]; rfl
    rw [e2] at q
    exact q
theorem thg_len {kvs : List (Key × V)} {n : Nat} (h : Thg b es o) : (∃ kvs : List (List Key × V), o = .dT kvs ∧ kvs.length = es.length) ∨ (∃ kvs : List (Key × V), o = .dK kvs ∧ kvs.length = es.length) := by
  cases b with
  | true =>
    obtain ⟨kvs, rfl, p⟩ := h
    exact .inl ⟨kvs, rfl, by rw [p.length_eq, List.length_map]⟩
  | false =>
    obtain ⟨kvs, rfl, p⟩ := h
    exact .inr ⟨kvs, rfl, by rw [p.length_eq, List.length_map]⟩
theorem thg_put (xe : Ext G H) (ht : H th = some o) (h : Thg b es o) (ha : Asc es) (hg : ∀ e ∈ es, GoodK b G e) (hx : GoodK b G x) (hn : x.k ∉ es.map (·.k)) (hl : es.length ≤ 10000) :
    ∃ o', Thg b (insE x es) o' ∧ DPut H th x.v x.t (upd H th o') := by
  have hn2 := getE_none.mpr hn
  cases b with
  | true =>
    obtain ⟨kvs, rfl, p⟩ := h
    obtain ⟨a, e1, h1⟩ := hx
    have hl2 : kvs.length < sizeLine := by rw [p.length_eq, List.length_map, sizeLine_eq]; omega
    have nn : valV kvs (fT x) = none := by rw [val_perm p (fT_nodup ha), g_val fT (k := x.k) (fun e _ => fT_inj)]; exact hn2
    refine ⟨.dT (putK kvs (fT x) x.t), ⟨_, rfl, g_put fT p nn⟩, ?_⟩
    rw [e1]
    exact DPut.t ht (by rw [map_kV_inl]; exact xe _ _ h1) hl2
  | false =>
    obtain ⟨kvs, rfl, p⟩ := h
    have hl2 : kvs.length < sizeLine := by rw [p.length_eq, List.length_map, sizeLine_eq]; omega
    have nn : valV kvs (fK x) = none := by rw [val_perm p (fK_nodup ha hg), g_val fK (k := x.k) (fun e he => fK_inj (hg e he) hx)]; exact hn2
    refine ⟨.dK (putK kvs (fK x) x.t), ⟨_, rfl, g_put fK p nn⟩, ?_⟩
    obtain ⟨i, e1, h1⟩ := hx
    have e2 : kV (fK x) = .int i := by unfold fK; rw [h1]; rfl
    rw [e1, ← e2]
    exact DPut.k ht hl2
theorem thg_pop {t : V} (xe : Ext G H) (ht : H th = some o) (h : Thg b es o) (ha : Asc es) (hg : ∀ e ∈ es, GoodK b G e) (hx : GoodK b G x) (hm : getE x.k es = some t) :
    ∃ o', Thg b (remE x.k es) o' ∧ DPop H th x.v t (upd H th o') := by
  cases b with
  | true =>
    obtain ⟨kvs, rfl, p⟩ := h
    obtain ⟨a, e1, h1⟩ := hx
    have nn : valV kvs (fT x) = some t := by rw [val_perm p (fT_nodup ha), g_val fT (k := x.k) (fun e _ => fT_inj)]; exact hm
    refine ⟨.dT (dropK kvs (fT x)), ⟨_, rfl, g_drop fT (fun e _ => fT_inj) p⟩, ?_⟩
    rw [e1]
    exact .inr ⟨kvs, fT x, a, ht, rfl, by rw [map_kV_inl]; exact xe _ _ h1, nn, rfl⟩
  | false =>
    obtain ⟨kvs, rfl, p⟩ := h
    have nn : valV kvs (fK x) = some t := by rw [val_perm p (fK_nodup ha hg), g_val fK (k := x.k) (fun e he => fK_inj (hg e he) hx)]; exact hm
    refine ⟨.dK (dropK kvs (fK x)), ⟨_, rfl, g_drop fK (fun e he => fK_inj (hg e he) hx) p⟩, ?_⟩
    obtain ⟨i, e1, h1⟩ := hx
    have e2 : kV (fK x) = .int i := by unfold fK; rw [h1]; rfl
    rw [e1, ← e2]
    exact .inl ⟨kvs, fK x, ht, rfl, nn, rfl⟩
end
theorem eqv_self {d : PyData} (h : SeqAt.shaped d = true) : PyData.eqv d d = true := SeqAt.eqv_refl d (SeqAt.canLay_of_shaped h)
end Mo
namespace Mo
open PySem PySem.Spec PyProof.Rows L2
/-! ### states compared; slices -/
section
variable {K : PySem.W.Frag} {H : Hp} {Q : VK} {a b : Addr}
theorem go_eqV {x y : V} (h : EqR K H (EqV K H 2) x y) (k : Q (.bl true) H) : rEqA K x y H Q := .inr (.inr ⟨2, by decide, h, k⟩)
theorem go_eqVn {x y : V} (n : Nat) (hn : n ≤ 60) (h : EqR K H (EqV K H n) x y) (k : Q (.bl true) H) : rEqA K x y H Q := .inr (.inr ⟨n, hn, h, k⟩)
theorem eqr_boxes {bs : List (Str × Int)} (h1 : H a = some (.dK (boxesV bs))) (h2 : H b = some (.dK (boxesV bs))) (nd : (bs.map (·.1)).Nodup) {n : Nat} : EqR K H (EqV K H (n + 1)) (.ref a) (.ref b) := by
  refine .inr ⟨a, b, _, _, rfl, rfl, h1, h2, rfl, fun p hp => ⟨p.2, ?_, ?_⟩⟩
  · refine (val_mem ?_).mp hp
    rw [boxesV_keys]
    have : (bs.map fun p => (Sum.inr p.1 : Key)) = (bs.map (·.1)).map Sum.inr := by rw [List.map_map]; rfl
    rw [this]
    rw [List.nodup_iff_pairwise_ne] at nd ⊢
    rw [List.pairwise_map]
    exact nd.imp fun h z => h (Sum.inr.inj z)
  · unfold boxesV at hp
    obtain ⟨q, _, rfl⟩ := List.mem_map.mp hp
    exact .inl ⟨rfl, rfl⟩
theorem paired_ints (ns : List Int) {n : Nat} : Paired (EqV K H (n + 1)) (ns.map V.int) (ns.map V.int) := by
  induction ns with
  | nil => exact .nil
  | cons i r ih => exact .cons (.inl ⟨rfl, rfl⟩) ih
theorem eqr_queues {qs : List (Str × List Int)} {as cs : List Addr} (h1 : H a = some (.dK (queuesV qs as))) (h2 : H b = some (.dK (queuesV qs cs))) (nd : (qs.map (·.1)).Nodup) (l1 : qs.length = as.length) (l2 : qs.length = cs.length)
    (ha : ∀ (i : Nat) (x : Addr) (y : Str × List Int), qs[i]? = some y → as[i]? = some x → H x = some (.lst (y.2.map V.int))) (hc : ∀ (i : Nat) (x : Addr) (y : Str × List Int), qs[i]? = some y → cs[i]? = some x → H x = some (.lst (y.2.map V.int))) {n : Nat} : EqR K H (EqV K H (n + 2)) (.ref a) (.ref b) := by
  refine .inr ⟨a, b, _, _, rfl, rfl, h1, h2, ?_, fun p hp => ?_⟩
  · unfold queuesV
    rw [List.length_map, List.length_map, List.length_zip, List.length_zip]
    omega
  · unfold queuesV at hp
    obtain ⟨e, he, rfl⟩ := List.mem_map.mp hp
    obtain ⟨i, hi⟩ := List.mem_iff_getElem?.mp he
    obtain ⟨e1, e2⟩ := List.getElem?_zip_eq_some.mp hi
    have hil := (List.getElem?_eq_some_iff.mp e1).1
    obtain ⟨c, hc1⟩ : ∃ c, cs[i]? = some c := ⟨_, List.getElem?_eq_getElem (by omega)⟩
    refine ⟨.ref c, ?_, ?_⟩
    · refine (val_mem ?_).mp ?_
      · unfold queuesV
        rw [List.map_map]
        have : ((·.1) ∘ fun p : (Str × List Int) × Addr => ((Sum.inr p.1.1 : Key), V.ref p.2)) = fun p => (Sum.inr p.1.1 : Key) := rfl
        rw [this]
        have e3 : (qs.zip cs).map (fun p => (Sum.inr p.1.1 : Key)) = (qs.map (·.1)).map Sum.inr := by
          have : (qs.zip cs).map (fun p => (Sum.inr p.1.1 : Key)) = ((qs.zip cs).map (·.1)).map fun p => Sum.inr p.1 := by rw [List.map_map]; rfl
          rw [this, List.map_fst_zip (by omega), List.map_map]
          rfl
        rw [e3, List.nodup_iff_pairwise_ne, List.pairwise_map]
        rw [List.nodup_iff_pairwise_ne] at nd
        exact nd.imp fun h z => h (Sum.inr.inj z)
      · unfold queuesV
        exact List.mem_map.mpr ⟨(e.1, c), List.mem_of_getElem? (i := i) (List.getElem?_zip_eq_some.mpr ⟨e1, hc1⟩), rfl⟩
    · exact .inr (.inr (.inl ⟨_, _, _, _, rfl, rfl, SqL.of (ha i _ _ e1 e2), SqL.of (hc i _ _ e1 hc1), paired_ints _⟩))
/-! #### slices of lists -/
theorem go_slL {xs : List V} {lo hi : Option Int} (h : SqL K H a xs) (k : ∀ p, H p = none → Q (.ref p) (upd H p (.lst (cutV xs lo hi)))) : rSli K (.ref a) lo hi H Q := .inl ⟨a, xs, rfl, h, k⟩
theorem cut_take (xs : List V) (n : Nat) : cutV xs none (some (n : Int)) = xs.take n := by
  unfold cutV
  have e1 : HT.sIx xs.length 0 none = 0 := rfl
  rw [e1, HT.sIx_nat, List.drop_zero, Nat.sub_zero, ← List.take_take, List.take_of_length_le (Nat.le_refl _)] <;> rfl
theorem cut_mid (xs : List V) (m n : Nat) (h : m ≤ xs.length) : cutV xs (some (m : Int)) (some ((m + n : Nat) : Int)) = (xs.drop m).take n := by
  unfold cutV
  rw [HT.sIx_nat, HT.sIx_nat, Nat.min_eq_left h]
  rcases Nat.le_total (m + n) xs.length with z | z
  · rw [Nat.min_eq_left z, Nat.add_sub_cancel_left]
  · rw [Nat.min_eq_right z, List.take_of_length_le (by rw [List.length_drop]; exact Nat.le_refl _), List.take_of_length_le (by rw [List.length_drop]; omega)]
end
end Mo
namespace Mo
open PySem PySem.Spec PyProof.Rows L2
/-- a list of two numbers -/
def Purse (o : HO) : Prop := ∃ a b : Int, o = .lst [.int a, .int b]
def spMixed : Sp := fun vs H Q _ => ∃ c k : Int, vs = [.int c, .int k] ∧ Bd 1048576 c ∧ Bd 8 k ∧ ∀ r : Int, Bd 31 r → Q (.int r) H
def spPurse (K : PySem.W.Frag) : Sp := fun vs H Q _ => ∃ (a : Addr) (ns : List Int), vs = [.ref a] ∧ SqL K H a (ns.map V.int) ∧ ns.length ≤ 63 ∧ (∀ z ∈ ns, Bd 1048576 z) ∧
  ∀ p H', Hd H H' [(p, Purse)] → Q (.ref p) H'
def spDraw : Sp := fun vs H Q _ => ∃ (G : Hp) (L : Vo) (p : Addr) (n : Int), vs = [.ref p, .int n] ∧ Hd G H L ∧ (p, Purse) ∈ L ∧ 0 < n ∧ Bd 8000 n ∧
  ∀ d H', 0 ≤ d → d < n → Hd G H' L → Q (.int d) H'
theorem fmod_range {a n : Int} (h : 0 < n) : 0 ≤ a.fmod n ∧ a.fmod n < n := ⟨Int.fmod_nonneg_of_pos a h, Int.fmod_lt_of_pos a h⟩
end Mo
namespace Mo
open PySem PySem.Spec PyProof.Rows L2
/-! ### the purse: numbers drawn, whatever they are -/
section
variable {P : Program} {w : World} {K : PySem.W.Frag} {mg : Str → Option Value} {base : Heap}
theorem ok__law_mixed (T : Tx K mg) : OkG P w K mg base 1 "_law_mixed" ["_law_cell", "_law_k"] spMixed := by
  refine T.f__law_mixed.okX sc__law_mixed (fun vs H Q E h => ?_) (fun cdv A outer s H vs Q E hr h => ?_)
  · obtain ⟨c, k, rfl, _⟩ := h
    rfl
  · have hu1 := hu_of hr; have hu0 := hr.units0; have hu64 := hr.units; have hu65 := hu65_of hr; have nd := sc__law_mixed.nd
    obtain ⟨c, k, rfl, hc, hk, q⟩ := h
    refine ⟨_, (pss_cons (ps_set (i := 2) nd rfl (Or.inl rfl) (pe_op op_modX (pe_op op_mulX (pe_op (op_addK (K := K) rfl) (pe_op (op_addK (K := K) rfl) (pe_op (op_addK (K := K) rfl) (pe_op op_mulX (pv 0) (pv 0)) (pe_op op_mulX pe_int (pv 0))) (pe_op op_mulX pe_int (pv 1))) pe_int) pe_int) pe_int))
      (pss_one (ps_ret (pe_op op_modX (pe_op (op_addK (K := K) rfl) (pe_op op_mulX (pv 2) (pv 2)) pe_int) pe_int)))), ?_⟩
    refine go_start (σ' := [some (.int c), some (.int k), none]) rfl ?_
    have b1 : Bd (1048576 + 1048576) (c * c) := hc.mul hc
    have b2 : Bd (2 + 1048576) (3 * c) := Bd.mul (by decide) hc
    have b3 : Bd (13 + 8) (7919 * k) := Bd.mul (by decide) hk
    have b4 : Bd 2097155 (c * c + 3 * c + 7919 * k + 1) := (((b1.add (b2.mono (by decide))).add (b3.mono (by decide))).add (Bd.mono (a := 1) (by decide) (by decide)))
    walk_at "w"
    refine go_I (hc.cmul hc) ?_
    walk_at "w"
    refine go_I (Bd.cmul (a := 2) (by decide) hc) ?_
    walk_at "w"
    refine go_I (Bd.cmul (a := 13) (by decide) hk) ?_
    walk_at "w"
    refine go_I (Bd.cmul (b := 16) b4 (by decide)) ?_
    walk_at "w"
    refine go_mod (by decide) ?_
    generalize hz : Int.fmod _ _ = z
    have hz2 := fmod_range (a := (c * c + 3 * c + 7919 * k + 1) * 48271) (n := 2147483629) (by decide)
    rw [hz] at hz2
    have b5 : Bd 31 z := bd_range hz2.1 hz2.2 (by decide)
    walk_at "w"
    refine go_I (b5.cmul b5) ?_
    walk_at "w"
    refine go_mod (by decide) ?_
    walk_at "w"
    have hy := fmod_range (a := z * z + 7) (n := 2147483587) (by decide)
    exact q _ (bd_range hy.1 hy.2 (by decide))
theorem ok__law_purse (T : Tx K mg) : OkG P w K mg base 2 "_law_purse" ["_law_script"] (spPurse K) := by
  have G__law_mixed := ok__law_mixed (P := P) (w := w) (base := base) T
  refine T.f__law_purse.okX sc__law_purse (fun vs H Q E h => ?_) (fun cdv A outer s H vs Q E hr h => ?_)
  · obtain ⟨a, ns, rfl, _⟩ := h
    rfl
  · have hu1 := hu_of hr; have hu0 := hr.units0; have hu64 := hr.units; have hu65 := hu65_of hr; have nd := sc__law_purse.nd
    obtain ⟨a, ns, rfl, hS, hl, hb, q⟩ := h
    refine ⟨_, (pss_cons (ps_set (i := 1) nd rfl (Or.inl rfl) (pe_op (op_addK (K := K) rfl) (pe_slice (sl_anyK (K := K) rfl) (pv 0) po_none (po_some pe_int)) (pe_lst (pa_cons pe_int pa_nil))))
      (pss_cons (ps_set (i := 2) nd rfl (Or.inl rfl) pe_int)
      (pss_cons (ps_for (passes_of rfl) rfl (pi_range1 rfl T.b_range (pa_cons pe_int pa_nil)) (pg_name (i := 3) nd rfl (Or.inl rfl))
      (pss_one (ps_set (i := 2) nd rfl (Or.inl rfl) (pe_op (op_addK (K := K) rfl) (pe_op op_mulX (pv 2) pe_int) (pcl T.g__law_mixed G__law_mixed hr (takes_of rfl rfl rfl rfl) (pa_cons (pe_ix (ix_anyK (K := K) rfl hu1) (pv 1) (pe_op op_modX (pv 3) (pe_callB (call_lenK (K := K) rfl) (by rfl) T.b_len (by decide +kernel) (pa_cons (pv 1) pa_nil))) (fun _ _ => rfl)) (pa_cons (pv 3) pa_nil)))))))
      (pss_cons (ps_if (pt_cmpR (op_eqK (K := K) rfl hu64) (pe_op op_modX (pe_ix (ix_anyK (K := K) rfl hu1) (pv 1) pe_int (fun _ _ => rfl)) pe_int) pe_int (nomark _)) (pss_one (ps_ret (pe_lst (pa_cons (pe_callB (call_max2 rfl) (by rfl) T.b_max (by decide +kernel) (pa_cons (pe_op op_fdivX (pe_ix (ix_anyK (K := K) rfl hu1) (pv 1) pe_int (fun _ _ => rfl)) pe_int) (pa_cons (pe_op op_sub (pe_un un_neg pe_int) (pe_op op_fdivX (pe_ix (ix_anyK (K := K) rfl hu1) (pv 1) pe_int (fun _ _ => rfl)) pe_int)) pa_nil))) (pa_cons (pv 2) pa_nil)))))
      pss_nil)
      (pss_one (ps_ret (pe_lst (pa_cons (pv 2) (pa_cons (pv 2) pa_nil))))))))), ?_⟩
    refine go_start (σ' := [some (.ref a), none, none, none]) rfl ?_
    walk_at "w"
    refine .inl ⟨a, _, rfl, hS, fun c hc => ?_⟩
    have ec : cutV (ns.map V.int) none (some 63) = ns.map V.int := by
      unfold cutV
      have e1 : HT.sIx (ns.map V.int).length 0 none = 0 := rfl
      have e2 : HT.sIx (ns.map V.int).length (ns.map V.int).length (some 63) = ns.length := by
        have := HT.sIx_nat (ns.map V.int).length (ns.map V.int).length 63
        rw [List.length_map] at this
        rw [List.length_map]
        rw [show (some (63 : Int)) = some ((63 : Nat) : Int) from rfl, this]
        omega
      rw [e1, e2, List.drop_zero, Nat.sub_zero, List.take_of_length_le (by rw [List.length_map]; exact Nat.le_refl _)]
    rw [ec]
    walk_at "w"
    refine go_size (by decide) fun z hz => ?_
    have ncz : c ≠ z := ne_of_none upd_same hz
    refine go_addL (by rw [upd_ne ncz]; exact upd_same) upd_same (by rw [List.length_map, sizeLine_eq]; simp only [List.length_cons, List.length_nil]; omega) fun d hd => ?_
    have eH : Hd H (upd (upd (upd H c (.lst (ns.map V.int))) z (.lst [.int 0])) d (.lst (ns.map V.int ++ [.int 0]))) [] := Hd.nil (((Ext.new hc).trans (Ext.new hz)).trans (Ext.new hd))
    have hcs : (upd (upd (upd H c (.lst (ns.map V.int))) z (.lst [.int 0])) d (.lst (ns.map V.int ++ [.int 0]))) d = some (.lst ((ns ++ [0]).map V.int)) := by
      rw [upd_same, List.map_append]
      rfl
    revert hcs eH
    generalize (upd (upd (upd H c (.lst (ns.map V.int))) z (.lst [.int 0])) d (.lst (ns.map V.int ++ [.int 0]))) = H1
    intro eH hcs
    have hb' : ∀ y ∈ ns ++ [0], Bd 1048576 y := fun y hy => by
      rcases List.mem_append.mp hy with hy | hy
      · exact hb y hy
      · rw [List.mem_singleton.mp hy]
        exact Nat.pow_pos (by decide)
    have hpos : 0 < (ns ++ [0]).length := by rw [List.length_append, List.length_singleton]; omega
    have hlen : (ns ++ [0]).length ≤ 64 := by rw [List.length_append, List.length_singleton]; omega
    revert hcs hb' hpos hlen
    generalize ns ++ [0] = cs
    intro hcs hb' hpos hlen
    walk_at "w"
    refine go_r1 (j := 150) 150 rfl (by decide) ?_
    refine loop_r 150 (fun i σ H' => H' = H1 ∧ ∃ x v, Bd (33 * i + 1) x ∧ σ = [some (.ref a), some (.ref d), some (.int x), v]) ⟨rfl, 1, none, by decide, rfl⟩ ?_ ?_
    · rintro i σ H' hi ⟨rfl, x, v, hx, rfl⟩
      walk_at "w"
      refine go_I (Bd.cmul (b := 31) hx (by decide) (by omega) (by decide) (by omega)) ?_
      walk_at "w"
      refine go_lenL (SqL.of hcs) ?_
      rw [List.length_map]
      refine go_mod (by omega) ?_
      have hm := fmod_range (a := (i : Int)) (n := (cs.length : Int)) (by omega)
      obtain ⟨j, hj⟩ : ∃ j : Nat, (i : Int).fmod (cs.length : Int) = (j : Int) := ⟨_, (Int.toNat_of_nonneg hm.1).symm⟩
      rw [hj]
      have hjl : j < cs.length := by omega
      refine go_subL (SqL.of hcs) (atI_nat (v := .int cs[j]) (by rw [List.getElem?_map, List.getElem?_eq_getElem hjl]; rfl)) ?_
      walk_at "w"
      refine ⟨_, _, rfl, hb' _ (List.getElem_mem hjl), ?_, fun r hr => ?_⟩
      · show (i : Int).natAbs < 2 ^ 8
        rw [Int.natAbs_natCast]
        omega
      · walk_at "w"
        refine ⟨rfl, _, _, ?_, rfl⟩
        have h1 : Bd (33 * i + 1 + 31) (x * 2147483587) := hx.mul (by decide)
        exact Bd.mono (Bd.add h1 (hr.mono (by omega))) (by omega)
    · rintro σ H' ⟨rfl, x, v, hx, rfl⟩
      have e0 : cs[0]? = some cs[0] := List.getElem?_eq_getElem hpos
      have es : atI (cs.map V.int) 0 = some (.int cs[0]) := atI_nat (j := 0) (by rw [List.getElem?_map, e0]; rfl)
      walk_at "w"
      refine go_subL (SqL.of hcs) es ?_
      walk_at "w"
      refine go_mod (by decide) ?_
      walk_at "w"
      refine go_ite (fun _ => ?_) (fun _ => ?_)
      · walk_at "w"
        refine go_subL (SqL.of hcs) es ?_
        walk_at "w"
        refine go_div 2 (by decide) (by decide) ?_
        walk_at "w"
        refine go_subL (SqL.of hcs) es ?_
        walk_at "w"
        refine go_div 2 (by decide) (by decide) ?_
        walk_at "w"
        refine ⟨_, _, rfl, ?_⟩
        walk_at "w"
        refine go_sz rfl fun p hp => ?_
        exact q p _ (eH.new hp ⟨_, _, rfl⟩)
      · walk_at "w"
        refine go_sz rfl fun p hp => ?_
        exact q p _ (eH.new hp ⟨_, _, rfl⟩)
theorem ok__law_draw (T : Tx K mg) : OkG P w K mg base 1 "_law_draw" ["_law_purse_here", "_law_out_of"] spDraw := by
  refine T.f__law_draw.okX sc__law_draw (fun vs H Q E h => ?_) (fun cdv A outer s H vs Q E hr h => ?_)
  · obtain ⟨G, L, p, n, rfl, _⟩ := h
    rfl
  · have hu1 := hu_of hr; have hu0 := hr.units0; have hu64 := hr.units; have hu65 := hu65_of hr; have nd := sc__law_draw.nd
    obtain ⟨G, L, p, n, rfl, hH, hm, hn, hb, q⟩ := h
    refine ⟨_, (pss_cons (ps_if (pt_cmpR (op_eqK (K := K) rfl hu64) (pe_ix (ix_anyK (K := K) rfl hu1) (pv 0) pe_int (fun _ _ => rfl)) pe_int (nomark _)) (pss_one (ps_asg (pe_ix (ix_anyK (K := K) rfl hu1) (pv 0) pe_int (fun _ _ => rfl)) (pg_sub (pv 0) pe_int (set_any hu1))))
      pss_nil)
      (pss_cons (ps_set (i := 2) nd rfl (Or.inl rfl) (pe_op op_modX (pe_ix (ix_anyK (K := K) rfl hu1) (pv 0) pe_int (fun _ _ => rfl)) (pv 1)))
      (pss_cons (ps_asg (pe_op op_fdivX (pe_ix (ix_anyK (K := K) rfl hu1) (pv 0) pe_int (fun _ _ => rfl)) (pv 1)) (pg_sub (pv 0) pe_int (set_any hu1)))
      (pss_one (ps_ret (pv 2)))))), ?_⟩
    refine go_start (σ' := [some (.ref p), some (.int n), none]) rfl ?_
    obtain ⟨o, hp, x, y, rfl⟩ := hH.get hm
    walk_at "w"
    refine go_subL (SqL.of hp) rfl ?_
    walk_at "w"
    have fin : ∀ (H1 : Hp) (x y : Int), Hd G H1 L → H1 p = some (.lst [.int x, .int y]) → tSeq (tAsg (tOp (rI CMod fun i j => .int (i.fmod j)) (tOp (rSub K) (tVar 0) (tC (.int 0))) (tVar 1)) (gName 2))
        (tSeq (tAsg (tOp (rI CDivX fun i j => .int (i.fdiv j)) (tOp (rSub K) (tVar 0) (tC (.int 0))) (tVar 1)) (gSub (tVar 0) (tC (.int 0)) rSet)) (tRet (tVar 2))) { nx := fun _ H' => Q .non H', rt := Q } [some (.ref p), some (.int n), none] H1 := by
      intro H1 x y hH1 hp1
      walk_at "w"
      refine go_subL (SqL.of hp1) rfl ?_
      walk_at "w"
      refine go_mod (by omega) ?_
      walk_at "w"
      refine go_subL (SqL.of hp1) rfl ?_
      walk_at "w"
      refine go_div 8000 (by omega) hb ?_
      walk_at "w"
      refine go_setL hp1 rfl ?_
      walk_at "w"
      have hr := fmod_range (a := x) hn
      exact q _ _ hr.1 hr.2 (hH1.put hm ⟨_, _, rfl⟩)
    refine go_ite (fun _ => ?_) (fun _ => ?_)
    · walk_at "w"
      refine go_subL (SqL.of hp) rfl ?_
      walk_at "w"
      refine go_setL hp rfl ?_
      exact fin _ _ _ (hH.put hm ⟨_, _, rfl⟩) upd_same
    · exact fin _ _ _ hH hp
end
end Mo
namespace Mo
open PySem PySem.Spec PyProof.Rows L2
/-! ### the law's own worths -/
def spWorth : Sp := fun vs H Q _ => ∃ (G : Hp) (L : Vo) (p : Addr), vs = [.ref p] ∧ Hd G H L ∧ (p, Purse) ∈ L ∧ ∀ d H', Worth d → Hd G H' L → Q (.int d) H'
section
variable {P : Program} {w : World} {K : PySem.W.Frag} {mg : Str → Option Value} {base : Heap}
theorem ok__law_worth (T : Tx K mg) : OkG P w K mg base 2 "_law_worth" ["_law_purse_here"] spWorth := by
  have G__law_draw := ok__law_draw (P := P) (w := w) (base := base) T
  refine T.f__law_worth.okX sc__law_worth (fun vs H Q E h => ?_) (fun cdv A outer s H vs Q E hr h => ?_)
  · obtain ⟨G, L, p, rfl, _⟩ := h
    rfl
  · have hu1 := hu_of hr; have hu0 := hr.units0; have hu64 := hr.units; have hu65 := hu65_of hr; have nd := sc__law_worth.nd
    obtain ⟨G, L, p, rfl, hH, hm, q⟩ := h
    refine ⟨_, (pss_cons (ps_set (i := 1) nd rfl (Or.inl rfl) (pcl T.g__law_draw G__law_draw hr (takes_of rfl rfl rfl rfl) (pa_cons (pv 0) (pa_cons pe_int pa_nil))))
      (pss_cons (ps_if (pt_cmpR (op_eqK (K := K) rfl hu64) (pv 1) pe_int (nomark _)) (pss_one (ps_ret (pe_op op_mulX (pe_op op_sub (pe_op op_pow pe_int pe_int) (pcl T.g__law_draw G__law_draw hr (takes_of rfl rfl rfl rfl) (pa_cons (pv 0) (pa_cons pe_int pa_nil)))) (pe_op op_sub pe_int (pe_op op_mulX pe_int (pcl T.g__law_draw G__law_draw hr (takes_of rfl rfl rfl rfl) (pa_cons (pv 0) (pa_cons pe_int pa_nil))))))))
      pss_nil)
      (pss_cons (ps_if (pt_cmpR (op_eqK (K := K) rfl hu64) (pv 1) pe_int (nomark _)) (pss_one (ps_ret (pe_op op_sub (pcl T.g__law_draw G__law_draw hr (takes_of rfl rfl rfl rfl) (pa_cons (pv 0) (pa_cons (pe_op (op_addK (K := K) rfl) (pe_op op_mulX pe_int (pe_op op_pow pe_int pe_int)) pe_int) pa_nil))) (pe_op op_pow pe_int pe_int))))
      pss_nil)
      (pss_one (ps_ret (pe_op op_sub (pcl T.g__law_draw G__law_draw hr (takes_of rfl rfl rfl rfl) (pa_cons (pv 0) (pa_cons pe_int pa_nil))) pe_int)))))), ?_⟩
    refine go_start (σ' := [some (.ref p), none]) rfl ?_
    walk_at "we"
    refine ⟨G, L, p, 6, rfl, hH, hm, by decide, by decide, fun d H1 _ _ hH1 => ?_⟩
    walk_at "we"
    refine go_ite (fun _ => ?_) (fun _ => ?_)
    · walk_at "we"
      refine ⟨G, L, p, 3, rfl, hH1, hm, by decide, by decide, fun a H2 a0 a1 hH2 => ?_⟩
      walk_at "we"
      refine ⟨G, L, p, 2, rfl, hH2, hm, by decide, by decide, fun b H3 b0 b1 hH3 => ?_⟩
      walk_at "we"
      refine go_I (Bd.cmul (a := 3) (b := 3) (by decide) (by show Int.natAbs _ < 8; omega)) ?_
      walk_at "we"
      have w1 : Worth (1000000000000000 - a) := ⟨by omega, by omega⟩
      refine go_I ((worth_bd w1).cmul (b := 3) (by show Int.natAbs _ < 8; omega)) ?_
      refine q _ _ ?_ hH3
      have hb : b = 0 ∨ b = 1 := by omega
      rcases hb with rfl | rfl
      · exact ⟨by omega, by omega⟩
      · exact ⟨by omega, by omega⟩
    · walk_at "we"
      refine go_ite (fun _ => ?_) (fun _ => ?_)
      · walk_at "we"
        refine go_I (Bd.cmul (a := 3) (b := 50) (by decide) (by decide)) ?_
        walk_at "we"
        refine ⟨G, L, p, _, rfl, hH1, hm, by decide, by decide, fun a H2 a0 a1 hH2 => ?_⟩
        walk_at "we"
        exact q _ _ ⟨by omega, by omega⟩ hH2
      · walk_at "we"
        refine ⟨G, L, p, 13, rfl, hH1, hm, by decide, by decide, fun a H2 a0 a1 hH2 => ?_⟩
        walk_at "we"
        exact q _ _ ⟨by omega, by omega⟩ hH2
end
end Mo
namespace Mo
open PySem PySem.Spec PyProof.Rows L2
/-! ### a state that the law makes -/
def spStateOf (K : PySem.W.Frag) : Sp := fun vs H Q _ => ∃ (G : Hp) (L : Vo) (pu lb lq : Addr) (bs qs : List Str), vs = [.ref pu, .ref lb, .ref lq] ∧ Hd G H L ∧ (pu, Purse) ∈ L ∧ G lb = some (.lst (bs.map V.str)) ∧ G lq = some (.lst (qs.map V.str)) ∧ bs.Nodup ∧ qs.Nodup ∧ bs.length ≤ 9 ∧ qs.length ≤ 9 ∧
  ∀ (st dx b c : Addr) (as : List Addr) (s : MSt) (G' H' : Hp), s.queues.length = as.length → s.bs = bs → s.qs = qs → (∀ p ∈ s.boxes, Worth p.2) → (∀ p ∈ s.queues, p.2.length ≤ 300) → Ext G G' → Hd G' H' (stV K st dx b c as s ++ L) → Q (.ref st) H'
section
variable {P : Program} {w : World} {K : PySem.W.Frag} {mg : Str → Option Value} {base : Heap}
theorem ok__law_state_of (T : Tx K mg) : OkG P w K mg base 6 "_law_state_of" ["_law_purse_here", "_law_boxes", "_law_queues"] (spStateOf K) := by
  have G__law_draw := ok__law_draw (P := P) (w := w) (base := base) T
  have G__law_worth := ok__law_worth (P := P) (w := w) (base := base) T
  have G_first_state := ok_first_state (P := P) (w := w) (base := base) T
  have G_Model_init := ok_Model_init (P := P) (w := w) (base := base) T 1
  refine T.f__law_state_of.okX sc__law_state_of (fun vs H Q E h => ?_) (fun cdv A outer s H vs Q E hr h => ?_)
  · obtain ⟨G, L, pu, lb, lq, bs, qs, rfl, _⟩ := h
    rfl
  · have hu1 := hu_of hr; have hu0 := hr.units0; have hu64 := hr.units; have hu65 := hu65_of hr; have nd := sc__law_state_of.nd
    obtain ⟨G, L, pu, lb, lq, bs, qs, rfl, z6, hpu, hlb, hlq, nb, nq, lenb, lenq, q⟩ := h
    refine ⟨_, (pss_cons (ps_set (i := 4) nd rfl (Or.inl rfl) (pe_tup (pa_cons pe_str (pa_cons (pe_lc (own := [("_law_name", 3)]) rfl nd (pi_seqK (K := K) rfl (pv 1)) (blkOk_by (own := [("_law_name", 3)]) (N := nm__law_state_of) (sc := defScope s__law_state_of) (by decide +kernel)) (fun _ _ _ _ _ => (pg_name (i := 3) nd rfl (Or.inl rfl) (Or.inr rfl))) (fun _ _ _ _ _ => pts_nil) (fun _ _ _ _ _ => (pe_tup (pa_cons (pv 3) (pa_cons pe_int pa_nil))))) (pa_cons (pv 2) (pa_cons (pe_lst pa_nil) (pa_cons (pe_lst pa_nil) pa_nil)))))))
      (pss_cons (ps_set (i := 5) nd rfl (Or.inl rfl) (pcl T.g_first_state G_first_state hr (takes_of rfl rfl rfl rfl) (pa_cons (pmkK (K := K) rfl T.k_Model G_Model_init hr (takes_of rfl rfl rfl rfl) (pa_cons (pe_lst (pa_cons (pv 4) pa_nil)) pa_nil)) (pa_cons pe_int pa_nil))))
      (pss_cons (ps_for (passes_of rfl) rfl (pi_seqK (K := K) rfl (pv 1)) (pg_name (i := 3) nd rfl (Or.inl rfl))
      (pss_one (ps_asg (pcl T.g__law_worth G__law_worth hr (takes_of rfl rfl rfl rfl) (pa_cons (pv 0) pa_nil)) (pg_sub (pe_fldK (K := K) rfl (pv 5) rfl) (pv 3) (set_any hu1)))))
      (pss_cons (ps_for (passes_of rfl) rfl (pi_seqK (K := K) rfl (pv 2)) (pg_name (i := 3) nd rfl (Or.inl rfl))
      (pss_one (ps_for (passes_of rfl) rfl (pi_range1 rfl T.b_range (pa_cons (pcl T.g__law_draw G__law_draw hr (takes_of rfl rfl rfl rfl) (pa_cons (pv 0) (pa_cons pe_int pa_nil))) pa_nil)) (pg_name (i := 6) nd rfl (Or.inl rfl))
      (pss_one (ps_expr (pe_bmK (K := K) rfl PySem.F.plainAttrs_list PySem.F.slot_list_append PySem.F.type_list_append mt_append (pe_ix (ix_anyK (K := K) rfl hu1) (pe_fldK (K := K) rfl (pv 5) rfl) (pv 3) (fun _ _ => rfl)) (pa_cons (pcl T.g__law_worth G__law_worth hr (takes_of rfl rfl rfl rfl) (pa_cons (pv 0) pa_nil)) pa_nil)))))))
      (pss_one (ps_ret (pv 5))))))), ?_⟩
    refine go_start (σ' := [some (.ref pu), some (.ref lb), some (.ref lq), none, none, none, none]) rfl ?_
    walk_at "we"
    refine go_sqL (SqL.of (z6.ex _ _ hlb)) (go_lcA fun Dl hD => ?_)
    refine lcx_l (xs := bs.map V.str) (fun i H' => ∃ (G' : Hp) (acc : List V) (ps : List (Str × Int)), ps.map (·.1) = bs.take i ∧ (∀ p ∈ ps, Worth p.2) ∧ Ext G G' ∧ Hd G' H' ((Dl, Eq (.lst acc)) :: L) ∧ DpAll K G' acc (ps.map boxD))
      ⟨G, [], [], rfl, (fun p h => nomatch h), Ext.refl _, z6.new hD rfl, .nil⟩ (fun i H' _ ⟨G', acc, ps, _, _, x, z, _⟩ => SqL.of (z.ex _ _ (x _ _ hlb))) ?_ ?_
    · rintro k x H' hk ⟨G', acc, ps, e1, e2, x1, z7, w7⟩
      rw [List.getElem?_map] at hk
      obtain ⟨b, hb1, rfl⟩ := Option.map_eq_some_iff.mp hk
      walk_at "we"
      refine ⟨rfl, ?_⟩
      walk_at "we"
      refine go_sz rfl fun t ht => ?_
      obtain ⟨x9, z9, w9⟩ := dp_fix (K := K) (xs := [.str b, .int 0]) (ds := [.str b, .int 0]) z7 ht (.cons (.str _) (.cons (.int _) .nil))
      have hl9 := dpa_len w7
      have hl10 := congrArg List.length e1
      rw [List.length_map, List.length_take] at hl10
      rw [List.length_map] at hl9
      refine ⟨acc, z9.eq List.mem_cons_self, by rw [sizeLine_eq]; omega, _, acc ++ [.ref t], ps ++ [(b, 0)], ?_, fun p hp => ?_, x1.trans x9, z9.set0 rfl, ?_⟩
      · rw [List.map_append, e1, List.take_add_one, hb1]
        rfl
      · rcases List.mem_append.mp hp with hp | hp
        · exact e2 p hp
        · rw [List.mem_singleton.mp hp]
          show Worth 0
          exact ⟨by decide, by decide⟩
      · rw [List.map_append]
        exact dpa_app (dpa_mono x9 w7) (dpa_one w9)
    rintro H7 ⟨G7, acc, ps, e1, e2, x7, z7, w7⟩
    rw [List.length_map, List.take_of_length_le (Nat.le_refl _)] at e1
    obtain ⟨x8, z8, w8⟩ := dp_freeze (K := K) z7 (z7.eq List.mem_cons_self) w7
    have hlb8 := (x7.trans x8) _ _ hlb
    have hlq8 := (x7.trans x8) _ _ hlq
    have xE8 := x7.trans x8
    revert z8 w8 hlb8 hlq8 xE8
    clear x8
    generalize upd G7 Dl (.lst acc) = G8
    intro z8 w8 hlb8 hlq8 xE8
    walk_at "we"
    refine go_sz rfl fun a3 h3 => ?_
    obtain ⟨x9, z9, w9⟩ := dp_fixL (K := K) (xs := []) (ds := []) z8 h3 .nil
    walk_at "we"
    refine go_sz rfl fun a4 h4 => ?_
    obtain ⟨x10, z10, w10⟩ := dp_fixL (K := K) (xs := []) (ds := []) z9 h4 .nil
    walk_at "we"
    refine go_sz rfl fun a5 h5 => ?_
    obtain ⟨x11, z11, w11⟩ := dp_fix (K := K) (xs := [.str "one", .ref Dl, .ref lq, .ref a3, .ref a4]) (ds := [.str "one", .list (ps.map boxD), .list (qs.map PyData.str), .list [], .list []]) z10 h5
      (.cons (.str _) (.cons (dp_mono (x9.trans x10) w8) (.cons (dp_mono (x9.trans x10) (.lst (SqL.of hlq8) (dpa_strs qs))) (.cons (dp_mono x10 w9) (.cons w10 .nil)))))
    walk_at "we"
    refine go_sz rfl fun a6 h6 => ?_
    obtain ⟨x12, z12, w12⟩ := dp_fixL (K := K) (xs := [.ref a5]) z11 h6 (.cons w11 .nil)
    have hlb12 := (((x9.trans x10).trans x11).trans x12) _ _ hlb8
    have hlq12 := (((x9.trans x10).trans x11).trans x12) _ _ hlq8
    have w13 := dp_mono x12 w11
    have hl12 : (upd (upd (upd (upd G8 a3 (.lst [])) a4 (.lst [])) a5 (.tup [.str "one", .ref Dl, .ref lq, .ref a3, .ref a4])) a6 (.lst [.ref a5])) a6 = some (.lst [.ref a5]) := upd_same
    clear w12
    have xE12 := xE8.trans (((x9.trans x10).trans x11).trans x12)
    revert z12 hlb12 hlq12 w13 hl12 xE12
    clear x9 x10 x11 x12 z9 z10 z11 w9 w10 w11
    generalize upd (upd (upd (upd G8 a3 (.lst [])) a4 (.lst [])) a5 (.tup [.str "one", .ref Dl, .ref lq, .ref a3, .ref a4])) a6 (.lst [.ref a5]) = G12
    generalize upd (upd (upd (upd H7 a3 (.lst [])) a4 (.lst [])) a5 (.tup [.str "one", .ref Dl, .ref lq, .ref a3, .ref a4])) a6 (.lst [.ref a5]) = H12
    intro z12 hlb12 hlq12 w13 hl12 xE12
    walk_at "we"
    intro p dx np nd2 ne
    have x13 : Ext H12 (upd (upd H12 dx (.own p)) p (.ins (He.ga K "Model") dx [])) := Ext.made np nd2
    have z13 := z12.made (φ := Eq (.ins (He.ga K "Model") dx [])) np nd2 ne rfl
    obtain ⟨m, hm⟩ : ∃ m : Mach, m = ⟨"one", ps, qs, [], []⟩ := ⟨_, rfl⟩
    have mdata : m.data = .tuple [.str "one", .list (ps.map boxD), .list (qs.map PyData.str), .list [], .list []] := by rw [hm]; rfl
    have mnd : m.Nd := by rw [hm]; exact ⟨by show (ps.map (·.1)).Nodup; rw [e1]; exact nb, nq⟩
    have lps : ps.length ≤ 9 := by
      have := congrArg List.length e1
      rw [List.length_map] at this
      omega
    have msm : m.Sm := by rw [hm]; exact ⟨by show ps.length ≤ 1000; omega, by show qs.length ≤ 1000; omega, Nat.zero_le _, Nat.zero_le _, fun _ h => (nomatch h)⟩
    refine ⟨G12, _, p, dx, a6, [.ref a5], [m], rfl, z13, SqL.of (z13.ex _ _ hl12), rfl, ?_, ?_, by show 1 ≤ 1000; decide, fun lm G14 H14 u1 u2 z14 w14 => ⟨rfl, ?_⟩⟩
    · intro i x m' h1 h2
      match i, h1, h2 with
      | 0, h1, h2 =>
        cases h1
        cases h2
        exact machIn_of z13.ex (by rw [mdata]; exact w13)
      | i + 1, h1, h2 => cases h1
    · intro m' hm'
      cases List.mem_singleton.mp hm'
      exact ⟨by rw [hm]; exact Nat.zero_lt_one, msm⟩
    have z15 := z14.freeze (z14.eq List.mem_cons_self)
    have x15 : Ext G14 (upd G14 p (.ins (He.ga K "Model") dx (fl_Model (.ref lm)))) := Ext.new (z14.no List.mem_cons_self)
    have hMG : ModelG K (upd G14 p (.ins (He.ga K "Model") dx (fl_Model (.ref lm)))) p [m] := ⟨dx, lm, upd_same, dp_mono x15 w14⟩
    have hlb15 := (u1.trans x15) _ _ hlb12
    have hlq15 := (u1.trans x15) _ _ hlq12
    have xE15 := (xE12.trans u1).trans x15
    revert z15 hMG hlb15 hlq15 xE15
    clear x15
    generalize upd G14 p (.ins (He.ga K "Model") dx (fl_Model (.ref lm))) = G15
    intro z15 hMG hlb15 hlq15 xE15
    walk_at "we"
    refine ⟨G15, _, p, [m], 0, m, rfl, z15, hMG, rfl, mnd, msm, fun st dx2 b c as H16 hal x16 z16 => ?_⟩
    have hbs : m.first.bs = bs := by rw [hm]; exact e1
    have hqs : m.first.qs = qs := by
      rw [hm]
      show (qs.map fun q => (q, ([] : List Int))).map (·.1) = qs
      rw [List.map_map]
      exact List.map_id qs
    have hal2 : m.first.queues.length = as.length := by rw [hal, hm]; exact List.length_map ..
    have hw0 : ∀ p ∈ m.first.boxes, Worth p.2 := by rw [hm]; exact e2
    have hq0 : ∀ p ∈ m.first.queues, p.2.length ≤ 4 * 0 := by
      rw [hm]
      intro p hp
      obtain ⟨x, _, rfl⟩ := List.mem_map.mp (show p ∈ qs.map fun q => (q, ([] : List Int)) from hp)
      exact Nat.zero_le _
    revert z16 hbs hqs hal2 hw0 hq0
    generalize m.first = s0
    intro z16 hbs hqs hal2 hw0 hq0
    walk_at "we"
    refine go_sqL (SqL.of (z16.ex _ _ hlb15)) ?_
    refine loop_l (xs := bs.map V.str) (fun i σ H' => ∃ (u v : Option V) (s : MSt), σ = [some (.ref pu), some (.ref lb), some (.ref lq), u, some (.ref a5), some (.ref st), v] ∧ s.bs = bs ∧ s.qs = qs ∧ s.queues.length = as.length ∧ s.queues = s0.queues ∧ (∀ p ∈ s.boxes, Worth p.2) ∧
        Hd G15 H' (stV K st dx2 b c as s ++ L)) ⟨_, _, s0, rfl, hbs, hqs, hal2, rfl, hw0, z16⟩ ?_ ?_ ?_
    · rintro i σ' H' _ ⟨u, v, s, _, _, _, _, _, _, z⟩
      exact SqL.of (z.ex _ _ hlb15)
    · rintro i x σ' H' hi ⟨u, v, s, rfl, hb1, hq1, hl1, hqq, hw1, z⟩
      rw [List.getElem?_map] at hi
      obtain ⟨y, hy, rfl⟩ := Option.map_eq_some_iff.mp hi
      have hyb : y ∈ bs := List.mem_of_getElem? hy
      walk_at "we"
      refine ⟨G15, _, pu, rfl, z, List.mem_append_right _ hpu, fun d H17 wd z17 => ?_⟩
      walk_at "we"
      refine go_fldL (st_obj z17) T.c_State T.n_State_boxes lk_State_boxes ?_
      walk_at "we"
      have hlb9 : s.boxes.length ≤ 9 := by
        have := congrArg List.length hb1
        unfold MSt.bs at this
        rw [List.length_map] at this
        omega
      refine go_setK (st_box z17) (by unfold boxesV; rw [List.length_map, sizeLine_eq]; omega) ?_
      refine ⟨_, _, s.setB y d, rfl, by rw [MSt.setB_bs]; exact hb1, hq1, hl1, hqq, fun p hp => ?_, st_setB z17 (by rw [hb1]; exact hyb) d⟩
      obtain ⟨q', hq', rfl⟩ := List.mem_map.mp hp
      show Worth (if q'.1 = y then (y, d) else q').2
      split
      · exact wd
      · exact hw1 q' hq'
    rintro σ' H' ⟨u, v, s1, rfl, hb1, hq1, hl1, hqq, hw1, z16⟩
    have hq0' : ∀ p ∈ s1.queues, p.2.length ≤ 30 * 0 := by rw [hqq]; exact hq0
    clear hq0 hqq hw0 hbs hqs hal2
    walk_at "we"
    -- the queues are filled
    refine go_sqL (SqL.of (z16.ex _ _ hlq15)) ?_
    refine loop_l (xs := qs.map V.str) (fun i σ H' => ∃ (u v : Option V) (s : MSt), σ = [some (.ref pu), some (.ref lb), some (.ref lq), u, some (.ref a5), some (.ref st), v] ∧ s.boxes = s1.boxes ∧ s.qs = qs ∧ s.queues.length = as.length ∧
        (∀ p ∈ s.queues, p.2.length ≤ 30 * i) ∧ Hd G15 H' (stV K st dx2 b c as s ++ L))
      ⟨_, _, s1, rfl, rfl, hq1, hl1, hq0', z16⟩ ?_ ?_ ?_
    · rintro i σ' H' _ ⟨u, v, s, _, _, _, _, _, z⟩
      exact SqL.of (z.ex _ _ hlq15)
    · rintro i x σ' H' hi ⟨u, v, s, rfl, hb1, hq1, hl1, hln1, z⟩
      rw [List.getElem?_map] at hi
      obtain ⟨y, hy, rfl⟩ := Option.map_eq_some_iff.mp hi
      have hyq : y ∈ qs := List.mem_of_getElem? hy
      have hil := (List.getElem?_eq_some_iff.mp hy).1
      walk_at "we"
      refine ⟨G15, _, pu, 31, rfl, z, List.mem_append_right _ hpu, by decide, by decide, fun d H17 d0 d1 z17 => ?_⟩
      obtain ⟨d, rfl⟩ : ∃ k : Nat, d = (k : Int) := ⟨d.toNat, by omega⟩
      refine go_r1 d rfl (by omega) ?_
      refine loop_r d (fun k σ H' => ∃ (v : Option V) (s : MSt), σ = [some (.ref pu), some (.ref lb), some (.ref lq), some (.str y), some (.ref a5), some (.ref st), v] ∧ s.boxes = s1.boxes ∧ s.qs = qs ∧ s.queues.length = as.length ∧
          (∀ p ∈ s.queues, p.2.length ≤ 30 * i + k) ∧ Hd G15 H' (stV K st dx2 b c as s ++ L))
        ⟨_, s, rfl, hb1, hq1, hl1, hln1, z17⟩ ?_ ?_
      · rintro k σ2 H18 hk ⟨v, s, rfl, hb2, hq2, hl2, hln2, z18⟩
        walk_at "we"
        refine go_fldL (st_obj z18) T.c_State T.n_State_queues lk_State_queues ?_
        walk_at "we"
        obtain ⟨qa, v1, v2, v3⟩ := st_setQ (x := y) z18 hl2 (by rw [hq2]; exact nq) (by rw [hq2]; exact hyq)
        refine go_subK (st_que z18) v1 ?_
        refine go_tyL (SqL.of v2) ?_
        walk_at "we"
        refine ⟨G15, _, pu, rfl, z18, List.mem_append_right _ hpu, fun d H19 wd z19 => ?_⟩
        obtain ⟨qa', v1', v2', v3'⟩ := st_setQ (x := y) z19 hl2 (by rw [hq2]; exact nq) (by rw [hq2]; exact hyq)
        rw [v1] at v1'
        cases v1'
        have hlk := lookQ_len hln2 y
        walk_at "we"
        refine go_app v2' (by rw [List.length_map, sizeLine_eq]; omega) ?_
        have z20 := v3' (lookD [] y s.queues ++ [d])
        rw [List.map_append] at z20
        refine ⟨_, s.setQ y (lookD [] y s.queues ++ [d]), rfl, hb2, by rw [MSt.setQ_qs]; exact hq2, ?_, setQ_all (φ := fun l => l.length ≤ 30 * i + (k + 1)) (fun p hp => Nat.le_succ_of_le (hln2 p hp)) (by show (_ ++ [d]).length ≤ _; rw [List.length_append]; exact Nat.succ_le_succ hlk), z20⟩
        show (setA y _ s.queues).length = as.length
        rw [setA_len]
        exact hl2
      · rintro σ2 H18 ⟨v, s, rfl, hb2, hq2, hl2, hln2, z18⟩
        exact ⟨_, _, s, rfl, hb2, hq2, hl2, fun p hp => by have := hln2 p hp; omega, z18⟩
    rintro σ' H' ⟨u, v, s, rfl, hbx, hqx, hlx, hlnx, z⟩
    walk_at "we"
    refine q st dx2 b c as s G15 H' hlx (by unfold MSt.bs; rw [hbx]; exact hb1) hqx (by rw [hbx]; exact hw1) (fun p hp => ?_) xE15 z
    have := hlnx p hp
    rw [List.length_map] at this
    omega
end
end Mo
namespace Mo
open PySem PySem.Spec PyProof.Rows L2
/-! ### formulas.py -/
/-- a fault's exception -/
def fltE (K : PySem.W.Frag) (x : Flt) : Value := .ref (He.ga K x.cls)
def spKept (K : PySem.W.Frag) : Sp := fun vs H Q E => ∃ n : Int, vs = [.int n] ∧ (∀ m, keptIn n = .ok m → Q (.int m) H) ∧ (∀ x, keptIn n = .error x → E (fltE K x) none H)
def spOfTwo (K : PySem.W.Frag) : Sp := fun vs H Q E => ∃ (o : Op) (a b : Int), vs = [.str o.name, .int a, .int b] ∧ Worth a ∧ Worth b ∧ (∀ m, o.raw a b = .ok m → Q (.int m) H) ∧ (∀ x, o.raw a b = .error x → E (fltE K x) none H)
def spWorthOf (n : Nat) (K : PySem.W.Frag) : Sp := fun vs H Q E => ∃ (x : V) (f : Fm) (p g : Addr) (s : MSt) (now g0 g1 : Int), vs = [x, .ref p, .int now, .ref g] ∧ Dp K H x f.data ∧ f.depth < n ∧ StAt K H p s ∧
  SqL K H g [.int g0, .int g1] ∧ f.Ok s.bs s.qs ∧ (s.env now g0 g1).Ok s.bs s.qs ∧
  (∀ m, f.ev (s.env now g0 g1) = .ok m → Q (.int m) H) ∧ (∀ x, f.ev (s.env now g0 g1) = .error x → E (fltE K x) none H)
section
variable {P : Program} {w : World} {K : PySem.W.Frag} {mg : Str → Option Value} {base : Heap}
theorem ok_kept_in (T : Tx K mg) : OkG P w K mg base 1 "kept_in" ["number"] (spKept K) := by
  refine T.f_kept_in.okX sc_kept_in (fun vs H Q E h => ?_) (fun cdv A outer s H vs Q E hr h => ?_)
  · obtain ⟨n, rfl, _⟩ := h
    rfl
  · have hu1 := hu_of hr; have hu0 := hr.units0; have hu64 := hr.units; have hu65 := hu65_of hr; have nd := sc_kept_in.nd
    obtain ⟨n, rfl, q1, q2⟩ := h
    refine ⟨_, (pss_cons (ps_if (PW.pt (pw_or (pt_cmpR (op_ltK (K := K) rfl hu0) (pv 0) (pe_un un_neg (T.v_MOST)) (nomark _)) (pw_or1 (pt_cmpR (op_gt) (pv 0) (T.v_MOST) (nomark _))))) (pss_one (ps_raise rfl (takes_of rfl rfl rfl rfl) (mk_Great T rfl rfl)))
      pss_nil)
      (pss_one (ps_ret (pv 0)))), ?_⟩
    refine go_start (σ' := [some (.int n)]) rfl ?_
    walk_at "w"
    refine go_ite (fun h => ?_) (fun h => ?_)
    · exact q2 .great (by unfold keptIn; rw [if_pos (.inl h)])
    · walk_at "w"
      refine go_ite (fun h2 => ?_) (fun h2 => ?_)
      · exact q2 .great (by unfold keptIn; rw [if_pos (.inr h2)])
      · walk_at "w"
        exact q1 _ (by unfold keptIn; rw [if_neg (by intro z; rcases z with z | z; exact h z; exact h2 z)])
theorem ok_of_two (T : Tx K mg) : OkG P w K mg base 1 "of_two" ["word", "one", "other"] (spOfTwo K) := by
  refine T.f_of_two.okX sc_of_two (fun vs H Q E h => ?_) (fun cdv A outer s H vs Q E hr h => ?_)
  · obtain ⟨o, a, b, rfl, _⟩ := h
    rfl
  · have hu1 := hu_of hr; have hu0 := hr.units0; have hu64 := hr.units; have hu65 := hu65_of hr; have nd := sc_of_two.nd
    obtain ⟨o, a, b, rfl, wa, wb, q1, q2⟩ := h
    refine ⟨_, (pss_cons (ps_if (pt_cmpR (op_eqK (K := K) rfl hu64) (pv 0) pe_str (nomark _)) (pss_one (ps_ret (pe_op (op_addK (K := K) rfl) (pv 1) (pv 2))))
      pss_nil)
      (pss_cons (ps_if (pt_cmpR (op_eqK (K := K) rfl hu64) (pv 0) pe_str (nomark _)) (pss_one (ps_ret (pe_op op_sub (pv 1) (pv 2))))
      pss_nil)
      (pss_cons (ps_if (pt_cmpR (op_eqK (K := K) rfl hu64) (pv 0) pe_str (nomark _)) (pss_one (ps_ret (pe_op op_mulX (pv 1) (pv 2))))
      pss_nil)
      (pss_cons (ps_if (pt_cmpR (op_eqK (K := K) rfl hu64) (pv 0) pe_str (nomark _)) (pss_one (ps_ret (pe_callTy call_int1 (by rfl) T.b_int (by decide +kernel) (pa_cons (pe_cmpR (op_ltK (K := K) rfl hu0) (pv 1) (pv 2) (nomark _)) pa_nil))))
      pss_nil)
      (pss_cons (ps_if (pt_cmpR (op_eqK (K := K) rfl hu64) (pv 0) pe_str (nomark _)) (pss_one (ps_ret (pe_callTy call_int1 (by rfl) T.b_int (by decide +kernel) (pa_cons (pe_cmpR (op_eqK (K := K) rfl hu64) (pv 1) (pv 2) (nomark _)) pa_nil))))
      pss_nil)
      (pss_cons (ps_if (pt_cmpR (op_eqK (K := K) rfl hu64) (pv 2) pe_int (nomark _)) (pss_one (ps_raise rfl (takes_of rfl rfl rfl rfl) (mk_Nought T rfl rfl)))
      pss_nil)
      (pss_cons (ps_if (pt_cmpR (op_eqK (K := K) rfl hu64) (pv 0) pe_str (nomark _)) (pss_one (ps_ret (pe_op op_fdivX (pv 1) (pv 2))))
      pss_nil)
      (pss_one (ps_ret (pe_op op_modX (pv 1) (pv 2))))))))))), ?_⟩
    refine go_start (σ' := [some (.str o.name), some (.int a), some (.int b)]) rfl ?_
    have ei : ∀ (p : Prop) [Decidable p], (if decide p = true then (1 : Int) else 0) = if p then 1 else 0 := fun p _ => by by_cases h : p <;> simp [h]
    cases o <;> dsimp only [Op.name] <;> walk_at "we"
    · exact q1 _ rfl
    · exact q1 _ rfl
    · exact go_I ((worth_bd wa).cmul (worth_bd wb)) (q1 _ rfl)
    · refine go_ite (fun h => ?_) (fun h => ?_)
      · exact q2 .nought (if_pos h)
      · walk_at "we"
        exact go_div 50 h (worth_bd wb) (q1 _ (if_neg h))
    · refine go_ite (fun h => ?_) (fun h => ?_)
      · exact q2 .nought (if_pos h)
      · walk_at "we"
        exact go_mod h (q1 _ (if_neg h))
    · rw [ei]
      exact q1 _ rfl
    · rw [ei]
      exact q1 _ rfl
theorem stAt_env {H : Hp} {p : Addr} {s : MSt} (h : StAt K H p s) : ∃ dx b q, H p = some (.ins (He.ga K "State") dx (fl_State (.ref b) (.ref q) (.int s.drawn) (.int s.sent))) ∧ H b = some (.dK (boxesV s.boxes)) ∧
    ∃ as, H q = some (.dK (queuesV s.queues as)) ∧ ∀ x ∈ s.qs, ∃ a, valV (queuesV s.queues as) (Sum.inr x) = some (.ref a) ∧ H a = some (.lst ((lookD [] x s.queues).map V.int)) := by
  obtain ⟨dx, b, q, as, hl, hi⟩ := h.there
  refine ⟨dx, b, q, hi _ (List.mem_cons_self), hi _ (List.mem_cons_of_mem _ List.mem_cons_self), as, hi _ (List.mem_cons_of_mem _ (List.mem_cons_of_mem _ List.mem_cons_self)), fun x hx => ?_⟩
  obtain ⟨i, a, h1, h2, h3⟩ := val_queues hl hx
  refine ⟨a, h3, hi (a, _) (List.mem_cons_of_mem _ (List.mem_cons_of_mem _ (List.mem_cons_of_mem _ ?_)))⟩
  refine List.mem_map.mpr ⟨((x, lookD [] x s.queues), a), ?_, rfl⟩
  have e : (s.queues.zip as)[i]? = some ((x, lookD [] x s.queues), a) := by rw [List.getElem?_zip_eq_some]; exact ⟨h1, h2⟩
  exact List.mem_of_getElem? e
theorem ok_worth_of (T : Tx K mg) : ∀ n, OkG P w K mg base (n + 2) "worth_of" ["formula", "state", "now", "got"] (spWorthOf n K) := by
  have G_kept_in := ok_kept_in (P := P) (w := w) (base := base) T
  have G_of_two := ok_of_two (P := P) (w := w) (base := base) T
  intro n
  induction n with
  | zero =>
    refine T.f_worth_of.okX sc_worth_of (fun vs H Q E h => ?_) (fun cdv A outer s H vs Q E hr h => ?_)
    · obtain ⟨x, f, p, g, s, now, g0, g1, rfl, _⟩ := h
      rfl
    · obtain ⟨x, f, p, g, s, now, g0, g1, rfl, hx, hd, _⟩ := h
      exact absurd hd (Nat.not_lt_zero _)
  | succ n G_worth_of =>
    refine T.f_worth_of.okX sc_worth_of (fun vs H Q E h => ?_) (fun cdv A outer s H vs Q E hr h => ?_)
    · obtain ⟨x, f, p, g, s, now, g0, g1, rfl, _⟩ := h
      rfl
    · have hu1 := hu_of hr; have hu0 := hr.units0; have hu64 := hr.units; have hu65 := hu65_of hr; have nd := sc_worth_of.nd
      obtain ⟨x, f, p, g, s, now, g0, g1, rfl, hx, hd, hs, hg, hf, he, q1, q2⟩ := h
      refine ⟨_, (pss_cons (ps_set (i := 4) nd rfl (Or.inl rfl) (pe_ix (ix_anyK (K := K) rfl hu1) (pv 0) pe_int (fun _ _ => rfl)))
      (pss_cons (ps_if (pt_cmpR (op_eqK (K := K) rfl hu64) (pv 4) pe_str (nomark _)) (pss_one (ps_ret (pe_ix (ix_anyK (K := K) rfl hu1) (pv 0) pe_int (fun _ _ => rfl))))
      pss_nil)
      (pss_cons (ps_if (pt_cmpR (op_eqK (K := K) rfl hu64) (pv 4) pe_str (nomark _)) (pss_one (ps_ret (pe_ix (ix_anyK (K := K) rfl hu1) (pe_fldK (K := K) rfl (pv 1) rfl) (pe_ix (ix_anyK (K := K) rfl hu1) (pv 0) pe_int (fun _ _ => rfl)) (fun _ _ => rfl))))
      pss_nil)
      (pss_cons (ps_if (pt_cmpR (op_eqK (K := K) rfl hu64) (pv 4) pe_str (nomark _)) (pss_one (ps_ret (pe_callB (call_lenK (K := K) rfl) (by rfl) T.b_len (by decide +kernel) (pa_cons (pe_ix (ix_anyK (K := K) rfl hu1) (pe_fldK (K := K) rfl (pv 1) rfl) (pe_ix (ix_anyK (K := K) rfl hu1) (pv 0) pe_int (fun _ _ => rfl)) (fun _ _ => rfl)) pa_nil))))
      pss_nil)
      (pss_cons (ps_if (pt_cmpR (op_eqK (K := K) rfl hu64) (pv 4) pe_str (nomark _)) (pss_one (ps_ret (pe_ix (ix_anyK (K := K) rfl hu1) (pv 3) (pe_ix (ix_anyK (K := K) rfl hu1) (pv 0) pe_int (fun _ _ => rfl)) (fun _ _ => rfl))))
      pss_nil)
      (pss_cons (ps_if (pt_cmpR (op_eqK (K := K) rfl hu64) (pv 4) pe_str (nomark _)) (pss_one (ps_ret (pv 2)))
      pss_nil)
      (pss_cons (ps_set (i := 5) nd rfl (Or.inl rfl) (pcl T.g_worth_of G_worth_of hr (takes_of rfl rfl rfl rfl) (pa_cons (pe_ix (ix_anyK (K := K) rfl hu1) (pv 0) pe_int (fun _ _ => rfl)) (pa_cons (pv 1) (pa_cons (pv 2) (pa_cons (pv 3) pa_nil))))))
      (pss_one (ps_ret (pcl T.g_kept_in G_kept_in hr (takes_of rfl rfl rfl rfl) (pa_cons (pcl T.g_of_two G_of_two hr (takes_of rfl rfl rfl rfl) (pa_cons (pv 4) (pa_cons (pv 5) (pa_cons (pcl T.g_worth_of G_worth_of hr (takes_of rfl rfl rfl rfl) (pa_cons (pe_ix (ix_anyK (K := K) rfl hu1) (pv 0) pe_int (fun _ _ => rfl)) (pa_cons (pv 1) (pa_cons (pv 2) (pa_cons (pv 3) pa_nil))))) pa_nil)))) pa_nil))))))))))), ?_⟩
      refine go_start (σ' := [some x, some (.ref p), some (.int now), some (.ref g), none, none]) rfl ?_
      obtain ⟨dx, b, q, hp, hb, as, hq, hqs⟩ := stAt_env hs
      cases f with
      | num m =>
        walk_at "we"
        refine go_subDT hx (n := 0) rfl rfl fun v hv => ?_
        obtain rfl := dp_str hv
        walk_at "we"
        refine go_subDT hx (n := 1) rfl rfl fun v hv => ?_
        obtain rfl := dp_int hv
        walk_at "we"
        exact q1 _ rfl
      | box y =>
        walk_at "we"
        refine go_subDT hx (n := 0) rfl rfl fun v hv => ?_
        obtain rfl := dp_str hv
        walk_at "we"
        refine go_fldL hp T.c_State T.n_State_boxes lk_State_boxes ?_
        walk_at "we"
        refine go_subDT hx (n := 1) rfl rfl fun v hv => ?_
        obtain rfl := dp_str hv
        walk_at "we"
        refine go_subK hb (val_boxes hf) ?_
        exact q1 _ rfl
      | long y =>
        walk_at "we"
        refine go_subDT hx (n := 0) rfl rfl fun v hv => ?_
        obtain rfl := dp_str hv
        walk_at "we"
        refine go_fldL hp T.c_State T.n_State_queues lk_State_queues ?_
        walk_at "we"
        refine go_subDT hx (n := 1) rfl rfl fun v hv => ?_
        obtain rfl := dp_str hv
        walk_at "we"
        obtain ⟨a, h1, h2⟩ := hqs y hf
        refine go_subK hq h1 ?_
        walk_at "we"
        refine go_lenL (SqL.of h2) ?_
        rw [List.length_map]
        exact q1 _ rfl
      | got j =>
        walk_at "we"
        refine go_subDT hx (n := 0) rfl rfl fun v hv => ?_
        obtain rfl := dp_str hv
        walk_at "we"
        refine go_subDT hx (n := 1) rfl rfl fun v hv => ?_
        obtain rfl := dp_int hv
        walk_at "we"
        have hj : j < 2 := hf
        refine go_subL hg (v := .int ((s.env now g0 g1).got j)) (atI_nat ?_) ?_
        · match j, hj with
          | 0, _ => rfl
          | 1, _ => rfl
        · exact q1 _ rfl
      | now =>
        walk_at "we"
        refine go_subDT hx (n := 0) rfl rfl fun v hv => ?_
        obtain rfl := dp_str hv
        walk_at "we"
        exact q1 _ rfl
      | two o f1 f2 =>
        have hd2 : max f1.depth f2.depth + 1 < n + 1 := hd
        have hf1 : f1.Ok s.bs s.qs := hf.1
        have hf2 : f2.Ok s.bs s.qs := hf.2
        have eE : ∀ r, (Fm.two o f1 f2).ev (s.env now g0 g1) = r ↔ (match f1.ev (s.env now g0 g1) with
          | .error x => .error x
          | .ok a => match f2.ev (s.env now g0 g1) with
            | .error x => .error x
            | .ok b => o.ev a b) = r := fun r => Iff.rfl
        have on : ∀ z ∈ (["number", "box", "long", "got", "now"] : List Str), o.name ≠ z := by cases o <;> decide +kernel
        walk_at "we"
        refine go_subDT hx (n := 0) rfl rfl fun v hv => ?_
        obtain rfl := dp_str hv
        walk_at "we"
        refine go_eqsF (on _ (by simp)) ?_
        walk_at "we"
        refine go_eqsF (on _ (by simp)) ?_
        walk_at "we"
        refine go_eqsF (on _ (by simp)) ?_
        walk_at "we"
        refine go_eqsF (on _ (by simp)) ?_
        walk_at "we"
        refine go_eqsF (on _ (by simp)) ?_
        walk_at "we"
        refine go_subDT hx (n := 1) rfl rfl fun v1 hv1 => ?_
        walk_at "we"
        refine ⟨v1, f1, p, g, s, now, g0, g1, rfl, hv1, by omega, hs, hg, hf1, he, fun a e1 => ?_, fun x e1 => ?_⟩
        · walk_at "we"
          refine go_subDT hx (n := 2) rfl rfl fun v2 hv2 => ?_
          walk_at "we"
          refine ⟨v2, f2, p, g, s, now, g0, g1, rfl, hv2, by omega, hs, hg, hf2, he, fun b e2 => ?_, fun x e2 => ?_⟩
          · walk_at "we"
            refine ⟨o, a, b, rfl, Fm.ev_worth he hf1 e1, Fm.ev_worth he hf2 e2, fun c e3 => ?_, fun x e3 => ?_⟩
            · walk_at "we"
              have eo : o.ev a b = keptIn c := by unfold Op.ev; rw [e3]
              refine ⟨c, rfl, fun d e4 => ?_, fun x e4 => ?_⟩
              · exact q1 _ ((eE _).mpr (by rw [e1, e2]; exact eo.trans e4))
              · exact q2 _ ((eE _).mpr (by rw [e1, e2]; exact eo.trans e4))
            · exact q2 _ ((eE _).mpr (by rw [e1, e2]; show o.ev a b = _; unfold Op.ev; rw [e3]))
          · exact q2 _ ((eE _).mpr (by rw [e1, e2]))
        · exact q2 _ ((eE _).mpr (by rw [e1]))
end
end Mo
namespace Mo
open PySem PySem.Spec PyProof.Rows L2
/-! ### orders of the volatile objects -/
section
variable {α : Type} {A B X Y Z : List α} {a b : α}
theorem pm_step (h : Y.Perm (A ++ Z)) (k : X.Perm Z) : (A ++ X).Perm Y := (k.append_left A).trans h.symm
theorem pm_stepC (h : Y.Perm (a :: Z)) (k : X.Perm Z) : (a :: X).Perm Y := (k.cons a).trans h.symm
theorem pm_here : (A ++ Z).Perm (A ++ Z) := .refl _
theorem pm_last : A.Perm (A ++ []) := by rw [List.append_nil]
theorem pm_hereC : (a :: Z).Perm (a :: Z) := .refl _
theorem pm_skip (h : Y.Perm (A ++ Z)) : (B ++ Y).Perm (A ++ (B ++ Z)) := by
  refine (h.append_left B).trans ?_
  rw [← List.append_assoc, ← List.append_assoc]
  exact List.perm_append_comm.append_right Z
theorem pm_skipC (h : Y.Perm (A ++ Z)) : (b :: Y).Perm (A ++ (b :: Z)) := (h.cons b).trans List.perm_middle.symm
theorem pm_Cskip (h : Y.Perm (a :: Z)) : (B ++ Y).Perm (a :: (B ++ Z)) := (h.append_left B).trans List.perm_middle
theorem pm_CskipC (h : Y.Perm (a :: Z)) : (b :: Y).Perm (a :: (b :: Z)) := (h.cons b).trans (.swap _ _ _)
theorem pm_end : ([] : List α).Perm [] := .refl _
end
theorem Hd.dropA {G H : Hp} : ∀ {A L : Vo}, Hd G H (A ++ L) → Hd G H L
  | [], _, h => h
  | _ :: A, L, h => Hd.dropA (A := A) h.drop
/-! ### more steps -/
/-- a test, whatever way it is answered: what follows is shown once -/
theorem go_absT {c : TT} {σ : L2.St} {H : Hp} {F : Bool → Hp → Prop} (Pre : Bool → Hp → Prop) (k : ∀ X : Bool → Hp → Prop, (∀ b H1, Pre b H1 → X b H1) → c σ H X) (f : ∀ b H1, Pre b H1 → F b H1) : c σ H F := k F f
theorem go_absE {c : TE} {σ : L2.St} {H : Hp} {F : VK} (Pre : VK) (k : ∀ X : VK, (∀ v H1, Pre v H1 → X v H1) → c σ H X) (f : ∀ v H1, Pre v H1 → F v H1) : c σ H F := k F f
def rRev (K : PySem.W.Frag) : V → Hp → VK → Prop := fun x H Q => ∃ a xs, x = .ref a ∧ SqL K H a xs ∧ ∀ p, H p = none → Q (.ref p) (upd H p (.lst xs.reverse))
def rInsert : V → List V → Hp → VK → Prop := fun x vs H Q => ∃ (l : Addr) (xs : List V) (i : Int) (y : V), x = .ref l ∧ vs = [.int i, y] ∧ H l = some (.lst xs) ∧ xs.length < sizeLine ∧ 0 ≤ i ∧ i < 2 ^ 63 ∧ Q .non (upd H l (.lst (xs.take i.toNat ++ [y] ++ xs.drop i.toNat)))
theorem mt_insertN {X : Cx} : MtR X "list.insert" rInsert := mt_insert
section
variable {K : PySem.W.Frag} {σ : St} {H : Hp} {Q : VK} {ta te : TE} {v x y : V}
theorem go_insert {l : Addr} {xs : List V} {n : Nat} (h : H l = some (.lst xs)) (hn : n ≤ xs.length) (hl : xs.length ≤ 10000) (k : Q .non (upd H l (.lst (xs.take n ++ [y] ++ xs.drop n)))) : rInsert (.ref l) [.int (n : Int), y] H Q :=
  ⟨l, xs, (n : Int), y, rfl, rfl, h, by rw [sizeLine_eq]; omega, by omega, by omega, by rw [Int.toNat_natCast]; exact k⟩
theorem go_popAt {l : Addr} {xs : List V} {n : Nat} {j : Int} (hj : j = (n : Int)) (h : H l = some (.lst xs)) (hl : xs.length ≤ 10000) (e : xs[n]? = some y) (k : Q y (upd H l (.lst (xs.eraseIdx n)))) : rPopAt (.ref l) [.int j] H Q := by
  have hn := (List.getElem?_eq_some_iff.mp e).1
  subst hj
  refine ⟨l, xs, (n : Int), n, y, rfl, rfl, h, by omega, by omega, ?_, e, k⟩
  have h0 : ¬ ((n : Int) < 0) := by omega
  have h1 : (decide (0 ≤ (n : Int)) && decide ((n : Int) < (xs.length : Int))) = true := by simp; omega
  simp only [seqIndex?, h0, if_false, h1, if_true, Int.toNat_natCast]
theorem go_tyDT {p : Addr} {kvs : List (List Key × V)} {R : Prop} (h : H p = some (.dT kvs)) (k : R) : tyV K "dict" (.ref p) H ∧ R := ⟨.inr (.inr (.inl ⟨rfl, .inr ⟨kvs, h⟩⟩)), k⟩
theorem go_tyDK {p : Addr} {kvs : List (Key × V)} {R : Prop} (h : H p = some (.dK kvs)) (k : R) : tyV K "dict" (.ref p) H ∧ R := ⟨.inr (.inr (.inl ⟨rfl, .inl ⟨kvs, h⟩⟩)), k⟩
theorem go_dpop {p : Addr} {H' : Hp} (g : DPop H p y v H') (k : Q v H') : rDPop1 (.ref p) [y] H Q := ⟨p, y, v, H', rfl, rfl, g, k⟩
theorem go_inD {a : Addr} {o : Option V} (g : DGet H a x o) (k : Q (.bl o.isSome) H) : rInA K x (.ref a) H Q := .inl ⟨a, o, rfl, g, k⟩
theorem go_ninD {a : Addr} {o : Option V} (g : DGet H a x o) (k : Q (.bl (!o.isSome)) H) : rNotInA K x (.ref a) H Q := .inl ⟨a, o, rfl, g, k⟩
theorem go_strI {n : Int} {Q1 : Int → Prop} {A : Prop} (k : A) : A := k
theorem go_revL {a : Addr} {xs : List V} (h : SqL K H a xs) (k : ∀ p, H p = none → Q (.ref p) (upd H p (.lst xs.reverse))) : rRev K (.ref a) H Q := ⟨a, xs, rfl, h, k⟩
end
section
variable {X : Cx} {K : PySem.W.Frag}
theorem pe_revK {e : Expr} {te : TE} {k : Nat} {p1 p2 p3 pos : Pos} (hK : X.K = K) (he : PE X e te) : PE X (.Subscript e (.Slice none none (some (.UnaryOp .USub (.Constant (.int 1) k p1) p2)) p3) pos) (tUn (rRev K) te) := hK ▸ pe_revL he
end
theorem half (lo hi : Nat) : ((lo : Int) + (hi : Int)).fdiv 2 = (((lo + hi) / 2 : Nat) : Int) := by
  rw [Int.fdiv_eq_ediv_of_nonneg _ (by decide)]
  omega
end Mo
local macro_rules | `(tactic| walk_at "p") => `(tactic| ((try simp only [List.append_assoc, List.cons_append, List.nil_append, List.append_nil]); repeat (first
  | with_reducible exact List.Perm.refl _
  | with_reducible exact Mo.pm_last
  | (with_reducible apply Mo.pm_stepC; focus (repeat (first | with_reducible exact Mo.pm_hereC | with_reducible apply Mo.pm_CskipC | with_reducible apply Mo.pm_Cskip)))
  | (with_reducible apply Mo.pm_step; focus (repeat (first | with_reducible exact Mo.pm_here | with_reducible exact Mo.pm_last | with_reducible apply Mo.pm_skipC | with_reducible apply Mo.pm_skip))))))
namespace Mo
open PySem PySem.Spec PyProof.Rows L2
/-! ### names -/
def letters : Str := "abcdefghijklmnopqrstuvwxyz"
theorem letters_eq : ("abcdefghijklmnopqrstuvwxyz" : Str) = letters := rfl
theorem letters_at (i : Nat) (h : i < 26) : letters.cps.toList[i]? = some (97 + i) := by
  have q : ∀ i : Fin 26, letters.cps.toList[i.1]? = some (97 + i.1) := by decide +kernel
  exact q ⟨i, h⟩
theorem letters_len : letters.length = 26 := by decide +kernel
def sign (c : Nat) : Str := ⟨#[c]⟩
structure NameOk (x : Str) : Prop where
  pos : 1 ≤ x.length
  len : x.length ≤ 6
  let_ : ∀ c ∈ x.cps.toList, 97 ≤ c ∧ c < 123
/-- the first sign -/
def fst1 (x : Str) : Nat := x.cps.toList.headD 0
theorem app_list (a b : Str) : (a ++ b).cps.toList = a.cps.toList ++ b.cps.toList := by
  show (a.cps ++ b.cps).toList = _
  rw [Array.toList_append]
theorem app_len (a b : Str) : (a ++ b).length = a.length + b.length := by
  show (a.cps ++ b.cps).size = _
  rw [Array.size_append]
  rfl
theorem len_list (a : Str) : a.length = a.cps.toList.length := by
  show a.cps.size = _
  rw [Array.length_toList]
theorem sign_list (c : Nat) : (sign c).cps.toList = [c] := rfl
theorem sign_len (c : Nat) : (sign c).length = 1 := rfl
theorem fst1_app {a b : Str} (h : 1 ≤ a.length) : fst1 (a ++ b) = fst1 a := by
  unfold fst1
  rw [app_list]
  rw [len_list] at h
  cases e : a.cps.toList with
  | nil => rw [e] at h; cases h
  | cons x r => rfl
theorem go_letter {K : PySem.W.Frag} {H : Hp} {Q : VK} {j : Int} {n : Nat} (hj : j = (n : Int)) (hn : n < 26) (k : Q (.str (sign (97 + n))) H) : rSub K (.str letters) (.int j) H Q := by
  subst hj
  exact go_subS (by rw [letters_len, sizeLine_eq]; decide) (atI_nat (letters_at n hn)) k
/-- names that are apart by their first signs -/
theorem apart {xs : List Str} {f : Nat → Nat} (h : ∀ i x, xs[i]? = some x → fst1 x = f i) (inj : ∀ i j, i < xs.length → j < xs.length → f i = f j → i = j) : xs.Nodup := by
  rw [List.nodup_iff_pairwise_ne, List.pairwise_iff_getElem]
  intro i j hi hj hij e
  have h1 := h i _ (List.getElem?_eq_getElem hi)
  have h2 := h j _ (List.getElem?_eq_getElem hj)
  rw [← e, h1] at h2
  have := inj i j hi hj h2
  omega
def spNames : Sp := fun vs H Q _ => ∃ (G : Hp) (L : Vo) (pu : Addr) (n : Nat), vs = [.ref pu, .int (n : Int)] ∧ Hd G H L ∧ (pu, Purse) ∈ L ∧ n ≤ 9 ∧
  ∀ lp (ns : List Str) G' H', ns.length = n → ns.Nodup → (∀ x ∈ ns, NameOk x) → Ext G G' → Hd G' H' L → G' lp = some (.lst (ns.map V.str)) → Q (.ref lp) H'
/-- of the same list, cut -/
theorem names_take {ns : List Str} (h : ns.Nodup) (i : Nat) : (ns.take i).Nodup := h.sublist (List.take_sublist _ _)
end Mo
namespace Mo
open PySem PySem.Spec PyProof.Rows L2
section
variable {P : Program} {w : World} {K : PySem.W.Frag} {mg : Str → Option Value} {base : Heap}
theorem ok__law_names (T : Tx K mg) : OkG P w K mg base 2 "_law_names" ["_law_purse_here", "_law_many"] spNames := by
  have G__law_draw := ok__law_draw (P := P) (w := w) (base := base) T
  refine T.f__law_names.okX sc__law_names (fun vs H Q E h => ?_) (fun cdv A outer s H vs Q E hr h => ?_)
  · obtain ⟨G, L, pu, n, rfl, _⟩ := h
    rfl
  · have hu1 := hu_of hr; have hu0 := hr.units0; have hu64 := hr.units; have hu65 := hu65_of hr; have nd := sc__law_names.nd
    obtain ⟨G, L, pu, n, rfl, z, hm, hn, q⟩ := h
    refine ⟨_, (pss_cons (ps_set (i := 2) nd rfl (Or.inl rfl) pe_str)
      (pss_cons (ps_set (i := 3) nd rfl (Or.inl rfl) (pcl T.g__law_draw G__law_draw hr (takes_of rfl rfl rfl rfl) (pa_cons (pv 0) (pa_cons pe_int pa_nil))))
      (pss_cons (ps_set (i := 4) nd rfl (Or.inl rfl) (pe_lst pa_nil))
      (pss_cons (ps_for (passes_of rfl) rfl (pi_range1 rfl T.b_range (pa_cons (pv 1) pa_nil)) (pg_name (i := 5) nd rfl (Or.inl rfl))
      (pss_cons (ps_set (i := 6) nd rfl (Or.inl rfl) (pe_ix (ix_anyK (K := K) rfl hu1) (pv 2) (pe_op op_modX (pe_op (op_addK (K := K) rfl) (pv 3) (pe_op op_mulX pe_int (pv 5))) pe_int) (fun _ _ => rfl)))
      (pss_cons (ps_for (passes_of rfl) rfl (pi_range1 rfl T.b_range (pa_cons (pcl T.g__law_draw G__law_draw hr (takes_of rfl rfl rfl rfl) (pa_cons (pv 0) (pa_cons pe_int pa_nil))) pa_nil)) (pg_name (i := 7) nd rfl (Or.inl rfl))
      (pss_one (ps_set (i := 6) nd rfl (Or.inl rfl) (pe_op (op_addK (K := K) rfl) (pv 6) (pe_ix (ix_anyK (K := K) rfl hu1) (pv 2) (pcl T.g__law_draw G__law_draw hr (takes_of rfl rfl rfl rfl) (pa_cons (pv 0) (pa_cons pe_int pa_nil))) (fun _ _ => rfl))))))
      (pss_one (ps_expr (pe_bmK (K := K) rfl PySem.F.plainAttrs_list PySem.F.slot_list_append PySem.F.type_list_append mt_append (pv 4) (pa_cons (pv 6) pa_nil)))))))
      (pss_one (ps_ret (pv 4))))))), ?_⟩
    refine go_start (σ' := [some (.ref pu), some (.int (n : Int)), none, none, none, none, none, none]) rfl ?_
    rw [letters_eq]
    walk_at "we"
    refine ⟨G, L, pu, 26, rfl, z, hm, by decide, by decide, fun d H1 d0 d1 z1 => ?_⟩
    obtain ⟨d, rfl⟩ : ∃ m : Nat, d = (m : Int) := ⟨d.toNat, by omega⟩
    walk_at "we"
    refine go_sz rfl fun lp hlp => ?_
    have z2 := z1.new hlp (φ := Eq (.lst [])) rfl
    walk_at "we"
    refine go_r1 n rfl (by omega) ?_
    refine loop_r n (fun i σ H' => ∃ (u v t : Option V) (xs : List Str), σ = [some (.ref pu), some (.int (n : Int)), some (.str letters), some (.int (d : Int)), some (.ref lp), u, v, t] ∧ xs.length = i ∧ (∀ x ∈ xs, NameOk x) ∧
        (∀ j x, xs[j]? = some x → fst1 x = 97 + (d + 3 * j) % 26) ∧ Hd G H' ((lp, Eq (.lst (xs.map V.str))) :: L))
      ⟨_, _, _, [], rfl, rfl, (fun x h => nomatch h), (fun j x h => by simp at h), z2⟩ ?_ ?_
    · rintro i σ' H' hi ⟨u, v, t, xs, rfl, hxl, hok, hf, z3⟩
      walk_at "we"
      refine go_I (Bd.cmul (a := 2) (b := 8) (by decide) (by show Int.natAbs _ < 256; omega)) ?_
      walk_at "we"
      refine go_mod (by decide) ?_
      have hc : ((d : Int) + 3 * (i : Int)).fmod 26 = (((d + 3 * i) % 26 : Nat) : Int) := by
        rw [Int.fmod_eq_emod_of_nonneg _ (by decide)]
        omega
      refine go_letter hc (Nat.mod_lt _ (by decide)) ?_
      walk_at "we"
      refine ⟨G, _, pu, 6, rfl, z3, List.mem_cons_of_mem _ hm, by decide, by decide, fun k H4 k0 k1 z4 => ?_⟩
      obtain ⟨k, rfl⟩ : ∃ m : Nat, k = (m : Int) := ⟨k.toNat, by omega⟩
      refine go_r1 k rfl (by omega) ?_
      refine loop_r k (fun j σ H' => ∃ (t : Option V) (x : Str), σ = [some (.ref pu), some (.int (n : Int)), some (.str letters), some (.int (d : Int)), some (.ref lp), some (.int (i : Int)), some (.str x), t] ∧ x.length = j + 1 ∧ (∀ c ∈ x.cps.toList, 97 ≤ c ∧ c < 123) ∧
          fst1 x = 97 + (d + 3 * i) % 26 ∧ Hd G H' ((lp, Eq (.lst (xs.map V.str))) :: L))
        ⟨_, _, rfl, rfl, fun c hc => ?_, rfl, z4⟩ ?_ ?_
      · rw [sign_list] at hc
        rw [List.mem_singleton.mp hc]
        have := Nat.mod_lt (d + 3 * i) (show 0 < 26 by decide)
        omega
      · rintro j σ2 H5 hj ⟨t, x, rfl, hx1, hx2, hx3, z5⟩
        walk_at "we"
        refine ⟨G, _, pu, 26, rfl, z5, List.mem_cons_of_mem _ hm, by decide, by decide, fun e H6 e0 e1 z6 => ?_⟩
        obtain ⟨e, rfl⟩ : ∃ m : Nat, e = (m : Int) := ⟨e.toNat, by omega⟩
        refine go_letter rfl (by omega) ?_
        refine go_addS (by rw [hx1, sign_len, sizeLine_eq]; omega) ?_
        refine ⟨_, _, rfl, by rw [app_len, hx1, sign_len], fun c hc => ?_, by rw [fst1_app (by omega)]; exact hx3, z6⟩
        rw [app_list, sign_list] at hc
        rcases List.mem_append.mp hc with hc | hc
        · exact hx2 c hc
        · rw [List.mem_singleton.mp hc]
          omega
      · rintro σ2 H5 ⟨t, x, rfl, hx1, hx2, hx3, z5⟩
        walk_at "we"
        refine go_tyL (SqL.of (z5.eq List.mem_cons_self)) ?_
        walk_at "we"
        refine go_app (z5.eq List.mem_cons_self) (by rw [List.length_map, sizeLine_eq]; omega) ?_
        refine ⟨_, _, _, xs ++ [x], rfl, by rw [List.length_append, hxl]; rfl, fun y hy => ?_, fun j y hy => ?_, by rw [List.map_append]; exact z5.set0 rfl⟩
        · rcases List.mem_append.mp hy with hy | hy
          · exact hok y hy
          · rw [List.mem_singleton.mp hy]
            exact ⟨by omega, by omega, hx2⟩
        · rcases Nat.lt_or_ge j xs.length with hj | hj
          · rw [List.getElem?_append_left hj] at hy
            exact hf j y hy
          · rw [List.getElem?_append_right hj] at hy
            have hj2 : j - xs.length = 0 := by
              have := (List.getElem?_eq_some_iff.mp hy).1
              rw [List.length_singleton] at this
              omega
            rw [hj2] at hy
            obtain rfl : x = y := by simpa using hy
            rw [show j = i by omega]
            exact hx3
    · rintro σ' H' ⟨u, v, t, xs, rfl, hxl, hok, hf, z3⟩
      walk_at "we"
      refine q lp xs _ H' hxl (apart (f := fun j => 97 + (d + 3 * j) % 26) hf fun i j hi hj e => ?_) hok (Ext.new (z3.no List.mem_cons_self)) (z3.freeze (z3.eq List.mem_cons_self)) upd_same
      have e' : (d + 3 * i) % 26 = (d + 3 * j) % 26 := by
        have : 97 + (d + 3 * i) % 26 = 97 + (d + 3 * j) % 26 := e
        omega
      omega
end
end Mo
namespace Mo
open PySem PySem.Spec PyProof.Rows L2
/-! ### a whole number -/
def spWhole : Sp := fun vs H Q _ => ∃ (n : Int), vs = [.int n] ∧ Q (.bl true) H
section
variable {P : Program} {w : World} {K : PySem.W.Frag} {mg : Str → Option Value} {base : Heap}
theorem ok__law_whole (T : Tx K mg) : OkG P w K mg base 1 "_law_whole" ["_law_found"] spWhole := by
  refine T.f__law_whole.okX sc__law_whole (fun vs H Q E h => ?_) (fun cdv A outer s H vs Q E hr h => ?_)
  · obtain ⟨n, rfl, _⟩ := h
    rfl
  · have hu1 := hu_of hr; have hu0 := hr.units0; have hu64 := hr.units; have hu65 := hu65_of hr; have nd := sc__law_whole.nd
    obtain ⟨n, rfl, q⟩ := h
    refine ⟨_, (pss_one (ps_ret (pe_and (pe_callB (call_isiKK (K := K) rfl) (by rfl) T.b_isinstance (by decide +kernel) (pa_cons (pv 0) (pa_cons (pe_bltn (v := .ty "int") (by rfl) T.b_int (by decide +kernel) rfl) pa_nil))) (pe_one (pe_not (pe_callB (call_isiKK (K := K) rfl) (by rfl) T.b_isinstance (by decide +kernel) (pa_cons (pv 0) (pa_cons (pe_bltn (v := .ty "bool") (by rfl) T.b_bool (by decide +kernel) rfl) pa_nil)))))))), ?_⟩
    refine go_start (σ' := [some (.int n)]) rfl ?_
    walk_at "we"
    exact q
end
end Mo
namespace Mo
open PySem PySem.Spec PyProof.Rows L2
/-! ### the head: facts by names, and any others that are decided -/
abbrev AlM : Type := He.AlD × Bool
def SaysM (fa : List He.Fa) (fn : List He.DefD) (exs : List (PySem.W.Frag → Bool)) (K : PySem.W.Frag) : Prop := He.SaysD fa fn K ∧ (exs.all fun b => b K) = true
def obsM (n : Nat) (fa : List He.Fa) (fn : List He.DefD) (exs : List (PySem.W.Frag → Bool)) (g : Addr → Option Obj) : AlM := (He.obsD fa fn (He.frG g (He.asD g n)), exs.all fun b => b (He.frG g (He.asD g n)))
def hookM (n : Nat) (fa : List He.Fa) (fn : List He.DefD) (exs : List (PySem.W.Frag → Bool)) : PySem.W.Hook where
  α := AlM
  obs := fun s => obsM n fa fn exs s.heap.get?
  val := fun _ => (He.valD fn, true)
  says := fun _ h => ∃ K : PySem.W.Frag, K.In h ∧ SaysM fa fn exs K
  of := fun _ _ e => ⟨_, He.frG_in, congrArg (fun z : AlM => z.1) e, congrArg (fun z : AlM => z.2) e⟩
  keeps := fun _ _ _ ⟨K, hK, c⟩ k => ⟨K, PySem.W.Frag.In.keeps hK k, c⟩
theorem obsM_eq {n : Nat} {fa : List He.Fa} {fn : List He.DefD} {exs : List (PySem.W.Frag → Bool)} {g : Addr → Option Obj} {s : Shared} (h : ∀ a, g a = s.heap.get? a) : obsM n fa fn exs g = (hookM n fa fn exs).obs s := by
  have e : g = s.heap.get? := funext h
  rw [e] <;> rfl
section
variable {fa : List He.Fa} {fn : List He.DefD} {exs : List (PySem.W.Frag → Bool)} {K : PySem.W.Frag}
theorem SaysM.fact (c : SaysM fa fn exs K) (i : Nat) {f : He.Fa} (h : fa[i]? = some f := by rfl) : f.ok K = true := c.1.fact i h
theorem SaysM.fn_ (c : SaysM fa fn exs K) (i : Nat) {d : He.DefD} (h : fn[i]? = some d := by rfl) : ∃ fd, FunD K d.name d.qual d.params d.body d.scope (d.dvs K) (d.kws K) (He.fAd K d.at_) fd := c.1.def_ i h
theorem SaysM.ex (c : SaysM fa fn exs K) (i : Nat) {b : PySem.W.Frag → Bool} (h : exs[i]? = some b := by rfl) : b K = true := List.all_eq_true.mp c.2 b (List.mem_of_getElem? h)
end
/-- a law's end, the script's bits told -/
theorem walk_ofEB {l : PySem.W.OpenLaw} {n k : Nat} {q : Program} {loose : List Str} {XP : (Str → Option Value) → Heap → Prop} {YP : World → Heap → Prop} {d : DefRec} {CX : World → CXT} {x : Str}
    (hn : l.most = some n) (hn2 : n ≤ sizeLine) (hdf : d.params.defaults = []) (hr : Room k callerA)
    (F : ∀ (w : World) (mg : Str → Option Value) (fa : Addr) (h : Heap), YP w h → h.Ns mainGlobals mg → mg d.name = some (.ref fa) →
      ∃ (K : PySem.W.Frag) (fd : FuncData) (sp : Sp), K.In h ∧ (∀ (s : Shared) (u : Value), BindsTo s fd ⟨[u], []⟩ [(x, u)]) ∧
        (∀ (H : Hp) (a : Addr) (ns : List Int), ns.length ≤ n → (∀ z ∈ ns, Builtin.Int.intBits z ≤ 1048576) → Only H → SqL K H a (ns.map V.int) → sp [.ref a] H (fun v _ => v = .bl true) fun _ _ _ => False) ∧
        ∀ base : Heap, K.In base → base.Ns mainGlobals mg → FnOk l.prog w K mg base (CX w) k fa fd [x] sp)
    (hCX : ∀ (w : World) (H : Hp) (s : Shared) (e : Value) (s' : Shared), CX w [] H s (fun _ _ _ => False) e s' → False) :
    PySem.W.WalkO q loose XP YP l.row.toRowW d [] (fun f vs => PySem.call f vs) := by
  refine Att.attach_callB hn hdf fun w s₀ s₁ mg mb fa o pm cd doc a vs ns G Y ho hd hcd hmg hobj hints hlen hbits hg => ?_
  obtain ⟨K, fd, sp, KX, hb, hsp, hF⟩ := F w mg fa _ Y G.T.g hmg
  exact law_call KX G.T.g G.T.b G.T.builtins G.T.nolimit hg hobj hints (Nat.le_trans hlen hn2) hr hF hb (fun H hO hS => hsp H a ns hlen hbits hO hS) fun H e s' => hCX w H s₁ e s'
theorem fun_bindsTo {K : PySem.W.Frag} {x qual : Str} {st : Stmt} {f : Addr} {fd : FuncData} (F : L2.Fun K x qual st f fd) {ps : List Str}
    (h : ∀ (kV doc pm : Value) (an : Option Addr) (cdv ct : Value) (us : List Value), us.length = ps.length → bindArgs (PySem.W.fnOf x qual (defArgs st) (defBody st) (defScope st) .none kV doc pm an cdv ct) ⟨us, []⟩ = pure (ps.zip us)) (s : Shared) (us : List Value) (hl : us.length = ps.length) : BindsTo s fd ⟨us, []⟩ (ps.zip us) := by
  obtain ⟨oc, od, kV, doc, pm, an, cdv, ct, osl, rfl, lk, hcd⟩ := F.ex
  exact .of_eq (h kV doc pm an cdv ct us hl)
theorem cx_false {P : Program} {w : World} {H : Hp} {s : Shared} {e : Value} {s' : Shared} (h : L2.CX P w [] H s (fun _ _ _ => False) e s') : False := by
  obtain ⟨_, _, _, _, _, _, _, _, _, _, _, _, z⟩ := h
  exact z
/-- what a law promises -/
def spLaw (K : PySem.W.Frag) : Sp := fun vs H Q _ => ∃ (a : Addr) (ns : List Int), vs = [.ref a] ∧ Only H ∧ SqL K H a (ns.map V.int) ∧ ns.length ≤ 63 ∧ (∀ z ∈ ns, Builtin.Int.intBits z ≤ 1048576) ∧ ∀ H', Q (.bl true) H'
end Mo
namespace Mo
open PySem PySem.Spec PyProof.Rows L2
def d_Fault_word : He.DefD := ⟨("Fault", some "word"), "word", "Fault.word", defArgs s_Fault_word, defBody s_Fault_word, defScope s_Fault_word, [], []⟩
def d_Nought_word : He.DefD := ⟨("Nought", some "word"), "word", "Nought.word", defArgs s_Nought_word, defBody s_Nought_word, defScope s_Nought_word, [], []⟩
def d_Great_word : He.DefD := ⟨("Great", some "word"), "word", "Great.word", defArgs s_Great_word, defBody s_Great_word, defScope s_Great_word, [], []⟩
def d_kept_in : He.DefD := ⟨("kept_in", none), "kept_in", "kept_in", defArgs s_kept_in, defBody s_kept_in, defScope s_kept_in, [], []⟩
def d_of_two : He.DefD := ⟨("of_two", none), "of_two", "of_two", defArgs s_of_two, defBody s_of_two, defScope s_of_two, [], []⟩
def d_worth_of : He.DefD := ⟨("worth_of", none), "worth_of", "worth_of", defArgs s_worth_of, defBody s_worth_of, defScope s_worth_of, [], []⟩
def d_copied : He.DefD := ⟨("copied", none), "copied", "copied", defArgs s_copied, defBody s_copied, defScope s_copied, [], []⟩
def d_copied_machine : He.DefD := ⟨("copied_machine", none), "copied_machine", "copied_machine", defArgs s_copied_machine, defBody s_copied_machine, defScope s_copied_machine, [], []⟩
def d_Model_init : He.DefD := ⟨("Model", some "__init__"), "__init__", "Model.__init__", defArgs s_Model_init, defBody s_Model_init, defScope s_Model_init, [], []⟩
def d_State_init : He.DefD := ⟨("State", some "__init__"), "__init__", "State.__init__", defArgs s_State_init, defBody s_State_init, defScope s_State_init, [], []⟩
def d_State_copy : He.DefD := ⟨("State", some "copy"), "copy", "State.copy", defArgs s_State_copy, defBody s_State_copy, defScope s_State_copy, [], []⟩
def d_first_state : He.DefD := ⟨("first_state", none), "first_state", "first_state", defArgs s_first_state, defBody s_first_state, defScope s_first_state, [], []⟩
def d__law_whole : He.DefD := ⟨("_law_whole", none), "_law_whole", "_law_whole", defArgs s__law_whole, defBody s__law_whole, defScope s__law_whole, [], []⟩
def d__law_mixed : He.DefD := ⟨("_law_mixed", none), "_law_mixed", "_law_mixed", defArgs s__law_mixed, defBody s__law_mixed, defScope s__law_mixed, [], []⟩
def d__law_purse : He.DefD := ⟨("_law_purse", none), "_law_purse", "_law_purse", defArgs s__law_purse, defBody s__law_purse, defScope s__law_purse, [], []⟩
def d__law_draw : He.DefD := ⟨("_law_draw", none), "_law_draw", "_law_draw", defArgs s__law_draw, defBody s__law_draw, defScope s__law_draw, [], []⟩
def d__law_names : He.DefD := ⟨("_law_names", none), "_law_names", "_law_names", defArgs s__law_names, defBody s__law_names, defScope s__law_names, [], []⟩
def d__law_worth : He.DefD := ⟨("_law_worth", none), "_law_worth", "_law_worth", defArgs s__law_worth, defBody s__law_worth, defScope s__law_worth, [], []⟩
def d__law_state_of : He.DefD := ⟨("_law_state_of", none), "_law_state_of", "_law_state_of", defArgs s__law_state_of, defBody s__law_state_of, defScope s__law_state_of, [], []⟩
def d_law : He.DefD := ⟨("law", none), "law", "law", defArgs s_law, defBody s_law, defScope s_law, [], []⟩
def fn0 : List He.DefD := [d_Fault_word, d_Nought_word, d_Great_word, d_kept_in, d_of_two, d_worth_of, d_copied, d_copied_machine, d_Model_init, d_State_init, d_State_copy, d_first_state, d__law_whole, d__law_mixed, d__law_purse, d__law_draw, d__law_names, d__law_worth, d__law_state_of, d_law]
def fn : List He.DefD := fn0
def fa0 : List He.Fa := [.glo "MomentError", .glo "Fault", .glo "Nought", .glo "Great", .glo "Model", .cls "Model", .noat "Model" "machines", .mkr "Model", .glo "Model", .glo "State", .cls "State", .noat "State" "boxes", .noat "State" "drawn", .noat "State" "queues", .noat "State" "sent", .mkr "State", .glo "State", .exc "Fault", .glo "Fault", .exc "Great", .glo "Great", .exc "MomentError", .glo "MomentError", .exc "Nought", .glo "Nought", .exm "Fault" "Fault" true, .exm "Fault" "Great" false, .exm "Fault" "MomentError" true, .exm "Fault" "Nought" false, .exm "Great" "Fault" true]
def fa1 : List He.Fa := [.exm "Great" "Great" true, .exm "Great" "MomentError" true, .exm "Great" "Nought" false, .exm "MomentError" "Fault" false, .exm "MomentError" "Great" false, .exm "MomentError" "MomentError" true, .exm "MomentError" "Nought" false, .exm "Nought" "Fault" true, .exm "Nought" "Great" false, .exm "Nought" "MomentError" true, .exm "Nought" "Nought" true, .free "bool", .free "int", .free "isinstance", .free "len", .free "list", .free "max", .free "range", .int "MOST" 1000000000000000, .glo "kept_in", .glo "of_two", .glo "worth_of", .glo "copied", .glo "copied_machine", .glo "first_state", .glo "_law_whole", .glo "_law_mixed", .glo "_law_purse", .glo "_law_draw", .glo "_law_names"]
def fa2 : List He.Fa := [.glo "_law_worth", .glo "_law_state_of", .glo "law", .meth "Fault" "word", .meth "Nought" "word", .meth "Great" "word", .meth "State" "copy"]
def fa : List He.Fa := fa0 ++ fa1 ++ fa2
def exs : List (PySem.W.Frag → Bool) := []
def lo0 : List PySem.Str := ["__name__", "MomentError", "Fault", "Nought", "Great", "MOST", "kept_in", "of_two", "worth_of", "copied", "copied_machine", "Model", "State", "first_state", "_law_whole", "_law_mixed", "_law_purse", "_law_draw", "_law_names", "_law_worth", "_law_state_of"]
def loose : List PySem.Str := lo0
abbrev Rr : PySem.W.OpenRow := PySem.W.OpenLaw.row PySem.Challenge.rw_momentloom_k03_formulas_alone
abbrev hk : PySem.W.Hook := hookM 6 fa fn exs
def ob (s : PySem.W.SharedT) : AlM := obsM 6 fa fn exs (HandSHeadRun.getT s)
theorem ob_eq (s : PySem.W.SharedT) : ob s = hk.obs s.abs := obsM_eq (HandSHeadRun.getT_eq s)
theorem run (w : World) : HandSHeadRun.RunEq Rr (PySem.W.view Rr.prog [24]) hk ob 20000 loose w := by
  intro os
  kernel_rfl
theorem tx_of {K : PySem.W.Frag} {h : Heap} {mg : Str → Option Value} (X : K.In h) (G : h.Ns mainGlobals mg) (c : SaysM fa fn exs K) : Tx K mg := by
  have F_Fault_word : Fun K "word" "Fault.word" s_Fault_word (He.fAd K ("Fault", some "word")) (fdA K (He.fAd K ("Fault", some "word"))) := fun_of (c.fn_ 0 (d := d_Fault_word) rfl)
  have b_Fault_word : Binds K (fdA K (He.fAd K ("Fault", some "word"))) ["self"] [] := F_Fault_word.binds (ps := ["self"]) fun _ _ _ _ _ _ us hl => match us, hl with | [_], _ => rfl
  have W_Fault_word := F_Fault_word
  have F_Nought_word : Fun K "word" "Nought.word" s_Nought_word (He.fAd K ("Nought", some "word")) (fdA K (He.fAd K ("Nought", some "word"))) := fun_of (c.fn_ 1 (d := d_Nought_word) rfl)
  have b_Nought_word : Binds K (fdA K (He.fAd K ("Nought", some "word"))) ["self"] [] := F_Nought_word.binds (ps := ["self"]) fun _ _ _ _ _ _ us hl => match us, hl with | [_], _ => rfl
  have W_Nought_word := F_Nought_word
  have F_Great_word : Fun K "word" "Great.word" s_Great_word (He.fAd K ("Great", some "word")) (fdA K (He.fAd K ("Great", some "word"))) := fun_of (c.fn_ 2 (d := d_Great_word) rfl)
  have b_Great_word : Binds K (fdA K (He.fAd K ("Great", some "word"))) ["self"] [] := F_Great_word.binds (ps := ["self"]) fun _ _ _ _ _ _ us hl => match us, hl with | [_], _ => rfl
  have W_Great_word := F_Great_word
  have F_kept_in : Fun K "kept_in" "kept_in" s_kept_in (He.fAd K ("kept_in", none)) (fdA K (He.fAd K ("kept_in", none))) := fun_of (c.fn_ 3 (d := d_kept_in) rfl)
  have b_kept_in : Binds K (fdA K (He.fAd K ("kept_in", none))) ["number"] [] := F_kept_in.binds (ps := ["number"]) fun _ _ _ _ _ _ us hl => match us, hl with | [_], _ => rfl
  have F_of_two : Fun K "of_two" "of_two" s_of_two (He.fAd K ("of_two", none)) (fdA K (He.fAd K ("of_two", none))) := fun_of (c.fn_ 4 (d := d_of_two) rfl)
  have b_of_two : Binds K (fdA K (He.fAd K ("of_two", none))) ["word", "one", "other"] [] := F_of_two.binds (ps := ["word", "one", "other"]) fun _ _ _ _ _ _ us hl => match us, hl with | [_, _, _], _ => rfl
  have F_worth_of : Fun K "worth_of" "worth_of" s_worth_of (He.fAd K ("worth_of", none)) (fdA K (He.fAd K ("worth_of", none))) := fun_of (c.fn_ 5 (d := d_worth_of) rfl)
  have b_worth_of : Binds K (fdA K (He.fAd K ("worth_of", none))) ["formula", "state", "now", "got"] [] := F_worth_of.binds (ps := ["formula", "state", "now", "got"]) fun _ _ _ _ _ _ us hl => match us, hl with | [_, _, _, _], _ => rfl
  have F_copied : Fun K "copied" "copied" s_copied (He.fAd K ("copied", none)) (fdA K (He.fAd K ("copied", none))) := fun_of (c.fn_ 6 (d := d_copied) rfl)
  have b_copied : Binds K (fdA K (He.fAd K ("copied", none))) ["deeds"] [] := F_copied.binds (ps := ["deeds"]) fun _ _ _ _ _ _ us hl => match us, hl with | [_], _ => rfl
  have F_copied_machine : Fun K "copied_machine" "copied_machine" s_copied_machine (He.fAd K ("copied_machine", none)) (fdA K (He.fAd K ("copied_machine", none))) := fun_of (c.fn_ 7 (d := d_copied_machine) rfl)
  have b_copied_machine : Binds K (fdA K (He.fAd K ("copied_machine", none))) ["machine"] [] := F_copied_machine.binds (ps := ["machine"]) fun _ _ _ _ _ _ us hl => match us, hl with | [_], _ => rfl
  have F_Model_init : Fun K "__init__" "Model.__init__" s_Model_init (He.fAd K ("Model", some "__init__")) (fdA K (He.fAd K ("Model", some "__init__"))) := fun_of (c.fn_ 8 (d := d_Model_init) rfl)
  have b_Model_init : Binds K (fdA K (He.fAd K ("Model", some "__init__"))) ["self", "machines"] [] := F_Model_init.binds (ps := ["self", "machines"]) fun _ _ _ _ _ _ us hl => match us, hl with | [_, _], _ => rfl
  have F_State_init : Fun K "__init__" "State.__init__" s_State_init (He.fAd K ("State", some "__init__")) (fdA K (He.fAd K ("State", some "__init__"))) := fun_of (c.fn_ 9 (d := d_State_init) rfl)
  have b_State_init : Binds K (fdA K (He.fAd K ("State", some "__init__"))) ["self", "boxes", "queues", "drawn", "sent"] [] := F_State_init.binds (ps := ["self", "boxes", "queues", "drawn", "sent"]) fun _ _ _ _ _ _ us hl => match us, hl with | [_, _, _, _, _], _ => rfl
  have F_State_copy : Fun K "copy" "State.copy" s_State_copy (He.fAd K ("State", some "copy")) (fdA K (He.fAd K ("State", some "copy"))) := fun_of (c.fn_ 10 (d := d_State_copy) rfl)
  have b_State_copy : Binds K (fdA K (He.fAd K ("State", some "copy"))) ["self"] [] := F_State_copy.binds (ps := ["self"]) fun _ _ _ _ _ _ us hl => match us, hl with | [_], _ => rfl
  have F_first_state : Fun K "first_state" "first_state" s_first_state (He.fAd K ("first_state", none)) (fdA K (He.fAd K ("first_state", none))) := fun_of (c.fn_ 11 (d := d_first_state) rfl)
  have b_first_state : Binds K (fdA K (He.fAd K ("first_state", none))) ["model", "at"] [] := F_first_state.binds (ps := ["model", "at"]) fun _ _ _ _ _ _ us hl => match us, hl with | [_, _], _ => rfl
  have F__law_whole : Fun K "_law_whole" "_law_whole" s__law_whole (He.fAd K ("_law_whole", none)) (fdA K (He.fAd K ("_law_whole", none))) := fun_of (c.fn_ 12 (d := d__law_whole) rfl)
  have b__law_whole : Binds K (fdA K (He.fAd K ("_law_whole", none))) ["_law_found"] [] := F__law_whole.binds (ps := ["_law_found"]) fun _ _ _ _ _ _ us hl => match us, hl with | [_], _ => rfl
  have F__law_mixed : Fun K "_law_mixed" "_law_mixed" s__law_mixed (He.fAd K ("_law_mixed", none)) (fdA K (He.fAd K ("_law_mixed", none))) := fun_of (c.fn_ 13 (d := d__law_mixed) rfl)
  have b__law_mixed : Binds K (fdA K (He.fAd K ("_law_mixed", none))) ["_law_cell", "_law_k"] [] := F__law_mixed.binds (ps := ["_law_cell", "_law_k"]) fun _ _ _ _ _ _ us hl => match us, hl with | [_, _], _ => rfl
  have F__law_purse : Fun K "_law_purse" "_law_purse" s__law_purse (He.fAd K ("_law_purse", none)) (fdA K (He.fAd K ("_law_purse", none))) := fun_of (c.fn_ 14 (d := d__law_purse) rfl)
  have b__law_purse : Binds K (fdA K (He.fAd K ("_law_purse", none))) ["_law_script"] [] := F__law_purse.binds (ps := ["_law_script"]) fun _ _ _ _ _ _ us hl => match us, hl with | [_], _ => rfl
  have F__law_draw : Fun K "_law_draw" "_law_draw" s__law_draw (He.fAd K ("_law_draw", none)) (fdA K (He.fAd K ("_law_draw", none))) := fun_of (c.fn_ 15 (d := d__law_draw) rfl)
  have b__law_draw : Binds K (fdA K (He.fAd K ("_law_draw", none))) ["_law_purse_here", "_law_out_of"] [] := F__law_draw.binds (ps := ["_law_purse_here", "_law_out_of"]) fun _ _ _ _ _ _ us hl => match us, hl with | [_, _], _ => rfl
  have F__law_names : Fun K "_law_names" "_law_names" s__law_names (He.fAd K ("_law_names", none)) (fdA K (He.fAd K ("_law_names", none))) := fun_of (c.fn_ 16 (d := d__law_names) rfl)
  have b__law_names : Binds K (fdA K (He.fAd K ("_law_names", none))) ["_law_purse_here", "_law_many"] [] := F__law_names.binds (ps := ["_law_purse_here", "_law_many"]) fun _ _ _ _ _ _ us hl => match us, hl with | [_, _], _ => rfl
  have F__law_worth : Fun K "_law_worth" "_law_worth" s__law_worth (He.fAd K ("_law_worth", none)) (fdA K (He.fAd K ("_law_worth", none))) := fun_of (c.fn_ 17 (d := d__law_worth) rfl)
  have b__law_worth : Binds K (fdA K (He.fAd K ("_law_worth", none))) ["_law_purse_here"] [] := F__law_worth.binds (ps := ["_law_purse_here"]) fun _ _ _ _ _ _ us hl => match us, hl with | [_], _ => rfl
  have F__law_state_of : Fun K "_law_state_of" "_law_state_of" s__law_state_of (He.fAd K ("_law_state_of", none)) (fdA K (He.fAd K ("_law_state_of", none))) := fun_of (c.fn_ 18 (d := d__law_state_of) rfl)
  have b__law_state_of : Binds K (fdA K (He.fAd K ("_law_state_of", none))) ["_law_purse_here", "_law_boxes", "_law_queues"] [] := F__law_state_of.binds (ps := ["_law_purse_here", "_law_boxes", "_law_queues"]) fun _ _ _ _ _ _ us hl => match us, hl with | [_, _, _], _ => rfl
  have F_law : Fun K "law" "law" s_law (He.fAd K ("law", none)) (fdA K (He.fAd K ("law", none))) := fun_of (c.fn_ 19 (d := d_law) rfl)
  have b_law : Binds K (fdA K (He.fAd K ("law", none))) ["_law_script"] [] := F_law.binds (ps := ["_law_script"]) fun _ _ _ _ _ _ us hl => match us, hl with | [_], _ => rfl
  exact ⟨He.glo_ok X G (c.fact 0),
    He.glo_ok X G (c.fact 1),
    He.glo_ok X G (c.fact 2),
    He.glo_ok X G (c.fact 3),
    He.glo_ok X G (c.fact 4),
    He.cls_ok (c.fact 5),
    He.noat_ok (c.fact 6),
    ⟨He.glo_ok X G (c.fact 8), He.mkr_ok (c.fact 7), b_Model_init⟩,
    He.glo_ok X G (c.fact 9),
    He.cls_ok (c.fact 10),
    He.noat_ok (c.fact 11),
    He.noat_ok (c.fact 12),
    He.noat_ok (c.fact 13),
    He.noat_ok (c.fact 14),
    ⟨He.glo_ok X G (c.fact 16), He.mkr_ok (c.fact 15), b_State_init⟩,
    ⟨He.glo_ok X G (c.fact 18), (He.exc_ok (c.fact 17)).1, (He.exc_ok (c.fact 17)).2.1, (He.exc_ok (c.fact 17)).2.2.1, (He.exc_ok (c.fact 17)).2.2.2⟩,
    ⟨He.glo_ok X G (c.fact 20), (He.exc_ok (c.fact 19)).1, (He.exc_ok (c.fact 19)).2.1, (He.exc_ok (c.fact 19)).2.2.1, (He.exc_ok (c.fact 19)).2.2.2⟩,
    ⟨He.glo_ok X G (c.fact 22), (He.exc_ok (c.fact 21)).1, (He.exc_ok (c.fact 21)).2.1, (He.exc_ok (c.fact 21)).2.2.1, (He.exc_ok (c.fact 21)).2.2.2⟩,
    ⟨He.glo_ok X G (c.fact 24), (He.exc_ok (c.fact 23)).1, (He.exc_ok (c.fact 23)).2.1, (He.exc_ok (c.fact 23)).2.2.1, (He.exc_ok (c.fact 23)).2.2.2⟩,
    He.exm_ok (c.fact 25),
    He.exm_ok (c.fact 26),
    He.exm_ok (c.fact 27),
    He.exm_ok (c.fact 28),
    He.exm_ok (c.fact 29),
    He.exm_ok (c.fact 30),
    He.exm_ok (c.fact 31),
    He.exm_ok (c.fact 32),
    He.exm_ok (c.fact 33),
    He.exm_ok (c.fact 34),
    He.exm_ok (c.fact 35),
    He.exm_ok (c.fact 36),
    He.exm_ok (c.fact 37),
    He.exm_ok (c.fact 38),
    He.exm_ok (c.fact 39),
    He.exm_ok (c.fact 40),
    He.free_ok X G (c.fact 41),
    He.free_ok X G (c.fact 42),
    He.free_ok X G (c.fact 43),
    He.free_ok X G (c.fact 44),
    He.free_ok X G (c.fact 45),
    He.free_ok X G (c.fact 46),
    He.free_ok X G (c.fact 47),
    He.int_ok X G (c.fact 48),
    F_Fault_word,
    F_Nought_word,
    F_Great_word,
    F_kept_in,
    ⟨He.glo_ok X G (c.fact 49), F_kept_in.kp, b_kept_in⟩,
    F_of_two,
    ⟨He.glo_ok X G (c.fact 50), F_of_two.kp, b_of_two⟩,
    F_worth_of,
    ⟨He.glo_ok X G (c.fact 51), F_worth_of.kp, b_worth_of⟩,
    F_copied,
    ⟨He.glo_ok X G (c.fact 52), F_copied.kp, b_copied⟩,
    F_copied_machine,
    ⟨He.glo_ok X G (c.fact 53), F_copied_machine.kp, b_copied_machine⟩,
    F_Model_init,
    F_State_init,
    F_State_copy,
    F_first_state,
    ⟨He.glo_ok X G (c.fact 54), F_first_state.kp, b_first_state⟩,
    F__law_whole,
    ⟨He.glo_ok X G (c.fact 55), F__law_whole.kp, b__law_whole⟩,
    F__law_mixed,
    ⟨He.glo_ok X G (c.fact 56), F__law_mixed.kp, b__law_mixed⟩,
    F__law_purse,
    ⟨He.glo_ok X G (c.fact 57), F__law_purse.kp, b__law_purse⟩,
    F__law_draw,
    ⟨He.glo_ok X G (c.fact 58), F__law_draw.kp, b__law_draw⟩,
    F__law_names,
    ⟨He.glo_ok X G (c.fact 59), F__law_names.kp, b__law_names⟩,
    F__law_worth,
    ⟨He.glo_ok X G (c.fact 60), F__law_worth.kp, b__law_worth⟩,
    F__law_state_of,
    ⟨He.glo_ok X G (c.fact 61), F__law_state_of.kp, b__law_state_of⟩,
    F_law,
    ⟨He.glo_ok X G (c.fact 62), F_law.kp, b_law⟩,
    ⟨He.meth_ok (c.fact 63), W_Fault_word⟩,
    ⟨He.meth_ok (c.fact 64), W_Nought_word⟩,
    ⟨He.meth_ok (c.fact 65), W_Great_word⟩,
    ⟨He.meth_ok (c.fact 66), b_State_copy⟩⟩
end Mo
namespace Mo
open PySem PySem.Spec PyProof.Rows L2
/-! ### law_k03 -/
/-- what is asked: a formula, what it comes to -/
def Ask (K : PySem.W.Frag) (e : Env) (bs qs : List Str) (G : Hp) (v : V) : Prop := ∃ (t : Addr) (fv : V) (f : Fm) (n : Int), v = .ref t ∧ G t = some (.tup [fv, .int n]) ∧ Dp K G fv f.data ∧ f.Ok bs qs ∧ f.depth < 1 ∧ f.ev e = .ok n
theorem Ask.mono {K : PySem.W.Frag} {e : Env} {bs qs : List Str} {G G' : Hp} {v : V} (h : Ask K e bs qs G v) (x : Ext G G') : Ask K e bs qs G' v := by
  obtain ⟨t, fv, f, n, h1, h2, h3, h4⟩ := h
  exact ⟨t, fv, f, n, h1, x _ _ h2, dp_mono x h3, h4⟩
section
variable {P : Program} {w : World} {K : PySem.W.Frag} {mg : Str → Option Value} {base : Heap}
theorem ok_law (T : Tx K mg) : OkG P w K mg base 9 "law" ["_law_script"] (spLaw K) := by
  have G__law_purse := ok__law_purse (P := P) (w := w) (base := base) T
  have G__law_draw := ok__law_draw (P := P) (w := w) (base := base) T
  have G__law_names := ok__law_names (P := P) (w := w) (base := base) T
  have G__law_worth := ok__law_worth (P := P) (w := w) (base := base) T
  have G__law_whole := ok__law_whole (P := P) (w := w) (base := base) T
  have G__law_state_of := ok__law_state_of (P := P) (w := w) (base := base) T
  have G_worth_of := ok_worth_of (P := P) (w := w) (base := base) T 1
  refine T.f_law.okX sc_law (fun vs H Q E h => ?_) (fun cdv A outer s H vs Q E hr h => ?_)
  · obtain ⟨a, ns, rfl, _⟩ := h
    rfl
  · have hu1 := hu_of hr; have hu0 := hr.units0; have hu64 := hr.units; have hu65 := hu65_of hr; have nd := sc_law.nd
    obtain ⟨a, ns, rfl, _, hS, hl, hb, q⟩ := h
    refine ⟨_, (pss_cons (ps_set (i := 1) nd rfl (Or.inl rfl) (pcl T.g__law_purse G__law_purse hr (takes_of rfl rfl rfl rfl) (pa_cons (pv 0) pa_nil)))
      (pss_cons (ps_set (i := 2) nd rfl (Or.inl rfl) (pcl T.g__law_names G__law_names hr (takes_of rfl rfl rfl rfl) (pa_cons (pv 1) (pa_cons pe_int pa_nil))))
      (pss_cons (ps_set (i := 3) nd rfl (Or.inl rfl) (pe_slice (sl_anyK (K := K) rfl) (pv 2) po_none (po_some (pcl T.g__law_draw G__law_draw hr (takes_of rfl rfl rfl rfl) (pa_cons (pv 1) (pa_cons pe_int pa_nil))))))
      (pss_cons (ps_set (i := 4) nd rfl (Or.inl rfl) (pe_slice (sl_anyK (K := K) rfl) (pv 2) (po_some pe_int) (po_some (pe_op (op_addK (K := K) rfl) pe_int (pcl T.g__law_draw G__law_draw hr (takes_of rfl rfl rfl rfl) (pa_cons (pv 1) (pa_cons pe_int pa_nil)))))))
      (pss_cons (ps_set (i := 5) nd rfl (Or.inr rfl) (pcl T.g__law_state_of G__law_state_of hr (takes_of rfl rfl rfl rfl) (pa_cons (pv 1) (pa_cons (pv 3) (pa_cons (pv 4) pa_nil)))))
      (pss_cons (ps_set (i := 6) nd rfl (Or.inl rfl) (pe_ix (ix_anyK (K := K) rfl hu1) (pe_lst (pa_cons (pcl T.g__law_draw G__law_draw hr (takes_of rfl rfl rfl rfl) (pa_cons (pv 1) (pa_cons (pe_op (op_addK (K := K) rfl) (pe_op op_pow pe_int pe_int) pe_int) pa_nil))) (pa_cons (pcl T.g__law_draw G__law_draw hr (takes_of rfl rfl rfl rfl) (pa_cons (pv 1) (pa_cons pe_int pa_nil))) pa_nil))) (pcl T.g__law_draw G__law_draw hr (takes_of rfl rfl rfl rfl) (pa_cons (pv 1) (pa_cons pe_int pa_nil))) (fun _ _ => rfl)))
      (pss_cons (ps_set (i := 7) nd rfl (Or.inl rfl) (pe_lst (pa_cons (pcl T.g__law_worth G__law_worth hr (takes_of rfl rfl rfl rfl) (pa_cons (pv 1) pa_nil)) (pa_cons (pcl T.g__law_worth G__law_worth hr (takes_of rfl rfl rfl rfl) (pa_cons (pv 1) pa_nil)) pa_nil))))
      (pss_cons (ps_set (i := 8) nd rfl (Or.inl rfl) (pe_callTy (call_listK (K := K) rfl) (by rfl) T.b_list (by decide +kernel) (pa_cons (pv 7) pa_nil)))
      (pss_cons (ps_set (i := 9) nd rfl (Or.inl rfl) (pe_lst (pa_cons (pe_tup (pa_cons (pe_tup (pa_cons pe_str pa_nil)) (pa_cons (pv 6) pa_nil))) (pa_cons (pe_tup (pa_cons (pe_tup (pa_cons pe_str (pa_cons pe_int pa_nil))) (pa_cons (pe_ix (ix_anyK (K := K) rfl hu1) (pv 7) pe_int (fun _ _ => rfl)) pa_nil))) (pa_cons (pe_tup (pa_cons (pe_tup (pa_cons pe_str (pa_cons pe_int pa_nil))) (pa_cons (pe_ix (ix_anyK (K := K) rfl hu1) (pv 7) pe_int (fun _ _ => rfl)) pa_nil))) pa_nil)))))
      (pss_cons (ps_for (passes_of rfl) rfl (pi_range1 rfl T.b_range (pa_cons pe_int pa_nil)) (pg_name (i := 10) nd rfl (Or.inl rfl))
      (pss_cons (ps_set (i := 11) nd rfl (Or.inl rfl) (pcl T.g__law_worth G__law_worth hr (takes_of rfl rfl rfl rfl) (pa_cons (pv 1) pa_nil)))
      (pss_one (ps_expr (pe_bmK (K := K) rfl PySem.F.plainAttrs_list PySem.F.slot_list_append PySem.F.type_list_append mt_append (pv 9) (pa_cons (pe_tup (pa_cons (pe_tup (pa_cons pe_str (pa_cons (pv 11) pa_nil))) (pa_cons (pv 11) pa_nil))) pa_nil))))))
      (pss_cons (ps_set (i := 9) nd rfl (Or.inl rfl) (pe_op (op_addK (K := K) rfl) (pv 9) (pe_lc (own := [("_law_name", 16)]) rfl nd (pi_seqK (K := K) rfl (pv 3)) (blkOk_by (own := [("_law_name", 16)]) (N := nm_law) (sc := defScope s_law) (by decide +kernel)) (fun _ _ _ _ _ => (pg_name (i := 16) nd rfl (Or.inl rfl) (Or.inr rfl))) (fun _ _ _ _ _ => pts_nil) (fun _ _ _ _ _ => (pe_tup (pa_cons (pe_tup (pa_cons pe_str (pa_cons (pv 16) pa_nil))) (pa_cons (pe_ix (ix_anyK (K := K) rfl hu1) (pe_fldK (K := K) rfl (pv 5) rfl) (pv 16) (fun _ _ => rfl)) pa_nil)))))))
      (pss_cons (ps_set (i := 9) nd rfl (Or.inl rfl) (pe_op (op_addK (K := K) rfl) (pv 9) (pe_lc (own := [("_law_name", 16)]) rfl nd (pi_seqK (K := K) rfl (pv 4)) (blkOk_by (own := [("_law_name", 16)]) (N := nm_law) (sc := defScope s_law) (by decide +kernel)) (fun _ _ _ _ _ => (pg_name (i := 16) nd rfl (Or.inl rfl) (Or.inr rfl))) (fun _ _ _ _ _ => pts_nil) (fun _ _ _ _ _ => (pe_tup (pa_cons (pe_tup (pa_cons pe_str (pa_cons (pv 16) pa_nil))) (pa_cons (pe_callB (call_lenK (K := K) rfl) (by rfl) T.b_len (by decide +kernel) (pa_cons (pe_ix (ix_anyK (K := K) rfl hu1) (pe_fldK (K := K) rfl (pv 5) rfl) (pv 16) (fun _ _ => rfl)) pa_nil)) pa_nil)))))))
      (pss_cons (ps_set (i := 12) nd rfl (Or.inl rfl) (pe_lst (pa_cons (pe_bm0K (K := K) rfl PySem.F.plainAttrs_dict PySem.F.slot_dict_copy PySem.F.type_dict_copy mt_dcopy (pe_fldK (K := K) rfl (pv 5) rfl)) (pa_cons (pe_lc (own := [("_law_name", 16)]) rfl nd (pi_seqK (K := K) rfl (pv 4)) (blkOk_by (own := [("_law_name", 16)]) (N := nm_law) (sc := defScope s_law) (by decide +kernel)) (fun _ _ _ _ _ => (pg_name (i := 16) nd rfl (Or.inl rfl) (Or.inr rfl))) (fun _ _ _ _ _ => pts_nil) (fun _ _ _ _ _ => (pe_callTy (call_listK (K := K) rfl) (by rfl) T.b_list (by decide +kernel) (pa_cons (pe_ix (ix_anyK (K := K) rfl hu1) (pe_fldK (K := K) rfl (pv 5) rfl) (pv 16) (fun _ _ => rfl)) pa_nil)))) pa_nil))))
      (pss_cons (ps_for (passes_of rfl) rfl (pi_seqK (K := K) rfl (pv 9)) (pg_tupK (K := K) (n := 2) rfl rfl (pgs_cons (pg_name (i := 13) nd rfl (Or.inl rfl)) (pgs_cons (pg_name (i := 14) nd rfl (Or.inl rfl)) pgs_nil)) rfl rfl)
      (pss_cons (ps_set (i := 15) nd rfl (Or.inl rfl) (pcl T.g_worth_of G_worth_of hr (takes_of rfl rfl rfl rfl) (pa_cons (pv 13) (pa_cons (pv 5) (pa_cons (pv 6) (pa_cons (pv 7) pa_nil))))))
      (pss_one (ps_if (PW.pt (pw_or (pt_not (pt_truth (pcl T.g__law_whole G__law_whole hr (takes_of rfl rfl rfl rfl) (pa_cons (pv 15) pa_nil)) (by intro _; rfl))) (pw_or1 (pt_cmpR (op_neK (K := K) rfl hu64) (pv 15) (pv 14) (nomark _))))) (pss_one (ps_ret pe_bl))
      pss_nil))))
      (pss_one (ps_ret (pe_and (pe_cmpR (op_eqK (K := K) rfl hu64) (pv 7) (pv 8) (nomark _)) (pe_one (pe_cmpR (op_eqK (K := K) rfl hu64) (pe_lst (pa_cons (pe_fldK (K := K) rfl (pv 5) rfl) (pa_cons (pe_lc (own := [("_law_name", 16)]) rfl nd (pi_seqK (K := K) rfl (pv 4)) (blkOk_by (own := [("_law_name", 16)]) (N := nm_law) (sc := defScope s_law) (by decide +kernel)) (fun _ _ _ _ _ => (pg_name (i := 16) nd rfl (Or.inl rfl) (Or.inr rfl))) (fun _ _ _ _ _ => pts_nil) (fun _ _ _ _ _ => (pe_ix (ix_anyK (K := K) rfl hu1) (pe_fldK (K := K) rfl (pv 5) rfl) (pv 16) (fun _ _ => rfl)))) pa_nil))) (pv 12) (nomark _)))))))))))))))))))), ?_⟩
    refine go_start (σ' := [some (.ref a), none, none, none, none, none, none, none, none, none, none, none, none, none, none, none, none]) rfl ?_
    walk_at "we"
    refine ⟨a, ns, rfl, hS, hl, fun z hz => bd_bits (hb z hz), fun pu H1 z1 => ?_⟩
    walk_at "we"
    refine ⟨H, _, pu, 9, rfl, z1, List.mem_cons_self, by decide, fun ln xs G2 H2 hxl hxn hxo x2 z2 hln => ?_⟩
    walk_at "we"
    refine ⟨G2, _, pu, 7, rfl, z2, List.mem_cons_self, by decide, by decide, fun i H3 i0 i1 z3 => ?_⟩
    obtain ⟨i, rfl⟩ : ∃ j : Nat, i = (j : Int) := ⟨i.toNat, by omega⟩
    walk_at "we"
    refine go_slL (SqL.of (z3.ex _ _ hln)) fun lb hlb => ?_
    rw [cut_take, ← List.map_take]
    have z4 := z3.fix (o := .lst ((xs.take i).map V.str)) hlb
    have hlb2 : upd G2 lb (.lst ((xs.take i).map V.str)) lb = some (.lst ((xs.take i).map V.str)) := upd_same
    have x4 : Ext G2 (upd G2 lb (.lst ((xs.take i).map V.str))) := Ext.new (z3.gno hlb)
    walk_at "we"
    refine ⟨_, _, pu, 4, rfl, z4, List.mem_cons_self, by decide, by decide, fun j H5 j0 j1 z5 => ?_⟩
    obtain ⟨j, rfl⟩ : ∃ k : Nat, j = (k : Int) := ⟨j.toNat, by omega⟩
    walk_at "we"
    refine go_slL (SqL.of (z5.ex _ _ (x4 _ _ hln))) fun lq hlq => ?_
    rw [show (6 : Int) + (j : Int) = ((6 + j : Nat) : Int) by omega, show (some (6 : Int)) = some ((6 : Nat) : Int) from rfl, cut_mid _ _ _ (by rw [List.length_map, hxl]; decide), ← List.map_drop, ← List.map_take]
    have z6 := z5.fix (o := .lst (((xs.drop 6).take j).map V.str)) hlq
    have x6 : Ext (upd G2 lb (.lst ((xs.take i).map V.str))) (upd (upd G2 lb (.lst ((xs.take i).map V.str))) lq (.lst (((xs.drop 6).take j).map V.str))) := Ext.new (z5.gno hlq)
    have hlq2 : (upd (upd G2 lb (.lst ((xs.take i).map V.str))) lq (.lst (((xs.drop 6).take j).map V.str))) lq = some (.lst (((xs.drop 6).take j).map V.str)) := upd_same
    have hlb3 := x6 _ _ hlb2
    have nb : (xs.take i).Nodup := names_take hxn i
    have nq : ((xs.drop 6).take j).Nodup := names_take (hxn.sublist (List.drop_sublist _ _)) j
    have lenb : (xs.take i).length ≤ 9 := Nat.le_trans (List.length_take_le' ..) (by omega)
    have lenq : ((xs.drop 6).take j).length ≤ 9 := Nat.le_trans (List.length_take_le' ..) (by rw [List.length_drop]; omega)
    clear x4 hlb2 z4 z5
    revert z6 hlq2 hlb3 nb nq lenb lenq
    clear x6
    generalize upd (upd G2 lb (.lst ((xs.take i).map V.str))) lq (.lst (((xs.drop 6).take j).map V.str)) = G
    generalize upd H5 lq (.lst (((xs.drop 6).take j).map V.str)) = H6
    generalize xs.take i = bs
    generalize (xs.drop 6).take j = qs
    intro z6 hlq hlb nb nq lenb lenq
    walk_at "we"
    refine ⟨G, _, pu, lb, lq, bs, qs, rfl, z6, List.mem_cons_self, hlb, hlq, nb, nq, lenb, lenq, fun st dx b c as s G7 H7 hal hbs hqs hw hq x7 z7 => ?_⟩
    have hlb7 := x7 _ _ hlb
    have hlq7 := x7 _ _ hlq
    walk_at "we"
    refine ⟨G7, _, pu, _, rfl, z7, by simp, by decide, by decide, fun n1 H8 n10 n11 z8 => ?_⟩
    walk_at "we"
    refine ⟨G7, _, pu, 20, rfl, z8, by simp, by decide, by decide, fun n2 H9 n20 n21 z9 => ?_⟩
    walk_at "we"
    refine go_sz rfl fun l1 hl1 => ?_
    have z10 := z9.new hl1 (φ := Eq (.lst [.int n1, .int n2])) rfl
    walk_at "we"
    refine ⟨G7, _, pu, 2, rfl, z10, by simp, by decide, by decide, fun d H11 d0 d1 z11 => ?_⟩
    have hnow : ∃ now, Worth now ∧ atI [V.int n1, V.int n2] d = some (.int now) := by
      have hj : d = 0 ∨ d = 1 := by omega
      rcases hj with rfl | rfl
      · exact ⟨n1, ⟨by omega, by omega⟩, rfl⟩
      · exact ⟨n2, ⟨by omega, by omega⟩, rfl⟩
    obtain ⟨now, wnow, en⟩ := hnow
    refine go_subL (SqL.of (z11.eq List.mem_cons_self)) en ?_
    have z12 := z11.drop
    walk_at "we"
    refine ⟨G7, _, pu, rfl, z12, by simp, fun g0 H13 wg0 z13 => ?_⟩
    walk_at "we"
    refine ⟨G7, _, pu, rfl, z13, by simp, fun g1 H14 wg1 z14 => ?_⟩
    walk_at "we"
    refine go_sz rfl fun gl hgl => ?_
    have z15 := z14.fix (o := .lst [.int g0, .int g1]) hgl
    have x15 : Ext G7 (upd G7 gl (.lst [.int g0, .int g1])) := Ext.new (z14.gno hgl)
    have hgl2 : (upd G7 gl (.lst [.int g0, .int g1])) gl = some (.lst [.int g0, .int g1]) := upd_same
    walk_at "we"
    refine go_listL (SqL.of upd_same) fun kl hkl => ?_
    have z16 := z15.fix (o := .lst [.int g0, .int g1]) hkl
    have x16 : Ext (upd G7 gl (.lst [.int g0, .int g1])) (upd (upd G7 gl (.lst [.int g0, .int g1])) kl (.lst [.int g0, .int g1])) := Ext.new (z15.gno hkl)
    have hkl2 : (upd (upd G7 gl (.lst [.int g0, .int g1])) kl (.lst [.int g0, .int g1])) kl = some (.lst [.int g0, .int g1]) := upd_same
    have hgl3 := x16 _ _ hgl2
    have hlb8 := (x15.trans x16) _ _ hlb7
    have hlq8 := (x15.trans x16) _ _ hlq7
    clear z15 hgl2
    revert z16 hkl2 hgl3 hlb8 hlq8
    clear x15 x16
    generalize upd (upd G7 gl (.lst [.int g0, .int g1])) kl (.lst [.int g0, .int g1]) = G9
    generalize upd (upd H14 gl (.lst [.int g0, .int g1])) kl (.lst [.int g0, .int g1]) = H9
    intro z16 hkl2 hgl3 hlb8 hlq8
    obtain ⟨env, henv⟩ : ∃ e, e = s.env now g0 g1 := ⟨_, rfl⟩
    have eok : env.Ok s.bs s.qs := by
      rw [henv]
      exact ⟨fun x _ => lookD_mem hw x, fun x _ => Nat.le_trans (lookQ_len hq x) (by decide), wnow, fun j _ => by
        show Worth (if j = 0 then g0 else g1)
        split
        · exact wg0
        · exact wg1⟩
    have hnow : env.now = now := by rw [henv]; rfl
    have hg0 : env.got 0 = g0 := by rw [henv]; rfl
    have hg1 : env.got 1 = g1 := by rw [henv]; rfl
    walk_at "we"
    -- now, got
    refine go_sz rfl fun p1 hp1 => ?_
    obtain ⟨x20, z20, w20⟩ := dp_fix (K := K) (xs := [.str "now"]) (ds := [.str "now"]) z16 hp1 (.cons (.str _) .nil)
    walk_at "we"
    refine go_sz rfl fun p2 hp2 => ?_
    have z21 := z20.fix (o := .tup [.ref p1, .int now]) hp2
    have x21 := Ext.new (o := .tup [.ref p1, .int now]) (z20.gno hp2)
    have a1 : Ask K env s.bs s.qs _ (.ref p2) := ⟨p2, .ref p1, .now, now, rfl, upd_same, dp_mono x21 w20, trivial, Nat.zero_lt_one, by rw [← hnow]; rfl⟩
    walk_at "we"
    refine go_sz rfl fun p3 hp3 => ?_
    obtain ⟨x22, z22, w22⟩ := dp_fix (K := K) (xs := [.str "got", .int 0]) (ds := [.str "got", .int ((0 : Nat) : Int)]) z21 hp3 (.cons (.str _) (.cons (.int _) .nil))
    walk_at "we"
    refine go_subL (SqL.of (z22.ex _ _ (((x20.trans x21).trans x22) _ _ hgl3))) rfl ?_
    walk_at "we"
    refine go_sz rfl fun p4 hp4 => ?_
    have z23 := z22.fix (o := .tup [.ref p3, .int g0]) hp4
    have x23 := Ext.new (o := .tup [.ref p3, .int g0]) (z22.gno hp4)
    have a2 : Ask K env s.bs s.qs _ (.ref p4) := ⟨p4, .ref p3, .got 0, g0, rfl, upd_same, dp_mono x23 w22, (by show 0 < 2; decide), Nat.zero_lt_one, by rw [← hg0]; rfl⟩
    walk_at "we"
    refine go_sz rfl fun p5 hp5 => ?_
    obtain ⟨x24, z24, w24⟩ := dp_fix (K := K) (xs := [.str "got", .int 1]) (ds := [.str "got", .int ((1 : Nat) : Int)]) z23 hp5 (.cons (.str _) (.cons (.int _) .nil))
    walk_at "we"
    refine go_subL (SqL.of (z24.ex _ _ (((((x20.trans x21).trans x22).trans x23).trans x24) _ _ hgl3))) rfl ?_
    walk_at "we"
    refine go_sz rfl fun p6 hp6 => ?_
    have z25 := z24.fix (o := .tup [.ref p5, .int g1]) hp6
    have x25 := Ext.new (o := .tup [.ref p5, .int g1]) (z24.gno hp6)
    have a3 : Ask K env s.bs s.qs _ (.ref p6) := ⟨p6, .ref p5, .got 1, g1, rfl, upd_same, dp_mono x25 w24, (by show 1 < 2; decide), Nat.zero_lt_one, by rw [← hg1]; rfl⟩
    walk_at "we"
    refine go_sz rfl fun la hla => ?_
    have z26 := z25.new hla (φ := Eq (.lst [.ref p2, .ref p4, .ref p6])) rfl
    have xA := ((((x20.trans x21).trans x22).trans x23).trans x24).trans x25
    have hall : ∀ v ∈ [V.ref p2, .ref p4, .ref p6], Ask K env s.bs s.qs _ v := fun v hv => by
      simp only [List.mem_cons, List.not_mem_nil, or_false] at hv
      rcases hv with rfl | rfl | rfl
      · exact a1.mono (((x22.trans x23).trans x24).trans x25)
      · exact a2.mono (x24.trans x25)
      · exact a3
    have hkl4 := xA _ _ hkl2
    have hgl4 := xA _ _ hgl3
    have hlb4 := xA _ _ hlb8
    have hlq4 := xA _ _ hlq8
    clear a1 a2 a3 z20 z21 z22 z23 z24 z25 w20 w22 w24
    revert z26 hall hkl4 hgl4 hlb4 hlq4
    clear xA x20 x21 x22 x23 x24 x25
    generalize upd (upd (upd (upd (upd (upd G9 p1 _) p2 _) p3 _) p4 _) p5 _) p6 _ = G10
    intro z26 hall hkl4 hgl4 hlb4 hlq4
    walk_at "we"
    refine go_r1 5 rfl (by decide) ?_
    refine loop_r 5 (fun i σ H' => ∃ (u v : Option V) (G' : Hp) (acc : List V), σ = [some (.ref a), some (.ref pu), some (.ref ln), some (.ref lb), some (.ref lq), some (.ref st), some (.int now), some (.ref gl), some (.ref kl), some (.ref la), u, v, none, none, none, none, none] ∧ Ext G10 G' ∧
        Hd G' H' ((la, Eq (.lst acc)) :: (stV K st dx b c as s ++ [(pu, Purse)])) ∧ acc.length = 3 + i ∧ ∀ v ∈ acc, Ask K env s.bs s.qs G' v)
      ⟨_, _, G10, _, rfl, Ext.refl _, z26, rfl, hall⟩ ?_ ?_
    · rintro i σ' H' hi ⟨u, v, G', acc, rfl, xx, z, hlen, hal2⟩
      walk_at "we"
      refine ⟨G', _, pu, rfl, z, by simp, fun d H17 wd z17 => ?_⟩
      walk_at "we"
      refine go_tyL (SqL.of (z17.eq List.mem_cons_self)) ?_
      walk_at "we"
      refine go_sz rfl fun q1 hq1 => ?_
      obtain ⟨x18, z18, w18⟩ := dp_fix (K := K) (xs := [.str "number", .int d]) (ds := [.str "number", .int d]) z17 hq1 (.cons (.str _) (.cons (.int _) .nil))
      walk_at "we"
      refine go_sz rfl fun q2 hq2 => ?_
      have z19 := z18.fix (o := .tup [.ref q1, .int d]) hq2
      have x19 := Ext.new (o := .tup [.ref q1, .int d]) (z18.gno hq2)
      walk_at "we"
      refine go_app (z19.eq List.mem_cons_self) (by rw [hlen, sizeLine_eq]; omega) ?_
      refine ⟨_, _, _, acc ++ [.ref q2], rfl, (xx.trans x18).trans x19, z19.set0 rfl, by rw [List.length_append, hlen]; rfl, fun v hv => ?_⟩
      rcases List.mem_append.mp hv with hv | hv
      · exact (hal2 v hv).mono (x18.trans x19)
      · rw [List.mem_singleton.mp hv]
        exact ⟨q2, .ref q1, .num d, d, rfl, upd_same, dp_mono x19 w18, wd, Nat.zero_lt_one, rfl⟩
    rintro σ' H' ⟨u, v, G11, acc, rfl, x11, z, hlen, hal2⟩
    have hkl5 := x11 _ _ hkl4
    have hgl5 := x11 _ _ hgl4
    have hlb5 := x11 _ _ hlb4
    have hlq5 := x11 _ _ hlq4
    walk_at "we"
    refine go_sqL (SqL.of (z.ex _ _ hlb5)) (go_lcA fun Dl hD => ?_)
    refine lcx_l (xs := bs.map V.str) (fun i H' => ∃ (G' : Hp) (ac : List V), Ext G11 G' ∧ Hd G' H' ((Dl, Eq (.lst ac)) :: (la, Eq (.lst acc)) :: (stV K st dx b c as s ++ [(pu, Purse)])) ∧ ac.length = i ∧ ∀ v ∈ ac, Ask K env s.bs s.qs G' v)
      ⟨G11, [], Ext.refl _, z.new hD rfl, rfl, fun v hv => nomatch hv⟩ (fun i H' _ ⟨G', ac, x, z, _⟩ => SqL.of (z.ex _ _ (x _ _ hlb5))) ?_ ?_
    · rintro k x H' hk ⟨G', ac, x1, z7, hl7, ha7⟩
      rw [List.getElem?_map] at hk
      obtain ⟨y, hy, rfl⟩ := Option.map_eq_some_iff.mp hk
      have hyb : y ∈ s.bs := by rw [hbs]; exact List.mem_of_getElem? hy
      have hkl := (List.getElem?_eq_some_iff.mp hy).1
      walk_at "we"
      refine ⟨rfl, ?_⟩
      walk_at "we"
      refine go_sz rfl fun t ht => ?_
      obtain ⟨x8, z8, w8⟩ := dp_fix (K := K) (xs := [.str "box", .str y]) (ds := [.str "box", .str y]) z7 ht (.cons (.str _) (.cons (.str _) .nil))
      have z8' := z8.perm (M := stV K st dx b c as s ++ ((Dl, Eq (.lst ac)) :: (la, Eq (.lst acc)) :: [(pu, Purse)])) (by walk_at "p")
      walk_at "we"
      refine go_fldL (st_obj z8') T.c_State T.n_State_boxes lk_State_boxes ?_
      walk_at "we"
      refine go_subK (st_box z8') (val_boxes hyb) ?_
      walk_at "we"
      refine go_sz rfl fun t2 ht2 => ?_
      have z9 := z8.fix (o := .tup [.ref t, .int (lookD 0 y s.boxes)]) ht2
      have x9 := Ext.new (o := .tup [.ref t, .int (lookD 0 y s.boxes)]) (z8.gno ht2)
      refine ⟨ac, z9.eq List.mem_cons_self, by rw [hl7, sizeLine_eq]; omega, _, ac ++ [.ref t2], (x1.trans x8).trans x9, z9.set0 rfl, by rw [List.length_append, hl7]; rfl, fun v hv => ?_⟩
      rcases List.mem_append.mp hv with hv | hv
      · exact (ha7 v hv).mono (x8.trans x9)
      · rw [List.mem_singleton.mp hv]
        exact ⟨t2, .ref t, .box y, _, rfl, upd_same, dp_mono x9 w8, hyb, Nat.zero_lt_one, by rw [henv]; rfl⟩
    rintro H20 ⟨G20, ac, x20, z20, hl20, ha20⟩
    rw [List.length_map] at hl20
    refine go_addL (z20.eq (List.mem_cons_of_mem _ List.mem_cons_self)) (z20.eq List.mem_cons_self) (by rw [sizeLine_eq]; omega) fun lp hlp => ?_
    have z21 := ((z20.new hlp (φ := Eq (.lst (acc ++ ac))) rfl).perm (M := (Dl, Eq (.lst ac)) :: (la, Eq (.lst acc)) :: (lp, Eq (.lst (acc ++ ac))) :: (stV K st dx b c as s ++ [(pu, Purse)])) (by walk_at "p")).drop.drop
    have ha21 : ∀ v ∈ acc ++ ac, Ask K env s.bs s.qs G20 v := fun v hv => by
      rcases List.mem_append.mp hv with hv | hv
      · exact (hal2 v hv).mono x20
      · exact ha20 v hv
    have hl21 : (acc ++ ac).length ≤ 17 := by rw [List.length_append]; omega
    have hkl6 := x20 _ _ hkl5
    have hgl6 := x20 _ _ hgl5
    have hlq6 := x20 _ _ hlq5
    revert z21 ha21 hl21
    generalize acc ++ ac = acs
    generalize upd H20 lp (.lst acs) = H21
    intro z21 ha21 hl21
    walk_at "we"
    refine go_sqL (SqL.of (z21.ex _ _ hlq6)) (go_lcA fun D2 hD2 => ?_)
    refine lcx_l (xs := qs.map V.str) (fun i H' => ∃ (G' : Hp) (ac : List V), Ext G20 G' ∧ Hd G' H' ((D2, Eq (.lst ac)) :: (lp, Eq (.lst acs)) :: (stV K st dx b c as s ++ [(pu, Purse)])) ∧ ac.length = i ∧ ∀ v ∈ ac, Ask K env s.bs s.qs G' v)
      ⟨G20, [], Ext.refl _, z21.new hD2 rfl, rfl, fun v hv => nomatch hv⟩ (fun i H' _ ⟨G', ac, x, z, _⟩ => SqL.of (z.ex _ _ (x _ _ hlq6))) ?_ ?_
    · rintro k x H' hk ⟨G', ac, x1, z7, hl7, ha7⟩
      rw [List.getElem?_map] at hk
      obtain ⟨y, hy, rfl⟩ := Option.map_eq_some_iff.mp hk
      have hyb : y ∈ s.qs := by rw [hqs]; exact List.mem_of_getElem? hy
      have hkl := (List.getElem?_eq_some_iff.mp hy).1
      walk_at "we"
      refine ⟨rfl, ?_⟩
      walk_at "we"
      refine go_sz rfl fun t ht => ?_
      obtain ⟨x8, z8, w8⟩ := dp_fix (K := K) (xs := [.str "long", .str y]) (ds := [.str "long", .str y]) z7 ht (.cons (.str _) (.cons (.str _) .nil))
      have z8' := z8.perm (M := stV K st dx b c as s ++ ((D2, Eq (.lst ac)) :: (lp, Eq (.lst acs)) :: [(pu, Purse)])) (by walk_at "p")
      walk_at "we"
      refine go_fldL (st_obj z8') T.c_State T.n_State_queues lk_State_queues ?_
      walk_at "we"
      obtain ⟨qa, v1, v2, _⟩ := st_setQ (x := y) z8' hal (by rw [hqs]; exact nq) hyb
      refine go_subK (st_que z8') v1 ?_
      walk_at "we"
      refine go_lenL (SqL.of v2) ?_
      rw [List.length_map]
      walk_at "we"
      refine go_sz rfl fun t2 ht2 => ?_
      have z9 := z8.fix (o := .tup [.ref t, .int ((lookD [] y s.queues).length : Int)]) ht2
      have x9 := Ext.new (o := .tup [.ref t, .int ((lookD [] y s.queues).length : Int)]) (z8.gno ht2)
      refine ⟨ac, z9.eq List.mem_cons_self, by rw [hl7, sizeLine_eq]; omega, _, ac ++ [.ref t2], (x1.trans x8).trans x9, z9.set0 rfl, by rw [List.length_append, hl7]; rfl, fun v hv => ?_⟩
      rcases List.mem_append.mp hv with hv | hv
      · exact (ha7 v hv).mono (x8.trans x9)
      · rw [List.mem_singleton.mp hv]
        exact ⟨t2, .ref t, .long y, _, rfl, upd_same, dp_mono x9 w8, hyb, Nat.zero_lt_one, by rw [henv]; rfl⟩
    rintro H30 ⟨G30, ac2, x30, z30, hl30, ha30⟩
    rw [List.length_map] at hl30
    refine go_addL (z30.eq (List.mem_cons_of_mem _ List.mem_cons_self)) (z30.eq List.mem_cons_self) (by rw [sizeLine_eq]; omega) fun lz hlz => ?_
    have z31 := ((z30.new hlz (φ := Eq (.lst (acs ++ ac2))) rfl).perm (M := (D2, Eq (.lst ac2)) :: (lp, Eq (.lst acs)) :: (lz, Eq (.lst (acs ++ ac2))) :: (stV K st dx b c as s ++ [(pu, Purse)])) (by walk_at "p")).drop.drop
    have ha31 : ∀ v ∈ acs ++ ac2, Ask K env s.bs s.qs G30 v := fun v hv => by
      rcases List.mem_append.mp hv with hv | hv
      · exact (ha21 v hv).mono x30
      · exact ha30 v hv
    have hkl7 := x30 _ _ hkl6
    have hgl7 := x30 _ _ hgl6
    have hlq9 := x30 _ _ hlq6
    revert z31 ha31
    generalize acs ++ ac2 = asked
    generalize upd H30 lz (.lst asked) = H31
    intro z31 ha31
    have z31' := z31.perm (M := stV K st dx b c as s ++ ((lz, Eq (.lst asked)) :: [(pu, Purse)])) (by walk_at "p")
    walk_at "we"
    -- what is kept
    refine go_fldL (st_obj z31') T.c_State T.n_State_boxes lk_State_boxes ?_
    refine go_tyDK (st_box z31') ?_
    refine go_dcopy (st_box z31') fun wb hwb => ?_
    have z32 := z31'.fix (o := .dK (boxesV s.boxes)) hwb
    have x32 : Ext G30 (upd G30 wb (.dK (boxesV s.boxes))) := Ext.new (z31'.gno hwb)
    have hwb2 : (upd G30 wb (.dK (boxesV s.boxes))) wb = some (.dK (boxesV s.boxes)) := upd_same
    have hkl8 := x32 _ _ hkl7
    have hgl8 := x32 _ _ hgl7
    have hlq10 := x32 _ _ hlq9
    have ha32 : ∀ v ∈ asked, Ask K env s.bs s.qs _ v := fun v hv => (ha31 v hv).mono x32
    revert z32 hwb2 hkl8 hgl8 hlq10 ha32
    clear x32
    generalize upd G30 wb (.dK (boxesV s.boxes)) = G32
    generalize upd H31 wb (.dK (boxesV s.boxes)) = H32
    intro z32 hwb2 hkl8 hgl8 hlq10 ha32
    walk_at "we"
    have hsq : s.queues.map (·.1) = qs := hqs
    have lsq : s.queues.length = qs.length := by rw [← hsq, List.length_map]
    have qat : ∀ (i : Nat) (y : Str), qs[i]? = some y → ∃ p, s.queues[i]? = some p ∧ p.1 = y ∧ lookD [] y s.queues = p.2 := fun i y hy => by
      have hil := (List.getElem?_eq_some_iff.mp hy).1
      obtain ⟨p, hp⟩ : ∃ p, s.queues[i]? = some p := ⟨_, List.getElem?_eq_getElem (by omega)⟩
      have hpy : p.1 = y := by
        have : (s.queues.map (·.1))[i]? = some p.1 := by rw [List.getElem?_map, hp]; rfl
        rw [hsq, hy] at this
        exact (Option.some.inj this).symm
      obtain ⟨j, aa, g1, _, _⟩ := val_queues hal (show y ∈ s.queues.map (·.1) by rw [hsq]; exact List.mem_of_getElem? hy)
      have := nodup_at (show (s.queues.map (·.1)).Nodup by rw [hsq]; exact nq) hp j _ g1 hpy.symm
      subst this
      rw [hp] at g1
      exact ⟨p, hp, hpy, by rw [Option.some.inj g1]⟩
    refine go_sqL (SqL.of (z32.ex _ _ hlq10)) (go_lcA fun D3 hD3 => ?_)
    refine lcx_l (xs := qs.map V.str) (fun i H' => ∃ (G' : Hp) (cs : List Addr), Ext G32 G' ∧ Hd G' H' ((D3, Eq (.lst (cs.map V.ref))) :: (stV K st dx b c as s ++ ((lz, Eq (.lst asked)) :: [(pu, Purse)]))) ∧ cs.length = i ∧ ∀ (j : Nat) (x : Addr) (y : Str × List Int), s.queues[j]? = some y → cs[j]? = some x → G' x = some (.lst (y.2.map V.int)))
      ⟨G32, [], Ext.refl _, z32.new hD3 rfl, rfl, fun j x y _ h => by simp at h⟩ (fun i H' _ ⟨G', ac, x, z, _⟩ => SqL.of (z.ex _ _ (x _ _ hlq10))) ?_ ?_
    · rintro k x H' hk ⟨G', cs, x1, z7, hcl, hcs⟩
      rw [List.getElem?_map] at hk
      obtain ⟨y, hy, rfl⟩ := Option.map_eq_some_iff.mp hk
      have hyb : y ∈ s.qs := by rw [hqs]; exact List.mem_of_getElem? hy
      have hkl := (List.getElem?_eq_some_iff.mp hy).1
      obtain ⟨p, hp, hpy, hlk⟩ := qat k y hy
      have z8' := z7.perm (M := stV K st dx b c as s ++ ((D3, Eq (.lst (cs.map V.ref))) :: (lz, Eq (.lst asked)) :: [(pu, Purse)])) (by walk_at "p")
      walk_at "we"
      refine ⟨rfl, ?_⟩
      walk_at "we"
      refine go_fldL (st_obj z8') T.c_State T.n_State_queues lk_State_queues ?_
      walk_at "we"
      obtain ⟨qa, v1, v2, _⟩ := st_setQ (x := y) z8' hal (by rw [hqs]; exact nq) hyb
      refine go_subK (st_que z8') v1 ?_
      walk_at "we"
      refine go_listL (SqL.of v2) fun l hl0 => ?_
      rw [hlk]
      have z24 := z7.fix (o := .lst (p.2.map V.int)) hl0
      have x24 : Ext G' (upd G' l (.lst (p.2.map V.int))) := Ext.new (z7.gno hl0)
      refine ⟨_, z24.eq List.mem_cons_self, by rw [List.length_map, hcl, sizeLine_eq]; omega, _, cs ++ [l], x1.trans x24, by rw [List.map_append]; exact z24.set0 rfl, by rw [List.length_append, hcl]; rfl, fun j x' y' e1 e2 => ?_⟩
      rcases Nat.lt_or_ge j cs.length with hj | hj
      · rw [List.getElem?_append_left hj] at e2
        exact x24 _ _ (hcs j x' y' e1 e2)
      · rw [List.getElem?_append_right hj] at e2
        have hj2 : j - cs.length = 0 := by
          have := (List.getElem?_eq_some_iff.mp e2).1
          rw [List.length_singleton] at this
          omega
        rw [hj2] at e2
        obtain rfl : l = x' := by simpa using e2
        have : j = k := by omega
        subst this
        rw [hp] at e1
        cases e1
        exact upd_same
    rintro H40 ⟨G40, cs, x40, z40, hcl, hcs⟩
    rw [List.length_map] at hcl
    have x41 : Ext G40 (upd G40 D3 (.lst (cs.map V.ref))) := Ext.new (z40.no List.mem_cons_self)
    have z41 := z40.freeze (z40.eq List.mem_cons_self)
    have hD41 : (upd G40 D3 (.lst (cs.map V.ref))) D3 = some (.lst (cs.map V.ref)) := upd_same
    walk_at "we"
    refine go_sz rfl fun he hhe => ?_
    have x42 := x41.trans (Ext.new (o := .lst [.ref wb, .ref D3]) (z41.gno hhe))
    have z42 := z41.fix (o := .lst [.ref wb, .ref D3]) hhe
    have hhe2 : (upd (upd G40 D3 (.lst (cs.map V.ref))) he (.lst [.ref wb, .ref D3])) he = some (.lst [.ref wb, .ref D3]) := upd_same
    have hD42 : (upd (upd G40 D3 (.lst (cs.map V.ref))) he (.lst [.ref wb, .ref D3])) D3 = some (.lst (cs.map V.ref)) := (Ext.new (o := .lst [.ref wb, .ref D3]) (z41.gno hhe)) _ _ hD41
    have hcs42 : ∀ (j : Nat) (x : Addr) (y : Str × List Int), s.queues[j]? = some y → cs[j]? = some x → (upd (upd G40 D3 (.lst (cs.map V.ref))) he (.lst [.ref wb, .ref D3])) x = some (.lst (y.2.map V.int)) := fun j x y e1 e2 => x42 _ _ (hcs j x y e1 e2)
    have hwb42 := (x40.trans x42) _ _ hwb2
    have hkl9 := (x40.trans x42) _ _ hkl8
    have hgl9 := (x40.trans x42) _ _ hgl8
    have hlq11 := (x40.trans x42) _ _ hlq10
    have ha42 : ∀ v ∈ asked, Ask K env s.bs s.qs _ v := fun v hv => (ha32 v hv).mono (x40.trans x42)
    clear z41 hD41
    revert z42 hhe2 hD42 hcs42 hwb42 hkl9 hgl9 hlq11 ha42
    clear x41 x42
    generalize upd (upd G40 D3 (.lst (cs.map V.ref))) he (.lst [.ref wb, .ref D3]) = G42
    generalize upd H40 he (.lst [.ref wb, .ref D3]) = H42
    intro z42 hhe2 hD42 hcs42 hwb42 hkl9 hgl9 hlq11 ha42
    walk_at "we"
    refine go_sqL (SqL.of (z42.eq (List.mem_append_right _ List.mem_cons_self))) ?_
    refine loop_l (xs := asked) (fun _ σ H' => H' = H42 ∧ ∃ (o10 o11 o13 o14 o15 o16 : Option V), σ = [some (.ref a), some (.ref pu), some (.ref ln), some (.ref lb), some (.ref lq), some (.ref st), some (.int now), some (.ref gl), some (.ref kl), some (.ref lz), o10, o11, some (.ref he), o13, o14, o15, o16])
      ⟨rfl, _, _, _, _, _, _, rfl⟩ (fun i σ' H' _ ⟨e, _⟩ => by rw [e]; exact SqL.of (z42.eq (List.mem_append_right _ List.mem_cons_self))) ?_ ?_
    · rintro i x σ' H' hi ⟨rfl, o10, o11, o13, o14, o15, o16, rfl⟩
      obtain ⟨t, fv, f, n, rfl, ht, wf, okf, df, ev⟩ := ha42 x (List.mem_of_getElem? hi)
      refine go_gtup (SqT.of (z42.ex _ _ ht)) rfl ?_
      walk_at "we"
      rw [henv] at ev eok
      refine ⟨fv, f, st, gl, s, now, g0, g1, rfl, dp_mono z42.ex wf, df, st_at z42 hal, SqL.of (z42.ex _ _ hgl9), okf, eok, fun m hm => ?_, fun e he => ?_⟩
      · rw [ev] at hm
        cases hm
        walk_at "we"
        refine ⟨n, rfl, ?_⟩
        walk_at "we"
        refine go_iteN (fun h => absurd rfl h) fun _ => ?_
        walk_at "we"
        exact ⟨rfl, _, _, _, _, _, _, rfl⟩
      · rw [ev] at he
        cases he
    rintro σ' H' ⟨rfl, o10, o11, o13, o14, o15, o16, rfl⟩
    walk_at "we"
    refine go_eqD (.lst (SqL.of (z42.ex _ _ hgl9)) (.cons (.int g0) (.cons (.int g1) .nil))) (.lst (SqL.of (z42.ex _ _ hkl9)) (.cons (.int g0) (.cons (.int g1) .nil))) rfl rfl ?_
    rw [eqv_self (d := .list [.int g0, .int g1]) rfl]
    walk_at "we"
    refine go_fldL (st_obj z42) T.c_State T.n_State_boxes lk_State_boxes ?_
    walk_at "we"
    refine go_sqL (SqL.of (z42.ex _ _ hlq11)) (go_lcA fun D4 hD4 => ?_)
    refine lcx_l (xs := qs.map V.str) (fun i H' => Hd G42 H' ((D4, Eq (.lst ((as.take i).map V.ref))) :: (stV K st dx b c as s ++ ((lz, Eq (.lst asked)) :: [(pu, Purse)]))))
      (z42.new hD4 rfl) (fun i H' _ z => SqL.of (z.ex _ _ hlq11)) ?_ ?_
    · rintro k x H' hk z7
      rw [List.getElem?_map] at hk
      obtain ⟨y, hy, rfl⟩ := Option.map_eq_some_iff.mp hk
      have hyb : y ∈ s.qs := by rw [hqs]; exact List.mem_of_getElem? hy
      have hkl := (List.getElem?_eq_some_iff.mp hy).1
      obtain ⟨p, hp, hpy, hlk⟩ := qat k y hy
      have z8' := z7.perm (M := stV K st dx b c as s ++ ((D4, Eq (.lst ((as.take k).map V.ref))) :: (lz, Eq (.lst asked)) :: [(pu, Purse)])) (by walk_at "p")
      walk_at "we"
      refine ⟨rfl, ?_⟩
      walk_at "we"
      refine go_fldL (st_obj z8') T.c_State T.n_State_queues lk_State_queues ?_
      walk_at "we"
      obtain ⟨j, aa, g1, g2, g3⟩ := val_queues hal (show y ∈ s.queues.map (·.1) by rw [hsq]; exact List.mem_of_getElem? hy)
      have hjk := nodup_at (show (s.queues.map (·.1)).Nodup by rw [hsq]; exact nq) hp j _ g1 hpy.symm
      subst hjk
      refine go_subK (st_que z8') g3 ?_
      refine ⟨_, z7.eq List.mem_cons_self, by rw [List.length_map, List.length_take, sizeLine_eq]; omega, ?_⟩
      have e5 : (as.take (j + 1)).map V.ref = (as.take j).map V.ref ++ [.ref aa] := by rw [List.take_add_one, g2, List.map_append]; rfl
      rw [e5]
      exact z7.set0 rfl
    rintro H50 z50
    rw [List.length_map, List.take_of_length_le (by omega)] at z50
    walk_at "we"
    refine go_sz rfl fun fl hfl => ?_
    have z51 := z50.fix (o := .lst [.ref b, .ref D4]) hfl
    have x51 := Ext.new (o := .lst [.ref b, .ref D4]) (z50.gno hfl)
    have z52 := z51.perm (M := stV K st dx b c as s ++ ((D4, Eq (.lst (as.map V.ref))) :: (lz, Eq (.lst asked)) :: [(pu, Purse)])) (by walk_at "p")
    walk_at "we"
    have e51 := z51.ex
    refine go_eqVn 5 (by decide) ?_ (q _)
    refine .inl ⟨fl, he, _, _, rfl, rfl, SqL.of (e51 _ _ upd_same), SqL.of ((x51.trans e51) _ _ hhe2), .cons ?_ (.cons ?_ .nil)⟩
    · exact .inr (.inr (eqr_boxes (st_box z52) ((x51.trans e51) _ _ hwb42) (by show s.bs.Nodup; rw [hbs]; exact nb)))
    · refine .inr (.inr (.inl ⟨D4, D3, _, _, rfl, rfl, SqL.of (z51.eq List.mem_cons_self), SqL.of ((x51.trans e51) _ _ hD42), ?_⟩))
      have pr : ∀ (as cs : List Addr) (qq : List (Str × List Int)), qq.length = as.length → qq.length = cs.length → (∀ (i : Nat) (x : Addr) (y : Str × List Int), qq[i]? = some y → as[i]? = some x → (upd H50 fl (.lst [.ref b, .ref D4])) x = some (.lst (y.2.map V.int))) →
          (∀ (i : Nat) (x : Addr) (y : Str × List Int), qq[i]? = some y → cs[i]? = some x → (upd H50 fl (.lst [.ref b, .ref D4])) x = some (.lst (y.2.map V.int))) → Paired (EqV K (upd H50 fl (.lst [.ref b, .ref D4])) 4) (as.map V.ref) (cs.map V.ref) := fun as => by
        induction as with
        | nil =>
          intro cs qq h1 h2 _ _
          have : cs = [] := List.length_eq_zero_iff.mp (by rw [← h2, h1]; rfl)
          rw [this]
          exact .nil
        | cons x r ih =>
          intro cs qq h1 h2 ha hc
          match qq, cs, h1, h2 with
          | y :: qq, z :: cs, h1, h2 =>
            refine .cons (.inr (.inr (.inl ⟨x, z, _, _, rfl, rfl, SqL.of (ha 0 x y rfl rfl), SqL.of (hc 0 z y rfl rfl), paired_ints _⟩))) (ih cs qq (by simpa using h1) (by simpa using h2) (fun i x' y' e1 e2 => ha (i + 1) x' y' (by simpa using e1) (by simpa using e2)) fun i x' y' e1 e2 => hc (i + 1) x' y' (by simpa using e1) (by simpa using e2))
      refine pr as cs s.queues hal (by omega) (fun i x y e1 e2 => ?_) fun i x y e1 e2 => (x51.trans e51) _ _ (hcs42 i x y e1 e2)
      refine z52.eq ?_
      rw [stV_eq]
      refine List.mem_append_left _ (List.mem_cons_of_mem _ (List.mem_cons_of_mem _ (List.mem_cons_of_mem _ (List.mem_map.mpr ⟨(y, x), ?_, rfl⟩))))
      exact List.mem_of_getElem? (i := i) (List.getElem?_zip_eq_some.mpr ⟨e1, e2⟩)
end
end Mo
open PySem PySem.W PySem.Calls PyProof.Rows
theorem PySem.Challenge.cw_momentloom_k03_formulas_alone_holds : PySem.Challenge.rw_momentloom_k03_formulas_alone.Holds := by
  w_on; o_law
  refine HandSHeadRun.head_any (r := Mo.Rr) (q := view Mo.Rr.prog [24]) (H := Mo.hk) (ob := Mo.ob) (M := 20000) (loose := Mo.loose) (d := HandSHeadRun.topDef Mo.Rr.prog 24) (kwd := []) Mo.ob_eq
    (by kernel_rfl) (fun s => by kernel_rfl) Mo.run (by kernel_rfl) (by kernel_rfl) (by kernel_rfl) (by rfl) (by first | assumption | decide +kernel) (by decide +kernel) ⟨rfl, rfl, rfl, rfl, rfl, by decide +kernel⟩ ?hw ?hc
  case hw => w_witness2
  case hc =>
    refine Mo.walk_ofEB (l := PySem.Challenge.rw_momentloom_k03_formulas_alone) (n := 63) (k := 9) (x := "_law_script") (CX := fun w => L2.CX PySem.Challenge.rw_momentloom_k03_formulas_alone.prog w) rfl (by decide) (by kernel_rfl) ⟨rfl, by decide, by decide⟩ ?F (fun _ _ _ _ _ z => Mo.cx_false z)
    intro w mg fa h Y G hmg0
    obtain ⟨K, KX, c⟩ := Y
    have hmg : mg ("law" : PySem.Str) = some (.ref fa) := by
      have e : (HandSHeadRun.topDef Mo.Rr.prog 24).name = ("law" : PySem.Str) := by kernel_rfl
      rw [← e]
      exact hmg0
    have T := Mo.tx_of KX G c
    have e := hmg.symm.trans T.g_law.gl
    cases e
    exact ⟨K, _, Mo.spLaw K, KX, fun s u => Mo.fun_bindsTo T.f_law (ps := ["_law_script"]) (fun _ _ _ _ _ _ us hl => match us, hl with | [_], _ => rfl) s [u] rfl, fun H a ns hl hb hO hS => ⟨a, ns, rfl, hO, hS, hl, hb, fun _ => rfl⟩, fun base _ _ => Mo.ok_law T⟩
