import PyProof.Rows.All
import Wide.All
import OpenK.AllK
import Wide.FinOn
import KE.KStateDown
import Lean
import HandS.ForMost
import HandS.Exc
import HandS.Finally
import HandS.EndBits
import HandS.WordsExc
import HandS.Defaults
import HandS.DictTup
import HandS.TupLen
import HandS.Deep
import HandS.Wide
import HandS.TryOnly
import HandS.TryMany
import HandS.IsInst
import HandS.ExcIs
import HandS.ExcValue
import HandS.Sort
import HandS.SortInts
import HandS.Head0
import HandS.Head1
import HandS.Head2
import HandS.HeadEnd
import HandS.HeadHook1
import HandS.HeadHook2
import HandS.Conv
import HandS.Style
import PyProof.DictMoreH
import KE.DataMinMax
import HandS.More
import HandS.Evl
import HandS.DeepEq
import HandS.TupLe
import HandS.Text
import PySem.Challenge.RW_momentloom_k24_wheels_used
set_option Elab.async false
set_option linter.all false
set_option maxRecDepth 100000
set_option maxHeartbeats 4000000
namespace Mo
open PySem PySem.Spec PyProof.Rows L2
/-! ### heaps: a part of a heap, what is tracked and may change -/
def Ext (G H : Hp) : Prop := ∀ a o, G a = some o → H a = some o
theorem Ext.refl (H : Hp) : Ext H H := fun _ _ h => h
theorem Ext.trans {H H1 H2 : Hp} (a : Ext H H1) (b : Ext H1 H2) : Ext H H2 := fun x o h => b x o (a x o h)
theorem Ext.new {H : Hp} {p : Addr} {o : HO} (h : H p = none) : Ext H (upd H p o) := fun a u e => by
  rw [upd_ne (ne_of_none e h)]
  exact e
theorem Ext.put {G H : Hp} {p : Addr} {o : HO} (e : Ext G H) (h : G p = none) : Ext G (upd H p o) := fun a u ha => by
  rw [upd_ne (ne_of_none ha h)]
  exact e a u ha
theorem Ext.made {H : Hp} {x dx C : Addr} {fs : List (Str × V)} (nx : H x = none) (nd : H dx = none) : Ext H (upd (upd H dx (.own x)) x (.ins C dx fs)) := fun a u e => by
  rw [upd_ne (ne_of_none e nx), upd_ne (ne_of_none e nd)]
  exact e
theorem Ext.free {H H' : Hp} (e : Ext H H') {p : Addr} (h : H' p = none) : H p = none := by
  cases q : H p with
  | none => rfl
  | some o =>
    rw [e p o q] at h
    cases h
theorem ext_rd {H H' : Hp} {a : Addr} {u : HO} (e : Ext H H') (h : Rd H a u) : Rd H' a u := by
  rcases h with h | ⟨o, h⟩
  · exact Or.inl (e a _ h)
  · exact Or.inr ⟨o, e a _ h⟩
theorem ext_l {K : PySem.W.Frag} {H H' : Hp} {a : Addr} {xs : List V} (e : Ext H H') (h : SqL K H a xs) : SqL K H' a xs := by
  rcases h with h | h
  · exact Or.inl (ext_rd e h)
  · exact Or.inr h
theorem ext_t {K : PySem.W.Frag} {H H' : Hp} {a : Addr} {xs : List V} (e : Ext H H') (h : SqT K H a xs) : SqT K H' a xs := by
  rcases h with h | h
  · exact Or.inl (ext_rd e h)
  · exact Or.inr h
/-- the volatile objects: addresses, and what is true of what stands there -/
abbrev Vo : Type := List (Addr × (HO → Prop))
structure Hd (G H : Hp) (L : Vo) : Prop where
  ex : Ext G H
  at_ : ∀ p ∈ L, ∃ o, H p.1 = some o ∧ p.2 o
  out : ∀ p ∈ L, G p.1 = none
  nd : (L.map (·.1)).Nodup
section
variable {G H H' : Hp} {L : Vo} {p : Addr} {o o' : HO} {φ ψ : HO → Prop}
theorem Hd.get (h : Hd G H L) (m : (p, φ) ∈ L) : ∃ o, H p = some o ∧ φ o := h.at_ _ m
theorem Hd.eq (h : Hd G H L) (m : (p, Eq o) ∈ L) : H p = some o := by
  obtain ⟨u, h1, h2⟩ := h.at_ _ m
  have h3 : o = u := h2
  rw [h3]
  exact h1
theorem Hd.no (h : Hd G H L) (m : (p, φ) ∈ L) : G p = none := h.out _ m
theorem Hd.nil (e : Ext G H) : Hd G H [] := ⟨e, fun _ z => (nomatch z), fun _ z => (nomatch z), List.nodup_nil⟩
theorem Hd.grow (h : Hd G H L) (e : Ext H H') : Hd G H' L := ⟨h.ex.trans e, fun q m => let ⟨o, a, b⟩ := h.at_ q m; ⟨o, e _ _ a, b⟩, h.out, h.nd⟩
theorem nodup_same : ∀ {L : Vo}, (L.map (·.1)).Nodup → ∀ {p : Addr} {φ ψ : HO → Prop}, (p, φ) ∈ L → (p, ψ) ∈ L → φ = ψ
  | [], _, _, _, _, m, _ => nomatch m
  | (q, χ) :: L, nd, p, φ, ψ, m, n => by
    rw [List.map_cons, List.nodup_cons] at nd
    rcases List.mem_cons.mp m with e | m
    · rcases List.mem_cons.mp n with f | n
      · cases e
        cases f
        rfl
      · cases e
        exact absurd (List.mem_map_of_mem (f := (·.1)) n) nd.1
    · rcases List.mem_cons.mp n with f | n
      · cases f
        exact absurd (List.mem_map_of_mem (f := (·.1)) m) nd.1
      · exact nodup_same nd.2 m n
/-- the object at p is changed, within what is told of it -/
theorem Hd.put (h : Hd G H L) (m : (p, φ) ∈ L) (hφ : φ o') : Hd G (upd H p o') L := by
  refine ⟨h.ex.put (h.no m), fun q n => ?_, h.out, h.nd⟩
  obtain ⟨a, χ⟩ := q
  by_cases e : a = p
  · subst e
    have z := nodup_same h.nd n m
    subst z
    exact ⟨o', upd_same, hφ⟩
  · obtain ⟨u, h1, h2⟩ := h.at_ _ n
    exact ⟨u, by rw [upd_ne e]; exact h1, h2⟩
theorem mem_set_ne : ∀ {L : Vo} {i : Nat} {p : Addr} {φ ψ : HO → Prop}, (L.map (·.1)).Nodup → L[i]? = some (p, φ) → ∀ q ∈ L.set i (p, ψ), q = (p, ψ) ∨ (q ∈ L ∧ q.1 ≠ p)
  | [], _, _, _, _, _, e, _, _ => by simp at e
  | x :: L, 0, p, φ, ψ, nd, e, q, hq => by
    simp only [List.getElem?_cons_zero, Option.some.injEq] at e
    subst e
    rw [List.map_cons, List.nodup_cons] at nd
    rw [List.set_cons_zero] at hq
    rcases List.mem_cons.mp hq with h | h
    · exact Or.inl h
    · refine Or.inr ⟨List.mem_cons_of_mem _ h, fun z => ?_⟩
      have w : q.1 ∈ L.map (·.1) := List.mem_map_of_mem (f := (·.1)) h
      rw [z] at w
      exact nd.1 w
  | x :: L, i + 1, p, φ, ψ, nd, e, q, hq => by
    rw [List.getElem?_cons_succ] at e
    rw [List.map_cons, List.nodup_cons] at nd
    rw [List.set_cons_succ] at hq
    rcases List.mem_cons.mp hq with h | h
    · refine Or.inr ⟨by rw [h]; exact List.mem_cons_self, fun z => ?_⟩
      have w : p ∈ L.map (·.1) := List.mem_map_of_mem (f := (·.1)) (List.mem_of_getElem? e)
      rw [h] at z
      rw [z] at nd
      exact nd.1 w
    · rcases mem_set_ne nd.2 e q h with r | ⟨r, s⟩
      · exact Or.inl r
      · exact Or.inr ⟨List.mem_cons_of_mem _ r, s⟩
theorem map_set_fst : ∀ {L : Vo} {i : Nat} {p : Addr} {φ ψ : HO → Prop}, L[i]? = some (p, φ) → (L.set i (p, ψ)).map (·.1) = L.map (·.1)
  | [], _, _, _, _, e => by simp at e
  | x :: L, 0, p, φ, ψ, e => by
    simp only [List.getElem?_cons_zero, Option.some.injEq] at e
    subst e
    rfl
  | x :: L, i + 1, p, φ, ψ, e => by
    rw [List.getElem?_cons_succ] at e
    rw [List.set_cons_succ, List.map_cons, List.map_cons, map_set_fst e]
theorem Hd.set (h : Hd G H L) (i : Nat) (m : L[i]? = some (p, φ)) (hψ : ψ o') : Hd G (upd H p o') (L.set i (p, ψ)) :=
  ⟨h.ex.put (h.no (List.mem_of_getElem? m)), fun q n => by
    rcases mem_set_ne h.nd m q n with e | ⟨n', e⟩
    · subst e
      exact ⟨o', upd_same, hψ⟩
    · obtain ⟨u, h1, h2⟩ := h.at_ _ n'
      exact ⟨u, by rw [upd_ne e]; exact h1, h2⟩, fun q n => by
    rcases mem_set_ne h.nd m q n with e | ⟨n', e⟩
    · subst e
      exact h.no (List.mem_of_getElem? m)
    · exact h.out _ n', by rw [map_set_fst m]; exact h.nd⟩
/-- what is told of the object at place i is told otherwise -/
theorem Hd.re (h : Hd G H L) (i : Nat) (m : L[i]? = some (p, φ)) (hψ : ∀ o, H p = some o → φ o → ψ o) : Hd G H (L.set i (p, ψ)) :=
  ⟨h.ex, fun q n => by
    rcases mem_set_ne h.nd m q n with e | ⟨n', e⟩
    · subst e
      obtain ⟨u, h1, h2⟩ := h.at_ _ (List.mem_of_getElem? m)
      exact ⟨u, h1, hψ u h1 h2⟩
    · exact h.at_ _ n', fun q n => by
    rcases mem_set_ne h.nd m q n with e | ⟨n', e⟩
    · subst e
      exact h.no (List.mem_of_getElem? m)
    · exact h.out _ n', by rw [map_set_fst m]; exact h.nd⟩
theorem Hd.set0 (h : Hd G H ((p, φ) :: L)) (hψ : ψ o') : Hd G (upd H p o') ((p, ψ) :: L) := h.set 0 rfl hψ
theorem Hd.set1 {x : Addr × (HO → Prop)} (h : Hd G H (x :: (p, φ) :: L)) (hψ : ψ o') : Hd G (upd H p o') (x :: (p, ψ) :: L) := h.set 1 rfl hψ
theorem Hd.set2 {x y : Addr × (HO → Prop)} (h : Hd G H (x :: y :: (p, φ) :: L)) (hψ : ψ o') : Hd G (upd H p o') (x :: y :: (p, ψ) :: L) := h.set 2 rfl hψ
theorem Hd.re0 (h : Hd G H ((p, φ) :: L)) (hψ : ∀ o, H p = some o → φ o → ψ o) : Hd G H ((p, ψ) :: L) := h.re 0 rfl hψ
theorem Hd.re1 {x : Addr × (HO → Prop)} (h : Hd G H (x :: (p, φ) :: L)) (hψ : ∀ o, H p = some o → φ o → ψ o) : Hd G H (x :: (p, ψ) :: L) := h.re 1 rfl hψ
theorem Hd.setA {A : Vo} (h : Hd G H (A ++ (p, φ) :: L)) (hψ : ψ o') : Hd G (upd H p o') (A ++ (p, ψ) :: L) := by
  have e : (A ++ (p, φ) :: L)[A.length]? = some (p, φ) := by rw [List.getElem?_append_right (Nat.le_refl _), Nat.sub_self]; rfl
  have z := h.set A.length e hψ
  rw [List.set_append_right A.length _ (Nat.le_refl _), Nat.sub_self] at z
  exact z
theorem Hd.getA {A : Vo} (h : Hd G H (A ++ (p, φ) :: L)) : ∃ o, H p = some o ∧ φ o := h.get (List.mem_append_right _ List.mem_cons_self)
theorem Hd.fresh (h : Hd G H L) (hp : H p = none) : p ∉ L.map (·.1) := fun m => by
  obtain ⟨q, n, e⟩ := List.mem_map.mp m
  obtain ⟨u, h1, _⟩ := h.at_ q n
  rw [e, hp] at h1
  cases h1
/-- a new object that may change -/
theorem Hd.new (h : Hd G H L) (hp : H p = none) (hφ : φ o) : Hd G (upd H p o) ((p, φ) :: L) :=
  ⟨h.ex.trans (Ext.new hp), fun q n => by
    rcases List.mem_cons.mp n with e | n
    · subst e
      exact ⟨o, upd_same, hφ⟩
    · obtain ⟨u, h1, h2⟩ := h.at_ q n
      exact ⟨u, by rw [upd_ne (ne_of_none h1 hp)]; exact h1, h2⟩, fun q n => by
    rcases List.mem_cons.mp n with e | n
    · subst e
      exact h.ex.free hp
    · exact h.out q n, by rw [List.map_cons, List.nodup_cons]; exact ⟨h.fresh hp, h.nd⟩⟩
/-- a new object that stays -/
theorem Hd.fix (h : Hd G H L) (hp : H p = none) : Hd (upd G p o) (upd H p o) L :=
  ⟨fun a u e => by
    by_cases z : a = p
    · subst z
      rw [upd_same] at e ⊢
      exact e
    · rw [upd_ne z] at e ⊢
      exact h.ex a u e, fun q n => by
    obtain ⟨u, h1, h2⟩ := h.at_ q n
    exact ⟨u, by rw [upd_ne (ne_of_none h1 hp)]; exact h1, h2⟩, fun q n => by
    obtain ⟨u, h1, _⟩ := h.at_ q n
    rw [upd_ne (ne_of_none h1 hp)]
    exact h.out q n, h.nd⟩
/-- the first volatile object is to stay as it is -/
theorem Hd.freeze (h : Hd G H ((p, φ) :: L)) (e : H p = some o) : Hd (upd G p o) H L :=
  ⟨fun a u q => by
    by_cases z : a = p
    · subst z
      rw [upd_same] at q
      rw [e]
      exact q
    · rw [upd_ne z] at q
      exact h.ex a u q, fun q n => h.at_ q (List.mem_cons_of_mem _ n), fun q n => by
    have nd := h.nd
    rw [List.map_cons, List.nodup_cons] at nd
    have z : q.1 ≠ p := fun z => by
      have w : q.1 ∈ L.map (·.1) := List.mem_map_of_mem (f := (·.1)) n
      rw [z] at w
      exact nd.1 w
    rw [upd_ne z]
    exact h.out q (List.mem_cons_of_mem _ n), by
    have nd := h.nd
    rw [List.map_cons, List.nodup_cons] at nd
    exact nd.2⟩
theorem Hd.made {x dx C : Addr} {fs : List (Str × V)} (h : Hd G H L) (nx : H x = none) (nd : H dx = none) (ne : dx ≠ x) (hφ : φ (.ins C dx fs)) : Hd G (upd (upd H dx (.own x)) x (.ins C dx fs)) ((x, φ) :: L) :=
  (h.grow (Ext.new nd)).new (by rw [upd_ne (fun z => ne z.symm)]; exact nx) hφ
theorem Hd.drop {x : Addr × (HO → Prop)} (h : Hd G H (x :: L)) : Hd G H L :=
  ⟨h.ex, fun q n => h.at_ q (List.mem_cons_of_mem _ n), fun q n => h.out q (List.mem_cons_of_mem _ n), by
    have nd := h.nd
    rw [List.map_cons, List.nodup_cons] at nd
    exact nd.2⟩
theorem Hd.perm {M : Vo} (h : Hd G H L) (q : M.Perm L) : Hd G H M :=
  ⟨h.ex, fun x n => h.at_ x (q.mem_iff.mp n), fun x n => h.out x (q.mem_iff.mp n), (List.Perm.nodup_iff (q.map (·.1))).mpr h.nd⟩
theorem Hd.swap {x y : Addr × (HO → Prop)} (h : Hd G H (x :: y :: L)) : Hd G H (y :: x :: L) := h.perm (List.Perm.swap x y L)
theorem Hd.ext {G0 : Hp} (h : Hd G H L) (e : Ext G0 G) : Hd G0 H L := ⟨e.trans h.ex, h.at_, fun q n => e.free (h.out q n), h.nd⟩
theorem Hd.newG (_ : Hd G H L) (hG : G p = none) : Ext G (upd G p o) := Ext.new hG
theorem Hd.gno (h : Hd G H L) (hp : H p = none) : G p = none := h.ex.free hp
theorem Hd.ne (h : Hd G H L) {q : Addr} {i j : Nat} (m : L[i]? = some (p, φ)) (n : L[j]? = some (q, ψ)) (hij : i ≠ j) : p ≠ q := fun e => by
  have h1 : (L.map (·.1))[i]? = some p := by rw [List.getElem?_map, m]; rfl
  have h2 : (L.map (·.1))[j]? = some q := by rw [List.getElem?_map, n]; rfl
  rw [← e] at h2
  have l1 : i < (L.map (·.1)).length := (List.getElem?_eq_some_iff.mp h1).1
  have l2 : j < (L.map (·.1)).length := (List.getElem?_eq_some_iff.mp h2).1
  exact hij ((List.getElem?_inj l1 h.nd).mp (h1.trans h2.symm))
end
/-! ### data that stands in a heap -/
section
variable {K : PySem.W.Frag} {G H : Hp}
mutual
theorem dp_mono (e : Ext G H) : ∀ {v : V} {d : PyData}, Dp K G v d → Dp K H v d
  | _, _, .non => .non
  | _, _, .bl b => .bl b
  | _, _, .int i => .int i
  | _, _, .str x => .str x
  | _, _, .lst h r => .lst (ext_l e h) (dpa_mono e r)
  | _, _, .tup h r => .tup (ext_t e h) (dpa_mono e r)
theorem dpa_mono (e : Ext G H) : ∀ {vs : List V} {ds : List PyData}, DpAll K G vs ds → DpAll K H vs ds
  | _, _, .nil => .nil
  | _, _, .cons h r => .cons (dp_mono e h) (dpa_mono e r)
end
theorem dp_int {v : V} {i : Int} (h : Dp K H v (.int i)) : v = .int i := by cases h; rfl
theorem dp_str {v : V} {x : Str} (h : Dp K H v (.str x)) : v = .str x := by cases h; rfl
theorem dp_bl {v : V} {b : Bool} (h : Dp K H v (.bool b)) : v = .bl b := by cases h; rfl
theorem dp_non {v : V} (h : Dp K H v .none) : v = .non := by cases h; rfl
theorem dp_tup {v : V} {ds : List PyData} (h : Dp K H v (.tuple ds)) : ∃ a xs, v = .ref a ∧ SqT K H a xs ∧ DpAll K H xs ds := by
  cases h with
  | tup a b => exact ⟨_, _, rfl, a, b⟩
theorem dp_lst {v : V} {ds : List PyData} (h : Dp K H v (.list ds)) : ∃ a xs, v = .ref a ∧ SqL K H a xs ∧ DpAll K H xs ds := by
  cases h with
  | lst a b => exact ⟨_, _, rfl, a, b⟩
theorem dpa_len : ∀ {vs : List V} {ds : List PyData}, DpAll K H vs ds → vs.length = ds.length
  | _, _, .nil => rfl
  | _, _, .cons _ r => by rw [List.length_cons, List.length_cons, dpa_len r]
theorem dpa_get : ∀ {vs : List V} {ds : List PyData} {i : Nat} {d : PyData}, DpAll K H vs ds → ds[i]? = some d → ∃ v, vs[i]? = some v ∧ Dp K H v d
  | _, _, _, _, .nil, e => by simp at e
  | _, _, 0, _, .cons h _, e => by
    simp only [List.getElem?_cons_zero, Option.some.injEq] at e
    subst e
    exact ⟨_, rfl, h⟩
  | _, _, i + 1, _, .cons _ r, e => by
    rw [List.getElem?_cons_succ] at e
    obtain ⟨v, h1, h2⟩ := dpa_get r e
    exact ⟨v, by rw [List.getElem?_cons_succ]; exact h1, h2⟩
theorem dpa_get' : ∀ {vs : List V} {ds : List PyData} {i : Nat} {v : V}, DpAll K H vs ds → vs[i]? = some v → ∃ d, ds[i]? = some d ∧ Dp K H v d
  | _, _, _, _, .nil, e => by simp at e
  | _, _, 0, _, .cons h _, e => by
    simp only [List.getElem?_cons_zero, Option.some.injEq] at e
    subst e
    exact ⟨_, rfl, h⟩
  | _, _, i + 1, _, .cons _ r, e => by
    rw [List.getElem?_cons_succ] at e
    obtain ⟨v, h1, h2⟩ := dpa_get' r e
    exact ⟨v, by rw [List.getElem?_cons_succ]; exact h1, h2⟩
theorem dpa_app : ∀ {vs ws : List V} {ds es : List PyData}, DpAll K H vs ds → DpAll K H ws es → DpAll K H (vs ++ ws) (ds ++ es)
  | _, _, _, _, .nil, s => s
  | _, _, _, _, .cons h r, s => .cons h (dpa_app r s)
theorem dpa_one {v : V} {d : PyData} (h : Dp K H v d) : DpAll K H [v] [d] := .cons h .nil
theorem dpa_ints : ∀ ns : List Int, DpAll K H (ns.map V.int) (ns.map PyData.int)
  | [] => .nil
  | n :: ns => .cons (.int n) (dpa_ints ns)
end
theorem nodup_take {α : Type} {l : List α} {i : Nat} {x : α} (h : l.Nodup) (hi : l[i]? = some x) : x ∉ l.take i := fun m => by
  obtain ⟨j, hj, e⟩ := List.mem_iff_getElem.mp m
  rw [List.length_take] at hj
  rw [List.getElem_take] at e
  have h1 : l[j]? = some x := by rw [List.getElem?_eq_getElem (by omega), e]
  have h2 : j < l.length := by omega
  have := (List.getElem?_inj h2 h).mp (h1.trans hi.symm)
  omega
end Mo
namespace Mo
open PySem PySem.Spec PyProof.Rows L2
abbrev St := L2.St
/-! ### rules: any subscript, any store, any in, any ==, len of anything, calls that may raise -/
section
variable {X : Cx}
def CMulX (i j : Int) : Prop := i.natAbs.log2 + j.natAbs.log2 < 134000000
theorem CMulX.ok {i j : Int} (h : CMulX i j) : IntMulOk i j := by
  have b : ∀ x : Int, Builtin.Int.intBits x ≤ x.natAbs.log2 + 1 := fun x => by
    unfold Builtin.Int.intBits
    split <;> omega
  have h1 := b i
  have h2 := b j
  have h3 : i.natAbs.log2 + j.natAbs.log2 < 134000000 := h
  have e : bitsLine = 134217728 := by decide
  unfold IntMulOk
  intro z
  rw [Bool.and_eq_true] at z
  have z2 := z.2
  unfold Builtin.Int.intTooBig at z2
  have z3 := of_decide_eq_true z2
  rw [e] at z3
  omega
theorem log2_bd {x : Int} {a : Nat} (h : x.natAbs < 2 ^ a) (h0 : 0 < a) : x.natAbs.log2 < a := PySem.Flt.log2_lt_of h0 h
theorem mulX_of {i j : Int} (a b : Nat) (hi : i.natAbs < 2 ^ a) (hj : j.natAbs < 2 ^ b) (h0 : 0 < a) (h1 : 0 < b) (h : a + b ≤ 134000000) : CMulX i j := by
  have x := log2_bd hi h0
  have y := log2_bd hj h1
  unfold CMulX
  omega
theorem op_mulX : OpR X (binaryOp .Mult) (rI CMulX fun i j => .int (i * j)) := opI fun _ _ _ _ _ _ _ hc q => mul_int q hc.ok
def CDivX (_ j : Int) : Prop := j ≠ 0 ∧ j.natAbs.log2 < 9000
theorem op_fdivX : OpR X (binaryOp .FloorDiv) (rI CDivX fun i j => .int (i.fdiv j)) := opI fun _ _ _ _ _ _ _ hc q => floordiv_int hc.1 q (.inl (PyProof.noPylong_of_log2 hc.2))
def CMod (_ j : Int) : Prop := j ≠ 0
theorem op_modX : OpR X (binaryOp .Mod) (rI CMod fun i j => .int (i.fmod j)) := opI fun _ _ _ _ _ _ _ hc q => mod_int' hc q
/-- d[y] by values -/
def rDGet : R2 := fun x y H Q => ∃ a v, x = .ref a ∧ DGet H a y (some v) ∧ Q v H
theorem ix_dict (hu : X.A.units + 1 < cLine) : IxR X rDGet := by
  intro value slice pins s σ H x y v u Q I rx ry h hs
  obtain ⟨a, z, rfl, g, q⟩ := h
  obtain rfl : v = Value.ref a := rx
  have hT := dict_typeIs I g
  unfold subscriptTail
  refine wpAny_bind ?_
  rw [getitemInPython_of_ne hT.not_modules]
  refine wpAny_bind (wpAny_specialOf hT PySem.F.slot_dict_getitem.lookup ?_)
  have fin : wpAny (model X.prog X.w) X.A (subscripted slice false (Value.ref a) u) (fun r s₃ => wpAny (model X.prog X.w) X.A (letTemporaryGo value (Value.ref a) r >>= fun _ => pure r) (EP X pins σ Q) X.xe s₃) X.xe s := by
    rw [hs]
    refine wpAny_operating (d_getItem hu I g ry fun w' s3 I3 rw' => wpAny_bind (wpAny_letTemporaryGo (wpAny_pure ⟨z, H, I3, rw', q⟩)))
  first
    | exact wpAny_pure (wpAny_bind fin)
    | exact wpAny_bind (wpAny_pure (wpAny_bind fin))
    | exact wpAny_bind fin
def rSub (K : PySem.W.Frag) : R2 := fun x y H Q => (rIxL K x y H Q ∨ rIxT K x y H Q) ∨ (rIxS x y H Q ∨ rDGet x y H Q)
theorem ix_any (hu : X.A.units + 1 < cLine) : IxR X (rSub X.K) := (ix_list.or ix_tup).or (ix_str.or (ix_dict hu))
def rSli (K : PySem.W.Frag) : V → Option Int → Option Int → Hp → VK → Prop := fun x lo hi H Q => rSlL K x lo hi H Q ∨ (rSlT K x lo hi H Q ∨ rSlS x lo hi H Q)
theorem sl_any : SlR X (rSli X.K) := sl_list.or (SlR.or (r' := rSlS) sl_tup sl_str)
def rSet : TSet := fun o i v H Q => rSetL o i v H Q ∨ ∃ a H', o = .ref a ∧ DPut H a i v H' ∧ Q H'
theorem set_any (hu : X.A.units + 1 < cLine) : PSet X rSet := by
  intro pins s σ H o i v ov iv u Q I ro ri rv h
  rcases h with h | ⟨a, H', rfl, g, q⟩
  · exact set_list pins s σ H o i v ov iv u Q I ro ri rv h
  · obtain rfl : ov = Value.ref a := ro
    exact d_setItem hu I g ri rv fun s' I' => ⟨H', I', q⟩
/-- y in d, by values -/
def rDIn : R2 := fun y x H Q => ∃ a o, x = .ref a ∧ DGet H a y o ∧ Q (.bl o.isSome) H
def rDNotIn : R2 := fun y x H Q => ∃ a o, x = .ref a ∧ DGet H a y o ∧ Q (.bl (!o.isSome)) H
theorem op_inDict (hu : X.A.units + 1 < cLine) : OpR X (compareOp .In) rDIn := by
  intro pins s σ H x y v u Q I rx ry h
  obtain ⟨a, o, rfl, g, q⟩ := h
  obtain rfl : u = Value.ref a := ry
  exact d_in hu I g rx fun s3 I3 => ⟨.bl o.isSome, H, I3, rfl, q⟩
theorem op_notInDict (hu : X.A.units + 1 < cLine) : OpR X (compareOp .NotIn) rDNotIn := by
  intro pins s σ H x y v u Q I rx ry h
  obtain ⟨a, o, rfl, g, q⟩ := h
  obtain rfl : u = Value.ref a := ry
  exact d_notIn hu I g rx fun s3 I3 => ⟨.bl (!o.isSome), H, I3, rfl, q⟩
def rInA (K : PySem.W.Frag) : R2 := fun x y H Q => rDIn x y H Q ∨ (rIn K false x y H Q ∨ rInD K x y H Q)
def rNotInA (K : PySem.W.Frag) : R2 := fun x y H Q => rDNotIn x y H Q ∨ (rIn K true x y H Q ∨ rNotInD K x y H Q)
theorem op_inA (hu : X.A.units + 65 < cLine) : OpR X (compareOp .In) (rInA X.K) := (op_inDict (by omega)).or (op_in_seq.or (op_inD hu))
theorem op_notInA (hu : X.A.units + 65 < cLine) : OpR X (compareOp .NotIn) (rNotInA X.K) := (op_notInDict (by omega)).or (op_notIn_seq.or (op_notInD hu))
def rEqA (K : PySem.W.Frag) : R2 := fun x y H Q => rEq x y H Q ∨ (rEqD K x y H Q ∨ rEqV K x y H Q)
/-- a != b, two dicts that are equal -/
def rNeV (K : PySem.W.Frag) : R2 := fun x y H Q => ∃ n a b ks ls, n ≤ 60 ∧ x = .ref a ∧ y = .ref b ∧ H a = some (.dK ks) ∧ H b = some (.dK ls) ∧ ks.length = ls.length ∧ (∀ p ∈ ks, ∃ u, valV ls p.1 = some u ∧ EqV K H n p.2 u) ∧ Q (.bl false) H
theorem ne_dicts {prog : Program} {w : World} {K : Type} [DecidableEq K] {knd : KeyKind prog w K} {A : Around} {E : Value → Shared → Prop} {s : Shared} {a b : Addr} {ka kb : List (K × Value)} {r : Bool} {Q : Value → Shared → Prop} (ha : (a == sysModules) = false) (hb : (b == sysModules) = false)
    (da : s.heap.DictOf knd a ka) (db : s.heap.DictOf knd b kb) (hu : A.units < cLine) (hits : ka.length = kb.length → PySem.W.KeqHitsP prog w A.in1 s kb ka r) (h : Q (.bool (!(ka.length == kb.length && r))) s) :
    wpAny (model prog w) A (compareOp .NotEq (.ref a) (.ref b)) Q E s := by
  refine wpAny_richCompare_same_room (op := .NotEq) da.typeIs db.typeIs PySem.F.slot_dict_ne (wpAny_call_entry PySem.F.slot_dict_ne da.typeIs PySem.F.entry_dict_ne ?_ (PySem.F.args_dict_ne_2 _ _)) hu
  show wpAny _ _ (Builtin.Dict.dictSlotArgs "__ne__" ⟨[.ref a, .ref b], []⟩ >>= _) _ _ s
  refine wpAny_bind ?_
  unfold Builtin.Dict.dictSlotArgs
  refine wpAny_bind (wpAny_notOrdered_dict da.typeIs ?_)
  show wpAny _ _ (pure (Value.ref a, Value.ref b)) _ _ s
  refine wpAny_pure ?_
  refine wpAny_bind (wpAny_isInstance (T := "dict") db.typeIs PySem.F.sub_dict_dict ?_)
  simp only [Bool.not_true, Bool.false_eq_true, if_false]
  refine wpAny_bind (wpAny_pure (wpAny_bind (wpAny_pure ?_)))
  refine wpAny_bind (PySem.W.samePairsP ha hb da db hits ?_)
  refine wpAny_pure ⟨_, rfl, ?_, ?_⟩
  · exact fun x => nomatch x
  · simpa using h
theorem op_neV (hu : X.A.units + 64 < cLine) : OpR X (compareOp .NotEq) (rNeV X.K) := by
  intro pins s σ H x y v u Q I rx ry h
  obtain ⟨n, a, b, ks, ls, hn, rfl, rfl, ha, hb, hl, hp, q⟩ := h
  obtain rfl : v = Value.ref a := rx
  obtain rfl : u = Value.ref b := ry
  obtain ⟨_, ya, va, ra, da⟩ := (show ObjOk X.prog X.w H s.heap a (.dK ks) from I.hok a _ ha)
  obtain ⟨_, yb, vb, rb, db⟩ := (show ObjOk X.prog X.w H s.heap b (.dK ls) from I.hok b _ hb)
  refine ne_dicts (knd := mixKind X.prog X.w) (r := true) ya yb da db (by omega) (fun _ => hits_run (fun x y v u h r1 r2 => eqV_run I n X.A.in1 (by show X.A.units + 1 + n < cLine; omega) x y v u h r1 r2) rb ra hp) ?_
  have e : va.length = vb.length := by rw [← ra.length, ← rb.length]; exact hl
  exact fin_bl I q (by simp [e])
def rNeA (K : PySem.W.Frag) : R2 := fun x y H Q => rNe x y H Q ∨ (rNeD K x y H Q ∨ rNeV K x y H Q)
theorem op_eqA (hu : X.A.units + 64 < cLine) : OpR X (compareOp .Eq) (rEqA X.K) := op_eq.or ((op_eqD hu).or (op_eqV hu))
theorem op_neA (hu : X.A.units + 64 < cLine) : OpR X (compareOp .NotEq) (rNeA X.K) := op_ne.or ((op_neD hu).or (op_neV hu))
def rLenA (K : PySem.W.Frag) : List V → Hp → VK → Prop := fun xs H Q =>
  ((∃ p ys, xs = [.ref p] ∧ (SqL K H p ys ∨ SqT K H p ys) ∧ Q (.int ys.length) H) ∨ (∃ z, xs = [.str z] ∧ z.length ≤ sizeLine ∧ Q (.int z.length) H)) ∨ ((∃ a kvs, xs = [V.ref a] ∧ H a = some (.dK kvs) ∧ Q (.int kvs.length) H) ∨ rLenT xs H Q)
theorem call_lenA : CallR X (.builtin "len") (rLenA X.K) := (call_len_seq.or call_len_str).or (call_lenD.or call_len_dT)
/-- {}: of the one kind or the other -/
def tDNew : TE := fun σ H Q => tDNewK σ H Q ∨ tDNewT σ H Q
theorem pe_dnew {pos : Pos} : PE X (.Dict [] [] pos) tDNew := ⟨fun pins s σ H Q I h => by
  rcases h with h | h
  · exact pe_dnewK.run pins s σ H Q I h
  · exact pe_dnewT.run pins s σ H Q I h⟩
end
/-! ### calls, what is raised wished for at the caller's slots -/
section
variable {X : Cx} {CX : CXT} {k : Nat} {f C : Addr} {fd : FuncData} {ps : List Str} {sp : Sp} {E : St → XK} {x m : Str} {p pos apos : Pos} {e o : Expr} {es : List Expr} {ta : TE} {t : TA}
theorem pe_call0S (F : FnOk X.prog X.w X.K X.mg X.base CX k f fd ps sp) (hr : Room k X.A) (hg : Gl X x) (hm : X.mg x = some (.ref f)) (hk : PySem.W.keepIn X.K (.ref f) = true) (hb : Binds X.K fd ps []) (hx : ∀ σ, PassesAt CX X σ (E σ))
    (hdb : (x == ("__debug__" : Str)) = false := by decide) : PE X (.Call (.Name x p) [] [] pos) (tCallS sp E tNil) := by
  refine ⟨fun pins s σ H Q I h => ?_⟩
  refine wpAny_Call_Name_kw (ld_glob I hg hm ?_ hdb)
  exact PySem.W.callWith_K0 I.kIn hk (run_fnS (us := []) F hr hb (hx σ) I .nil h)
def tMethS (C : Addr) (m : Str) (sp : Sp) (E : St → XK) (ta : TE) (t : TA) : TE := fun σ H Q => ta σ H fun x H1 => ∃ a dx fs, x = .ref a ∧ H1 a = some (.ins C dx fs) ∧ fs.lookup m = none ∧
  t σ H1 fun vs H2 => sp (x :: vs) H2 Q (E σ)
theorem pe_methS {pl : Sem Bool} (he : PE X o ta) (c : Cls X.K C) (hm : Meth X.K C m f) (F : FnOk X.prog X.w X.K X.mg X.base CX k f fd ps sp) (hr : Room k X.A) (hb : Binds X.K fd ps []) (hx : ∀ σ, PassesAt CX X σ (E σ)) (ha : PA X (e :: es) t)
    (hst : starEach (e :: es) X.env = (false, eval e X.env) :: starEach es X.env := by rfl) (hpl : (backTo pos (starEach es X.env)).any (·.1) = false := by rfl)
    (ht : eval (.Call (.Attribute o m apos) (e :: es) [] pos) X.env = (do
      let ov ← eval o X.env
      standAt apos.atName
      let (f, first) ← holding [ov] (getMethod ov m pl)
      callWith pos f first (backTo pos (starEach (e :: es) X.env)) (backToKw pos (keywordEach [] X.env))) := by rfl) :
    PE X (.Call (.Attribute o m apos) (e :: es) [] pos) (tMethS C m sp E ta t) := by
  refine ⟨fun pins s σ H Q I h => ?_⟩
  refine PySem.W.methodCall_KW (pl := pl) (thn (he.run pins s σ H _ I h) fun u s1 ⟨x, H1, I1, rx, a, dx, fs, ex, ea, l, q⟩ => ?_) ht
  subst ex
  obtain rfl : u = Value.ref a := rx
  refine getmeth_ok I1 ea c hm l ?_
  refine PySem.W.callWith_K (first := [.ref a]) (h₀ := X.base) I.ok.mod.kin hm.kp (thn (ha.run pos pins s1 σ H1 _ I1 q) fun us s2 ⟨vs, H2, I2, r, q2⟩ => ⟨I2.kIn, ?_⟩) hst hpl
  exact run_fnS (us := .ref a :: us) (vs := .ref a :: vs) F hr hb (hx σ) I2 (.cons rfl r) q2
theorem pe_meth0S {pl : Sem Bool} (he : PE X o ta) (c : Cls X.K C) (hm : Meth X.K C m f) (F : FnOk X.prog X.w X.K X.mg X.base CX k f fd ps sp) (hr : Room k X.A) (hb : Binds X.K fd ps []) (hx : ∀ σ, PassesAt CX X σ (E σ))
    (ht : eval (.Call (.Attribute o m apos) [] [] pos) X.env = (do
      let ov ← eval o X.env
      standAt apos.atName
      let (f, first) ← holding [ov] (getMethod ov m pl)
      callWith pos f first (backTo pos (starEach [] X.env)) (backToKw pos (keywordEach [] X.env))) := by rfl) :
    PE X (.Call (.Attribute o m apos) [] [] pos) (tMethS C m sp E ta tNil) := by
  refine ⟨fun pins s σ H Q I h => ?_⟩
  refine PySem.W.methodCall_KW (pl := pl) (thn (he.run pins s σ H _ I h) fun u s1 ⟨x, H1, I1, rx, a, dx, fs, ex, ea, l, q⟩ => ?_) ht
  subst ex
  obtain rfl : u = Value.ref a := rx
  refine getmeth_ok I1 ea c hm l ?_
  exact PySem.W.callWith_K0 (first := [.ref a]) I1.kIn hm.kp (run_fnS (us := [.ref a]) (vs := [.ref a]) F hr hb (hx σ) I1 (.cons rfl .nil) q)
def tMakeS (C : Addr) (sp : Sp) (E : St → XK) (t : TA) : TE := fun σ H Q => t σ H fun vs H1 => ∀ x dx, H1 x = none → H1 dx = none → dx ≠ x →
  sp (.ref x :: vs) (upd (upd H1 dx (.own x)) x (.ins C dx [])) (fun v H2 => v = .non ∧ Q (.ref x) H2) (E σ)
theorem passes_of_at {σ0 : St} (hx : ∀ σ, PassesAt CX X σ (E σ)) (pins : List (Addr × Obj)) (H : Hp) (s : Shared) (e : Value) (s' : Shared) (I : Inv X pins σ0 H s) (h : CX X.stack H s (E σ0) e s') : X.xe e s' := hx σ0 pins H s e s' I h
theorem run_makeS {pins : List (Addr × Obj)} {σ : St} {H : Hp} {s : Shared} {Q : VK} {us : List Value} {vs : List V} (M : Mk X.K C f) (F : FnOk X.prog X.w X.K X.mg X.base CX k f fd ps sp) (hr : Room (k + 1) X.A) (hb : Binds X.K fd ps [])
    (hx : PassesAt CX X σ (E σ)) (I : Inv X pins σ H s) (r : Vals vs us)
    (h : ∀ x dx, H x = none → H dx = none → dx ≠ x → sp (.ref x :: vs) (upd (upd H dx (.own x)) x (.ins C dx [])) (fun v H2 => v = .non ∧ Q (.ref x) H2) (E σ)) :
    wpAny (model X.prog X.w) X.A (call (.ref C) us) (EP X pins σ Q) X.xe s := by
  have hq := h (s.heap.objs.size + 1) s.heap.objs.size (I.hok.fresh (Nat.le_succ _)) (I.hok.fresh (Nat.le_refl _)) (Nat.ne_of_lt (Nat.lt_succ_self _))
  have I2 := Inv.made (C := C) I
  have r2 : Vals (V.ref (s.heap.objs.size + 1) :: vs) (Value.ref (s.heap.objs.size + 1) :: us) := .cons rfl r
  have hl : (Value.ref (s.heap.objs.size + 1) :: us).length = ps.length := by
    have e := r2.length
    rw [F.len _ _ _ _ hq] at e
    exact e.symm
  have b := hb _ (Value.ref (s.heap.objs.size + 1) :: us) I2.kIn (by rw [List.append_nil]; exact hl)
  rw [List.append_nil] at b
  refine wpAny_call (make_map (f := f) I.kIn M.makes M.init (beq_iff_eq.mp M.fn) (codeAny_mono (F.run _ X.stack _ _ ⟨Value.ref (s.heap.objs.size + 1) :: us, []⟩ (Value.ref (s.heap.objs.size + 1) :: us) _ _ (E σ) (hr.make C us [])
    (I2.env0.make C us []) b r2 hq) fun r s' hq' => ?_))
  cases r with
  | error e => exact hx pins _ _ e s' I2 hq'
  | ok fl =>
    cases fl with
    | ret u =>
      obtain ⟨v, H', I3, rv, ev, q3⟩ := I2.after hq'
      subst ev
      exact ⟨rv, ⟨V.ref (s.heap.objs.size + 1), H', I3, rfl, q3⟩⟩
    | next => exact False.elim hq'
    | brk => exact False.elim hq'
    | cont => exact False.elim hq'
theorem pe_makeS (M : Mk X.K C f) (F : FnOk X.prog X.w X.K X.mg X.base CX k f fd ps sp) (hr : Room (k + 1) X.A) (hg : Gl X x) (hm : X.mg x = some (.ref C)) (hb : Binds X.K fd ps []) (hx : ∀ σ, PassesAt CX X σ (E σ))
    (ha : PA X (e :: es) t) (hdb : (x == ("__debug__" : Str)) = false := by decide) (he : starEach (e :: es) X.env = (false, eval e X.env) :: starEach es X.env := by rfl) (hpl : (backTo pos (starEach es X.env)).any (·.1) = false := by rfl) :
    PE X (.Call (.Name x p) (e :: es) [] pos) (tMakeS C sp E t) := by
  refine ⟨fun pins s σ H Q I h => ?_⟩
  refine wpAny_Call_Name_kw (ld_glob I hg hm ?_ hdb)
  refine PySem.W.callWith_K (h₀ := X.base) I.ok.mod.kin M.kp (thn (ha.run pos pins s σ H _ I h) fun us s1 ⟨vs, H1, I1, r, q⟩ => ⟨I1.kIn, ?_⟩) he hpl
  exact run_makeS M F hr hb (hx σ) I1 r q
theorem pe_make0S (M : Mk X.K C f) (F : FnOk X.prog X.w X.K X.mg X.base CX k f fd ps sp) (hr : Room (k + 1) X.A) (hg : Gl X x) (hm : X.mg x = some (.ref C)) (hb : Binds X.K fd ps []) (hx : ∀ σ, PassesAt CX X σ (E σ))
    (hdb : (x == ("__debug__" : Str)) = false := by decide) : PE X (.Call (.Name x p) [] [] pos) (tMakeS C sp E tNil) := by
  refine ⟨fun pins s σ H Q I h => ?_⟩
  refine wpAny_Call_Name_kw (ld_glob I hg hm ?_ hdb)
  exact PySem.W.callWith_K0 I.kIn M.kp (run_makeS (us := []) M F hr hb (hx σ) I .nil h)
end
/-! ### what the top has written -/
def fdA (K : PySem.W.Frag) (a : Addr) : FuncData := match K.lookup a with
  | some ⟨_, _, .func fd, _⟩ => fd
  | _ => default
theorem fun_of {K : PySem.W.Frag} {x qual : PySem.Str} {st : Stmt} {f : Addr} {kws : List (PySem.Str × L2.V)} (h : ∃ fd, L2.FunD K x qual (L2.defArgs st) (L2.defBody st) (L2.defScope st) [] kws f fd) : L2.Fun K x qual st f (fdA K f) := by
  obtain ⟨fd, F⟩ := h
  obtain ⟨oc, od, dV, kV, doc, pm, an, cdv, ct, osl, e, l, c, hd, _⟩ := F.ex
  have e2 : fdA K f = fd := by
    unfold fdA
    rw [l]
  rw [e2]
  rcases hd with ⟨_, e2⟩ | ⟨e2, _⟩
  · subst e2
    exact ⟨⟨oc, od, kV, doc, pm, an, cdv, ct, osl, e, l, c⟩, F.kp⟩
  · exact absurd rfl e2
/-- a global def as its callers need it -/
structure GF (K : PySem.W.Frag) (mg : Str → Option Value) (x : Str) (ps : List Str) : Prop where
  gl : mg x = some (.ref (He.fAd K (x, none)))
  kp : PySem.W.keepIn K (.ref (He.fAd K (x, none))) = true
  bd : Binds K (fdA K (He.fAd K (x, none))) ps []
/-- a method -/
structure MF (K : PySem.W.Frag) (C m : Str) (ps : List Str) : Prop where
  me : Meth K (He.ga K C) m (He.fAd K (C, some m))
  bd : Binds K (fdA K (He.fAd K (C, some m))) ps []
/-- a class that is made -/
structure KF (K : PySem.W.Frag) (mg : Str → Option Value) (C : Str) (ps : List Str) : Prop where
  gl : mg C = some (.ref (He.ga K C))
  mker : Mk K (He.ga K C) (He.fAd K (C, some "__init__"))
  bd : Binds K (fdA K (He.fAd K (C, some "__init__"))) ps []
section
variable {P : Program} {w : World} {K : PySem.W.Frag} {mg : Str → Option Value} {base : Heap}
/-- a global def of level k keeps a promise -/
abbrev OkG (P : Program) (w : World) (K : PySem.W.Frag) (mg : Str → Option Value) (base : Heap) (k : Nat) (x : Str) (ps : List Str) (sp : Sp) : Prop := FnOk P w K mg base (L2.CX P w) k (He.fAd K (x, none)) (fdA K (He.fAd K (x, none))) ps sp
abbrev OkM (P : Program) (w : World) (K : PySem.W.Frag) (mg : Str → Option Value) (base : Heap) (k : Nat) (C m : Str) (ps : List Str) (sp : Sp) : Prop := FnOk P w K mg base (L2.CX P w) k (He.fAd K (C, some m)) (fdA K (He.fAd K (C, some m))) ps sp
end
section
variable {X : Cx} {k j : Nat} {C m x : Str} {ps : List Str} {sp : Sp} {W : WX} {p pos apos : Pos} {e o : Expr} {es : List Expr} {ta : TE} {t : TA}
/-- f(e, ..) -/
theorem pcl (G : GF X.K X.mg x ps) (F : OkG X.prog X.w X.K X.mg X.base k x ps sp) (hr : Room j X.A) (tk : Takes X W) (ha : PA X (e :: es) t) (hj : k ≤ j := by omega) (hg : Gl X x := by rfl)
    (hdb : (x == ("__debug__" : Str)) = false := by decide) (he : starEach (e :: es) X.env = (false, eval e X.env) :: starEach es X.env := by rfl) (hpl : (backTo pos (starEach es X.env)).any (·.1) = false := by rfl) :
    PE X (.Call (.Name x p) (e :: es) [] pos) (tCallS sp (WE W) t) := pe_callS F (hr.mono hj) hg G.gl G.kp G.bd (passAt tk) ha hdb he hpl
theorem pcl0 (G : GF X.K X.mg x ps) (F : OkG X.prog X.w X.K X.mg X.base k x ps sp) (hr : Room j X.A) (tk : Takes X W) (hj : k ≤ j := by omega) (hg : Gl X x := by rfl)
    (hdb : (x == ("__debug__" : Str)) = false := by decide) : PE X (.Call (.Name x p) [] [] pos) (tCallS sp (WE W) tNil) := pe_call0S F (hr.mono hj) hg G.gl G.kp G.bd (passAt tk) hdb
theorem pme {pl : Sem Bool} (G : MF X.K C m ps) (c : Cls X.K (He.ga X.K C)) (F : OkM X.prog X.w X.K X.mg X.base k C m ps sp) (hr : Room j X.A) (tk : Takes X W) (he : PE X o ta) (ha : PA X (e :: es) t) (hj : k ≤ j := by omega)
    (hst : starEach (e :: es) X.env = (false, eval e X.env) :: starEach es X.env := by rfl) (hpl : (backTo pos (starEach es X.env)).any (·.1) = false := by rfl)
    (ht : eval (.Call (.Attribute o m apos) (e :: es) [] pos) X.env = (do
      let ov ← eval o X.env
      standAt apos.atName
      let (f, first) ← holding [ov] (getMethod ov m pl)
      callWith pos f first (backTo pos (starEach (e :: es) X.env)) (backToKw pos (keywordEach [] X.env))) := by rfl) :
    PE X (.Call (.Attribute o m apos) (e :: es) [] pos) (tMethS (He.ga X.K C) m sp (WE W) ta t) := pe_methS (pl := pl) he c G.me F (hr.mono hj) G.bd (passAt tk) ha hst hpl ht
theorem pme0 {pl : Sem Bool} (G : MF X.K C m ps) (c : Cls X.K (He.ga X.K C)) (F : OkM X.prog X.w X.K X.mg X.base k C m ps sp) (hr : Room j X.A) (tk : Takes X W) (he : PE X o ta) (hj : k ≤ j := by omega)
    (ht : eval (.Call (.Attribute o m apos) [] [] pos) X.env = (do
      let ov ← eval o X.env
      standAt apos.atName
      let (f, first) ← holding [ov] (getMethod ov m pl)
      callWith pos f first (backTo pos (starEach [] X.env)) (backToKw pos (keywordEach [] X.env))) := by rfl) :
    PE X (.Call (.Attribute o m apos) [] [] pos) (tMethS (He.ga X.K C) m sp (WE W) ta tNil) := pe_meth0S (pl := pl) he c G.me F (hr.mono hj) G.bd (passAt tk) ht
theorem pmk (G : KF X.K X.mg C ps) (F : OkM X.prog X.w X.K X.mg X.base k C "__init__" ps sp) (hr : Room j X.A) (tk : Takes X W) (ha : PA X (e :: es) t) (hj : k + 1 ≤ j := by omega) (hg : Gl X C := by rfl)
    (hdb : (C == ("__debug__" : Str)) = false := by decide) (he : starEach (e :: es) X.env = (false, eval e X.env) :: starEach es X.env := by rfl) (hpl : (backTo pos (starEach es X.env)).any (·.1) = false := by rfl) :
    PE X (.Call (.Name C p) (e :: es) [] pos) (tMakeS (He.ga X.K C) sp (WE W) t) := pe_makeS G.mker F (hr.mono hj) hg G.gl G.bd (passAt tk) ha hdb he hpl
theorem pmk0 (G : KF X.K X.mg C ps) (F : OkM X.prog X.w X.K X.mg X.base k C "__init__" ps sp) (hr : Room j X.A) (tk : Takes X W) (hj : k + 1 ≤ j := by omega) (hg : Gl X C := by rfl)
    (hdb : (C == ("__debug__" : Str)) = false := by decide) : PE X (.Call (.Name C p) [] [] pos) (tMakeS (He.ga X.K C) sp (WE W) tNil) := pe_make0S G.mker F (hr.mono hj) hg G.gl G.bd (passAt tk) hdb
end
/-! ### more rules by values -/
section
variable {X : Cx}
theorem hu65_of {A : Around} {k : Nat} (hr : Room k A) : A.units + 65 < cLine := by
  have := hr.un
  omega
def rAddS : R2 := fun x y H Q => ∃ i j, x = .str i ∧ y = .str j ∧ i.length + j.length ≤ sizeLine ∧ Q (.str (i ++ j)) H
def rAddA (K : PySem.W.Frag) : R2 := fun x y H Q => rI0 (fun i j => .int (i + j)) x y H Q ∨ (rCat x y H Q ∨ (rAddS x y H Q ∨ rCatT K x y H Q))
theorem op_addA : OpR X (binaryOp .Add) (rAddA X.K) := op_add.or (op_cat.or (OpR.or (r := rAddS) op_add_str op_catT))
def rLtA (K : PySem.W.Frag) : R2 := fun x y H Q => rI0 (fun i j => .bl (decide (i < j))) x y H Q ∨ rLtT K x y H Q
theorem op_ltA (hu : X.A.units < cLine) : OpR X (compareOp .Lt) (rLtA X.K) := op_lt.or (op_ltT hu)
theorem lexAt_shift {e r : Nat → Bool} {z : Bool} : ∀ {k i : Nat}, Ob.lexAt e r z (i + 1) k = Ob.lexAt (fun j => e (j + 1)) (fun j => r (j + 1)) z i k
  | 0, _ => rfl
  | k + 1, i => by rw [Ob.lexAt_succ, Ob.lexAt_succ, lexAt_shift (k := k) (i := i + 1)]
theorem lexAt_le : ∀ ns ms : List Int, Ob.lexAt (fun j => decide (ns.getD j 0 = ms.getD j 0)) (fun j => decide (ns.getD j 0 ≤ ms.getD j 0)) (decide (ns.length ≤ ms.length)) 0 (min ns.length ms.length) = !HT.lexLt ms ns
  | [], [] => rfl
  | [], y :: ms => by
    rw [HT.lexLt_cons_nil]
    show decide (0 ≤ (y :: ms).length) = true
    exact decide_eq_true (Nat.zero_le _)
  | x :: ns, [] => by
    rw [HT.lexLt_nil_cons]
    show decide ((x :: ns).length ≤ 0) = false
    exact decide_eq_false (by rw [List.length_cons]; omega)
  | x :: ns, y :: ms => by
    have ih := lexAt_le ns ms
    rw [HT.lexLt_cons, List.length_cons, List.length_cons, Nat.succ_min_succ, Ob.lexAt_succ, lexAt_shift]
    have e1 : ((x :: ns).getD 0 0 = (y :: ms).getD 0 0) = (x = y) := rfl
    by_cases e : x = y
    · rw [if_pos (show decide ((x :: ns).getD 0 0 = (y :: ms).getD 0 0) = true from decide_eq_true e), if_pos e.symm, ← ih]
      have e2 : decide (ns.length + 1 ≤ ms.length + 1) = decide (ns.length ≤ ms.length) := by by_cases h : ns.length ≤ ms.length <;> simp [h]
      rw [e2]
      rfl
    · rw [if_neg (show ¬ decide ((x :: ns).getD 0 0 = (y :: ms).getD 0 0) = true from by rw [decide_eq_true_iff]; exact e), if_neg (fun z => e z.symm)]
      show decide (x ≤ y) = !decide (y < x)
      by_cases h : x ≤ y
      · rw [decide_eq_true h, decide_eq_false (by omega)]; rfl
      · rw [decide_eq_false h, decide_eq_true (by omega)]; rfl
theorem lexAt_ge : ∀ ns ms : List Int, Ob.lexAt (fun j => decide (ns.getD j 0 = ms.getD j 0)) (fun j => decide (ms.getD j 0 ≤ ns.getD j 0)) (decide (ns.length ≥ ms.length)) 0 (min ns.length ms.length) = !HT.lexLt ns ms
  | [], [] => rfl
  | [], y :: ms => by
    rw [HT.lexLt_nil_cons]
    show decide (0 ≥ (y :: ms).length) = false
    exact decide_eq_false (by rw [List.length_cons]; omega)
  | x :: ns, [] => by
    rw [HT.lexLt_cons_nil]
    show decide ((x :: ns).length ≥ 0) = true
    exact decide_eq_true (Nat.zero_le _)
  | x :: ns, y :: ms => by
    have ih := lexAt_ge ns ms
    rw [HT.lexLt_cons, List.length_cons, List.length_cons, Nat.succ_min_succ, Ob.lexAt_succ, lexAt_shift]
    by_cases e : x = y
    · rw [if_pos (show decide ((x :: ns).getD 0 0 = (y :: ms).getD 0 0) = true from decide_eq_true e), if_pos e, ← ih]
      have e2 : decide (ns.length + 1 ≥ ms.length + 1) = decide (ns.length ≥ ms.length) := by by_cases h : ms.length ≤ ns.length <;> simp [h]
      rw [e2]
      rfl
    · rw [if_neg (show ¬ decide ((x :: ns).getD 0 0 = (y :: ms).getD 0 0) = true from by rw [decide_eq_true_iff]; exact e), if_neg e]
      show decide (y ≤ x) = !decide (x < y)
      by_cases h : y ≤ x
      · rw [decide_eq_true h, decide_eq_false (by omega)]; rfl
      · rw [decide_eq_false h, decide_eq_true (by omega)]; rfl
def rGeT (K : PySem.W.Frag) : R2 := fun x y H Q => ∃ (a b : Addr) (ns ms : List Int), x = .ref a ∧ y = .ref b ∧ SqT K H a (ns.map V.int) ∧ SqT K H b (ms.map V.int) ∧ Q (.bl (!HT.lexLt ns ms)) H
theorem op_geT {X : Cx} (hu : X.A.units < cLine) : OpR X (compareOp .GtE) (rGeT X.K) := by
  intro pins s σ H x y v u Q I rx ry h
  obtain ⟨a, b, ns, ms, rfl, rfl, ha, hb, q⟩ := h
  cases rx
  cases ry
  obtain ⟨its, r1, p1, _⟩ := I.tuple ha
  obtain ⟨its2, r2, p2, _⟩ := I.tuple hb
  have i1 : IntsAre its ns := Vals.ints r1
  have i2 : IntsAre its2 ms := Vals.ints r2
  have e1 : its.toArray.size = ns.length := by rw [List.size_toArray]; exact i1.length
  have e2 : its2.toArray.size = ms.length := by rw [List.size_toArray]; exact i2.length
  have at1 : ∀ j (h1 : j < its.toArray.size), ∃ t, its.toArray[j] = .int (ns.getD j 0) t := fun j h1 => PyProof.Rows.IntsAre.int_at i1 _ _ (by simp at h1; simp [h1])
  have at2 : ∀ j (h1 : j < its2.toArray.size), ∃ t, its2.toArray[j] = .int (ms.getD j 0) t := fun j h1 => PyProof.Rows.IntsAre.int_at i2 _ _ (by simp at h1; simp [h1])
  have R := Ob.RcOp.tuples_ge (A := X.A) (s := s) (e := fun j => decide (ns.getD j 0 = ms.getD j 0)) (r := fun j => decide (ms.getD j 0 ≤ ns.getD j 0)) p1 p2 hu (fun j h1 h2 => by
    obtain ⟨t, et⟩ := at1 j h1
    obtain ⟨t', et'⟩ := at2 j h2
    rw [et, et']
    have z : (ns.getD j 0 == ms.getD j 0) = decide (ns.getD j 0 = ms.getD j 0) := by
      by_cases q : ns.getD j 0 = ms.getD j 0
      · rw [decide_eq_true q]; exact beq_iff_eq.mpr q
      · rw [decide_eq_false q]; exact beq_eq_false_iff_ne.mpr q
    rw [← z]
    exact SeqAt.EqAt.int_int _ _ _ _) (fun j h1 h2 _ => by
    obtain ⟨t, et⟩ := at1 j h1
    obtain ⟨t', et'⟩ := at2 j h2
    rw [et, et']
    exact Ob.RcOp.ge_int _ _ _ _)
  rw [e1, e2, lexAt_ge] at R
  have z : wpAny (model X.prog X.w) X.A (compareOp .GtE (.ref a) (.ref b)) (EP X pins σ Q) X.xe s := R X.prog X.w X.xe (EP X pins σ Q) ⟨.bl _, H, I, rfl, q⟩
  exact z
def rLeA (K : PySem.W.Frag) : R2 := fun x y H Q => rI0 (fun i j => .bl (decide (i ≤ j))) x y H Q ∨ rLeT K x y H Q
theorem op_leA (hu : X.A.units < cLine) : OpR X (compareOp .LtE) (rLeA X.K) := op_le.or (op_leT hu)
theorem op_leK {K : PySem.W.Frag} (hK : X.K = K) (hu : X.A.units < cLine) : OpR X (compareOp .LtE) (rLeA K) := hK ▸ op_leA hu
def rGeA (K : PySem.W.Frag) : R2 := fun x y H Q => rI0 (fun i j => .bl (decide (j ≤ i))) x y H Q ∨ rGeT K x y H Q
theorem op_geA (hu : X.A.units < cLine) : OpR X (compareOp .GtE) (rGeA X.K) := op_ge.or (op_geT hu)
theorem op_geK {K : PySem.W.Frag} (hK : X.K = K) (hu : X.A.units < cLine) : OpR X (compareOp .GtE) (rGeA K) := hK ▸ op_geA hu
def rIsN1 : R2 := fun x y H Q => y = .non ∧ Q (.bl (decide (x = .non))) H
def rNotN1 : R2 := fun x y H Q => y = .non ∧ Q (.bl (!decide (x = .non))) H
theorem op_isN1 : OpR X (compareOp .Is) rIsN1 := op_isN
theorem op_notN1 : OpR X (compareOp .IsNot) rNotN1 := op_notN
def iSeq (K : PySem.W.Frag) (tl : TE) : TI := fun σ H R => tl σ H fun x H1 => ∃ a, x = .ref a ∧ (((∃ xs, SqL K H1 a xs) ∧ R (Itl K a) H1) ∨ ((∃ xs, SqT K H1 a xs) ∧ R (Itt K a) H1))
theorem pi_seq {tg l : Expr} {tl : TE} (hl : PE X l tl) : PI X tg l (iSeq X.K tl) := by
  refine ⟨fun pins s σ H R I h => ?_⟩
  refine thn (hl.run pins s σ H _ I h) fun v s1 ⟨x, H1, I1, r1, q1⟩ => ?_
  obtain ⟨a, e, q⟩ := q1
  subst e
  cases r1
  rcases q with ⟨⟨xs, hq⟩, q⟩ | ⟨⟨xs, hq⟩, q⟩
  · obtain ⟨its, rv, p, hz⟩ := I1.list hq
    refine wpAny_pyIter_list p.isList ?_
    refine ⟨s1.heap.objs.size, [s1.heap.objs.size], _, _, H1, rfl, I1.kept (t' := s1.toks) fun b o e => Heap.get?_push_of_some _ e, turn_list a _, ⟨_, Heap.get?_push_size _ rfl, rfl, rfl⟩, fun b hb => ?_, q⟩
    have e : b = s1.heap.objs.size := by simpa using hb
    subst e
    exact I1.fpOk (Nat.le_refl _) (I1.hok.fresh (Nat.le_refl _))
  · obtain ⟨its, rv, p, hz⟩ := I1.tuple hq
    refine wpAny_pyIter_tuple (show s1.heap.IsTuple a its.toArray from p) ?_
    refine ⟨s1.heap.objs.size, [s1.heap.objs.size], _, _, H1, rfl, I1.kept (t' := s1.toks) fun b o e => Heap.get?_push_of_some _ e, turn_tuple a _, ⟨_, Heap.get?_push_size _ rfl, rfl, rfl⟩, fun b hb => ?_, q⟩
    have e : b = s1.heap.objs.size := by simpa using hb
    subst e
    exact I1.fpOk (Nat.le_refl _) (I1.hok.fresh (Nat.le_refl _))
theorem call_isiA : CallR X (.builtin "isinstance") (rIsi X.K) := call_isi
end
/-- an own exception -/
structure ExF (K : PySem.W.Frag) (mg : Str → Option Value) (c : Str) : Prop where
  gl : mg c = some (.ref (He.ga K c))
  ex : PySem.W.excIn K (He.ga K c) He.veBase "ValueError.__new__" = true
  kp : PySem.W.keepIn K (.ref (He.ga K c)) = true
  sb : PySem.W.subIn K (.ref (He.ga K c)) (.type "BaseException") = some true
  ty : PySem.W.typeIn K (.ref (He.ga K c)) = some (.type "type")
/-! ### the rules, the written part named -/
section
variable {X : Cx} {K : PySem.W.Frag} {o e value a b : Expr} {es : List Expr} {f m : Str} {pos pos' tpos apos : Pos} {ta tb tv te : TE} {t : TA} {T name id : String} {r : V → List V → Hp → VK → Prop}
theorem op_addK (hK : X.K = K) : OpR X (binaryOp .Add) (rAddA K) := hK ▸ op_addA
theorem op_ltK (hK : X.K = K) (hu : X.A.units < cLine) : OpR X (compareOp .Lt) (rLtA K) := hK ▸ op_ltA hu
theorem op_eqK (hK : X.K = K) (hu : X.A.units + 64 < cLine) : OpR X (compareOp .Eq) (rEqA K) := hK ▸ op_eqA hu
theorem op_neK (hK : X.K = K) (hu : X.A.units + 64 < cLine) : OpR X (compareOp .NotEq) (rNeA K) := hK ▸ op_neA hu
theorem op_inK (hK : X.K = K) (hu : X.A.units + 65 < cLine) : OpR X (compareOp .In) (rInA K) := hK ▸ op_inA hu
theorem op_notInK (hK : X.K = K) (hu : X.A.units + 65 < cLine) : OpR X (compareOp .NotIn) (rNotInA K) := hK ▸ op_notInA hu
theorem ix_anyK (hK : X.K = K) (hu : X.A.units + 1 < cLine) : IxR X (rSub K) := hK ▸ ix_any hu
theorem sl_anyK (hK : X.K = K) : SlR X (rSli K) := hK ▸ sl_any
theorem call_lenK (hK : X.K = K) : CallR X (.builtin "len") (rLenA K) := hK ▸ call_lenA
theorem call_isiKK (hK : X.K = K) : CallR X (.builtin "isinstance") (rIsi K) := hK ▸ call_isiA
def rListOf (K : PySem.W.Frag) : List V → Hp → VK → Prop := fun xs H Q => ∃ p ys, xs = [.ref p] ∧ (SqL K H p ys ∨ SqT K H p ys) ∧ ∀ l, H l = none → Q (.ref l) (upd H l (.lst ys))
theorem call_listK (hK : X.K = K) : CallR X (.type "list") (rListOf K) := hK ▸ call_list_of
def rTupleOf (K : PySem.W.Frag) : List V → Hp → VK → Prop := fun xs H Q => ∃ p ys, xs = [.ref p] ∧ ((SqL K H p ys ∧ ∀ l, H l = none → Q (.ref l) (upd H l (.tup ys))) ∨ (SqT K H p ys ∧ Q (.ref p) H))
theorem call_tupleK (hK : X.K = K) : CallR X (.type "tuple") (rTupleOf K) := hK ▸ call_tuple_of
theorem pe_fldK (hK : X.K = K) (he : PE X e ta) (hb : attributeBase e f X.env (eval e X.env) = eval e X.env) : PE X (.Attribute e f pos) (tFld K ta f) := hK ▸ pe_fld he hb
theorem ps_fldK (hK : X.K = K) (ha : PE X o ta) (hv : PE X value tv) (hs : swapsWith value (some (.Attribute o f pos')) pos.line X.env = pure false) : PS X (.Assign [.Attribute o f pos'] value pos) (sFld K ta tv f) := hK ▸ ps_fld ha hv hs
theorem ps_fldaugK {op : Operator} {rd : V → V → Hp → VK → Prop} (hK : X.K = K) (ha : PE X o ta) (hv : PE X value tv) (hop : InOp X op rd) : PS X (.AugAssign (.Attribute o f tpos) op value pos) (sFldAug K ta tv rd f) := hK ▸ ps_fldaug ha hv hop
theorem pi_seqK {tg l : Expr} {tl : TE} (hK : X.K = K) (hl : PE X l tl) : PI X tg l (iSeq K tl) := hK ▸ pi_seq hl
theorem pg_tupK {es : List Expr} {k : Nat} {t : TGs} {n : Nat} (hK : X.K = K) (hc : X.calm = true) (h : PGs X es t) (hn : (assignEach es X.env).length = n) (hst : (assignEach es X.env).findIdx? (·.1) = none) : PG X (.Tuple es k pos) (gTup K n t) := hK ▸ pg_tup hc h hn hst
theorem pe_bm0K {cpos : Pos} (hK : X.K = K) (pa : PlainAttrs T) (slot : Slot T name id) (hty : typeOf (.builtin id) = pure (.type "method_descriptor")) (hm : MtR X id r) (ho : PE X o ta)
    (hbase : attributeBase o name X.env (eval o X.env) = eval o X.env := by rfl) (hline : (apos.endLine == cpos.line) = true := by rfl) : PE X (.Call (.Attribute o name apos) [] [] cpos) (tBM0 K T r ta) := hK ▸ pe_bm0 pa slot hty hm ho hbase hline
theorem pe_bmK {cpos : Pos} (hK : X.K = K) (pa : PlainAttrs T) (slot : Slot T name id) (hty : typeOf (.builtin id) = pure (.type "method_descriptor")) (hm : MtR X id r) (ho : PE X o ta) (ha : PA X (e :: es) t)
    (hbase : attributeBase o name X.env (eval o X.env) = eval o X.env := by rfl)
    (hfew : ((backTo cpos (starEach (e :: es) X.env)).all (fun x => !x.1) && (backToKw cpos (keywordEach [] X.env)).all (fun x => x.1.isSome)
      && decide ((e :: es).length + ([] : List Keyword).length + (if ([] : List Keyword).isEmpty then 0 else 1) < 30)) = true := by rfl)
    (hline : (apos.endLine == cpos.line) = true := by rfl) (hs : starEach (e :: es) X.env = (false, eval e X.env) :: starEach es X.env := by rfl) (hplain : (backTo cpos (starEach es X.env)).any (·.1) = false := by rfl) :
    PE X (.Call (.Attribute o name apos) (e :: es) [] cpos) (tBM K T r ta t) := hK ▸ pe_bm pa slot hty hm ho ha hbase hfew hline hs hplain
end
section
variable {X : Cx} {K : PySem.W.Frag} {k j : Nat} {C m x : Str} {ps : List Str} {sp : Sp} {W : WX} {p pos apos : Pos} {e o : Expr} {es : List Expr} {ta : TE} {t : TA}
theorem pmeK {pl : Sem Bool} (hK : X.K = K) (G : MF X.K C m ps) (c : Cls X.K (He.ga X.K C)) (F : OkM X.prog X.w X.K X.mg X.base k C m ps sp) (hr : Room j X.A) (tk : Takes X W) (he : PE X o ta) (ha : PA X (e :: es) t) (hj : k ≤ j := by omega)
    (hst : starEach (e :: es) X.env = (false, eval e X.env) :: starEach es X.env := by rfl) (hpl : (backTo pos (starEach es X.env)).any (·.1) = false := by rfl)
    (ht : eval (.Call (.Attribute o m apos) (e :: es) [] pos) X.env = (do
      let ov ← eval o X.env
      standAt apos.atName
      let (f, first) ← holding [ov] (getMethod ov m pl)
      callWith pos f first (backTo pos (starEach (e :: es) X.env)) (backToKw pos (keywordEach [] X.env))) := by rfl) :
    PE X (.Call (.Attribute o m apos) (e :: es) [] pos) (tMethS (He.ga K C) m sp (WE W) ta t) := hK ▸ pme (pl := pl) G c F hr tk he ha hj hst hpl ht
theorem pme0K {pl : Sem Bool} (hK : X.K = K) (G : MF X.K C m ps) (c : Cls X.K (He.ga X.K C)) (F : OkM X.prog X.w X.K X.mg X.base k C m ps sp) (hr : Room j X.A) (tk : Takes X W) (he : PE X o ta) (hj : k ≤ j := by omega)
    (ht : eval (.Call (.Attribute o m apos) [] [] pos) X.env = (do
      let ov ← eval o X.env
      standAt apos.atName
      let (f, first) ← holding [ov] (getMethod ov m pl)
      callWith pos f first (backTo pos (starEach [] X.env)) (backToKw pos (keywordEach [] X.env))) := by rfl) :
    PE X (.Call (.Attribute o m apos) [] [] pos) (tMethS (He.ga K C) m sp (WE W) ta tNil) := hK ▸ pme0 (pl := pl) G c F hr tk he hj ht
theorem pmkK (hK : X.K = K) (G : KF X.K X.mg C ps) (F : OkM X.prog X.w X.K X.mg X.base k C "__init__" ps sp) (hr : Room j X.A) (tk : Takes X W) (ha : PA X (e :: es) t) (hj : k + 1 ≤ j := by omega) (hg : Gl X C := by rfl)
    (hdb : (C == ("__debug__" : Str)) = false := by decide) (he : starEach (e :: es) X.env = (false, eval e X.env) :: starEach es X.env := by rfl) (hpl : (backTo pos (starEach es X.env)).any (·.1) = false := by rfl) :
    PE X (.Call (.Name C p) (e :: es) [] pos) (tMakeS (He.ga K C) sp (WE W) t) := hK ▸ pmk G F hr tk ha hj hg hdb he hpl
theorem pmk0K (hK : X.K = K) (G : KF X.K X.mg C ps) (F : OkM X.prog X.w X.K X.mg X.base k C "__init__" ps sp) (hr : Room j X.A) (tk : Takes X W) (hj : k + 1 ≤ j := by omega) (hg : Gl X C := by rfl)
    (hdb : (C == ("__debug__" : Str)) = false := by decide) : PE X (.Call (.Name C p) [] [] pos) (tMakeS (He.ga K C) sp (WE W) tNil) := hK ▸ pmk0 G F hr tk hj hg hdb
end
/-! ### isinstance of an own instance -/
structure IsC (K : PySem.W.Frag) (C : Str) : Prop where
  ha : PySem.W.findIn K (.ref (He.ga K C)) "__class__" = some (some (.builtin "object.__class__"))
  hn : PySem.W.specialIn K (.builtin "object.__class__") "__get__" = some (some (.builtin "getset_descriptor.__get__"))
  htk : PySem.W.takesIn K (.builtin "object.__class__") = some true
  hm : PySem.W.mroIn K (He.ga K C) (.type "object") = some true
def isCB (K : PySem.W.Frag) (C : Str) : Bool := He.eqO (PySem.W.findIn K (.ref (He.ga K C)) "__class__") (some (some (.builtin "object.__class__"))) && (He.eqO (PySem.W.specialIn K (.builtin "object.__class__") "__get__") (some (some (.builtin "getset_descriptor.__get__"))) &&
  (decide (PySem.W.takesIn K (.builtin "object.__class__") = some true) && decide (PySem.W.mroIn K (He.ga K C) (.type "object") = some true)))
theorem isC_of {K : PySem.W.Frag} {C : Str} (h : isCB K C = true) : IsC K C := by
  unfold isCB at h
  rw [Bool.and_eq_true, Bool.and_eq_true, Bool.and_eq_true] at h
  exact ⟨He.eqO_ok h.1, He.eqO_ok h.2.1, of_decide_eq_true h.2.2.1, of_decide_eq_true h.2.2.2⟩
def kitB (K : PySem.W.Frag) (C D : Str) (b : Bool) : Bool := decide (PySem.W.kitOne K (.ref (He.ga K C)) (.ref (He.ga K D)) = some b)
theorem kit_of' {K : PySem.W.Frag} {C D : Str} {b : Bool} (h : kitB K C D b = true) : PySem.W.kitOne K (.ref (He.ga K C)) (.ref (He.ga K D)) = some b := of_decide_eq_true h
/-- an instance and its class -/
theorem go_isi_ins {K : PySem.W.Frag} {H : Hp} {Q : VK} {a dx : Addr} {C D : Str} {fs : List (Str × V)} {b : Bool} (h : H a = some (.ins (He.ga K C) dx fs)) (c : Cls K (He.ga K C)) (i : IsC K C) (k : PySem.W.kitOne K (.ref (He.ga K C)) (.ref (He.ga K D)) = some b) (q : Q (.bl b) H) : rIsi K [.ref a, .ref (He.ga K D)] H Q :=
  ⟨_, _, _, _, b, rfl, .own _, .base (.ins h c i.ha i.hn i.htk i.hm), k, q⟩
/-! ### one of two promises -/
def tAlt (t u : TE) : TE := fun σ H Q => t σ H Q ∨ u σ H Q
theorem pe_alt {X : Cx} {e : Expr} {t u : TE} (h : PE X e t) (k : PE X e u) : PE X e (tAlt t u) := ⟨fun pins s σ H Q I q => by
  rcases q with q | q
  · exact h.run pins s σ H Q I q
  · exact k.run pins s σ H Q I q⟩
theorem go_alt1 {t u : TE} {σ : L2.St} {H : Hp} {Q : VK} (k : t σ H Q) : tAlt t u σ H Q := .inl k
theorem go_alt2 {t u : TE} {σ : L2.St} {H : Hp} {Q : VK} (k : u σ H Q) : tAlt t u σ H Q := .inr k
def spOr (a b : Sp) : Sp := fun vs H Q E => a vs H Q E ∨ b vs H Q E
theorem fn_or {P : Program} {w : World} {K : PySem.W.Frag} {mg : Str → Option Value} {base : Heap} {CX : CXT} {k : Nat} {f : Addr} {fd : FuncData} {ps : List Str} {a b : Sp} (F : FnOk P w K mg base CX k f fd ps a) (G : FnOk P w K mg base CX k f fd ps b) : FnOk P w K mg base CX k f fd ps (spOr a b) :=
  ⟨fun vs H Q E h => by
    rcases h with h | h
    · exact F.len vs H Q E h
    · exact G.len vs H Q E h, fun A outer s H args us vs Q E hr he hb hv hs => by
    rcases hs with hs | hs
    · exact F.run A outer s H args us vs Q E hr he hb hv hs
    · exact G.run A outer s H args us vs Q E hr he hb hv hs⟩
end Mo
namespace Mo
open PySem PySem.Spec PyProof.Rows L2
/-! ### steps through a reading -/
section
variable {K : PySem.W.Frag} {σ σ' : St} {H : Hp} {Q : VK} {ta tb te tc : TE} {t u c : TT} {tA tB1 : TA} {D : Ends} {s1 s2 : TS} {v x y : V} {i : Nat} {r : R2} {g : TG}
theorem go_start {f : TS} (h : σ = σ') (k : f D σ' H) : f D σ H := by
  rw [h]
  exact k
theorem go_var (h : σ[i]? = some (some v)) (k : Q v H) : tVar i σ H Q := ⟨v, h, k⟩
theorem go_c (k : Q v H) : tC v σ H Q := k
theorem go_op (k : ta σ H fun x H1 => tb σ H1 fun y H2 => r x y H2 Q) : tOp r ta tb σ H Q := k
theorem go_un {r : V → Hp → VK → Prop} (k : ta σ H fun x H1 => r x H1 Q) : tUn r ta σ H Q := k
theorem go_cb {r : List V → Hp → VK → Prop} (k : tA σ H fun vs H1 => r vs H1 Q) : tCB r tA σ H Q := k
theorem go_nil {Q : List V → Hp → Prop} (k : Q [] H) : tNil σ H Q := k
theorem go_cons {Q : List V → Hp → Prop} (k : ta σ H fun x H1 => tA σ H1 fun xs H2 => Q (x :: xs) H2) : tCons ta tA σ H Q := k
theorem go_tup (k : tA σ H fun xs H1 => xs.length ≤ sizeLine ∧ ∀ p, H1 p = none → Q (.ref p) (upd H1 p (.tup xs))) : tTup tA σ H Q := k
theorem go_lst (k : tA σ H fun xs H1 => xs.length ≤ sizeLine ∧ ∀ p, H1 p = none → Q (.ref p) (upd H1 p (.lst xs))) : tLst tA σ H Q := k
theorem go_test {Q : Bool → Hp → Prop} (k : te σ H fun x H1 => ∃ b, x = .bl b ∧ Q b H1) : tTest te σ H Q := k
theorem go_tb {Q : Bool → Hp → Prop} (k : te σ H fun x H1 => ∃ b, x = .bl b ∧ Q b H1) : tB te σ H Q := k
theorem go_bl {b : Bool} {Q : Bool → Prop} (k : Q b) : ∃ d, V.bl b = V.bl d ∧ Q d := ⟨b, rfl, k⟩
theorem go_and {Q : Bool → Hp → Prop} (k : t σ H fun d H1 => if d = true then u σ H1 Q else Q false H1) : tAnd t u σ H Q := k
theorem go_or {Q : Bool → Hp → Prop} (k : t σ H fun d H1 => if d = true then Q true H1 else u σ H1 Q) : tOr t u σ H Q := k
theorem go_not {Q : Bool → Hp → Prop} (k : t σ H fun d H1 => Q (!d) H1) : tNot t σ H Q := k
theorem go_andV (k : ta σ H fun x H1 => ∃ d, x = .bl d ∧ if d = true then tb σ H1 Q else Q (.bl false) H1) : tAndV ta tb σ H Q := k
theorem go_orV (k : ta σ H fun x H1 => ∃ d, x = .bl d ∧ if d = true then Q (.bl true) H1 else tb σ H1 Q) : tOrV ta tb σ H Q := k
theorem go_notV (k : ta σ H fun x H1 => ∃ d, x = .bl d ∧ Q (.bl (!d)) H1) : tNotV ta σ H Q := k
theorem go_ifE (k : c σ H fun d H1 => if d = true then ta σ H1 Q else tb σ H1 Q) : tIf c ta tb σ H Q := k
theorem go_seq (k : s1 { D with nx := s2 D } σ H) : tSeq s1 s2 D σ H := k
theorem go_next (k : D.nx σ H) : tNext D σ H := k
theorem go_brk (k : D.bk σ H) : tBreak D σ H := k
theorem go_cont (k : D.ct σ H) : tCont D σ H := k
theorem go_ifS (k : c σ H fun d H1 => if d = true then s1 D σ H1 else s2 D σ H1) : tIfS c s1 s2 D σ H := k
theorem go_asg (k : te σ H fun x H1 => g x σ H1 D.nx) : tAsg te g D σ H := k
theorem go_gn {Q : St → Hp → Prop} (k : Q (σ.set i (some v)) H) : gName i v σ H Q := k
theorem go_gsub {st : TSet} {Q : St → Hp → Prop} (k : ta σ H fun o H1 => tb σ H1 fun j H2 => st o j v H2 fun H3 => Q σ H3) : gSub ta tb st v σ H Q := k
theorem go_gcons {tg : TG} {tgs : TGs} {vs : List V} {Q : St → Hp → Prop} (k : tg v σ H fun σ1 H1 => tgs vs σ1 H1 Q) : gCons tg tgs (v :: vs) σ H Q := ⟨v, vs, rfl, k⟩
theorem go_gnil {Q : St → Hp → Prop} (k : Q σ H) : gNil [] σ H Q := ⟨rfl, k⟩
theorem go_gtup {n : Nat} {tgs : TGs} {a : Addr} {xs : List V} {Q : St → Hp → Prop} (h : SqT K H a xs) (hn : xs.length = n) (k : tgs xs σ H Q) : gTup K n tgs (.ref a) σ H Q := ⟨a, xs, rfl, h, hn, k⟩
theorem go_ret (k : te σ H D.rt) : tRet te D σ H := k
theorem go_drop (k : te σ H fun _ H1 => D.nx σ H1) : tDrop te D σ H := k
theorem go_fld {f : Str} (k : ta σ H fun x H1 => ∃ a C dx fs v, x = .ref a ∧ H1 a = some (.ins C dx fs) ∧ Cls K C ∧ NoAttr K C f ∧ fs.lookup f = some v ∧ Q v H1) : tFld K ta f σ H Q := k
theorem go_fldL {a C dx : Addr} {fs : List (Str × V)} {f : Str} {v : V} {Q : V → Prop} (h : H a = some (.ins C dx fs)) (hc : Cls K C) (hn : NoAttr K C f) (hl : fs.lookup f = some v) (k : Q v) :
    ∃ b C' dx' fs' v', V.ref a = .ref b ∧ H b = some (.ins C' dx' fs') ∧ Cls K C' ∧ NoAttr K C' f ∧ fs'.lookup f = some v' ∧ Q v' := ⟨a, C, dx, fs, v, rfl, h, hc, hn, hl, k⟩
theorem go_sfld {f : Str} (k : tb σ H fun y H1 => ta σ H1 fun x H2 => ∃ a C dx fs, x = .ref a ∧ H2 a = some (.ins C dx fs) ∧ Cls K C ∧ NoAttr K C f ∧ fs.length < 1000 ∧ D.nx σ (upd H2 a (.ins C dx (putF f y fs)))) : sFld K ta tb f D σ H := k
theorem go_sfldL {a C dx : Addr} {fs : List (Str × V)} {f : Str} {y : V} {Q : Hp → Prop} (h : H a = some (.ins C dx fs)) (hc : Cls K C) (hn : NoAttr K C f) (hl : Nat.blt fs.length 1000 = true) (k : Q (upd H a (.ins C dx (putF f y fs)))) :
    ∃ b C' dx' fs', V.ref a = .ref b ∧ H b = some (.ins C' dx' fs') ∧ Cls K C' ∧ NoAttr K C' f ∧ fs'.length < 1000 ∧ Q (upd H b (.ins C' dx' (putF f y fs'))) := ⟨a, C, dx, fs, rfl, h, hc, hn, Nat.blt_eq.mp hl, k⟩
theorem go_fldaug {rd : V → V → Hp → VK → Prop} {f : Str} (k : ta σ H fun x H1 => ∃ a C dx fs v, x = .ref a ∧ H1 a = some (.ins C dx fs) ∧ Cls K C ∧ NoAttr K C f ∧ fs.lookup f = some v ∧ tb σ H1 fun y H2 => rd v y H2 fun z H3 => ∃ dx' fs', H3 a = some (.ins C dx' fs') ∧ fs'.length < 1000 ∧ D.nx σ (upd H3 a (.ins C dx' (putF f z fs')))) : sFldAug K ta tb rd f D σ H := k
theorem go_fldaugL {a C dx : Addr} {fs : List (Str × V)} {f : Str} {v : V} {Q : Addr → Addr → V → Prop} (h : H a = some (.ins C dx fs)) (hc : Cls K C) (hn : NoAttr K C f) (hl : fs.lookup f = some v) (k : Q a C v) :
    ∃ b C' dx' fs' v', V.ref a = .ref b ∧ H b = some (.ins C' dx' fs') ∧ Cls K C' ∧ NoAttr K C' f ∧ fs'.lookup f = some v' ∧ Q b C' v' := ⟨a, C, dx, fs, v, rfl, h, hc, hn, hl, k⟩
theorem go_addR {a b : Int} (k : Q (.int (a + b)) H) : rAdd (.int a) (.int b) H Q := ⟨a, b, rfl, rfl, k⟩
theorem go_subR {a b : Int} (k : Q (.int (a - b)) H) : L2.rSub (.int a) (.int b) H Q := ⟨a, b, rfl, rfl, k⟩
theorem go_putL {a C dx : Addr} {fs : List (Str × V)} {f : Str} {z : V} {R : Hp → Prop} (h : H a = some (.ins C dx fs)) (hl : Nat.blt fs.length 1000 = true) (k : R (upd H a (.ins C dx (putF f z fs)))) :
    ∃ dx' fs', H a = some (.ins C dx' fs') ∧ fs'.length < 1000 ∧ R (upd H a (.ins C dx' (putF f z fs'))) := ⟨dx, fs, h, Nat.blt_eq.mp hl, k⟩
theorem go_call {sp : Sp} {E : St → XK} (k : tA σ H fun vs H1 => sp vs H1 Q (E σ)) : tCallS sp E tA σ H Q := k
theorem go_meth {C : Addr} {m : Str} {sp : Sp} {E : St → XK} (k : ta σ H fun x H1 => ∃ a dx fs, x = .ref a ∧ H1 a = some (.ins C dx fs) ∧ fs.lookup m = none ∧ tA σ H1 fun vs H2 => sp (x :: vs) H2 Q (E σ)) : tMethS C m sp E ta tA σ H Q := k
theorem go_methL {a C dx : Addr} {fs : List (Str × V)} {m : Str} {R : Prop} (h : H a = some (.ins C dx fs)) (hl : fs.lookup m = none) (k : R) :
    ∃ b dx' fs', V.ref a = .ref b ∧ H b = some (.ins C dx' fs') ∧ fs'.lookup m = none ∧ R := ⟨a, dx, fs, rfl, h, hl, k⟩
theorem go_make {C : Addr} {sp : Sp} {E : St → XK} (k : tA σ H fun vs H1 => ∀ x dx, H1 x = none → H1 dx = none → dx ≠ x → sp (.ref x :: vs) (upd (upd H1 dx (.own x)) x (.ins C dx [])) (fun v H2 => v = .non ∧ Q (.ref x) H2) (E σ)) : tMakeS C sp E tA σ H Q := k
theorem go_bm0 {T : String} {r : V → List V → Hp → VK → Prop} (k : ta σ H fun x H1 => tyV K T x H1 ∧ r x [] H1 Q) : tBM0 K T r ta σ H Q := k
theorem go_bm {T : String} {r : V → List V → Hp → VK → Prop} (k : ta σ H fun x H1 => tyV K T x H1 ∧ tA σ H1 fun xs H2 => r x xs H2 Q) : tBM K T r ta tA σ H Q := k
theorem go_sl {r : V → Option Int → Option Int → Hp → VK → Prop} {tl th : TO} (k : te σ H fun x H1 => tl σ H1 fun l H2 => th σ H2 fun u H3 => r x l u H3 Q) : tSl r te tl th σ H Q := k
theorem go_nopart {Q : Option Int → Hp → Prop} (k : Q none H) : tNoPart σ H Q := k
theorem go_part {Q : Option Int → Hp → Prop} (k : te σ H fun x H1 => ∃ i, x = .int i ∧ Q (some i) H1) : tPart te σ H Q := k
theorem go_int {j : Int} {Q : Int → Prop} (k : Q j) : ∃ i, V.int j = .int i ∧ Q i := ⟨j, rfl, k⟩
theorem go_aug {ti : TIp} (h : σ[i]? = some (some x)) (k : te σ H fun y H1 => ti x y H1 fun z H2 => D.nx (σ.set i (some z)) H2) : tAug i te ti D σ H := ⟨x, h, k⟩
theorem go_ipI {f : Int → Int → Int} {a b : Int} (k : Q (.int (f a b)) H) : ipI f (.int a) (.int b) H Q := ⟨a, b, rfl, rfl, k⟩
/-! #### operations on values -/
theorem go_I0 {f : Int → Int → V} {a b : Int} (k : Q (f a b) H) : rI0 f (.int a) (.int b) H Q := ⟨a, b, rfl, rfl, k⟩
theorem go_I {C : Int → Int → Prop} {f : Int → Int → V} {a b : Int} (hc : C a b) (k : Q (f a b) H) : rI C f (.int a) (.int b) H Q := ⟨a, b, rfl, rfl, hc, k⟩
theorem go_rU {f : Int → V} {a : Int} (k : Q (f a) H) : rU f (.int a) H Q := ⟨a, rfl, k⟩
theorem dec_i {a b : Int} : decide (V.int a = V.int b) = decide (a = b) := by simp
theorem dec_s {a b : Str} : decide (V.str a = V.str b) = decide (a = b) := by simp
theorem dec_b {a b : Bool} : decide (V.bl a = V.bl b) = decide (a = b) := by simp
theorem go_eqi {a b : Int} (k : Q (.bl (decide (a = b))) H) : rEqA K (.int a) (.int b) H Q := .inl ⟨rfl, by rw [dec_i]; exact k⟩
theorem go_nei {a b : Int} (k : Q (.bl (!decide (a = b))) H) : rNeA K (.int a) (.int b) H Q := .inl ⟨rfl, by rw [dec_i]; exact k⟩
theorem go_eqb {a b : Bool} (k : Q (.bl (decide (a = b))) H) : rEqA K (.bl a) (.bl b) H Q := .inl ⟨rfl, by rw [dec_b]; exact k⟩
theorem go_neb {a b : Bool} (k : Q (.bl (!decide (a = b))) H) : rNeA K (.bl a) (.bl b) H Q := .inl ⟨rfl, by rw [dec_b]; exact k⟩
theorem go_eqsT {a b : Str} (h : a = b) (k : Q (.bl true) H) : rEqA K (.str a) (.str b) H Q := .inl ⟨rfl, by rw [dec_s, decide_eq_true h]; exact k⟩
theorem go_eqsF {a b : Str} (h : ¬ a = b) (k : Q (.bl false) H) : rEqA K (.str a) (.str b) H Q := .inl ⟨rfl, by rw [dec_s, decide_eq_false h]; exact k⟩
theorem go_eqs {a b : Str} (k : Q (.bl (decide (a = b))) H) : rEqA K (.str a) (.str b) H Q := .inl ⟨rfl, by rw [dec_s]; exact k⟩
theorem go_nes {a b : Str} (k : Q (.bl (!decide (a = b))) H) : rNeA K (.str a) (.str b) H Q := .inl ⟨rfl, by rw [dec_s]; exact k⟩
theorem go_eqD {a b : V} {d e : PyData} (ha : Dp K H a d) (hb : Dp K H b e) (sa : SeqAt.shaped d = true) (sb : SeqAt.shaped e = true) (k : Q (.bl (PyData.eqv d e)) H) : rEqA K a b H Q := .inr (.inl ⟨d, e, ha, hb, sa, sb, k⟩)
theorem go_neD {a b : V} {d e : PyData} (ha : Dp K H a d) (hb : Dp K H b e) (sa : SeqAt.shaped d = true) (sb : SeqAt.shaped e = true) (k : Q (.bl (!PyData.eqv d e)) H) : rNeA K a b H Q := .inr (.inl ⟨d, e, ha, hb, sa, sb, k⟩)
theorem go_neV {a b : Addr} {ks ls : List (Key × V)} (n : Nat) (hn : n ≤ 60) (ha : H a = some (.dK ks)) (hb : H b = some (.dK ls)) (hl : ks.length = ls.length) (hp : ∀ p ∈ ks, ∃ u, valV ls p.1 = some u ∧ EqV K H n p.2 u) (k : Q (.bl false) H) : rNeA K (.ref a) (.ref b) H Q := .inr (.inr ⟨n, a, b, ks, ls, hn, rfl, rfl, ha, hb, hl, hp, k⟩)
theorem go_isN (k : Q (.bl (decide (x = .non))) H) : rIsN1 x .non H Q := ⟨rfl, k⟩
theorem go_notN (k : Q (.bl (!decide (x = .non))) H) : rNotN1 x .non H Q := ⟨rfl, k⟩
theorem go_isN_t (k : Q (.bl true) H) : rIsN1 .non .non H Q := ⟨rfl, k⟩
theorem go_notN_t (k : Q (.bl false) H) : rNotN1 .non .non H Q := ⟨rfl, k⟩
theorem go_isN_r {a : Addr} (k : Q (.bl false) H) : rIsN1 (.ref a) .non H Q := ⟨rfl, k⟩
theorem go_notN_r {a : Addr} (k : Q (.bl true) H) : rNotN1 (.ref a) .non H Q := ⟨rfl, k⟩
theorem go_isN_i {a : Int} (k : Q (.bl false) H) : rIsN1 (.int a) .non H Q := ⟨rfl, k⟩
theorem go_notN_i {a : Int} (k : Q (.bl true) H) : rNotN1 (.int a) .non H Q := ⟨rfl, k⟩
theorem go_addI {a b : Int} (k : Q (.int (a + b)) H) : rAddA K (.int a) (.int b) H Q := .inl ⟨a, b, rfl, rfl, k⟩
theorem go_addS {a b : Str} (h : a.length + b.length ≤ sizeLine) (k : Q (.str (a ++ b)) H) : rAddA K (.str a) (.str b) H Q := .inr (.inr (.inl ⟨a, b, rfl, rfl, h, k⟩))
theorem go_addL {a b : Addr} {xs ys : List V} (ha : H a = some (.lst xs)) (hb : H b = some (.lst ys)) (hl : xs.length + ys.length ≤ sizeLine) (k : ∀ p, H p = none → Q (.ref p) (upd H p (.lst (xs ++ ys)))) : rAddA K (.ref a) (.ref b) H Q :=
  .inr (.inl ⟨a, b, xs, ys, rfl, rfl, ha, hb, hl, k⟩)
theorem go_ltI {a b : Int} (k : Q (.bl (decide (a < b))) H) : rLtA K (.int a) (.int b) H Q := .inl ⟨a, b, rfl, rfl, k⟩
theorem go_ltT {a b : Addr} {ns ms : List Int} (ha : SqT K H a (ns.map V.int)) (hb : SqT K H b (ms.map V.int)) (k : Q (.bl (HT.lexLt ns ms)) H) : rLtA K (.ref a) (.ref b) H Q := .inr ⟨a, b, ns, ms, rfl, rfl, ha, hb, k⟩
/-- truth of a value -/
theorem go_truB {b : Bool} {Q : Bool → Prop} (k : Q b) : ∃ d, TruV K (.bl b) H d ∧ Q d := ⟨b, rfl, k⟩
theorem go_truN {Q : Bool → Prop} (k : Q false) : ∃ d, TruV K .non H d ∧ Q d := ⟨false, rfl, k⟩
theorem go_isi {x c : V} {t u : Value} {b : Bool} (hc : ClsV c u) (ht : TyX K H x t) (hk : PySem.W.kitOne K t u = some b) (k : Q (.bl b) H) : rIsi K [x, c] H Q := ⟨x, c, t, u, b, rfl, hc, ht, hk, k⟩
theorem go_isi_ii {r1 : Int} (k : Q (.bl true) H) : rIsi K [.int r1, .ty "int"] H Q := go_isi (.ty _) (.base (.int _)) (kit_ty (by decide +kernel)) k
theorem go_isi_ib {r1 : Int} (k : Q (.bl false) H) : rIsi K [.int r1, .ty "bool"] H Q := go_isi (.ty _) (.base (.int _)) (kit_ty (by decide +kernel)) k
theorem go_isi_is {r1 : Int} (k : Q (.bl false) H) : rIsi K [.int r1, .ty "str"] H Q := go_isi (.ty _) (.base (.int _)) (kit_ty (by decide +kernel)) k
theorem go_isi_ss {z : Str} (k : Q (.bl true) H) : rIsi K [.str z, .ty "str"] H Q := go_isi (.ty _) (.base (.str _)) (kit_ty (by decide +kernel)) k
theorem go_isi_si {z : Str} (k : Q (.bl false) H) : rIsi K [.str z, .ty "int"] H Q := go_isi (.ty _) (.base (.str _)) (kit_ty (by decide +kernel)) k
theorem go_isi_bi {z : Bool} (k : Q (.bl true) H) : rIsi K [.bl z, .ty "int"] H Q := go_isi (.ty _) (.base (.bl _)) (kit_ty (by decide +kernel)) k
theorem go_isi_bb {z : Bool} (k : Q (.bl true) H) : rIsi K [.bl z, .ty "bool"] H Q := go_isi (.ty _) (.base (.bl _)) (kit_ty (by decide +kernel)) k
theorem go_isi_ni (k : Q (.bl false) H) : rIsi K [.non, .ty "int"] H Q := go_isi (.ty _) (.base .non) (kit_ty (by decide +kernel)) k
theorem go_pow15 (k : Q (.int 1000000000000000) H) : rI CPow (fun i j => .int (i ^ j.toNat)) (.int 10) (.int 15) H Q := ⟨10, 15, rfl, rfl, ⟨by decide, by decide, by decide⟩, k⟩
theorem go_pow12 (k : Q (.int 1000000000000) H) : rI CPow (fun i j => .int (i ^ j.toNat)) (.int 10) (.int 12) H Q := ⟨10, 12, rfl, rfl, ⟨by decide, by decide, by decide⟩, k⟩
theorem go_pow6 (k : Q (.int 1000000) H) : rI CPow (fun i j => .int (i ^ j.toNat)) (.int 10) (.int 6) H Q := ⟨10, 6, rfl, rfl, ⟨by decide, by decide, by decide⟩, k⟩
theorem go_abs {r1 : Int} {Q1 : Int → Prop} (k : Q1 r1) : ∃ i, [V.int r1] = [V.int i] ∧ Q1 i := ⟨r1, rfl, k⟩
theorem go_max {r1 r2 : Int} {Q1 : Int → Int → Prop} (k : Q1 r1 r2) : ∃ i j, [V.int r1, V.int r2] = [V.int i, V.int j] ∧ Q1 i j := ⟨r1, r2, rfl, k⟩
theorem go_listL {p : Addr} {xs : List V} (h : SqL K H p xs) (k : ∀ l, H l = none → Q (.ref l) (upd H l (.lst xs))) : rListOf K [.ref p] H Q := ⟨p, xs, rfl, .inl h, k⟩
theorem go_listT {p : Addr} {xs : List V} (h : SqT K H p xs) (k : ∀ l, H l = none → Q (.ref l) (upd H l (.lst xs))) : rListOf K [.ref p] H Q := ⟨p, xs, rfl, .inr h, k⟩
theorem go_intI {a : Int} {Q1 : Int → Prop} {Q2 : Bool → Prop} (k : Q1 a) : (∃ i, [V.int a] = [V.int i] ∧ Q1 i) ∨ (∃ d, [V.int a] = [V.bl d] ∧ Q2 d) := .inl ⟨a, rfl, k⟩
theorem go_intB {b : Bool} {Q1 : Int → Prop} {Q2 : Bool → Prop} (k : Q2 b) : (∃ i, [V.bl b] = [V.int i] ∧ Q1 i) ∨ (∃ d, [V.bl b] = [V.bl d] ∧ Q2 d) := .inr ⟨b, rfl, k⟩
theorem go_subL {p : Addr} {xs : List V} {j : Int} {v : V} (h : SqL K H p xs) (e : atI xs j = some v) (k : Q v H) : rSub K (.ref p) (.int j) H Q := .inl (.inl ⟨p, xs, j, v, rfl, rfl, h, e, k⟩)
theorem go_subT {p : Addr} {xs : List V} {j : Int} {v : V} (h : SqT K H p xs) (e : atI xs j = some v) (k : Q v H) : rSub K (.ref p) (.int j) H Q := .inl (.inr ⟨p, xs, j, v, rfl, rfl, h, e, k⟩)
theorem go_subS {z : Str} {j : Int} {c : Nat} (h : z.length ≤ sizeLine) (e : atI z.cps.toList j = some c) (k : Q (.str ⟨#[c]⟩) H) : rSub K (.str z) (.int j) H Q := .inr (.inl ⟨z, j, c, rfl, rfl, h, e, k⟩)
theorem go_subD {p : Addr} {v : V} (g : DGet H p y (some v)) (k : Q v H) : rSub K (.ref p) y H Q := .inr (.inr ⟨p, v, rfl, g, k⟩)
theorem go_subK {p : Addr} {kvs : List (Key × V)} {z : Str} {v : V} (h : H p = some (.dK kvs)) (e : valV kvs (Sum.inr z) = some v) (k : Q v H) : rSub K (.ref p) (.str z) H Q := go_subD (y := .str z) (by have q := DGet.k (k := Sum.inr z) h; rw [e] at q; exact q) k
/-- an item of a told tuple, of a told list -/
theorem go_subDT {ds : List PyData} {j : Int} {n : Nat} {d : PyData} (h : Dp K H x (.tuple ds)) (hj : j = (n : Int)) (e : ds[n]? = some d) (k : ∀ v, Dp K H v d → Q v H) : rSub K x (.int j) H Q := by
  obtain ⟨a, xs, rfl, h1, h2⟩ := dp_tup h
  obtain ⟨v, e1, e2⟩ := dpa_get h2 e
  subst hj
  exact go_subT h1 (atI_nat e1) (k v e2)
theorem go_subDL {ds : List PyData} {j : Int} {n : Nat} {d : PyData} (h : Dp K H x (.list ds)) (hj : j = (n : Int)) (e : ds[n]? = some d) (k : ∀ v, Dp K H v d → Q v H) : rSub K x (.int j) H Q := by
  obtain ⟨a, xs, rfl, h1, h2⟩ := dp_lst h
  obtain ⟨v, e1, e2⟩ := dpa_get h2 e
  subst hj
  exact go_subL h1 (atI_nat e1) (k v e2)
/-- the same, of data that stays (in G) -/
theorem go_gT {G : Hp} {ds : List PyData} {j : Int} {n : Nat} {d : PyData} (e : Ext G H) (h : Dp K G x (.tuple ds)) (hj : j = (n : Int)) (hd : ds[n]? = some d) (k : ∀ v, Dp K G v d → Q v H) : rSub K x (.int j) H Q := by
  obtain ⟨a, xs, rfl, h1, h2⟩ := dp_tup h
  obtain ⟨v, e1, e2⟩ := dpa_get h2 hd
  subst hj
  exact go_subT (ext_t e h1) (atI_nat e1) (k v e2)
theorem go_gL {G : Hp} {ds : List PyData} {j : Int} {n : Nat} {d : PyData} (e : Ext G H) (h : Dp K G x (.list ds)) (hj : j = (n : Int)) (hd : ds[n]? = some d) (k : ∀ v, Dp K G v d → Q v H) : rSub K x (.int j) H Q := by
  obtain ⟨a, xs, rfl, h1, h2⟩ := dp_lst h
  obtain ⟨v, e1, e2⟩ := dpa_get h2 hd
  subst hj
  exact go_subL (ext_l e h1) (atI_nat e1) (k v e2)
theorem go_setL {p : Addr} {xs : List V} {j : Int} {n : Nat} {Q : Hp → Prop} (h : H p = some (.lst xs)) (e : ixN xs.length j = some n) (k : Q (upd H p (.lst (xs.set n v)))) : rSet (.ref p) (.int j) v H Q := .inl ⟨p, xs, j, n, rfl, rfl, h, e, k⟩
theorem go_setD {p : Addr} {H' : Hp} {Q : Hp → Prop} (g : DPut H p y v H') (k : Q H') : rSet (.ref p) y v H Q := .inr ⟨p, H', rfl, g, k⟩
theorem go_setK {p : Addr} {kvs : List (Key × V)} {z : Str} {Q : Hp → Prop} (h : H p = some (.dK kvs)) (hl : kvs.length < sizeLine) (k : Q (upd H p (.dK (putK kvs (Sum.inr z) v)))) : rSet (.ref p) (.str z) v H Q := go_setD (y := .str z) (DPut.k (k := Sum.inr z) h hl) k
theorem go_lenL {p : Addr} {xs : List V} (h : SqL K H p xs) (k : Q (.int (xs.length : Int)) H) : rLenA K [.ref p] H Q := .inl (.inl ⟨p, xs, rfl, .inl h, k⟩)
theorem go_lenT {p : Addr} {xs : List V} (h : SqT K H p xs) (k : Q (.int (xs.length : Int)) H) : rLenA K [.ref p] H Q := .inl (.inl ⟨p, xs, rfl, .inr h, k⟩)
theorem go_lenS {z : Str} (h : z.length ≤ sizeLine) (k : Q (.int (z.length : Int)) H) : rLenA K [.str z] H Q := .inl (.inr ⟨z, rfl, h, k⟩)
theorem go_lenK {p : Addr} {kvs : List (Key × V)} (h : H p = some (.dK kvs)) (k : Q (.int (kvs.length : Int)) H) : rLenA K [.ref p] H Q := .inr (.inl ⟨p, kvs, rfl, h, k⟩)
theorem go_lenDT {p : Addr} {kvs : List (List Key × V)} (h : H p = some (.dT kvs)) (k : Q (.int (kvs.length : Int)) H) : rLenA K [.ref p] H Q := .inr (.inr ⟨p, kvs, rfl, h, k⟩)
theorem go_app {p : Addr} {xs : List V} (h : H p = some (.lst xs)) (hl : xs.length < sizeLine) (k : Q .non (upd H p (.lst (xs ++ [y])))) : rAppend (.ref p) [y] H Q := ⟨p, xs, y, rfl, rfl, h, hl, k⟩
theorem go_tyL {p : Addr} {xs : List V} {R : Prop} (h : SqL K H p xs) (k : R) : tyV K "list" (.ref p) H ∧ R := ⟨.inl ⟨rfl, xs, h⟩, k⟩
theorem go_dK (k : ∀ p, H p = none → Q (.ref p) (upd H p (.dK []))) : tDNew σ H Q := .inl k
theorem go_dT (k : ∀ p, H p = none → Q (.ref p) (upd H p (.dT []))) : tDNew σ H Q := .inr k
theorem go_size {n : Nat} {R : Prop} (h : n ≤ 100000) (k : R) : n ≤ sizeLine ∧ R := ⟨by rw [sizeLine_eq]; omega, k⟩
theorem go_sz {n : Nat} {R : Prop} (h : Nat.ble n 100000 = true) (k : R) : n ≤ sizeLine ∧ R := go_size (Nat.le_of_ble_eq_true h) k
theorem go_iteT {A B : Prop} (h : A) : if true = true then A else B := iteT h
theorem go_iteF {A B : Prop} (h : B) : if false = true then A else B := iteF h
theorem go_iteFn {A B : Prop} (h : A) : if (!false) = true then A else B := h
theorem go_iteTn {A B : Prop} (h : B) : if (!true) = true then A else B := h
theorem go_ite {p : Prop} [Decidable p] {A B : Prop} (h1 : p → A) (h2 : ¬ p → B) : if decide p = true then A else B := by
  by_cases h : p
  · rw [decide_eq_true h]
    exact iteT (h1 h)
  · rw [decide_eq_false h]
    exact iteF (h2 h)
theorem go_iteN {p : Prop} [Decidable p] {A B : Prop} (h1 : ¬ p → A) (h2 : p → B) : if (!decide p) = true then A else B := by
  by_cases h : p
  · rw [decide_eq_true h]
    exact iteF (h2 h)
  · rw [decide_eq_false h]
    exact iteT (h1 h)
end
theorem ixN_nat {n : Nat} {i : Int} {j : Nat} (h : i = (j : Int)) (hj : j < n) : ixN n i = some j := by
  unfold ixN
  subst h
  rw [if_pos (by omega), if_pos (by omega)]
  simp
end Mo
namespace Mo
open PySem PySem.Spec PyProof.Rows L2
/-! #### loops -/
section
variable {K : PySem.W.Frag} {σ : St} {H : Hp} {tl : TE} {tA : TA} {D : Ends} {g : TG} {tb : TS} {c : TT}
def LoopX (g : TG) (tb : TS) (D : Ends) (σ : St) (H : Hp) (J : It) : Prop := ∃ W : Nat → Nat → St → Hp → Prop, (∃ m, W 0 m σ H) ∧ ∀ i m σ H, W i m σ H →
  (J.stop i H ∧ D.nx σ H) ∨ (J.go i H ∧ ∃ N : St → Hp → Prop, (∀ σ' H', N σ' H' → ∃ m', m' < m ∧ W (i + 1) m' σ' H') ∧ ∀ x H', J.yld i H x H' → g x σ H' fun σ2 H2 => tb { D with nx := N, ct := N, bk := D.nx } σ2 H2)
theorem go_for {wi : TI} (k : wi σ H fun J H1 => LoopX g tb D σ H1 J) : tFor wi g tb D σ H := k
theorem go_iR1 {R : It → Hp → Prop} (k : tA σ H fun vs H1 => ∃ j : Int, vs = [.int j] ∧ -(2 ^ 62) ≤ j ∧ j < 2 ^ 62 ∧ R (Itr 0 j.toNat) H1) : iRng1 tA σ H R := k
theorem go_iSeq {R : It → Hp → Prop} (k : tl σ H fun x H1 => ∃ a, x = .ref a ∧ (((∃ xs, SqL K H1 a xs) ∧ R (Itl K a) H1) ∨ ((∃ xs, SqT K H1 a xs) ∧ R (Itt K a) H1))) : iSeq K tl σ H R := k
theorem go_r1 {j : Int} {R : It → Prop} (n : Nat) (hj : j = (n : Int)) (hn : (n : Int) < 2 ^ 62) (k : R (Itr 0 n)) : ∃ j' : Int, [V.int j] = [V.int j'] ∧ -(2 ^ 62) ≤ j' ∧ j' < 2 ^ 62 ∧ R (Itr 0 j'.toNat) := by
  subst hj
  exact ⟨(n : Int), rfl, by omega, hn, by rw [Int.toNat_natCast]; exact k⟩
theorem loop_r (n : Nat) (Pv : Nat → St → Hp → Prop) (h0 : Pv 0 σ H)
    (hs : ∀ (i : Nat) σ' H', i < n → Pv i σ' H' → g (.int (i : Int)) σ' H' fun σ2 H2 => tb { D with nx := Pv (i + 1), ct := Pv (i + 1), bk := D.nx } σ2 H2) (hd : ∀ σ' H', Pv n σ' H' → D.nx σ' H') : LoopX g tb D σ H (Itr 0 n) :=
  for_range (lo := 0) (n := n) Pv h0 (fun i σ' H' hi p => by
    have q := hs i σ' H' hi p
    rw [Int.zero_add]
    exact q) hd
theorem go_sqL {p : Addr} {xs : List V} {R : It → Prop} (h : SqL K H p xs) (k : R (Itl K p)) : ∃ a, V.ref p = .ref a ∧ (((∃ xs, SqL K H a xs) ∧ R (Itl K a)) ∨ ((∃ xs, SqT K H a xs) ∧ R (Itt K a))) := ⟨p, rfl, .inl ⟨⟨xs, h⟩, k⟩⟩
theorem go_sqT {p : Addr} {xs : List V} {R : It → Prop} (h : SqT K H p xs) (k : R (Itt K p)) : ∃ a, V.ref p = .ref a ∧ (((∃ xs, SqL K H a xs) ∧ R (Itl K a)) ∨ ((∃ xs, SqT K H a xs) ∧ R (Itt K a))) := ⟨p, rfl, .inr ⟨⟨xs, h⟩, k⟩⟩
theorem loop_l {p : Addr} {xs : List V} (Pv : Nat → St → Hp → Prop) (h0 : Pv 0 σ H) (hl : ∀ i σ' H', i ≤ xs.length → Pv i σ' H' → SqL K H' p xs)
    (hs : ∀ i x σ' H', xs[i]? = some x → Pv i σ' H' → g x σ' H' fun σ2 H2 => tb { D with nx := Pv (i + 1), ct := Pv (i + 1), bk := D.nx } σ2 H2) (hd : ∀ σ' H', Pv xs.length σ' H' → D.nx σ' H') : LoopX g tb D σ H (Itl K p) :=
  for_list (xs := xs) Pv h0 hl hs hd
theorem loop_t {p : Addr} {xs : List V} (Pv : Nat → St → Hp → Prop) (h0 : Pv 0 σ H) (hl : ∀ i σ' H', i ≤ xs.length → Pv i σ' H' → SqT K H' p xs)
    (hs : ∀ i x σ' H', xs[i]? = some x → Pv i σ' H' → g x σ' H' fun σ2 H2 => tb { D with nx := Pv (i + 1), ct := Pv (i + 1), bk := D.nx } σ2 H2) (hd : ∀ σ' H', Pv xs.length σ' H' → D.nx σ' H') : LoopX g tb D σ H (Itt K p) :=
  for_tup (xs := xs) Pv h0 hl hs hd
theorem go_while (W : Nat → St → Hp → Prop) (m0 : Nat) (h0 : W m0 σ H)
    (hs : ∀ m σ' H', W m σ' H' → c σ' H' fun b H1 => if b = true then ∃ N : St → Hp → Prop, (∀ σ2 H2, N σ2 H2 → ∃ m', m' < m ∧ W m' σ2 H2) ∧ tb { D with nx := N, ct := N, bk := D.nx } σ' H1 else D.nx σ' H1) : tWhile c tb D σ H := ⟨W, ⟨m0, h0⟩, hs⟩
/-! #### list comprehensions -/
def LcX (J : It) (g : TG) (tt : TT) (te : TE) (vs : List Nat) (σ : St) (Dl : Addr) (Q : VK) (H : Hp) : Prop := ∃ W : Nat → Nat → Hp → Prop, (∃ m, W 0 m (upd H Dl (.lst []))) ∧ ∀ i m H, W i m H →
  (J.stop i H ∧ Q (.ref Dl) H) ∨ (J.go i H ∧ ∃ Nx : Hp → Prop, (∀ H', Nx H' → ∃ m', m' < m ∧ W (i + 1) m' H') ∧ ∀ x H', J.yld i H x H' → g x (wipe σ vs) H' fun σ2 H2 => wipe σ2 vs = wipe σ vs ∧ tt σ2 H2 fun b H3 =>
    if b = true then te σ2 H3 fun y H4 => ∃ acc, H4 Dl = some (.lst acc) ∧ acc.length < sizeLine ∧ Nx (upd H4 Dl (.lst (acc ++ [y]))) else Nx H3)
def LcA (g : TG) (tt : TT) (te : TE) (vs : List Nat) (σ : St) (Q : VK) (H : Hp) (J : It) : Prop := ∀ Dl, H Dl = none → LcX J g tt te vs σ Dl Q H
theorem go_lcA {tt : TT} {te : TE} {vs : List Nat} {Q : VK} {J : It} (k : ∀ Dl, H Dl = none → LcX J g tt te vs σ Dl Q H) : LcA g tt te vs σ Q H J := k
theorem go_lc {wi : TI} {tt : TT} {te : TE} {vs : List Nat} {Q : VK} (k : wi σ H fun J H1 => LcA g tt te vs σ Q H1 J) : tLc wi g tt te vs σ H Q := k
theorem lcx_r (n : Nat) {tt : TT} {te : TE} {vs : List Nat} {Dl : Addr} {Q : VK} (Pv : Nat → Hp → Prop) (h0 : Pv 0 (upd H Dl (.lst [])))
    (hs : ∀ (i : Nat) H', i < n → Pv i H' → g (.int (i : Int)) (wipe σ vs) H' fun σ2 H2 => wipe σ2 vs = wipe σ vs ∧ tt σ2 H2 fun b H3 =>
      if b = true then te σ2 H3 fun y H4 => ∃ acc, H4 Dl = some (.lst acc) ∧ acc.length < sizeLine ∧ Pv (i + 1) (upd H4 Dl (.lst (acc ++ [y]))) else Pv (i + 1) H3) (hd : ∀ H', Pv n H' → Q (.ref Dl) H') : LcX (Itr 0 n) g tt te vs σ Dl Q H :=
  lc_range (lo := 0) (n := n) Pv h0 (fun i H' hi p => by
    have q := hs i H' hi p
    rw [Int.zero_add]
    exact q) hd
theorem lcx_l {p : Addr} {xs : List V} {tt : TT} {te : TE} {vs : List Nat} {Dl : Addr} {Q : VK} (Pv : Nat → Hp → Prop) (h0 : Pv 0 (upd H Dl (.lst []))) (hl : ∀ i H', i ≤ xs.length → Pv i H' → SqL K H' p xs)
    (hs : ∀ i x H', xs[i]? = some x → Pv i H' → g x (wipe σ vs) H' fun σ2 H2 => wipe σ2 vs = wipe σ vs ∧ tt σ2 H2 fun b H3 =>
      if b = true then te σ2 H3 fun y H4 => ∃ acc, H4 Dl = some (.lst acc) ∧ acc.length < sizeLine ∧ Pv (i + 1) (upd H4 Dl (.lst (acc ++ [y]))) else Pv (i + 1) H3) (hd : ∀ H', Pv xs.length H' → Q (.ref Dl) H') : LcX (Itl K p) g tt te vs σ Dl Q H :=
  lc_list (xs := xs) Pv h0 hl hs hd
theorem lcx_t {p : Addr} {xs : List V} {tt : TT} {te : TE} {vs : List Nat} {Dl : Addr} {Q : VK} (Pv : Nat → Hp → Prop) (h0 : Pv 0 (upd H Dl (.lst []))) (hl : ∀ i H', i ≤ xs.length → Pv i H' → SqT K H' p xs)
    (hs : ∀ i x H', xs[i]? = some x → Pv i H' → g x (wipe σ vs) H' fun σ2 H2 => wipe σ2 vs = wipe σ vs ∧ tt σ2 H2 fun b H3 =>
      if b = true then te σ2 H3 fun y H4 => ∃ acc, H4 Dl = some (.lst acc) ∧ acc.length < sizeLine ∧ Pv (i + 1) (upd H4 Dl (.lst (acc ++ [y]))) else Pv (i + 1) H3) (hd : ∀ H', Pv xs.length H' → Q (.ref Dl) H') : LcX (Itt K p) g tt te vs σ Dl Q H :=
  lc_tup (xs := xs) Pv h0 hl hs hd
theorem go_yes {Q : Bool → Hp → Prop} (k : Q true H) : tYes σ H Q := k
theorem go_acc {Dl : Addr} {acc : List V} {y : V} {Q : Hp → Prop} (h : H Dl = some (.lst acc)) (hl : acc.length < sizeLine) (k : Q (upd H Dl (.lst (acc ++ [y])))) : ∃ acc', H Dl = some (.lst acc') ∧ acc'.length < sizeLine ∧ Q (upd H Dl (.lst (acc' ++ [y]))) := ⟨acc, h, hl, k⟩
end
/-! #### how large a number is -/
def Bd (n : Nat) (x : Int) : Prop := x.natAbs < 2 ^ n
instance {n : Nat} {x : Int} : Decidable (Bd n x) := inferInstanceAs (Decidable (x.natAbs < 2 ^ n))
theorem Bd.mono {a b : Nat} {x : Int} (h : Bd a x) (e : a ≤ b) : Bd b x := Nat.lt_of_lt_of_le h (Nat.pow_le_pow_right (by decide) e)
theorem Bd.mul {a b : Nat} {x y : Int} (h : Bd a x) (k : Bd b y) : Bd (a + b) (x * y) := by
  unfold Bd at *
  rw [Int.natAbs_mul, Nat.pow_add]
  exact Nat.mul_lt_mul'' h k
theorem Bd.add {a : Nat} {x y : Int} (h : Bd a x) (k : Bd a y) : Bd (a + 1) (x + y) := by
  unfold Bd at *
  have e : (2 : Nat) ^ (a + 1) = 2 ^ a + 2 ^ a := by rw [Nat.pow_succ]; omega
  rw [e]
  have := Int.natAbs_add_le x y
  omega
theorem Bd.cmul {a b : Nat} {x y : Int} (h : Bd a x) (k : Bd b y) (h0 : 0 < a := by decide) (h1 : 0 < b := by decide) (e : a + b ≤ 134000000 := by decide) : CMulX x y := mulX_of a b h k h0 h1 e
theorem bd_bits {x : Int} (h : Builtin.Int.intBits x ≤ 1048576) : Bd 1048576 x := by
  unfold Builtin.Int.intBits at h
  show x.natAbs < 2 ^ 1048576
  generalize 1048576 = n at h
  by_cases e : x.natAbs = 0
  · rw [e]
    exact Nat.pow_pos (by decide)
  · refine (Nat.log2_lt e).mp ?_
    have z : (x == 0) = false := beq_eq_false_iff_ne.mpr (by omega)
    rw [z, if_neg Bool.false_ne_true] at h
    omega
theorem go_mod {H : Hp} {Q : VK} {f : Int → Int → V} {a b : Int} (hb : b ≠ 0) (k : Q (f a b) H) : rI CMod f (.int a) (.int b) H Q := go_I hb k
theorem go_div {H : Hp} {Q : VK} {f : Int → Int → V} {a b : Int} (n : Nat) (hb : b ≠ 0) (h : Bd n b) (k : Q (f a b) H) (h0 : 0 < n := by decide) (h9 : n ≤ 9000 := by decide) : rI CDivX f (.int a) (.int b) H Q := go_I ⟨hb, Nat.lt_of_lt_of_le (log2_bd h h0) h9⟩ k
theorem bd_range {n : Nat} {x m : Int} (h0 : 0 ≤ x) (h : x < m) (k : Bd n m) : Bd n x := Nat.lt_trans (by omega) k
end Mo
local macro_rules | `(tactic| k_extra "s0") => `(tactic| with_reducible first
  | refine Mo.go_seq ?_
  | refine Mo.go_asg ?_
  | refine Mo.go_op ?_
  | refine Mo.go_c ?_
  | refine Mo.go_gn ?_
  | refine Mo.go_test ?_
  | refine Mo.go_bl ?_
  | refine Mo.go_iteT ?_
  | refine Mo.go_iteF ?_
  | refine Mo.go_I0 ?_
  | refine Mo.go_cons ?_
  | refine Mo.go_nil ?_
  | refine Mo.go_call ?_
  | refine Mo.go_ret ?_
  | refine Mo.go_eqi ?_
  | refine Mo.go_addI ?_
  | refine Mo.go_ltI ?_
  | refine Mo.go_truB ?_
  | refine Mo.go_truN ?_
  | refine Mo.go_intB ?_
  | refine Mo.go_isN_t ?_
  | refine Mo.go_notN_t ?_
  | refine Mo.go_isN_r ?_
  | refine Mo.go_notN_r ?_
  | refine Mo.go_nei ?_
  | refine Mo.go_cb ?_
  | refine Mo.go_drop ?_
  | refine Mo.go_tup ?_
  | refine Mo.go_lst ?_
  | refine Mo.go_next ?_
  | refine Mo.go_fld ?_
  | refine Mo.go_sfld ?_
  | refine Mo.go_meth ?_
  | refine Mo.go_make ?_
  | refine Mo.go_bm ?_
  | refine Mo.go_bm0 ?_
  | refine Mo.go_gsub ?_
  | refine Mo.go_gcons ?_
  | refine Mo.go_gnil ?_
  | refine Mo.go_and ?_
  | refine Mo.go_or ?_
  | refine Mo.go_not ?_
  | refine Mo.go_andV ?_
  | refine Mo.go_orV ?_
  | refine Mo.go_notV ?_
  | refine Mo.go_un ?_
  | refine Mo.go_rU ?_
  | refine Mo.go_sl ?_
  | refine Mo.go_nopart ?_
  | refine Mo.go_part ?_
  | refine Mo.go_int ?_
  | refine Mo.go_ifE ?_
  | refine Mo.go_tb ?_
  | refine Mo.go_ipI ?_
  | refine Mo.go_iteFn ?_
  | refine Mo.go_iteTn ?_
  | refine Mo.go_eqb ?_
  | refine Mo.go_neb ?_
  | refine Mo.go_brk ?_
  | refine Mo.go_for ?_
  | refine Mo.go_iR1 ?_
  | refine Mo.go_iSeq ?_
  | refine Mo.go_lc ?_
  | refine Mo.go_yes ?_
  | refine Mo.go_cont ?_
  | refine Mo.go_isi_ii ?_
  | refine Mo.go_isi_ib ?_
  | refine Mo.go_isi_is ?_
  | refine Mo.go_isi_ss ?_
  | refine Mo.go_isi_si ?_
  | refine Mo.go_isi_bi ?_
  | refine Mo.go_isi_bb ?_
  | refine Mo.go_isi_ni ?_
  | refine Mo.go_pow15 ?_
  | refine Mo.go_pow12 ?_
  | refine Mo.go_pow6 ?_
  | refine Mo.go_fldaug ?_
  | refine Mo.go_addR ?_
  | refine Mo.go_subR ?_)
local macro_rules | `(tactic| k_extra "s") => `(tactic| first
  | k_extra "s0"
  | (with_reducible refine Mo.go_ifS ?_))
local macro_rules | `(tactic| k_extra "v") => `(tactic| ((with_reducible refine' Mo.go_var ?k1 ?_); (case k1 => exact rfl)))
local macro_rules | `(tactic| k_extra "e") => `(tactic| first
  | ((with_reducible refine Mo.go_eqsT ?k1 ?_); (case k1 => with_reducible exact rfl))
  | ((with_reducible refine Mo.go_eqsF ?k1 ?_); (case k1 => decide +kernel)))
local macro_rules | `(tactic| k_extra "w") => `(tactic| repeat (first | k_extra "v" | k_extra "s"))
local macro_rules | `(tactic| k_extra "we") => `(tactic| repeat (first | k_extra "v" | k_extra "s" | k_extra "e"))
local macro_rules | `(tactic| k_extra "w0") => `(tactic| repeat (first | k_extra "v" | k_extra "s0" | k_extra "e"))
namespace Mo
open PySem PySem.Spec PyProof.Rows L2
/-! ### exceptions that are held as values -/
/-- an exception of the class at D, at a -/
def ExV (D a : Addr) : HO := .ext fun h => ∃ (oe : Obj) (vs : Array Value), h.get? a = some oe ∧ Zc (.ref D) none oe ∧ oe.data = .fields vs
/-- an object that is such a one -/
def IsEx (D a : Addr) (o : HO) : Prop := ∃ φ : Heap → Prop, o = .ext φ ∧ ∀ h, φ h → ∃ (oe : Obj) (vs : Array Value), h.get? a = some oe ∧ Zc (.ref D) none oe ∧ oe.data = .fields vs
theorem isEx_V {D a : Addr} : IsEx D a (ExV D a) := ⟨_, rfl, fun _ h => h⟩
theorem isEx_inst {D a : Addr} {h : Heap} {oe : Obj} {vs : Array Value} (e : h.get? a = some oe) (z : Zc (.ref D) none oe) (d : oe.data = .fields vs) : PySem.W.InstAt h a oe D none := by
  obtain ⟨oc, od, oda, osl⟩ := oe
  obtain ⟨h1, h2⟩ := z
  dsimp only at h1 h2 d
  subst h1 h2 d
  exact ⟨e, rfl, rfl, trivial⟩
theorem IsEx.inst {P : Program} {w : World} {H : Hp} {h : Heap} {D a : Addr} {o : HO} (x : IsEx D a o) (k : ObjOk P w H h a o) : ∃ oe, PySem.W.InstAt h a oe D none := by
  obtain ⟨φ, rfl, f⟩ := x
  obtain ⟨oe, vs, e, z, d⟩ := f h k.1
  exact ⟨oe, isEx_inst e z d⟩
/-- the exception that a suite held is tracked behind it -/
theorem inv_track {X : Cx} {pins : List (Addr × Obj)} {σ : St} {H : Hp} {s : Shared} {a D : Addr} {oe : Obj} {vs : Array Value} (I : Inv X ((a, oe) :: pins) σ H s) (n0 : X.s_0.heap.get? a = none) (np : ∀ p ∈ X.pn ++ pins, p.1 ≠ a) (z : Zc (.ref D) none oe) (d : oe.data = .fields vs) :
    Inv X pins σ (upd H a (ExV D a)) s := by
  obtain ⟨ga, na, nL, nF, nc⟩ := I.pin (a, oe) (List.mem_append_right _ List.mem_cons_self)
  have ga : s.heap.get? a = some oe := ga
  have na : H a = none := na
  have ne0 : ∀ b o, X.s_0.heap.get? b = some o → b ≠ a := fun b o e q => by rw [q, n0] at e; cases e
  refine ⟨I.ok, I.os, I.bare, ⟨I.base.keep, I.base.slot, fun b o e n hx => ?_, I.base.there, fun b xs e => ?_, fun b o u e => ?_, fun b ps e => ?_⟩, I.loc, I.cell, ?_, fun x c e => ?_, fun p hp => ?_, fun b u e => ?_, I.len⟩
  · rw [upd_ne (ne0 b o e)]
    exact I.base.free b o e n hx
  · rw [upd_ne (ne_of_none (I.base.tups b xs e) na)]
    exact I.base.tups b xs e
  · rw [upd_ne (ne_of_none (I.base.frzs b o u e) na)]
    exact I.base.frzs b o u e
  · obtain ⟨m, q⟩ := I.base.tbls b ps e
    exact ⟨m, by rw [upd_ne (ne_of_none q na)]; exact q⟩
  · rw [upd_ne (fun q => nL q.symm)]
    exact I.free
  · have hc : c ≠ a := fun q => by
      obtain ⟨v, o, ho, hd⟩ := I.cell x c e
      rw [q, ga] at ho
      cases ho
      exact nc v hd
    rw [upd_ne hc]
    exact I.freeC x c e
  · obtain ⟨e, n, r⟩ := I.pin p (by
      rcases List.mem_append.mp hp with h | h
      · exact List.mem_append_left _ h
      · exact List.mem_append_right _ (List.mem_cons_of_mem _ h))
    exact ⟨e, by rw [upd_ne (np p hp)]; exact n, r⟩
  · by_cases hb : b = a
    · subst hb
      rw [upd_same] at e
      cases e
      exact ⟨⟨oe, vs, ga, z, d⟩, ⟨oe, ga⟩, fun _ _ ⟨o, v, q, r⟩ k => ⟨o, v, k o q, r⟩⟩
    · rw [upd_ne hb] at e
      exact (I.hok b u e).stay (fun c v _ q => q) (fun c q => by rw [upd_ne (ne_of_none q na)]; exact q) fun c xs q => by rw [upd_ne (ne_of_none q na)]; exact q
/-- what the clause 'except x as n' wishes: behind it the exception is kept -/
def wKeep (K : PySem.W.Frag) (c : Value) (i : Nat) (ts : Addr → Value → Option Addr → TS) (Wout : WX) (D : Ends) : WX := fun cls d σ H =>
  ∃ b, PySem.W.exmOne K cls c = some b ∧ (b = true → d = none ∧ ∃ C, cls = .ref C ∧ ∀ a, H a = none → ts a cls d { nx := fun σ' H' => H' a = none → D.nx (σ'.set i none) (upd H' a (ExV C a)), rt := fun v H' => H' a = none → D.rt v (upd H' a (ExV C a)), bk := fun σ' H' => H' a = none → D.bk (σ'.set i none) (upd H' a (ExV C a)), ct := fun σ' H' => H' a = none → D.ct (σ'.set i none) (upd H' a (ExV C a)) } (σ.set i (some (.ref a))) H) ∧
    (b = false → Wout cls d σ H)
section
variable {X : Cx} {x n : Str} {c : Value} {i : Nat} {body suite : List Stmt} {b₀ : Stmt} {np pos pos' : Pos} {tb : WX → TS} {ts : Addr → Value → Option Addr → TS} {Wout : WX}
theorem ps_try_keep (hs : X.stack = X.env :: X.outer) (hf : X.env.frame = some X.env.locals) (hex : X.ex = []) (hN : X.N.Nodup) (hi : X.N[i]? = some n) (hln : X.env.kindOf n = some .local) (hc : Names X x c) (tk : Takes X Wout)
    (hb : ∀ (W : WX) (pn : List (Addr × Obj)) (xe : Value → Shared → Prop), Takes (X.tr pn xe) W → PassesOwn (model X.prog X.w) X.A X.env xe → PSs (X.tr pn xe) body (tb W))
    (hsu : ∀ (a : Addr) (oe : Obj) (cls : Value) (d : Option Addr) (pn : List (Addr × Obj)), Zc cls d oe → (∃ vs, oe.data = .fields vs) → PSs (X.suite a ((a, oe) :: pn)) (b₀ :: suite) (ts a cls d)) :
    PS X (.Try body [.ExceptHandler (some (.Name x np)) (some n) (b₀ :: suite) pos'] [] [] pos) (fun D σ H => tb (wKeep X.K c i ts Wout D) D σ H) := by
  refine ⟨fun pins s σ H D I h => ?_⟩
  have ok := I.ok
  have hfr : X.A.frames = some (X.env :: X.outer) := by rw [ok.frames, hs]
  have hloc : Loc X.env.scope n := .inl hln
  refine wpAny_Try_except ?_
  refine wpAny_mono ((hb (wKeep X.K c i ts Wout D) (X.pn ++ pins) (fun e s₁ => wpAny (model X.prog X.w) X.A (noteFrame e X.env) (fun _ s₂ => wpAny (model X.prog X.w) X.A (setFlight e none) (fun _ s₃ =>
    wpAny (model X.prog X.w) X.A (handleBy e X.env [.ExceptHandler (some (.Name x np)) (some n) (b₀ :: suite) pos']) (SP X pins D) X.xe s₃) X.xe s₂) X.xe s₁) (fun u s' xx => ?_) PassesOwn.looking).run [] s σ H D (I.toTry _) h) (fun f s1 hsp => ?_) (fun e s1 he => he)
  · -- the catch
    obtain ⟨a, B, sI, pins', σ', H', cls, d, rfl, J', nb, up, sky, na, os, ag, b, hb1, hyes, hno⟩ := xx
    have J : Inv X pins σ' H' sI := J'.ofTry ok
    have sky' : Sky B (X.env :: X.outer) a (Zc cls d) X.env.locals s'.heap := by rw [← hs]; exact sky
    show wpAny (model X.prog X.w) X.A (noteFrame (.ref a) X.env) _ _ _
    refine Sky.land Zc.steady hfr hf sky' fun h3 fl3 up3 => ?_
    have J3 : Inv X pins σ' H' { s' with heap := h3 } := J.landed nb fl3.1 (up.trans up3) os ag
    obtain ⟨oe3, vs3, he3, hz3, hd3⟩ := fl3.there
    have notFr : ∀ {h : Heap} {o : Obj} {vs : Array Value}, h.FunFrames B (X.env :: X.outer) → h.get? a = some o → o.data = .fields vs → a ∉ frs (X.env :: X.outer) := fun {h o vs} ff e dd hm => by
      obtain ⟨_, o', e', hnf⟩ := ff.mem hm
      rw [e] at e'; cases e'
      exact hnf _ dd
    have nfr := notFr fl3.2.2.1 he3 hd3
    have nL : a ≠ X.env.locals := fun z => nfr (List.mem_filterMap.mpr ⟨X.env, List.mem_cons_self, by rw [hf, z]⟩)
    have nF : a ∉ X.fs := fun hm => by
      obtain ⟨e, he, q⟩ := List.mem_filterMap.mp hm
      exact nfr (List.mem_filterMap.mpr ⟨e, List.mem_cons_of_mem _ he, q⟩)
    have gI : ∀ o, sI.heap.get? a ≠ some o := fun o e => by
      have z := nb a o e (by rw [hs]; exact nfr)
      rw [fl3.2.1] at z
      cases z
    have n0 : X.s_0.heap.get? a = none := by
      cases e : X.s_0.heap.get? a with
      | none => rfl
      | some o =>
        obtain ⟨o', e'⟩ := J.base.there a o e (by rw [hex]; exact fun z => nomatch z)
        exact absurd e' (gI o')
    have np' : ∀ p ∈ X.pn ++ pins, p.1 ≠ a := fun p hp z => by
      obtain ⟨e, _⟩ := J.pin p hp
      rw [z] at e
      exact gI _ e
    have S3 := J3.suite he3 hd3 na nL nF
    refine wpAny_handleBy_cons (codeAny_handlers_test ?_) (by intro q; cases q)
    have LT : PySem.W.Looks (model X.prog X.w) h3 (typeOf (.ref a)) cls := fun A Q E s k q => wpAny_typeOf_ref (k _ _ he3) (by rw [hz3.1]; exact q)
    have LM := PySem.W.exm_one (M := model X.prog X.w) (J3.kIn) LT hb1
    have test : ∀ {Q : Value → Shared → Prop} {E : Value → Shared → Prop}, Q c { s' with heap := h3 } → wpAny (model X.prog X.w) (X.A.mark (some (.ref a))) (eval (.Name x np) X.env) Q E { s' with heap := h3 } := fun {Q E} q => by
      obtain ⟨hg, hdbg, hm | ⟨hm, hv, hnn⟩⟩ := hc
      · exact ld_glob (X := X.suite a ((a, oe3) :: (X.pn ++ pins))) S3 hg hm q hdbg
      · exact ld_blt (X := X.suite a ((a, oe3) :: (X.pn ++ pins))) S3 hg hm hv q hnn hdbg
    refine test (LM.here ?_)
    cases b with
    | true =>
      obtain ⟨rfl, C, rfl, hyes⟩ := hyes rfl
      refine codeAny_handlers_suite_as ?_
      refine HandSPX.lands_againZ fl3 fun h4 fl4 up4 => ?_
      have J4 : Inv X pins σ' H' { s' with heap := h4 } := J.landed nb fl4.1 ((up.trans up3).trans up4) os ag
      obtain ⟨oe4, vs4, he4, hz4, hd4⟩ := fl4.there
      have S4 := J4.suite he4 hd4 na nL nF
      refine store_ok (X := X.suite a ((a, oe4) :: (X.pn ++ pins))) (v := .ref a) S4 hN hi hloc rfl (fun s5 S5 => ?_) (.inr hln)
      refine wpAny_mono ((hsu a oe4 _ none (X.pn ++ pins) hz4 ⟨_, hd4⟩).run [] s5 _ H' _ S5 (hyes a na)) (fun f s6 hsp => ?_) (fun _ _ z => False.elim z)
      have end_ : ∀ {σ6 : St} {H6 : Hp} {Q : Shared → Prop}, Inv (X.suite a ((a, oe4) :: (X.pn ++ pins))) [] σ6 H6 s6 → (∀ s7, H6 a = none → Inv X pins (σ6.set i none) (upd H6 a (ExV C a)) s7 → Q s7) →
          wpAny (model X.prog X.w) X.A (do bindName X.env n .none; unbindBehindTheSuite X.env n pos') (fun _ s7 => Q s7) X.xe s6 := fun {σ6 H6 Q} S6 hq => by
        have S6' : Inv X ((a, oe4) :: pins) σ6 H6 s6 := ⟨ok, S6.os, S6.bare, S6.base, S6.loc, S6.cell, S6.free, S6.freeC, fun p hp => S6.pin p (List.mem_append_left _ (by
          rcases List.mem_append.mp hp with h | h
          · exact List.mem_cons_of_mem _ (List.mem_append_left _ h)
          · rcases List.mem_cons.mp h with h | h
            · rw [h]; exact List.mem_cons_self
            · exact List.mem_cons_of_mem _ (List.mem_append_right _ h))), S6.hok, S6.len⟩
        exact gone_ok S6' hN hi hln fun s7 J7 => hq s7 (J7.pin (a, oe4) (List.mem_append_right _ List.mem_cons_self)).2.1 (inv_track J7 n0 np' hz4 hd4)
      cases f with
      | next =>
        obtain ⟨σ6, H6, S6, q6⟩ := hsp
        exact end_ S6 fun s7 e7 J7 => ⟨_, _, J7, q6 e7⟩
      | brk =>
        obtain ⟨σ6, H6, S6, q6⟩ := hsp
        exact end_ S6 fun s7 e7 J7 => ⟨_, _, J7, q6 e7⟩
      | cont =>
        obtain ⟨σ6, H6, S6, q6⟩ := hsp
        exact end_ S6 fun s7 e7 J7 => ⟨_, _, J7, q6 e7⟩
      | ret u =>
        obtain ⟨v6, σ6, H6, S6, r6, q6⟩ := hsp
        exact end_ S6 fun s7 e7 J7 => ⟨_, _, _, J7, r6, q6 e7⟩
    | false =>
      show wpAny _ X.A (handleBy (.ref a) X.env []) _ _ _
      refine wpAny_handleBy_nil ?_
      obtain ⟨k1, k2, k3, oe, vs, T, oT, ts', he, hz, hd, h1, hr⟩ := id fl3
      unfold PySem.passOn
      refine wpAny_bind (wpAny_field he hd h1 ?_)
      rw [if_neg (show ¬ ((Value.ref T == Value.none) = true) from by simp)]
      have fin : wpAny (model X.prog X.w) X.A (setFlight (.ref a) X.env.frame) (fun _ s4 => wpAny (model X.prog X.w) X.A (throw (.ref a) : Sem Flow) (SP X pins D) X.xe s4) X.xe { s' with heap := h3 } := by
        rw [hf]
        refine HandSPX.setFlight_upZ fl3 fun h4 hh4 up4 => wpAny_throw (tk _ _ ?_)
        exact ⟨a, B, sI, pins, σ', H', cls, d, rfl, J, nb, (up.trans up3).trans up4, .inr (.inr (by rw [hs]; exact hh4)), na, os, ag, hno rfl⟩
      first
        | exact wpAny_bind (wpAny_pure (wpAny_bind fin))
        | exact wpAny_bind fin
  · cases f with
    | next =>
      obtain ⟨σ', H', J', q⟩ := hsp
      exact wpAny_execs_nil ⟨σ', H', J'.ofTry ok, q⟩
    | brk =>
      obtain ⟨σ', H', J', q⟩ := hsp
      exact ⟨σ', H', J'.ofTry ok, q⟩
    | cont =>
      obtain ⟨σ', H', J', q⟩ := hsp
      exact ⟨σ', H', J'.ofTry ok, q⟩
    | ret u =>
      obtain ⟨v, σ', H', J', r, q⟩ := hsp
      exact ⟨v, σ', H', J'.ofTry ok, r, q⟩
end
def tTruK (K : PySem.W.Frag) (ta : TE) : TT := fun σ H Q => ta σ H fun x H' => ∃ k, TruV K x H' k ∧ Q k H'
theorem pt_truthK {X : Cx} {K : PySem.W.Frag} {a : Expr} {ta : TE} (hK : X.K = K) (ha : PE X a ta) (he : ∀ whole, isTrue a X.env whole = (do let v ← whole; standAt a.pos; holding [v] (truthy v))) : PT X a (fun σ H Q => ta σ H fun x H' => ∃ k, TruV K x H' k ∧ Q k H') := hK ▸ pt_truth ha he
/-! #### what an exception's class says -/
def excCB (K : PySem.W.Frag) (C : Str) : Bool := He.eqO (PySem.W.findIn K (.ref (He.ga K C)) "__getattribute__") (some (some (.builtin "BaseException.__getattribute__"))) && (He.eqO (PySem.W.findIn K (.ref (He.ga K C)) "__getattr__") (some none) && (decide (PySem.W.subIn K (.ref (He.ga K C)) (.type "BaseException") = some true) && (PySem.W.hasDictIn K (He.ga K C) && (
  He.eqO (PySem.W.findIn K (.ref (He.ga K C)) "__class__") (some (some (.builtin "object.__class__"))) && (He.eqO (PySem.W.specialIn K (.builtin "object.__class__") "__get__") (some (some (.builtin "getset_descriptor.__get__"))) &&
  (decide (PySem.W.takesIn K (.builtin "object.__class__") = some true) && decide (PySem.W.mroIn K (He.ga K C) (.type "object") = some true)))))))
theorem excC_of {K : PySem.W.Frag} {C : Str} (h : excCB K C = true) : ExcC K (He.ga K C) := by
  unfold excCB at h
  simp only [Bool.and_eq_true] at h
  obtain ⟨h1, h2, h3, h4, h5, h6, h7, h8⟩ := h
  exact ⟨He.eqO_ok h1, He.eqO_ok h2, of_decide_eq_true h3, h4, He.eqO_ok h5, He.eqO_ok h6, of_decide_eq_true h7, of_decide_eq_true h8⟩
def kitTB (K : PySem.W.Frag) (C : Str) (n : String) (b : Bool) : Bool := decide (PySem.W.kitOne K (.ref (He.ga K C)) (.type n) = some b)
theorem kitT_of {K : PySem.W.Frag} {C : Str} {n : String} {b : Bool} (h : kitTB K C n b = true) : PySem.W.kitOne K (.ref (He.ga K C)) (.type n) = some b := of_decide_eq_true h
/-- isinstance of a kept exception -/
def rIsX (K : PySem.W.Frag) : List V → Hp → VK → Prop := fun xs H Q => ∃ (a D : Addr) (o : HO) (c : V) (cv : Value) (b : Bool), xs = [.ref a, c] ∧ H a = some o ∧ IsEx D a o ∧ ExcC K D ∧ ClsV c cv ∧ PySem.W.kitOne K (.ref D) cv = some b ∧ Q (.bl b) H
theorem call_isX {X : Cx} : CallR X (.builtin "isinstance") (rIsX X.K) := by
  intro pins s σ H xs us Q I r h
  obtain ⟨a, D, o, c, cv, b, rfl, ha, x, C, hc, e, q⟩ := h
  obtain ⟨u1, u2, rfl, r1, r2⟩ := vals2 r
  cases (show u1 = Value.ref a from r1)
  have e2 := hc.eq r2
  subst e2
  obtain ⟨oe, J⟩ := x.inst (I.hok a o ha)
  exact PySem.W.kia_one (PySem.W.handS_kitx_exc C.hg C.hk C.hs C.hd C.ha C.hn C.ht C.hm) I.kIn J e (fun z => nomatch z) fun tk => ⟨.bl b, H, I.kept (t' := tk) fun _ _ z => z, rfl, q⟩
def rIsiX (K : PySem.W.Frag) : List V → Hp → VK → Prop := fun xs H Q => rIsi K xs H Q ∨ rIsX K xs H Q
theorem call_isiXK {X : Cx} {K : PySem.W.Frag} (hK : X.K = K) : CallR X (.builtin "isinstance") (rIsiX K) := hK ▸ call_isi.or call_isX
/-- X(e): a new exception as a value -/
def tExc (D : Addr) (ta : TE) : TE := fun σ H Q => ta σ H fun _ H1 => ∀ a, H1 a = none → Q (.ref a) (upd H1 a (ExO (.ref D) a))
theorem pe_excK {X : Cx} {K : PySem.W.Frag} {x : Str} {e : Expr} {ta : TE} {p pos : Pos} (hK : X.K = K) (F : ExF K X.mg x) (he : PE X e ta) (hg : Gl X x := by rfl) (hs : starEach [e] X.env = (false, eval e X.env) :: starEach [] X.env := by rfl) (hdb : (x == ("__debug__" : Str)) = false := by decide) :
    PE X (.Call (.Name x p) [e] [] pos) (tExc (He.ga K x) ta) := by
  subst hK
  exact pe_exc1 PySem.F.excBase_ValueError F.ex F.gl F.kp hg he hs hdb
/-! #### a method of an exception -/
theorem exc_meth {K : PySem.W.Frag} {prog : Program} {w : World} {A : Around} {E : Value → Shared → Prop} {s : Shared} {x C f : Addr} {ox : Obj} {name : Str} {pl : Sem Bool} {Q : Value × List Value → Shared → Prop} (X : K.In s.heap) (I : PySem.W.InstAt s.heap x ox C none) (c : ExcC K C)
    (hf : PySem.W.findIn K (.ref C) name = some (some (.ref f))) (ht : PySem.W.isFn K (.ref f) = true) (h : Q (.ref f, [.ref x]) s) : wpAny (model prog w) A (getMethod (.ref x) name pl) Q E s := by
  have hcan : Manifest.canonical "BaseException.__getattribute__" = "object.__getattribute__" := by first | kernel_rfl | decide +kernel
  unfold getMethod specialOf
  refine wpAny_bind (wpAny_bind (I.type.here ((PySem.W.looks_findIn X c.hg).here ?_)))
  dsimp only
  rw [hcan, if_neg (by decide)]
  refine wpAny_bind (wpAny_bind (I.type.here ((PySem.W.looks_findIn X c.hk).here ?_)))
  refine wpAny_bind (wpAny_bind (I.type.here ((PySem.W.looks_findIn X hf).here (wpAny_bind ((PySem.W.looks_typeIn X (beq_iff_eq.mp ht)).here ?_)))))
  rw [if_neg (by decide +kernel)]
  refine wpAny_bind (wpAny_loadPart I.at_ ?_)
  have hd := I.dict
  cases e : ox.dict with
  | none => exact wpAny_bind (wpAny_rule (wpAny_pure h))
  | some dx =>
    rw [e] at hd
    exact hd.elim
/-! #### a def that raises nothing and calls nothing: in any context -/
structure FnA (P : Program) (w : World) (K : PySem.W.Frag) (mg : Str → Option Value) (base : Heap) (f : Addr) (fd : FuncData) (ps : List Str) (sp : Sp) : Prop where
  len : ∀ vs H Q E, sp vs H Q E → vs.length = ps.length
  run : ∀ (A : Around) (outer : List Env) (s : Shared) (H : Hp) (args : Args) (us : List Value) (vs : List V) (Q : VK) (E : XK), A.depth < recursionLimit → Env0 P w K mg base A outer s H → BindsTo s fd args (ps.zip us) → Vals vs us → sp vs H Q E →
    codeAny (model P w) A (.call (.ref f) args) (CR (L2.CX P w) outer P w H s Q E) s
def cxA (P : Program) (w : World) (K : PySem.W.Frag) (mg : Str → Option Value) (base : Heap) (N : List Str) (qual : Str) (scope : Scope) (f : Addr) (cd : Value) (A : Around) (outer : List Env) (s : Shared) (H : Hp) (E : XK) : Cx :=
  { cxOf (L2.CX P w) P w K mg base N qual scope f cd A outer s H E with calm := false }
theorem inv_startA {P : Program} {w : World} {K : PySem.W.Frag} {mg : Str → Option Value} {base : Heap} {N ps : List Str} {qual : Str} {scope : Scope} {f : Addr} {cd : Value} {A : Around} {outer : List Env} {s s1 : Shared} {H : Hp} {E : XK} {us : List Value} {vs : List V}
    (S : FnScope N ps scope) (e0 : Env0 P w K mg base A outer s H) (hl : vs.length = ps.length) (r : Vals vs us)
    (x : InCallC s s.heap.objs.size (bindL (envOfC qual scope s.heap.objs.size f cd).kindOf (ps.zip us) fun _ => none) (cellsFrom (s.heap.objs.size + 1) scope.names []) (bindC (envOfC qual scope s.heap.objs.size f cd).kindOf (ps.zip us) fun _ => none) s1) :
    Inv (cxA P w K mg base N qual scope f cd A outer s H E) [] (L2.start N vs) H s1 := by
  have hpl : ps.length ≤ N.length := by have := congrArg List.length S.pre; rw [List.length_take] at this; omega
  obtain ⟨h1, tk, rfl, hk⟩ := x.done
  have noA : ∀ b : Addr, b ∉ (cxA P w K mg base N qual scope f cd A outer s H E).ex := fun b z => absurd (show b ∈ ([] : List Addr) from z) (by simp)
  refine ⟨⟨e0.mod, S.kind, rfl, rfl, Nat.le_refl _, fun y z c h1 h2 => ?_, fun y hy => ?_, fun y c _ h => ?_, (fun z => Bool.noConfusion (show false = true from z)), Around.frames_deeper e0.frames, .inr ⟨rfl, rfl⟩, fun b z => absurd z (noA b), e0.bs, e0.bsz, fun b _ _ => noA b, fun b z => absurd z (noA b), e0.funs, e0.frf⟩,
    rfl, e0.bare, Un.kept hk, ⟨_, x.toInCall.ns, fun i y v h1 h2 h3 => ?_⟩, fun y c h => ⟨_, x.cell y c h⟩, e0.hok.fresh (Nat.le_refl _), fun y c h => ?_, fun q hq => absurd (show q ∈ ([] : List (Addr × Obj)) from hq) (by simp), e0.hok.kept hk, ?_⟩
  · exact name_of_addr x.apart (PySem.mem_of_lookup h1) (PySem.mem_of_lookup h2)
  · have hy : scope.names.lookup y = some .cell ∨ scope.names.lookup y = some .free := hy
    rcases hy with hy | hy
    · exact cell_has hy
    · exact absurd rfl (S.nofree _ (PySem.mem_of_lookup hy))
  · exact Nat.le_of_lt (x.above y c (PySem.mem_of_lookup h))
  · have hi : i < vs.length := by
      unfold L2.start at h2
      by_cases hi : i < vs.length
      · exact hi
      · rw [List.getElem?_append_right (by simpa using hi)] at h2
        rw [List.getElem?_replicate] at h2
        split at h2 <;> cases h2
    have ha : vs[i]? = some v := by
      unfold L2.start at h2
      rw [List.getElem?_append_left (by simpa using hi), List.getElem?_map] at h2
      cases e : vs[i]? with
      | none => rw [e] at h2; cases h2
      | some a => rw [e] at h2; cases h2; rfl
    obtain ⟨u, hu, rv⟩ := r.get ha
    have hp : ps[i]? = some y := by
      rw [← S.pre, List.getElem?_take_of_lt (by omega)]; exact h1
    have ndP : ps.Nodup := by rw [← S.pre]; exact S.nd.sublist (List.take_sublist _ _)
    refine ⟨u, rv, ?_⟩
    rcases S.par y (List.mem_of_getElem? hp) with k | k
    · exact .inl ⟨k, bindL_get ndP hp hu k⟩
    · obtain ⟨c, e⟩ := cell_has (n := s.heap.objs.size + 1) k
      refine .inr ⟨.inl k, c, e, ?_⟩
      have q := x.cell y c e
      rw [bindC_get ndP hp hu (by show scope.names.lookup y ≠ _; rw [k]; decide)] at q
      exact q
  · exact e0.hok.fresh (Nat.le_of_lt (x.above y c (PySem.mem_of_lookup h)))
  · unfold L2.start
    show _ = N.length
    rw [List.length_append, List.length_map, List.length_replicate]
    omega
theorem fn_ofA {P : Program} {w : World} {K : PySem.W.Frag} {mg : Str → Option Value} {base : Heap} {x qual : Str} {st : Stmt} {f : Addr} {fd : FuncData} {N ps : List Str} {sp : Sp} (F : Fun K x qual st f fd) (S : FnScope N ps (defScope st)) (len : ∀ vs H Q E, sp vs H Q E → vs.length = ps.length)
    (hbody : ∀ (cdv : Value) (A : Around) (outer : List Env) (s : Shared) (H : Hp) (vs : List V) (Q : VK) (E : XK), sp vs H Q E →
      ∃ t, PSs (cxA P w K mg base N qual (defScope st) f cdv A outer s H E) (defBody st) t ∧ t { nx := fun _ H' => Q .non H', rt := Q } (L2.start N vs) H) :
    FnA P w K mg base f fd ps sp := by
  obtain ⟨oc, od, kV, doc, pm, an, cdv, ct, osl, rfl, lk, hcd⟩ := F.ex
  refine ⟨len, fun A outer s H args us vs Q E hr e0 hb r hsp => ?_⟩
  have hl := len _ _ _ _ hsp
  have KX : K.In s.heap := e0.mod.kin.keeps fun b o e => (e0.bs b o e).1
  have lim : s.heap.NoLimit := e0.mod.nolimit.keeps fun b o e => (e0.bs b o e).1
  have hkind : ∀ y ∈ ps.zip us, (defScope st).names.lookup y.1 = some .local ∨ ((defScope st).names.lookup y.1 = some .cell ∧ ((cellsFrom (s.heap.objs.size + 1) (defScope st).names []).lookup y.1).isSome = true) := fun ⟨n, v⟩ hy => by
    rcases S.par n (List.of_mem_zip hy).1 with q | q
    · exact .inl q
    · exact .inr ⟨q, PySem.W.cellsFrom_some _ _ _ (.inl q)⟩
  refine codeAny_call_function hr (KX _ _ lk) rfl S.co S.gen rfl (PySem.W.codeRec_of KX hcd) (hb _ _ _ _ ?_)
  refine wpAny_newFunctionEnv_cells S.kind hkind fun env he s1 x => ?_
  subst he
  refine ⟨lim.keeps x.toInCall.keep, codeAny_func ?_⟩
  obtain ⟨t, ht, hq⟩ := hbody cdv A outer s H vs Q E hsp
  have I : Inv (cxA P w K mg base N qual (defScope st) f cdv A outer s H E) [] (L2.start N vs) H s1 := inv_startA S e0 hl r x
  refine wpAny_mono (ht.run [] s1 (L2.start N vs) H _ I hq) (fun fl s' hs => ?_) fun e s' hs => hs
  have fin : ∀ {σ' : St} {H' : Hp} {v : V} {u : Value}, Inv (cxA P w K mg base N qual (defScope st) f cdv A outer s H E) [] σ' H' s' → RelV v u → Q v H' → CE outer P w H s Q u s' :=
    fun {σ' H' v u} J rv q => ⟨v, H', J.os, J.bare, J.base, J.hok, rv, q⟩
  cases fl with
  | ret u =>
    obtain ⟨v, σ', H', J, rv, q⟩ := hs
    exact fin J rv q
  | next =>
    obtain ⟨σ', H', J, q⟩ := hs
    exact fin (v := V.non) (u := Value.none) J rfl q
  | brk =>
    obtain ⟨_, _, _, q⟩ := hs
    exact False.elim q
  | cont =>
    obtain ⟨_, _, _, q⟩ := hs
    exact False.elim q
theorem run_fnA {X : Cx} {f : Addr} {fd : FuncData} {ps : List Str} {sp : Sp} {E : St → XK} {pins : List (Addr × Obj)} {σ : St} {H : Hp} {s : Shared} {Q : VK} {us : List Value} {vs : List V} (F : FnA X.prog X.w X.K X.mg X.base f fd ps sp) (hr : X.A.depth < recursionLimit) (hb : Binds X.K fd ps []) (hx : PassesAt (L2.CX X.prog X.w) X σ (E σ))
    (I : Inv X pins σ H s) (r : Vals vs us) (h : sp vs H Q (E σ)) : wpAny (model X.prog X.w) X.A (call (.ref f) us) (EP X pins σ Q) X.xe s := by
  have hl : us.length = ps.length := by rw [← r.length]; exact F.len _ _ _ _ h
  have b := hb s us I.kIn (by rw [List.append_nil]; exact hl)
  rw [List.append_nil] at b
  refine wpAny_call (codeAny_mono (F.run X.A X.stack s H ⟨us, []⟩ us vs Q (E σ) hr I.env0 b r h) fun r s' hq => ?_)
  cases r with
  | error e => exact hx pins H s e s' I hq
  | ok fl =>
    cases fl with
    | ret u => exact I.after hq
    | next => exact False.elim hq
    | brk => exact False.elim hq
    | cont => exact False.elim hq
/-- the classes that have it, each with what its method keeps -/
def spWord (z : Str) : Sp := fun vs H Q _ => (∃ v, vs = [v]) ∧ Q (.str z) H
structure WordOk (P : Program) (w : World) (K : PySem.W.Frag) (mg : Str → Option Value) (base : Heap) (m C : Str) (z : Str) : Prop where
  me : Meth K (He.ga K C) m (He.fAd K (C, some m))
  ec : ExcC K (He.ga K C)
  bd : Binds K (fdA K (He.fAd K (C, some m))) ["self"] []
  ok : FnA P w K mg base (He.fAd K (C, some m)) (fdA K (He.fAd K (C, some m))) ["self"] (spWord z)
def tWord (K : PySem.W.Frag) (ws : List (Str × Str)) (S : Addr → Addr → Hp → Prop) (ta : TE) : TE := fun σ H Q => ta σ H fun x H1 => ∃ a p, x = .ref a ∧ p ∈ ws ∧ S a (He.ga K p.1) H1 ∧ Q (.str p.2) H1
section
variable {X : Cx} {j : Nat} {m : Str} {W : WX} {pos apos : Pos} {o : Expr} {ta : TE} {ws : List (Str × Str)} {S : Addr → Addr → Hp → Prop}
theorem pe_wordG {pl : Sem Bool} (hS : ∀ pins σ H s a D, Inv X pins σ H s → S a D H → ∃ oe, PySem.W.InstAt s.heap a oe D none) (hw : ∀ p ∈ ws, WordOk X.prog X.w X.K X.mg X.base m p.1 p.2) (hr : X.A.depth < recursionLimit) (hx : ∀ σ, PassesAt (L2.CX X.prog X.w) X σ (WE W σ)) (he : PE X o ta)
    (ht : eval (.Call (.Attribute o m apos) [] [] pos) X.env = (do
      let ov ← eval o X.env
      standAt apos.atName
      let (f, first) ← holding [ov] (getMethod ov m pl)
      callWith pos f first (backTo pos (starEach [] X.env)) (backToKw pos (keywordEach [] X.env))) := by rfl) :
    PE X (.Call (.Attribute o m apos) [] [] pos) (tWord X.K ws S ta) := by
  refine ⟨fun pins s σ H Q I h => ?_⟩
  refine PySem.W.methodCall_KW (pl := pl) (thn (he.run pins s σ H _ I h) fun u s1 ⟨x, H1, I1, rx, a, p, ex, hp, hS1, q⟩ => ?_) ht
  subst ex
  obtain rfl : u = Value.ref a := rx
  obtain ⟨oe, J⟩ := hS _ _ _ _ _ _ I1 hS1
  have k := hw p hp
  refine exc_meth I1.kIn J k.ec k.me.at_ k.me.fn ?_
  exact PySem.W.callWith_K0 (first := [.ref a]) I1.kIn k.me.kp (run_fnA (E := WE W) (us := [.ref a]) (vs := [.ref a]) k.ok hr k.bd (hx σ) I1 (.cons rfl .nil) ⟨⟨_, rfl⟩, q⟩)
end
def keptEx (a D : Addr) (H : Hp) : Prop := ∃ o, H a = some o ∧ IsEx D a o
theorem keptEx_inst {X : Cx} : ∀ pins σ H s a D, Inv X pins σ H s → keptEx a D H → ∃ oe, PySem.W.InstAt s.heap a oe D none := fun _ _ _ _ _ _ I ⟨o, ho, x⟩ => x.inst (I.hok _ o ho)
def suiteEx (ea : Addr) (ecls : Value) (d : Option Addr) (a D : Addr) (_ : Hp) : Prop := a = ea ∧ ecls = .ref D ∧ d = none
theorem suiteEx_inst {X : Cx} {ea : Addr} {oe : Obj} {ecls : Value} {d : Option Addr} {pn : List (Addr × Obj)} (hz : Zc ecls d oe) (hf : ∃ vs, oe.data = .fields vs) : ∀ pins σ H s a D, Inv (X.suite ea ((ea, oe) :: pn)) pins σ H s → suiteEx ea ecls d a D H → ∃ oe, PySem.W.InstAt s.heap a oe D none := fun _ _ _ s a D I ⟨e1, e2, e3⟩ => by
  subst e1 e2 e3
  obtain ⟨hget, _⟩ := I.pin (a, oe) (List.mem_append.mpr (.inl List.mem_cons_self))
  obtain ⟨vs, hv⟩ := hf
  exact ⟨oe, isEx_inst hget hz hv⟩
theorem pe_wordK {X : Cx} {K : PySem.W.Frag} {j : Nat} {m : Str} {W : WX} {pos apos : Pos} {o : Expr} {ta : TE} {ws : List (Str × Str)} {pl : Sem Bool} (hK : X.K = K) (hw : ∀ p ∈ ws, WordOk X.prog X.w X.K X.mg X.base m p.1 p.2) (hr : Room j X.A) (tk : Takes X W) (he : PE X o ta)
    (ht : eval (.Call (.Attribute o m apos) [] [] pos) X.env = (do
      let ov ← eval o X.env
      standAt apos.atName
      let (f, first) ← holding [ov] (getMethod ov m pl)
      callWith pos f first (backTo pos (starEach [] X.env)) (backToKw pos (keywordEach [] X.env))) := by rfl) :
    PE X (.Call (.Attribute o m apos) [] [] pos) (tWord K ws keptEx ta) := hK ▸ pe_wordG (pl := pl) keptEx_inst hw (by have := hr.dp; omega) (passAt tk) he ht
theorem takes_never {X : Cx} {W : WX} (h : ∀ c d σ H, ¬ W c d σ H) : Takes X W := fun _ _ ⟨_, _, _, _, σ, H, c, d, _, _, _, _, _, _, _, _, w⟩ => (h c d σ H w).elim
theorem pe_wordS {X : Cx} {K : PySem.W.Frag} {j : Nat} {m : Str} {pos apos : Pos} {o : Expr} {ta : TE} {ws : List (Str × Str)} {pl : Sem Bool} {ea : Addr} {oe : Obj} {ecls : Value} {d : Option Addr} {pn : List (Addr × Obj)} (hK : X.K = K) (hz : Zc ecls d oe) (hf : ∃ vs, oe.data = .fields vs) (hw : ∀ p ∈ ws, WordOk X.prog X.w X.K X.mg X.base m p.1 p.2) (hr : Room j X.A) (he : PE (X.suite ea ((ea, oe) :: pn)) o ta)
    (ht : eval (.Call (.Attribute o m apos) [] [] pos) X.env = (do
      let ov ← eval o X.env
      standAt apos.atName
      let (f, first) ← holding [ov] (getMethod ov m pl)
      callWith pos f first (backTo pos (starEach [] X.env)) (backToKw pos (keywordEach [] X.env))) := by rfl) :
    PE (X.suite ea ((ea, oe) :: pn)) (.Call (.Attribute o m apos) [] [] pos) (tWord K ws (suiteEx ea ecls d) ta) := by
  subst hK
  exact pe_wordG (X := X.suite ea ((ea, oe) :: pn)) (W := fun _ _ _ _ => False) (pl := pl) (suiteEx_inst hz hf) hw (by have := hr.dp; show X.A.depth < _; omega) (passAt (takes_never fun _ _ _ _ h => h)) he ht
end Mo
namespace Mo
open PySem PySem.Spec PyProof.Rows L2
def top (i : Nat) : Stmt := PySem.Challenge.pw_momentloom_k24_wheels_used.main.body.getD i (.Pass ⟨0, 0, 0, 0⟩)
abbrev s_Calendar_init : Stmt := inClass (top 1) 0
abbrev s_Calendar_place : Stmt := inClass (top 1) 1
abbrev s_Calendar_put : Stmt := inClass (top 1) 2
abbrev s_Calendar_size : Stmt := inClass (top 1) 3
abbrev s_Calendar_least : Stmt := inClass (top 1) 4
abbrev s_Calendar_leave : Stmt := inClass (top 1) 5
abbrev s_Calendar_take_out : Stmt := inClass (top 1) 6
abbrev s_Wheel_init : Stmt := inClass (top 3) 0
abbrev s_Wheel_spoke_of : Stmt := inClass (top 3) 1
abbrev s_Wheel_put : Stmt := inClass (top 3) 2
abbrev s_Wheel_size : Stmt := inClass (top 3) 3
abbrev s_Wheel_least : Stmt := inClass (top 3) 4
abbrev s_Wheel_leave : Stmt := inClass (top 3) 5
abbrev s_Wheel_take_out : Stmt := inClass (top 3) 6
abbrev s__law_whole : Stmt := top 5
abbrev s__law_mixed : Stmt := top 6
abbrev s__law_purse : Stmt := top 7
abbrev s__law_draw : Stmt := top 8
abbrev s__law_key : Stmt := top 9
abbrev s__law_thing : Stmt := top 10
abbrev s__law_keys : Stmt := top 11
abbrev s__law_look : Stmt := top 12
abbrev s__law_left : Stmt := top 13
abbrev s__law_taken : Stmt := top 14
abbrev s__law_step : Stmt := top 15
abbrev s_law : Stmt := top 16
def nm_Calendar_init : List Str := ["self"]
theorem sc_Calendar_init : FnScope nm_Calendar_init ["self"] (defScope s_Calendar_init) := ⟨rfl, rfl, rfl, by decide +kernel, rfl, by decide +kernel, by decide +kernel⟩
def nm_Calendar_place : List Str := ["self", "key", "low", "high", "middle"]
theorem sc_Calendar_place : FnScope nm_Calendar_place ["self", "key"] (defScope s_Calendar_place) := ⟨rfl, rfl, rfl, by decide +kernel, rfl, by decide +kernel, by decide +kernel⟩
def nm_Calendar_put : List Str := ["self", "key", "thing"]
theorem sc_Calendar_put : FnScope nm_Calendar_put ["self", "key", "thing"] (defScope s_Calendar_put) := ⟨rfl, rfl, rfl, by decide +kernel, rfl, by decide +kernel, by decide +kernel⟩
def nm_Calendar_size : List Str := ["self"]
theorem sc_Calendar_size : FnScope nm_Calendar_size ["self"] (defScope s_Calendar_size) := ⟨rfl, rfl, rfl, by decide +kernel, rfl, by decide +kernel, by decide +kernel⟩
def nm_Calendar_least : List Str := ["self"]
theorem sc_Calendar_least : FnScope nm_Calendar_least ["self"] (defScope s_Calendar_least) := ⟨rfl, rfl, rfl, by decide +kernel, rfl, by decide +kernel, by decide +kernel⟩
def nm_Calendar_leave : List Str := ["self", "key"]
theorem sc_Calendar_leave : FnScope nm_Calendar_leave ["self"] (defScope s_Calendar_leave) := ⟨rfl, rfl, rfl, by decide +kernel, rfl, by decide +kernel, by decide +kernel⟩
def nm_Calendar_take_out : List Str := ["self", "key"]
theorem sc_Calendar_take_out : FnScope nm_Calendar_take_out ["self", "key"] (defScope s_Calendar_take_out) := ⟨rfl, rfl, rfl, by decide +kernel, rfl, by decide +kernel, by decide +kernel⟩
def nm_Wheel_init : List Str := ["self", "span"]
theorem sc_Wheel_init : FnScope nm_Wheel_init ["self", "span"] (defScope s_Wheel_init) := ⟨rfl, rfl, rfl, by decide +kernel, rfl, by decide +kernel, by decide +kernel⟩
def nm_Wheel_spoke_of : List Str := ["self", "key"]
theorem sc_Wheel_spoke_of : FnScope nm_Wheel_spoke_of ["self", "key"] (defScope s_Wheel_spoke_of) := ⟨rfl, rfl, rfl, by decide +kernel, rfl, by decide +kernel, by decide +kernel⟩
def nm_Wheel_put : List Str := ["self", "key", "thing", "at"]
theorem sc_Wheel_put : FnScope nm_Wheel_put ["self", "key", "thing"] (defScope s_Wheel_put) := ⟨rfl, rfl, rfl, by decide +kernel, rfl, by decide +kernel, by decide +kernel⟩
def nm_Wheel_size : List Str := ["self"]
theorem sc_Wheel_size : FnScope nm_Wheel_size ["self"] (defScope s_Wheel_size) := ⟨rfl, rfl, rfl, by decide +kernel, rfl, by decide +kernel, by decide +kernel⟩
def nm_Wheel_least : List Str := ["self"]
theorem sc_Wheel_least : FnScope nm_Wheel_least ["self"] (defScope s_Wheel_least) := ⟨rfl, rfl, rfl, by decide +kernel, rfl, by decide +kernel, by decide +kernel⟩
def nm_Wheel_leave : List Str := ["self", "key"]
theorem sc_Wheel_leave : FnScope nm_Wheel_leave ["self"] (defScope s_Wheel_leave) := ⟨rfl, rfl, rfl, by decide +kernel, rfl, by decide +kernel, by decide +kernel⟩
def nm_Wheel_take_out : List Str := ["self", "key", "at", "thing"]
theorem sc_Wheel_take_out : FnScope nm_Wheel_take_out ["self", "key"] (defScope s_Wheel_take_out) := ⟨rfl, rfl, rfl, by decide +kernel, rfl, by decide +kernel, by decide +kernel⟩
def nm__law_whole : List Str := ["_law_found"]
theorem sc__law_whole : FnScope nm__law_whole ["_law_found"] (defScope s__law_whole) := ⟨rfl, rfl, rfl, by decide +kernel, rfl, by decide +kernel, by decide +kernel⟩
def nm__law_mixed : List Str := ["_law_cell", "_law_k", "_law_number"]
theorem sc__law_mixed : FnScope nm__law_mixed ["_law_cell", "_law_k"] (defScope s__law_mixed) := ⟨rfl, rfl, rfl, by decide +kernel, rfl, by decide +kernel, by decide +kernel⟩
def nm__law_purse : List Str := ["_law_script", "_law_cells", "_law_number", "_law_k"]
theorem sc__law_purse : FnScope nm__law_purse ["_law_script"] (defScope s__law_purse) := ⟨rfl, rfl, rfl, by decide +kernel, rfl, by decide +kernel, by decide +kernel⟩
def nm__law_draw : List Str := ["_law_purse_here", "_law_out_of", "_law_drawn"]
theorem sc__law_draw : FnScope nm__law_draw ["_law_purse_here", "_law_out_of"] (defScope s__law_draw) := ⟨rfl, rfl, rfl, by decide +kernel, rfl, by decide +kernel, by decide +kernel⟩
def nm__law_key : List Str := ["_law_purse_here", "_law_time", "_law_rank"]
theorem sc__law_key : FnScope nm__law_key ["_law_purse_here"] (defScope s__law_key) := ⟨rfl, rfl, rfl, by decide +kernel, rfl, by decide +kernel, by decide +kernel⟩
def nm__law_thing : List Str := ["_law_purse_here", "_law_key_here"]
theorem sc__law_thing : FnScope nm__law_thing ["_law_purse_here", "_law_key_here"] (defScope s__law_thing) := ⟨rfl, rfl, rfl, by decide +kernel, rfl, by decide +kernel, by decide +kernel⟩
def nm__law_keys : List Str := ["_law_purse_here", "_law_many", "_law_found", "_law_k", "_law_key_here"]
theorem sc__law_keys : FnScope nm__law_keys ["_law_purse_here", "_law_many"] (defScope s__law_keys) := ⟨rfl, rfl, rfl, by decide +kernel, rfl, by decide +kernel, by decide +kernel⟩
def nm__law_look : List Str := ["_law_calendar", "_law_there", "_law_due", "_law_many"]
theorem sc__law_look : FnScope nm__law_look ["_law_calendar", "_law_there"] (defScope s__law_look) := ⟨rfl, rfl, rfl, by decide +kernel, rfl, by decide +kernel, by decide +kernel⟩
def nm__law_left : List Str := ["_law_calendar", "_law_there", "_law_found", "_law_key_here"]
theorem sc__law_left : FnScope nm__law_left ["_law_calendar", "_law_there"] (defScope s__law_left) := ⟨rfl, rfl, rfl, by decide +kernel, rfl, by decide +kernel, by decide +kernel⟩
def nm__law_taken : List Str := ["_law_calendar", "_law_there", "_law_key_here", "_law_found"]
theorem sc__law_taken : FnScope nm__law_taken ["_law_calendar", "_law_there", "_law_key_here"] (defScope s__law_taken) := ⟨rfl, rfl, rfl, by decide +kernel, rfl, by decide +kernel, by decide +kernel⟩
def nm__law_step : List Str := ["_law_purse_here", "_law_calendar", "_law_there", "_law_keys_here", "_law_way", "_law_key_here", "_law_fine"]
theorem sc__law_step : FnScope nm__law_step ["_law_purse_here", "_law_calendar", "_law_there", "_law_keys_here"] (defScope s__law_step) := ⟨rfl, rfl, rfl, by decide +kernel, rfl, by decide +kernel, by decide +kernel⟩
def nm_law : List Str := ["_law_script", "_law_purse_here", "_law_keys_here", "_law_calendars", "_law_there", "_law_k", "_law_at"]
theorem sc_law : FnScope nm_law ["_law_script"] (defScope s_law) := ⟨rfl, rfl, rfl, by decide +kernel, rfl, by decide +kernel, by decide +kernel⟩
def fl_Calendar (a0 a1 : V) : List (Str × V) := [(("row" : Str), a0), (("things" : Str), a1)]
theorem lk_Calendar_row {a0 a1 : V} : (fl_Calendar a0 a1).lookup ("row" : Str) = some a0 := by kernel_rfl
theorem pt_Calendar_row {a0 a1 z : V} : putF "row" z (fl_Calendar a0 a1) = fl_Calendar z a1 := by kernel_rfl
theorem in_Calendar_0 {a0 : V} : putF "row" a0 ([] : List (Str × V)) = [(("row" : Str), a0)] := by kernel_rfl
theorem lk_Calendar_things {a0 a1 : V} : (fl_Calendar a0 a1).lookup ("things" : Str) = some a1 := by kernel_rfl
theorem pt_Calendar_things {a0 a1 z : V} : putF "things" z (fl_Calendar a0 a1) = fl_Calendar a0 z := by kernel_rfl
theorem in_Calendar_1 {a0 a1 : V} : putF "things" a1 ([(("row" : Str), a0)] : List (Str × V)) = [(("row" : Str), a0), (("things" : Str), a1)] := by kernel_rfl
theorem no_Calendar_least {a0 a1 : V} : (fl_Calendar a0 a1).lookup ("least" : Str) = none := by kernel_rfl
theorem no_Calendar_leave {a0 a1 : V} : (fl_Calendar a0 a1).lookup ("leave" : Str) = none := by kernel_rfl
theorem no_Calendar_place {a0 a1 : V} : (fl_Calendar a0 a1).lookup ("place" : Str) = none := by kernel_rfl
theorem no_Calendar_put {a0 a1 : V} : (fl_Calendar a0 a1).lookup ("put" : Str) = none := by kernel_rfl
theorem no_Calendar_size {a0 a1 : V} : (fl_Calendar a0 a1).lookup ("size" : Str) = none := by kernel_rfl
theorem no_Calendar_take_out {a0 a1 : V} : (fl_Calendar a0 a1).lookup ("take_out" : Str) = none := by kernel_rfl
def fl_Wheel (a0 a1 a2 a3 : V) : List (Str × V) := [(("span" : Str), a0), (("spokes" : Str), a1), (("rim" : Str), a2), (("many" : Str), a3)]
theorem lk_Wheel_span {a0 a1 a2 a3 : V} : (fl_Wheel a0 a1 a2 a3).lookup ("span" : Str) = some a0 := by kernel_rfl
theorem pt_Wheel_span {a0 a1 a2 a3 z : V} : putF "span" z (fl_Wheel a0 a1 a2 a3) = fl_Wheel z a1 a2 a3 := by kernel_rfl
theorem in_Wheel_0 {a0 : V} : putF "span" a0 ([] : List (Str × V)) = [(("span" : Str), a0)] := by kernel_rfl
theorem lk_Wheel_spokes {a0 a1 a2 a3 : V} : (fl_Wheel a0 a1 a2 a3).lookup ("spokes" : Str) = some a1 := by kernel_rfl
theorem pt_Wheel_spokes {a0 a1 a2 a3 z : V} : putF "spokes" z (fl_Wheel a0 a1 a2 a3) = fl_Wheel a0 z a2 a3 := by kernel_rfl
theorem in_Wheel_1 {a0 a1 : V} : putF "spokes" a1 ([(("span" : Str), a0)] : List (Str × V)) = [(("span" : Str), a0), (("spokes" : Str), a1)] := by kernel_rfl
theorem lk_Wheel_rim {a0 a1 a2 a3 : V} : (fl_Wheel a0 a1 a2 a3).lookup ("rim" : Str) = some a2 := by kernel_rfl
theorem pt_Wheel_rim {a0 a1 a2 a3 z : V} : putF "rim" z (fl_Wheel a0 a1 a2 a3) = fl_Wheel a0 a1 z a3 := by kernel_rfl
theorem in_Wheel_2 {a0 a1 a2 : V} : putF "rim" a2 ([(("span" : Str), a0), (("spokes" : Str), a1)] : List (Str × V)) = [(("span" : Str), a0), (("spokes" : Str), a1), (("rim" : Str), a2)] := by kernel_rfl
theorem lk_Wheel_many {a0 a1 a2 a3 : V} : (fl_Wheel a0 a1 a2 a3).lookup ("many" : Str) = some a3 := by kernel_rfl
theorem pt_Wheel_many {a0 a1 a2 a3 z : V} : putF "many" z (fl_Wheel a0 a1 a2 a3) = fl_Wheel a0 a1 a2 z := by kernel_rfl
theorem in_Wheel_3 {a0 a1 a2 a3 : V} : putF "many" a3 ([(("span" : Str), a0), (("spokes" : Str), a1), (("rim" : Str), a2)] : List (Str × V)) = [(("span" : Str), a0), (("spokes" : Str), a1), (("rim" : Str), a2), (("many" : Str), a3)] := by kernel_rfl
theorem no_Wheel_least {a0 a1 a2 a3 : V} : (fl_Wheel a0 a1 a2 a3).lookup ("least" : Str) = none := by kernel_rfl
theorem no_Wheel_leave {a0 a1 a2 a3 : V} : (fl_Wheel a0 a1 a2 a3).lookup ("leave" : Str) = none := by kernel_rfl
theorem no_Wheel_place {a0 a1 a2 a3 : V} : (fl_Wheel a0 a1 a2 a3).lookup ("place" : Str) = none := by kernel_rfl
theorem no_Wheel_put {a0 a1 a2 a3 : V} : (fl_Wheel a0 a1 a2 a3).lookup ("put" : Str) = none := by kernel_rfl
theorem no_Wheel_size {a0 a1 a2 a3 : V} : (fl_Wheel a0 a1 a2 a3).lookup ("size" : Str) = none := by kernel_rfl
theorem no_Wheel_spoke_of {a0 a1 a2 a3 : V} : (fl_Wheel a0 a1 a2 a3).lookup ("spoke_of" : Str) = none := by kernel_rfl
theorem no_Wheel_take_out {a0 a1 a2 a3 : V} : (fl_Wheel a0 a1 a2 a3).lookup ("take_out" : Str) = none := by kernel_rfl
/-- what the top has written -/
structure Tx (K : PySem.W.Frag) (mg : Str → Option Value) : Prop where
  G_Calendar : mg "Calendar" = some (.ref (He.ga K "Calendar"))
  c_Calendar : Cls K (He.ga K "Calendar")
  n_Calendar_row : NoAttr K (He.ga K "Calendar") "row"
  n_Calendar_things : NoAttr K (He.ga K "Calendar") "things"
  k_Calendar : KF K mg "Calendar" ["self"]
  G_Wheel : mg "Wheel" = some (.ref (He.ga K "Wheel"))
  c_Wheel : Cls K (He.ga K "Wheel")
  n_Wheel_many : NoAttr K (He.ga K "Wheel") "many"
  n_Wheel_rim : NoAttr K (He.ga K "Wheel") "rim"
  n_Wheel_row : NoAttr K (He.ga K "Wheel") "row"
  n_Wheel_span : NoAttr K (He.ga K "Wheel") "span"
  n_Wheel_spokes : NoAttr K (He.ga K "Wheel") "spokes"
  n_Wheel_things : NoAttr K (He.ga K "Wheel") "things"
  k_Wheel : KF K mg "Wheel" ["self", "span"]
  i_Calendar : IsC K "Calendar"
  ki_Calendar_Calendar : PySem.W.kitOne K (.ref (He.ga K "Calendar")) (.ref (He.ga K "Calendar")) = some true
  i_Wheel : IsC K "Wheel"
  ki_Wheel_Calendar : PySem.W.kitOne K (.ref (He.ga K "Wheel")) (.ref (He.ga K "Calendar")) = some true
  b_bool : mg "bool" = none
  b_int : mg "int" = none
  b_isinstance : mg "isinstance" = none
  b_len : mg "len" = none
  b_max : mg "max" = none
  b_min : mg "min" = none
  b_range : mg "range" = none
  b_str : mg "str" = none
  b_tuple : mg "tuple" = none
  f_Calendar_init : Fun K "__init__" "Calendar.__init__" s_Calendar_init (He.fAd K ("Calendar", some "__init__")) (fdA K (He.fAd K ("Calendar", some "__init__")))
  f_Calendar_place : Fun K "place" "Calendar.place" s_Calendar_place (He.fAd K ("Calendar", some "place")) (fdA K (He.fAd K ("Calendar", some "place")))
  f_Calendar_put : Fun K "put" "Calendar.put" s_Calendar_put (He.fAd K ("Calendar", some "put")) (fdA K (He.fAd K ("Calendar", some "put")))
  f_Calendar_size : Fun K "size" "Calendar.size" s_Calendar_size (He.fAd K ("Calendar", some "size")) (fdA K (He.fAd K ("Calendar", some "size")))
  f_Calendar_least : Fun K "least" "Calendar.least" s_Calendar_least (He.fAd K ("Calendar", some "least")) (fdA K (He.fAd K ("Calendar", some "least")))
  f_Calendar_leave : Fun K "leave" "Calendar.leave" s_Calendar_leave (He.fAd K ("Calendar", some "leave")) (fdA K (He.fAd K ("Calendar", some "leave")))
  f_Calendar_take_out : Fun K "take_out" "Calendar.take_out" s_Calendar_take_out (He.fAd K ("Calendar", some "take_out")) (fdA K (He.fAd K ("Calendar", some "take_out")))
  f_Wheel_init : Fun K "__init__" "Wheel.__init__" s_Wheel_init (He.fAd K ("Wheel", some "__init__")) (fdA K (He.fAd K ("Wheel", some "__init__")))
  f_Wheel_spoke_of : Fun K "spoke_of" "Wheel.spoke_of" s_Wheel_spoke_of (He.fAd K ("Wheel", some "spoke_of")) (fdA K (He.fAd K ("Wheel", some "spoke_of")))
  f_Wheel_put : Fun K "put" "Wheel.put" s_Wheel_put (He.fAd K ("Wheel", some "put")) (fdA K (He.fAd K ("Wheel", some "put")))
  f_Wheel_size : Fun K "size" "Wheel.size" s_Wheel_size (He.fAd K ("Wheel", some "size")) (fdA K (He.fAd K ("Wheel", some "size")))
  f_Wheel_least : Fun K "least" "Wheel.least" s_Wheel_least (He.fAd K ("Wheel", some "least")) (fdA K (He.fAd K ("Wheel", some "least")))
  f_Wheel_leave : Fun K "leave" "Wheel.leave" s_Wheel_leave (He.fAd K ("Wheel", some "leave")) (fdA K (He.fAd K ("Wheel", some "leave")))
  f_Wheel_take_out : Fun K "take_out" "Wheel.take_out" s_Wheel_take_out (He.fAd K ("Wheel", some "take_out")) (fdA K (He.fAd K ("Wheel", some "take_out")))
  f__law_whole : Fun K "_law_whole" "_law_whole" s__law_whole (He.fAd K ("_law_whole", none)) (fdA K (He.fAd K ("_law_whole", none)))
  g__law_whole : GF K mg "_law_whole" ["_law_found"]
  f__law_mixed : Fun K "_law_mixed" "_law_mixed" s__law_mixed (He.fAd K ("_law_mixed", none)) (fdA K (He.fAd K ("_law_mixed", none)))
  g__law_mixed : GF K mg "_law_mixed" ["_law_cell", "_law_k"]
  f__law_purse : Fun K "_law_purse" "_law_purse" s__law_purse (He.fAd K ("_law_purse", none)) (fdA K (He.fAd K ("_law_purse", none)))
  g__law_purse : GF K mg "_law_purse" ["_law_script"]
  f__law_draw : Fun K "_law_draw" "_law_draw" s__law_draw (He.fAd K ("_law_draw", none)) (fdA K (He.fAd K ("_law_draw", none)))
  g__law_draw : GF K mg "_law_draw" ["_law_purse_here", "_law_out_of"]
  f__law_key : Fun K "_law_key" "_law_key" s__law_key (He.fAd K ("_law_key", none)) (fdA K (He.fAd K ("_law_key", none)))
  g__law_key : GF K mg "_law_key" ["_law_purse_here"]
  f__law_thing : Fun K "_law_thing" "_law_thing" s__law_thing (He.fAd K ("_law_thing", none)) (fdA K (He.fAd K ("_law_thing", none)))
  g__law_thing : GF K mg "_law_thing" ["_law_purse_here", "_law_key_here"]
  f__law_keys : Fun K "_law_keys" "_law_keys" s__law_keys (He.fAd K ("_law_keys", none)) (fdA K (He.fAd K ("_law_keys", none)))
  g__law_keys : GF K mg "_law_keys" ["_law_purse_here", "_law_many"]
  f__law_look : Fun K "_law_look" "_law_look" s__law_look (He.fAd K ("_law_look", none)) (fdA K (He.fAd K ("_law_look", none)))
  g__law_look : GF K mg "_law_look" ["_law_calendar", "_law_there"]
  f__law_left : Fun K "_law_left" "_law_left" s__law_left (He.fAd K ("_law_left", none)) (fdA K (He.fAd K ("_law_left", none)))
  g__law_left : GF K mg "_law_left" ["_law_calendar", "_law_there"]
  f__law_taken : Fun K "_law_taken" "_law_taken" s__law_taken (He.fAd K ("_law_taken", none)) (fdA K (He.fAd K ("_law_taken", none)))
  g__law_taken : GF K mg "_law_taken" ["_law_calendar", "_law_there", "_law_key_here"]
  f__law_step : Fun K "_law_step" "_law_step" s__law_step (He.fAd K ("_law_step", none)) (fdA K (He.fAd K ("_law_step", none)))
  g__law_step : GF K mg "_law_step" ["_law_purse_here", "_law_calendar", "_law_there", "_law_keys_here"]
  f_law : Fun K "law" "law" s_law (He.fAd K ("law", none)) (fdA K (He.fAd K ("law", none)))
  g_law : GF K mg "law" ["_law_script"]
  m_Calendar_place : MF K "Calendar" "place" ["self", "key"]
  m_Calendar_put : MF K "Calendar" "put" ["self", "key", "thing"]
  m_Calendar_size : MF K "Calendar" "size" ["self"]
  m_Calendar_least : MF K "Calendar" "least" ["self"]
  m_Calendar_leave : MF K "Calendar" "leave" ["self"]
  m_Calendar_take_out : MF K "Calendar" "take_out" ["self", "key"]
  m_Wheel_place : MF K "Wheel" "place" ["self", "key"]
  m_Wheel_put : MF K "Wheel" "put" ["self", "key", "thing"]
  m_Wheel_size : MF K "Wheel" "size" ["self"]
  m_Wheel_least : MF K "Wheel" "least" ["self"]
  m_Wheel_leave : MF K "Wheel" "leave" ["self"]
  m_Wheel_take_out : MF K "Wheel" "take_out" ["self", "key"]
  m_Wheel_spoke_of : MF K "Wheel" "spoke_of" ["self", "key"]
section
variable {X : Cx}
end
end Mo
local macro_rules | `(tactic| k_extra "lk") => `(tactic| with_reducible first
  | exact Mo.lk_Calendar_row
  | exact Mo.lk_Calendar_things
  | exact Mo.lk_Wheel_span
  | exact Mo.lk_Wheel_spokes
  | exact Mo.lk_Wheel_rim
  | exact Mo.lk_Wheel_many)
local macro_rules | `(tactic| k_extra "nolk") => `(tactic| with_reducible first
  | exact Mo.no_Calendar_least
  | exact Mo.no_Calendar_leave
  | exact Mo.no_Calendar_place
  | exact Mo.no_Calendar_put
  | exact Mo.no_Calendar_size
  | exact Mo.no_Calendar_take_out
  | exact Mo.no_Wheel_least
  | exact Mo.no_Wheel_leave
  | exact Mo.no_Wheel_place
  | exact Mo.no_Wheel_put
  | exact Mo.no_Wheel_size
  | exact Mo.no_Wheel_spoke_of
  | exact Mo.no_Wheel_take_out)
local macro_rules | `(tactic| k_extra "cl") => `(tactic| with_reducible first
  | exact Mo.Tx.c_Calendar (by assumption)
  | exact Mo.Tx.c_Wheel (by assumption))
local macro_rules | `(tactic| k_extra "na") => `(tactic| with_reducible first
  | exact Mo.Tx.n_Calendar_row (by assumption)
  | exact Mo.Tx.n_Calendar_things (by assumption)
  | exact Mo.Tx.n_Wheel_span (by assumption)
  | exact Mo.Tx.n_Wheel_spokes (by assumption)
  | exact Mo.Tx.n_Wheel_rim (by assumption)
  | exact Mo.Tx.n_Wheel_many (by assumption))
local macro_rules | `(tactic| k_extra "pt") => `(tactic| with_reducible first
  | exact Mo.pt_Calendar_row
  | exact Mo.in_Calendar_0
  | exact Mo.pt_Calendar_things
  | exact Mo.in_Calendar_1
  | exact Mo.pt_Wheel_span
  | exact Mo.in_Wheel_0
  | exact Mo.pt_Wheel_spokes
  | exact Mo.in_Wheel_1
  | exact Mo.pt_Wheel_rim
  | exact Mo.in_Wheel_2
  | exact Mo.pt_Wheel_many
  | exact Mo.in_Wheel_3)
namespace Mo
open PySem PySem.Spec PyProof.Rows L2
/-! ### a whole number -/
def spWhole : Sp := fun vs H Q _ => ∃ (n : Int), vs = [.int n] ∧ Q (.bl true) H
section
variable {P : Program} {w : World} {K : PySem.W.Frag} {mg : Str → Option Value} {base : Heap}
theorem ok__law_whole (T : Tx K mg) : OkG P w K mg base 1 "_law_whole" ["_law_found"] spWhole := by
  refine T.f__law_whole.okX sc__law_whole (fun vs H Q E h => ?_) (fun cdv A outer s H vs Q E hr h => ?_)
  · obtain ⟨n, rfl, _⟩ := h
    rfl
  · have hu1 := hu_of hr; have hu0 := hr.units0; have hu64 := hr.units; have hu65 := hu65_of hr; have nd := sc__law_whole.nd
    obtain ⟨n, rfl, q⟩ := h
    refine ⟨_, (pss_one (ps_ret (pe_and (pe_callB (call_isiKK (K := K) rfl) (by rfl) T.b_isinstance (by decide +kernel) (pa_cons (pv 0) (pa_cons (pe_bltn (v := .ty "int") (by rfl) T.b_int (by decide +kernel) rfl) pa_nil))) (pe_one (pe_not (pe_callB (call_isiKK (K := K) rfl) (by rfl) T.b_isinstance (by decide +kernel) (pa_cons (pv 0) (pa_cons (pe_bltn (v := .ty "bool") (by rfl) T.b_bool (by decide +kernel) rfl) pa_nil)))))))), ?_⟩
    refine go_start (σ' := [some (.int n)]) rfl ?_
    k_extra "we"
    exact q
end
end Mo
namespace Mo
open PySem PySem.Spec PyProof.Rows L2
/-! ### the order of tuples of ints -/
theorem lex_irr : ∀ a : List Int, HT.lexLt a a = false
  | [] => rfl
  | x :: r => by rw [HT.lexLt_cons, if_pos rfl]; exact lex_irr r
theorem lex_tri : ∀ {a b : List Int}, HT.lexLt a b = false → HT.lexLt b a = false → a = b
  | [], [], _, _ => rfl
  | [], y :: s, h, _ => by rw [HT.lexLt_nil_cons] at h; cases h
  | x :: r, [], _, h => by rw [HT.lexLt_nil_cons] at h; cases h
  | x :: r, y :: s, h, k => by
    rw [HT.lexLt_cons] at h k
    by_cases e : x = y
    · subst e
      rw [if_pos rfl] at h k
      rw [lex_tri h k]
    · rw [if_neg e] at h
      rw [if_neg (fun z => e z.symm)] at k
      have h1 := of_decide_eq_false h
      have h2 := of_decide_eq_false k
      omega
theorem lex_trans : ∀ {a b c : List Int}, HT.lexLt a b = true → HT.lexLt b c = true → HT.lexLt a c = true
  | [], [], _, h, _ => by rw [HT.lexLt_nil_nil] at h; cases h
  | _ :: _, [], _, h, _ => by rw [HT.lexLt_cons_nil] at h; cases h
  | _, _ :: _, [], _, k => by rw [HT.lexLt_cons_nil] at k; cases k
  | [], _ :: _, _ :: _, _, _ => HT.lexLt_nil_cons _ _
  | x :: r, y :: s, z :: t, h, k => by
    rw [HT.lexLt_cons] at h k ⊢
    by_cases e : x = y
    · subst e
      rw [if_pos rfl] at h
      by_cases f : x = z
      · subst f
        rw [if_pos rfl] at k ⊢
        exact lex_trans h k
      · rw [if_neg f] at k ⊢
        exact k
    · rw [if_neg e] at h
      have h1 := of_decide_eq_true h
      by_cases f : y = z
      · subst f
        rw [if_neg e]
        exact h
      · rw [if_neg f] at k
        have h2 := of_decide_eq_true k
        rw [if_neg (by omega)]
        exact decide_eq_true (by omega)
theorem lex_asym {a b : List Int} (h : HT.lexLt a b = true) : HT.lexLt b a = false := by
  cases e : HT.lexLt b a with
  | false => rfl
  | true =>
    have := lex_trans h e
    rw [lex_irr] at this
    cases this
theorem lex_ne {a b : List Int} (h : HT.lexLt a b = true) : a ≠ b := fun e => by
  rw [e, lex_irr] at h
  cases h
/-- a ≤ b < c -/
theorem lex_le_lt {a b c : List Int} (h : HT.lexLt b a = false) (k : HT.lexLt b c = true) : HT.lexLt a c = true := by
  cases e : HT.lexLt a b with
  | true => exact lex_trans e k
  | false => rw [lex_tri e h]; exact k
theorem lex_lt_le {a b c : List Int} (h : HT.lexLt a b = true) (k : HT.lexLt c b = false) : HT.lexLt a c = true := by
  cases e : HT.lexLt b c with
  | true => exact lex_trans h e
  | false => rw [← lex_tri e k]; exact h
/-- the least, found from the left -/
theorem best_least (f : Nat → List Int) : ∀ n, argBest (fun i j => HT.lexLt (f i) (f j)) n ≤ n ∧ ∀ j, j ≤ n → HT.lexLt (f j) (f (argBest (fun i j => HT.lexLt (f i) (f j)) n)) = false
  | 0 => ⟨Nat.le_refl _, fun j hj => by
    obtain rfl := Nat.le_zero.mp hj
    exact lex_irr _⟩
  | n + 1 => by
    obtain ⟨h1, h2⟩ := best_least f n
    have e : argBest (fun i j => HT.lexLt (f i) (f j)) (n + 1) = if HT.lexLt (f (n + 1)) (f (argBest (fun i j => HT.lexLt (f i) (f j)) n)) = true then n + 1 else argBest (fun i j => HT.lexLt (f i) (f j)) n := rfl
    rw [e]
    cases hb : HT.lexLt (f (n + 1)) (f (argBest (fun i j => HT.lexLt (f i) (f j)) n)) with
    | true =>
      rw [if_pos rfl]
      refine ⟨Nat.le_refl _, fun j hj => ?_⟩
      rcases Nat.lt_or_ge j (n + 1) with hj | hj
      · cases hc : HT.lexLt (f j) (f (n + 1)) with
        | false => rfl
        | true =>
          have := lex_trans hc hb
          rw [h2 j (by omega)] at this
          cases this
      · have : j = n + 1 := by omega
        subst this
        exact lex_irr _
    | false =>
      rw [if_neg Bool.false_ne_true]
      refine ⟨by omega, fun j hj => ?_⟩
      rcases Nat.lt_or_ge j (n + 1) with hj | hj
      · exact h2 j (by omega)
      · have : j = n + 1 := by omega
        subst this
        exact hb
/-! ### dicts: pop of what is there -/
/-- d.pop(y): v leaves, H' is left -/
def DPop (H : Hp) (a : Addr) (y v : V) (H' : Hp) : Prop :=
  (∃ kvs k, H a = some (.dK kvs) ∧ y = kV k ∧ valV kvs k = some v ∧ H' = upd H a (.dK (dropK kvs k))) ∨
  ∃ kvs k b, H a = some (.dT kvs) ∧ y = .ref b ∧ H b = some (.tup (k.map kV)) ∧ valV kvs k = some v ∧ H' = upd H a (.dT (dropK kvs k))
def rDPop1 : V → List V → Hp → VK → Prop := fun x xs H Q => ∃ a y v H', x = .ref a ∧ xs = [y] ∧ DPop H a y v H' ∧ Q v H'
theorem paired_get {α β : Type} {F : α → β → Prop} : ∀ {l : List α} {r : List β} {i : Nat} {b : β}, Paired F l r → r[i]? = some b → ∃ a, l[i]? = some a ∧ F a b
  | _, _, i, b, .nil, e => by simp at e
  | _, _, 0, b, .cons h _, e => by
    simp only [List.getElem?_cons_zero, Option.some.injEq] at e
    subst e
    exact ⟨_, rfl, h⟩
  | _, _, i + 1, b, .cons _ t, e => by
    rw [List.getElem?_cons_succ] at e
    obtain ⟨a, h1, h2⟩ := paired_get t e
    exact ⟨a, by rw [List.getElem?_cons_succ]; exact h1, h2⟩
theorem moved_eq {wr : List Addr} {s s' : Shared} (h : Moved wr (fun a b => b = a) s s') : s' = { s with heap := s'.heap, toks := s'.toks } := by
  obtain ⟨hp, g, d, tk, os⟩ := s
  obtain ⟨hp', g', d', tk', os'⟩ := s'
  obtain ⟨_, h2, h3, h4, _⟩ := h
  cases h2
  cases h3
  cases h4
  rfl
theorem withoutH_eq {K : Type} [DecidableEq K] (xs : List (K × Addr × Value)) (k : K) : withoutH xs k = DT.dropH xs k := rfl
section
variable {X : Cx}
theorem mt_dpop1 (hu : X.A.units + 1 < cLine) : MtR X "dict.pop" rDPop1 := by
  intro pins s σ H x xs v us Q I rx rxs h
  obtain ⟨a, y, w', H', rfl, rfl, g, q⟩ := h
  cases rx
  obtain ⟨u, rfl, ry⟩ := rxs.one
  rcases g with ⟨kvs, k, ea, rfl, l, rfl⟩ | ⟨kvs, k, b, ea, rfl, eb, l, rfl⟩
  · exact d_pop (more := []) I ea ry l (.inl rfl) fun w2 s3 I3 rw' => ⟨w', _, I3, rw', q⟩
  · cases ry
    obtain ⟨z, hd, xs', rel, dd⟩ := dt_of I.hok ea
    have hz : xs'.length ≤ sizeLine := by rw [← Paired.length rel]; exact z
    have r := rel.val k
    rw [l] at r
    obtain ⟨p, hp, rp⟩ : ∃ p, atKey xs' k = some p ∧ RelV w' p.2 := by
      cases e : atKey xs' k with
      | none =>
        rw [e] at r
        exact (show False from r).elim
      | some p =>
        rw [e] at r
        exact ⟨p, rfl, r⟩
    refine call_pop_heap (knd := tupleKind (mixKind X.prog X.w)) (more := []) (.inl rfl) (PySem.F.args_dict_pop_2 _ _) (tupleKind_room_in1 hu) (key_of I.hok eb) hd dd hp (fun h' dd' hs => ?_) hz
    obtain ⟨o, es, ep, hq, h2, h3, h4, _, h5⟩ := dd'
    have I2 : Inv X pins σ (upd H a (.dT (dropK kvs k))) { s with heap := h', toks := s.toks + (tupleKind (mixKind X.prog X.w)).draws k } :=
      d_write I (by rw [ea]; exact True.intro) hs ⟨o, hq⟩ ⟨Nat.le_trans (dropK_le kvs k) z, hd, _, (DX.KT_drop k rel).keeps (fun c ys ec => (by rw [upd_ne (ne_of ec ea (fun z => nomatch z))]; exact ec)), o, es, ep, hq, h2, h3, h4, h5⟩
    exact ⟨w', _, I2, rp, q⟩
/-! ### min of a dict whose keys are tuples of ints -/
def rMinT : List V → Hp → VK → Prop := fun vs H Q => ∃ (a : Addr) (kvs : List (List Key × V)) (F : List (List Int)), vs = [V.ref a] ∧ H a = some (.dT kvs) ∧ kvs.map (·.1) = F.map (fun ns => ns.map Sum.inl) ∧ F ≠ [] ∧
  ∀ (b : Addr) (ns : List Int), ns ∈ F → (∀ ms ∈ F, HT.lexLt ms ns = false) → H b = some (.tup (ns.map V.int)) → Q (.ref b) H
theorem map_kV_inl (ns : List Int) : (ns.map (Sum.inl : Int → Key)).map kV = ns.map V.int := by
  rw [List.map_map]
  rfl
theorem cr_minT (hc : X.calm = true) (hu : X.A.units + 1 < cLine) : CallR X (.builtin "min") rMinT := by
  intro pins s σ H vs us Q I r h
  obtain ⟨a, kvs, F, rfl, ha, hF, hne, q⟩ := h
  rw [Vals.ref1 r]
  obtain ⟨z, hs, ks, pr, o, es, ep, ho, hx, hdt, he, hn⟩ := (show ObjOk X.prog X.w H s.heap a (.dT kvs) from I.hok a _ ha)
  have l1 : es.size = ks.length := size_of_entries he
  have l2 : kvs.length = ks.length := Paired.length pr
  have l3 : kvs.length = F.length := by
    have e := congrArg List.length hF
    rw [List.length_map, List.length_map] at e
    exact e
  have hlt : a < s.heap.objs.size := Heap.lt_size ho
  have hpos : 0 < es.size := by
    have := List.length_pos_iff.mpr hne
    omega
  -- the key at a place
  have key : ∀ (i : Nat) (v : Value), (∃ en : DictEntry, es[i]? = some en ∧ v = en.key) → ∃ (b : Addr) (ns : List Int), v = .ref b ∧ F[i]? = some ns ∧ H b = some (.tup (ns.map V.int)) := fun i v ⟨en, hen, hv⟩ => by
    have qe := entry_at he i
    rw [hen] at qe
    cases hb : ks[i]? with
    | none => rw [hb] at qe; exact nomatch (show some en = none from qe)
    | some x =>
      rw [hb] at qe
      have e2 : en = entryOfKey (tupleKind (mixKind X.prog X.w)) x := Option.some.inj qe
      obtain ⟨p, hp, e3, e4, _⟩ : ∃ p, kvs[i]? = some p ∧ p.1 = x.1 ∧ H x.2.1 = some (.tup (p.1.map kV)) ∧ True := by
        obtain ⟨p, hp, h1, h2, _⟩ := paired_get pr hb
        exact ⟨p, hp, h1, h2, True.intro⟩
      have e5 : (kvs.map (·.1))[i]? = some p.1 := by rw [List.getElem?_map, hp] <;> rfl
      rw [hF, List.getElem?_map] at e5
      obtain ⟨ns, hns, e6⟩ := Option.map_eq_some_iff.mp e5
      refine ⟨x.2.1, ns, by rw [hv, e2] <;> rfl, hns, ?_⟩
      rw [e4, ← e6, map_kV_inl]
  have key2 : ∀ (b : Addr) (ns : List Int), H b = some (.tup (ns.map V.int)) → ∃ its : Array Value, IsTup s.heap b its ∧ IntsAre its.toList ns := fun b ns e => by
    obtain ⟨its, rv, hT, _⟩ := I.tuple (SqT.of e)
    exact ⟨its.toArray, hT, by simpa using rv.ints⟩
  refine call_min_walkH (iter_keys hs ho hx hdt ?_)
  refine ⟨_, _, _, _, _, _, _, s.heap, fun i j => HT.lexLt (F.getD i []) (F.getD j []), rfl, (walks_raw (A := X.A.in1) (I.ok.hd hc) s.heap.objs.size a (Nat.ne_of_lt hlt) hdt).toS,
    ⟨⟨_, Heap.get?_push_size _ rfl, rfl, rfl⟩, Heap.get?_push_of_some _ ho⟩, fun b hb => ?_, hpos, fun b u e hm => ?_, fun b u e => Heap.get?_push_of_some _ e, ?_, fun v s' hP hk => ?_⟩
  · show b < (s.heap.push _).objs.size
    rw [Heap.size_push]
    rcases List.mem_cons.mp hb with e | hb
    · rw [e]
      exact Nat.lt_succ_self _
    · rw [List.mem_singleton.mp hb]
      exact Nat.lt_succ_of_lt hlt
  · have e1 := List.mem_singleton.mp hm
    have e2 := Heap.lt_size e
    rw [e1] at e2
    exact absurd e2 (Nat.lt_irrefl _)
  · intro i j vi vj s2 Q2 E2 hkeep hi hj hq
    obtain ⟨b1, n1, rfl, f1, t1⟩ := key i vi hi
    obtain ⟨b2, n2, rfl, f2, t2⟩ := key j vj hj
    obtain ⟨its1, T1, a1⟩ := key2 b1 n1 t1
    obtain ⟨its2, T2, a2⟩ := key2 b2 n2 t2
    refine HT.lt_tupInts (let ⟨o, e, z⟩ := T1; ⟨o, hkeep _ o e, z⟩) (let ⟨o, e, z⟩ := T2; ⟨o, hkeep _ o e, z⟩) a1 a2 (show X.A.in1.units < cLine from by show X.A.units + 1 < cLine; exact hu) ?_
    have g1 : F.getD i [] = n1 := by rw [List.getD_eq_getElem?_getD, f1] <;> rfl
    have g2 : F.getD j [] = n2 := by rw [List.getD_eq_getElem?_getD, f2] <;> rfl
    have hq' : Q2 (Value.bool (HT.lexLt (F.getD i []) (F.getD j []))) s2 := hq
    rw [g1, g2] at hq'
    exact hq'
  · obtain ⟨b, ns, rfl, hf, hb⟩ := key _ v hP
    obtain ⟨b1, b2⟩ := best_least (fun i => F.getD i []) (es.size - 1)
    have g1 : F.getD (argBest (fun i j => HT.lexLt (F.getD i []) (F.getD j [])) (es.size - 1)) [] = ns := by rw [List.getD_eq_getElem?_getD, hf] <;> rfl
    rw [g1] at b2
    have I2 : Inv X pins σ H s' := by
      rw [moved_eq hk]
      exact I.kept (t' := s'.toks) fun b u e => hk.heap b u (fun hmem => by
        have e1 := List.mem_singleton.mp hmem
        have e2 := Heap.lt_size e
        rw [e1] at e2
        exact absurd e2 (Nat.lt_irrefl _)) (Heap.get?_push_of_some _ e)
    refine ⟨.ref b, H, I2, rfl, q b ns (List.mem_of_getElem? hf) (fun ms hm => ?_) hb⟩
    obtain ⟨j, hj, e⟩ := List.mem_iff_getElem.mp hm
    have := b2 j (by omega)
    rw [List.getD_eq_getElem?_getD, List.getElem?_eq_getElem hj] at this
    rw [← e]
    exact this
end
/-! ### d.copy() -/
def rDCopy : V → List V → Hp → VK → Prop := fun x xs H Q => ∃ a kvs, x = .ref a ∧ xs = [] ∧ H a = some (.dK kvs) ∧ ∀ p, H p = none → Q (.ref p) (upd H p (.dK kvs))
section
variable {X : Cx}
theorem mt_dcopy : MtR X "dict.copy" rDCopy := by
  intro pins s σ H x xs v us Q I rx rxs h
  obtain ⟨a, kvs, rfl, rfl, ha, q⟩ := h
  cases rx
  cases rxs
  obtain ⟨z, hd, vs, rel, dd⟩ := dk_of I.hok ha
  refine call_meetsIn PySem.F.slot_dict_copy dd.typeIs PySem.F.entry_dict_copy (PySem.F.args_dict_copy_1 _) (meets_dict_copy (mixKind X.prog X.w) a hd) ?_
  refine ⟨vs, dd, by rw [← rel.length]; exact z, fun h' d1 _ k => ?_⟩
  refine ⟨.ref s.heap.objs.size, upd H s.heap.objs.size (.dK kvs), I.laid (t' := s.toks) k (Nat.le_refl _) ?_, rfl, q _ (I.hok.fresh (Nat.le_refl _))⟩
  exact dk_new z (beq_eq_false_iff_ne.mpr (Nat.ne_of_gt I.big)) rel d1
end
theorem go_dcopy {H : Hp} {Q : VK} {a : Addr} {kvs : List (Key × V)} (h : H a = some (.dK kvs)) (k : ∀ p, H p = none → Q (.ref p) (upd H p (.dK kvs))) : rDCopy (.ref a) [] H Q := ⟨a, kvs, rfl, rfl, h, k⟩
end Mo
namespace Mo
open PySem PySem.Spec PyProof.Rows L2
/-! ### what a calendar keeps: plain Lean -/
structure Ent where
  k : List Int
  v : V
  t : V
abbrev Asc (es : List Ent) : Prop := es.Pairwise fun x y => HT.lexLt x.k y.k = true
def insE (e : Ent) : List Ent → List Ent
  | [] => [e]
  | x :: r => if HT.lexLt x.k e.k = true then x :: insE e r else e :: x :: r
def remE (k : List Int) (es : List Ent) : List Ent := es.filter fun e => decide (e.k ≠ k)
def getE (k : List Int) : List Ent → Option V
  | [] => none
  | x :: r => if x.k = k then some x.t else getE k r
theorem mem_insE {e x : Ent} : ∀ {es : List Ent}, x ∈ insE e es ↔ x = e ∨ x ∈ es
  | [] => by simp [insE]
  | y :: r => by
    unfold insE
    split
    · rw [List.mem_cons, mem_insE (es := r), List.mem_cons]
      constructor
      · rintro (h | h | h)
        · exact .inr (.inl h)
        · exact .inl h
        · exact .inr (.inr h)
      · rintro (h | h | h)
        · exact .inr (.inl h)
        · exact .inl h
        · exact .inr (.inr h)
    · rw [List.mem_cons]
theorem insE_perm (e : Ent) : ∀ es : List Ent, (insE e es).Perm (e :: es)
  | [] => .refl _
  | y :: r => by
    unfold insE
    split
    · exact ((insE_perm e r).cons y).trans (.swap _ _ _)
    · exact .refl _
theorem insE_len (e : Ent) (es : List Ent) : (insE e es).length = es.length + 1 := by rw [(insE_perm e es).length_eq]; rfl
theorem insE_asc {e : Ent} : ∀ {es : List Ent}, Asc es → e.k ∉ es.map (·.k) → Asc (insE e es)
  | [], _, _ => List.pairwise_singleton _ _
  | x :: r, h, n => by
    rw [List.map_cons, List.mem_cons, not_or] at n
    have h2 := List.pairwise_cons.mp h
    unfold insE
    split
    · rename_i hl
      refine List.pairwise_cons.mpr ⟨fun y hy => ?_, insE_asc h2.2 n.2⟩
      rcases mem_insE.mp hy with rfl | hy
      · exact hl
      · exact h2.1 y hy
    · rename_i hl
      have hl2 : HT.lexLt x.k e.k = false := by simpa using hl
      have h3 : HT.lexLt e.k x.k = true := by
        cases q : HT.lexLt e.k x.k with
        | true => rfl
        | false => exact absurd (lex_tri q hl2) n.1
      refine List.pairwise_cons.mpr ⟨fun y hy => ?_, h⟩
      rcases List.mem_cons.mp hy with rfl | hy
      · exact h3
      · exact lex_trans h3 (h2.1 y hy)
theorem insE_at {e : Ent} : ∀ {es : List Ent} {n : Nat}, n ≤ es.length → (∀ i x, i < n → es[i]? = some x → HT.lexLt x.k e.k = true) → (∀ i x, n ≤ i → es[i]? = some x → HT.lexLt x.k e.k = false) → insE e es = es.take n ++ e :: es.drop n
  | [], n, hn, _, _ => by
    obtain rfl : n = 0 := by simpa using hn
    rfl
  | x :: r, 0, _, _, h => by
    have := h 0 x (Nat.le_refl _) rfl
    unfold insE
    rw [this, if_neg Bool.false_ne_true]
    rfl
  | x :: r, n + 1, hn, h1, h2 => by
    have := h1 0 x (Nat.succ_pos _) rfl
    unfold insE
    rw [this, if_pos rfl, insE_at (n := n) (by simpa using hn) (fun i y hi hy => h1 (i + 1) y (by omega) (by simpa using hy)) (fun i y hi hy => h2 (i + 1) y (by omega) (by simpa using hy))]
    rfl
theorem asc_nodup {es : List Ent} (h : Asc es) : (es.map (·.k)).Nodup := by
  rw [List.nodup_iff_pairwise_ne, List.pairwise_map]
  exact h.imp fun q => lex_ne q
theorem remE_asc {k : List Int} {es : List Ent} (h : Asc es) : Asc (remE k es) := h.filter _
theorem mem_remE {k : List Int} {x : Ent} {es : List Ent} : x ∈ remE k es ↔ x ∈ es ∧ x.k ≠ k := by
  unfold remE
  rw [List.mem_filter, decide_eq_true_iff]
theorem getE_none {k : List Int} : ∀ {es : List Ent}, getE k es = none ↔ k ∉ es.map (·.k)
  | [] => by simp [getE]
  | x :: r => by
    unfold getE
    rw [List.map_cons, List.mem_cons, not_or]
    by_cases e : x.k = k
    · rw [if_pos e]
      constructor
      · intro z; cases z
      · intro z; exact absurd e.symm z.1
    · rw [if_neg e, getE_none (es := r)]
      exact ⟨fun z => ⟨fun q => e q.symm, z⟩, fun z => z.2⟩
theorem getE_mem {k : List Int} {t : V} : ∀ {es : List Ent}, getE k es = some t → ∃ x ∈ es, x.k = k ∧ x.t = t
  | [], h => by simp [getE] at h
  | x :: r, h => by
    unfold getE at h
    by_cases e : x.k = k
    · rw [if_pos e] at h
      exact ⟨x, List.mem_cons_self, e, Option.some.inj h⟩
    · rw [if_neg e] at h
      obtain ⟨y, h1, h2⟩ := getE_mem h
      exact ⟨y, List.mem_cons_of_mem _ h1, h2⟩
theorem getE_of {es : List Ent} {x : Ent} (h : (es.map (·.k)).Nodup) (m : x ∈ es) : getE x.k es = some x.t := by
  induction es with
  | nil => cases m
  | cons y r ih =>
    rw [List.map_cons, List.nodup_cons] at h
    unfold getE
    rcases List.mem_cons.mp m with rfl | m
    · rw [if_pos rfl]
    · rw [if_neg (fun e => h.1 (by rw [e]; exact List.mem_map_of_mem m))]
      exact ih h.2 m
theorem remE_none {k : List Int} {es : List Ent} (h : k ∉ es.map (·.k)) : remE k es = es := by
  unfold remE
  refine List.filter_eq_self.mpr fun y hy => ?_
  exact decide_eq_true fun z => h (by rw [← z]; exact List.mem_map_of_mem hy)
/-- the key at n leaves -/
theorem remE_at : ∀ {es : List Ent} {n : Nat} {x : Ent}, (es.map (·.k)).Nodup → es[n]? = some x → es.eraseIdx n = remE x.k es
  | [], n, x, _, h => by simp at h
  | y :: r, 0, x, hn, h => by
    obtain rfl : y = x := by simpa using h
    rw [List.map_cons, List.nodup_cons] at hn
    rw [List.eraseIdx_cons_zero]
    unfold remE
    rw [List.filter_cons_of_neg (by simp)]
    exact (remE_none hn.1).symm
  | y :: r, n + 1, x, hn, h => by
    have h2 : r[n]? = some x := by simpa using h
    rw [List.map_cons, List.nodup_cons] at hn
    have ne : y.k ≠ x.k := fun z => hn.1 (by rw [z]; exact List.mem_map_of_mem (List.mem_of_getElem? h2))
    rw [List.eraseIdx_cons_succ, remE_at hn.2 h2]
    unfold remE
    rw [List.filter_cons_of_pos (by simpa using ne)]
theorem remE_head {e : Ent} {r : List Ent} (h : Asc (e :: r)) : remE e.k (e :: r) = r := by
  have := remE_at (n := 0) (asc_nodup h) (x := e) rfl
  rw [← this]
  rfl
/-- where a key that is there stands -/
theorem place_at {es : List Ent} {k : List Int} {n : Nat} (h : Asc es) (h1 : ∀ i x, i < n → es[i]? = some x → HT.lexLt x.k k = true) (h2 : ∀ i x, n ≤ i → es[i]? = some x → HT.lexLt x.k k = false) {x : Ent} (m : x ∈ es) (hk : x.k = k) : es[n]? = some x := by
  obtain ⟨i, hi⟩ := List.mem_iff_getElem?.mp m
  rcases Nat.lt_trichotomy i n with z | z | z
  · have := h1 i x z hi
    rw [hk, lex_irr] at this
    cases this
  · rw [← z]; exact hi
  · have hil := (List.getElem?_eq_some_iff.mp hi).1
    have hn : es[n]? = some es[n] := List.getElem?_eq_getElem (by omega)
    have q := h2 n _ (Nat.le_refl _) hn
    have p := List.pairwise_iff_getElem.mp h n i (by omega) hil z
    rw [(List.getElem?_eq_some_iff.mp hi).2, hk, q] at p
    cases p
/-! #### dicts of them -/
section
variable {κ : Type} [DecidableEq κ]
theorem val_mem : ∀ {kvs : List (κ × V)} {k : κ} {v : V}, (kvs.map (·.1)).Nodup → ((k, v) ∈ kvs ↔ valV kvs k = some v)
  | [], k, v, _ => by
    constructor
    · intro z; cases z
    · intro z; cases (show (none : Option V) = some v from z)
  | (q, u) :: r, k, v, h => by
    rw [List.map_cons, List.nodup_cons] at h
    by_cases e : q = k
    · rw [valV_pos e]
      constructor
      · intro m
        rcases List.mem_cons.mp m with m | m
        · cases m; rfl
        · exact absurd (List.mem_map_of_mem (f := (·.1)) m) (by rw [← e]; exact h.1)
      · intro z
        cases z
        rw [← e]
        exact List.mem_cons_self
    · rw [valV_neg e, ← val_mem h.2]
      constructor
      · intro m
        rcases List.mem_cons.mp m with m | m
        · cases m; exact absurd rfl e
        · exact m
      · exact fun m => List.mem_cons_of_mem _ m
theorem val_perm {a b : List (κ × V)} {k : κ} (p : a.Perm b) (h : (b.map (·.1)).Nodup) : valV a k = valV b k := by
  have h2 : (a.map (·.1)).Nodup := (List.Perm.nodup_iff (p.map _)).mpr h
  apply Option.ext
  intro v
  rw [← val_mem h2, ← val_mem h]
  exact p.mem_iff
variable (f : Ent → κ)
theorem g_val {es : List Ent} {q : κ} {k : List Int} (hi : ∀ e ∈ es, f e = q ↔ e.k = k) : valV (es.map fun e => (f e, e.t)) q = getE k es := by
  induction es with
  | nil => rfl
  | cons x r ih =>
    have h := hi x List.mem_cons_self
    unfold getE
    rw [List.map_cons]
    by_cases e : x.k = k
    · rw [if_pos e]
      exact valV_pos (h.mpr e)
    · rw [if_neg e, valV_neg (fun z => e (h.mp z))]
      exact ih fun y hy => hi y (List.mem_cons_of_mem _ hy)
theorem g_put {kvs : List (κ × V)} {es : List Ent} {e : Ent} (p : kvs.Perm (es.map fun e => (f e, e.t))) (n : valV kvs (f e) = none) : (putK kvs (f e) e.t).Perm ((insE e es).map fun e => (f e, e.t)) := by
  rw [putK_new _ n]
  exact (List.perm_append_comm.trans (p.cons _)).trans ((insE_perm e es).map _).symm
theorem g_drop {kvs : List (κ × V)} {es : List Ent} {q : κ} {k : List Int} (hi : ∀ e ∈ es, f e = q ↔ e.k = k) (p : kvs.Perm (es.map fun e => (f e, e.t))) : (dropK kvs q).Perm ((remE k es).map fun e => (f e, e.t)) := by
  refine (p.filter _).trans (List.Perm.of_eq ?_)
  unfold remE
  rw [List.filter_map]
  congr 1
  refine List.filter_congr fun e he => ?_
  show decide (f e ≠ q) = decide (e.k ≠ k)
  exact decide_eq_decide.mpr (not_congr (hi e he))
end
/-! #### keys as values -/
def GoodK (b : Bool) (G : Hp) (e : Ent) : Prop := match b with
  | true => ∃ a, e.v = .ref a ∧ G a = some (.tup (e.k.map V.int))
  | false => ∃ i, e.v = .int i ∧ e.k = [i]
theorem GoodK.mono {b : Bool} {G G' : Hp} {e : Ent} (h : GoodK b G e) (x : Ext G G') : GoodK b G' e := by
  cases b with
  | true => obtain ⟨a, h1, h2⟩ := h; exact ⟨a, h1, x _ _ h2⟩
  | false => exact h
abbrev fT (e : Ent) : List Key := e.k.map Sum.inl
abbrev fK (e : Ent) : Key := Sum.inl (e.k.headD 0)
/-- the dict of things -/
def Thg (b : Bool) (es : List Ent) (o : HO) : Prop := match b with
  | true => ∃ kvs, o = .dT kvs ∧ kvs.Perm (es.map fun e => (fT e, e.t))
  | false => ∃ kvs, o = .dK kvs ∧ kvs.Perm (es.map fun e => (fK e, e.t))
theorem fT_inj {e x : Ent} : fT e = fT x ↔ e.k = x.k := ⟨fun h => (List.map_inj_right (fun _ _ q => Sum.inl.inj q)).mp h, fun h => by unfold fT; rw [h]⟩
theorem fK_inj {G G' : Hp} {e x : Ent} (h : GoodK false G e) (k : GoodK false G' x) : fK e = fK x ↔ e.k = x.k := by
  obtain ⟨i, _, h1⟩ := h
  obtain ⟨j, _, h2⟩ := k
  unfold fK
  rw [h1, h2]
  constructor
  · intro z
    have := Sum.inl.inj z
    simp only [List.headD_cons] at this
    rw [this]
  · intro z
    rw [z]
theorem fT_nodup {es : List Ent} (h : Asc es) : ((es.map fun e => (fT e, e.t)).map (·.1)).Nodup := by
  rw [List.map_map, List.nodup_iff_pairwise_ne, List.pairwise_map]
  exact h.imp fun q z => lex_ne q (fT_inj.mp z)
theorem fK_nodup {G : Hp} {es : List Ent} (h : Asc es) (g : ∀ e ∈ es, GoodK false G e) : ((es.map fun e => (fK e, e.t)).map (·.1)).Nodup := by
  rw [List.map_map, List.nodup_iff_pairwise_ne, List.pairwise_map]
  exact List.Pairwise.imp_of_mem (fun {a b} ha hb q z => lex_ne q ((fK_inj (g a ha) (g b hb)).mp z)) h
section
variable {b : Bool} {K : PySem.W.Frag} {G H : Hp} {x y e : Ent} {es : List Ent} {Q : VK} {th : Addr} {o : HO}
theorem go_ltE (xe : Ext G H) (ha : GoodK b G x) (hb : GoodK b G y) (k : Q (.bl (HT.lexLt x.k y.k)) H) : rLtA K x.v y.v H Q := by
  cases b with
  | true =>
    obtain ⟨a, e1, h1⟩ := ha
    obtain ⟨c, e2, h2⟩ := hb
    rw [e1, e2]
    exact go_ltT (SqT.of (xe _ _ h1)) (SqT.of (xe _ _ h2)) k
  | false =>
    obtain ⟨i, e1, h1⟩ := ha
    obtain ⟨j, e2, h2⟩ := hb
    rw [h1, h2, HT.lexLt_cons, HT.lexLt_nil_nil] at k
    rw [e1, e2]
    refine go_ltI ?_
    by_cases e : i = j
    · rw [if_pos e] at k
      rw [decide_eq_false (by omega)]
      exact k
    · rw [if_neg e] at k
      exact k
theorem thg_get (xe : Ext G H) (ht : H th = some o) (h : Thg b es o) (ha : Asc es) (hg : ∀ e ∈ es, GoodK b G e) (hx : GoodK b G x) : DGet H th x.v (getE x.k es) := by
  cases b with
  | true =>
    obtain ⟨kvs, rfl, p⟩ := h
    obtain ⟨a, e1, h1⟩ := hx
    have q := DGet.t (k := fT x) ht (b := a) (by rw [map_kV_inl]; exact xe _ _ h1)
    rw [e1]
    rw [val_perm p (fT_nodup ha), g_val fT (k := x.k) (fun e _ => fT_inj)] at q
    exact q
  | false =>
    obtain ⟨kvs, rfl, p⟩ := h
    have q := DGet.k (k := fK x) ht
    rw [val_perm p (fK_nodup ha hg), g_val fK (k := x.k) (fun e he => fK_inj (hg e he) hx)] at q
    obtain ⟨i, e1, h1⟩ := hx
    rw [e1]
    have e2 : kV (fK x) = .int i := by unfold fK; rw [h1]; rfl
    rw [e2] at q
    exact q
theorem thg_len {kvs : List (Key × V)} {n : Nat} (h : Thg b es o) : (∃ kvs : List (List Key × V), o = .dT kvs ∧ kvs.length = es.length) ∨ (∃ kvs : List (Key × V), o = .dK kvs ∧ kvs.length = es.length) := by
  cases b with
  | true =>
    obtain ⟨kvs, rfl, p⟩ := h
    exact .inl ⟨kvs, rfl, by rw [p.length_eq, List.length_map]⟩
  | false =>
    obtain ⟨kvs, rfl, p⟩ := h
    exact .inr ⟨kvs, rfl, by rw [p.length_eq, List.length_map]⟩
theorem thg_put (xe : Ext G H) (ht : H th = some o) (h : Thg b es o) (ha : Asc es) (hg : ∀ e ∈ es, GoodK b G e) (hx : GoodK b G x) (hn : x.k ∉ es.map (·.k)) (hl : es.length ≤ 10000) :
    ∃ o', Thg b (insE x es) o' ∧ DPut H th x.v x.t (upd H th o') := by
  have hn2 := getE_none.mpr hn
  cases b with
  | true =>
    obtain ⟨kvs, rfl, p⟩ := h
    obtain ⟨a, e1, h1⟩ := hx
    have hl2 : kvs.length < sizeLine := by rw [p.length_eq, List.length_map, sizeLine_eq]; omega
    have nn : valV kvs (fT x) = none := by rw [val_perm p (fT_nodup ha), g_val fT (k := x.k) (fun e _ => fT_inj)]; exact hn2
    refine ⟨.dT (putK kvs (fT x) x.t), ⟨_, rfl, g_put fT p nn⟩, ?_⟩
    rw [e1]
    exact DPut.t ht (by rw [map_kV_inl]; exact xe _ _ h1) hl2
  | false =>
    obtain ⟨kvs, rfl, p⟩ := h
    have hl2 : kvs.length < sizeLine := by rw [p.length_eq, List.length_map, sizeLine_eq]; omega
    have nn : valV kvs (fK x) = none := by rw [val_perm p (fK_nodup ha hg), g_val fK (k := x.k) (fun e he => fK_inj (hg e he) hx)]; exact hn2
    refine ⟨.dK (putK kvs (fK x) x.t), ⟨_, rfl, g_put fK p nn⟩, ?_⟩
    obtain ⟨i, e1, h1⟩ := hx
    have e2 : kV (fK x) = .int i := by unfold fK; rw [h1]; rfl
    rw [e1, ← e2]
    exact DPut.k ht hl2
theorem thg_pop {t : V} (xe : Ext G H) (ht : H th = some o) (h : Thg b es o) (ha : Asc es) (hg : ∀ e ∈ es, GoodK b G e) (hx : GoodK b G x) (hm : getE x.k es = some t) :
    ∃ o', Thg b (remE x.k es) o' ∧ DPop H th x.v t (upd H th o') := by
  cases b with
  | true =>
    obtain ⟨kvs, rfl, p⟩ := h
    obtain ⟨a, e1, h1⟩ := hx
    have nn : valV kvs (fT x) = some t := by rw [val_perm p (fT_nodup ha), g_val fT (k := x.k) (fun e _ => fT_inj)]; exact hm
    refine ⟨.dT (dropK kvs (fT x)), ⟨_, rfl, g_drop fT (fun e _ => fT_inj) p⟩, ?_⟩
    rw [e1]
    exact .inr ⟨kvs, fT x, a, ht, rfl, by rw [map_kV_inl]; exact xe _ _ h1, nn, rfl⟩
  | false =>
    obtain ⟨kvs, rfl, p⟩ := h
    have nn : valV kvs (fK x) = some t := by rw [val_perm p (fK_nodup ha hg), g_val fK (k := x.k) (fun e he => fK_inj (hg e he) hx)]; exact hm
    refine ⟨.dK (dropK kvs (fK x)), ⟨_, rfl, g_drop fK (fun e he => fK_inj (hg e he) hx) p⟩, ?_⟩
    obtain ⟨i, e1, h1⟩ := hx
    have e2 : kV (fK x) = .int i := by unfold fK; rw [h1]; rfl
    rw [e1, ← e2]
    exact .inl ⟨kvs, fK x, ht, rfl, nn, rfl⟩
end
theorem eqv_self {d : PyData} (h : SeqAt.shaped d = true) : PyData.eqv d d = true := SeqAt.eqv_refl d (SeqAt.canLay_of_shaped h)
end Mo
namespace Mo
open PySem PySem.Spec PyProof.Rows L2
/-! ### orders of the volatile objects -/
section
variable {α : Type} {A B X Y Z : List α} {a b : α}
theorem pm_step (h : Y.Perm (A ++ Z)) (k : X.Perm Z) : (A ++ X).Perm Y := (k.append_left A).trans h.symm
theorem pm_stepC (h : Y.Perm (a :: Z)) (k : X.Perm Z) : (a :: X).Perm Y := (k.cons a).trans h.symm
theorem pm_here : (A ++ Z).Perm (A ++ Z) := .refl _
theorem pm_last : A.Perm (A ++ []) := by rw [List.append_nil]
theorem pm_hereC : (a :: Z).Perm (a :: Z) := .refl _
theorem pm_skip (h : Y.Perm (A ++ Z)) : (B ++ Y).Perm (A ++ (B ++ Z)) := by
  refine (h.append_left B).trans ?_
  rw [← List.append_assoc, ← List.append_assoc]
  exact List.perm_append_comm.append_right Z
theorem pm_skipC (h : Y.Perm (A ++ Z)) : (b :: Y).Perm (A ++ (b :: Z)) := (h.cons b).trans List.perm_middle.symm
theorem pm_Cskip (h : Y.Perm (a :: Z)) : (B ++ Y).Perm (a :: (B ++ Z)) := (h.append_left B).trans List.perm_middle
theorem pm_CskipC (h : Y.Perm (a :: Z)) : (b :: Y).Perm (a :: (b :: Z)) := (h.cons b).trans (.swap _ _ _)
theorem pm_end : ([] : List α).Perm [] := .refl _
end
theorem Hd.dropA {G H : Hp} : ∀ {A L : Vo}, Hd G H (A ++ L) → Hd G H L
  | [], _, h => h
  | _ :: A, L, h => Hd.dropA (A := A) h.drop
/-! ### more steps -/
/-- a test, whatever way it is answered: what follows is shown once -/
theorem go_absT {c : TT} {σ : L2.St} {H : Hp} {F : Bool → Hp → Prop} (Pre : Bool → Hp → Prop) (k : ∀ X : Bool → Hp → Prop, (∀ b H1, Pre b H1 → X b H1) → c σ H X) (f : ∀ b H1, Pre b H1 → F b H1) : c σ H F := k F f
theorem go_absE {c : TE} {σ : L2.St} {H : Hp} {F : VK} (Pre : VK) (k : ∀ X : VK, (∀ v H1, Pre v H1 → X v H1) → c σ H X) (f : ∀ v H1, Pre v H1 → F v H1) : c σ H F := k F f
def rRev (K : PySem.W.Frag) : V → Hp → VK → Prop := fun x H Q => ∃ a xs, x = .ref a ∧ SqL K H a xs ∧ ∀ p, H p = none → Q (.ref p) (upd H p (.lst xs.reverse))
def rInsert : V → List V → Hp → VK → Prop := fun x vs H Q => ∃ (l : Addr) (xs : List V) (i : Int) (y : V), x = .ref l ∧ vs = [.int i, y] ∧ H l = some (.lst xs) ∧ xs.length < sizeLine ∧ 0 ≤ i ∧ i < 2 ^ 63 ∧ Q .non (upd H l (.lst (xs.take i.toNat ++ [y] ++ xs.drop i.toNat)))
theorem mt_insertN {X : Cx} : MtR X "list.insert" rInsert := mt_insert
section
variable {K : PySem.W.Frag} {σ : St} {H : Hp} {Q : VK} {ta te : TE} {v x y : V}
theorem go_insert {l : Addr} {xs : List V} {n : Nat} (h : H l = some (.lst xs)) (hn : n ≤ xs.length) (hl : xs.length ≤ 10000) (k : Q .non (upd H l (.lst (xs.take n ++ [y] ++ xs.drop n)))) : rInsert (.ref l) [.int (n : Int), y] H Q :=
  ⟨l, xs, (n : Int), y, rfl, rfl, h, by rw [sizeLine_eq]; omega, by omega, by omega, by rw [Int.toNat_natCast]; exact k⟩
theorem go_popAt {l : Addr} {xs : List V} {n : Nat} {j : Int} (hj : j = (n : Int)) (h : H l = some (.lst xs)) (hl : xs.length ≤ 10000) (e : xs[n]? = some y) (k : Q y (upd H l (.lst (xs.eraseIdx n)))) : rPopAt (.ref l) [.int j] H Q := by
  have hn := (List.getElem?_eq_some_iff.mp e).1
  subst hj
  refine ⟨l, xs, (n : Int), n, y, rfl, rfl, h, by omega, by omega, ?_, e, k⟩
  have h0 : ¬ ((n : Int) < 0) := by omega
  have h1 : (decide (0 ≤ (n : Int)) && decide ((n : Int) < (xs.length : Int))) = true := by simp; omega
  simp only [seqIndex?, h0, if_false, h1, if_true, Int.toNat_natCast]
theorem go_tyDT {p : Addr} {kvs : List (List Key × V)} {R : Prop} (h : H p = some (.dT kvs)) (k : R) : tyV K "dict" (.ref p) H ∧ R := ⟨.inr (.inr (.inl ⟨rfl, .inr ⟨kvs, h⟩⟩)), k⟩
theorem go_tyDK {p : Addr} {kvs : List (Key × V)} {R : Prop} (h : H p = some (.dK kvs)) (k : R) : tyV K "dict" (.ref p) H ∧ R := ⟨.inr (.inr (.inl ⟨rfl, .inl ⟨kvs, h⟩⟩)), k⟩
theorem go_dpop {p : Addr} {H' : Hp} (g : DPop H p y v H') (k : Q v H') : rDPop1 (.ref p) [y] H Q := ⟨p, y, v, H', rfl, rfl, g, k⟩
theorem go_inD {a : Addr} {o : Option V} (g : DGet H a x o) (k : Q (.bl o.isSome) H) : rInA K x (.ref a) H Q := .inl ⟨a, o, rfl, g, k⟩
theorem go_ninD {a : Addr} {o : Option V} (g : DGet H a x o) (k : Q (.bl (!o.isSome)) H) : rNotInA K x (.ref a) H Q := .inl ⟨a, o, rfl, g, k⟩
theorem go_strI {n : Int} {Q1 : Int → Prop} {A : Prop} (k : A) : A := k
theorem go_revL {a : Addr} {xs : List V} (h : SqL K H a xs) (k : ∀ p, H p = none → Q (.ref p) (upd H p (.lst xs.reverse))) : rRev K (.ref a) H Q := ⟨a, xs, rfl, h, k⟩
end
section
variable {X : Cx} {K : PySem.W.Frag}
theorem pe_revK {e : Expr} {te : TE} {k : Nat} {p1 p2 p3 pos : Pos} (hK : X.K = K) (he : PE X e te) : PE X (.Subscript e (.Slice none none (some (.UnaryOp .USub (.Constant (.int 1) k p1) p2)) p3) pos) (tUn (rRev K) te) := hK ▸ pe_revL he
end
theorem half (lo hi : Nat) : ((lo : Int) + (hi : Int)).fdiv 2 = (((lo + hi) / 2 : Nat) : Int) := by
  rw [Int.fdiv_eq_ediv_of_nonneg _ (by decide)]
  omega
end Mo
local macro_rules | `(tactic| k_extra "p") => `(tactic| ((try simp only [List.append_assoc, List.cons_append, List.nil_append, List.append_nil]); repeat (first
  | with_reducible exact List.Perm.refl _
  | with_reducible exact Mo.pm_last
  | (with_reducible apply Mo.pm_stepC; focus (repeat (first | with_reducible exact Mo.pm_hereC | with_reducible apply Mo.pm_CskipC | with_reducible apply Mo.pm_Cskip)))
  | (with_reducible apply Mo.pm_step; focus (repeat (first | with_reducible exact Mo.pm_here | with_reducible exact Mo.pm_last | with_reducible apply Mo.pm_skipC | with_reducible apply Mo.pm_skip))))))
namespace Mo
open PySem PySem.Spec PyProof.Rows L2
structure CalP where
  c : Addr
  row : Addr
  th : Addr
  dx : Addr
/-- what it keeps is in order, its keys are there, it is not long -/
structure EsOk (b : Bool) (G : Hp) (es : List Ent) : Prop where
  asc : Asc es
  good : ∀ e ∈ es, GoodK b G e
theorem EsOk.mono {b : Bool} {G G' : Hp} {es : List Ent} (h : EsOk b G es) (x : Ext G G') : EsOk b G' es := ⟨h.asc, fun e he => (h.good e he).mono x⟩
theorem EsOk.ins {b : Bool} {G : Hp} {es : List Ent} {x : Ent} (h : EsOk b G es) (g : GoodK b G x) (n : x.k ∉ es.map (·.k)) : EsOk b G (insE x es) :=
  ⟨insE_asc h.asc n, fun e he => by
    rcases mem_insE.mp he with rfl | he
    · exact g
    · exact h.good e he⟩
theorem EsOk.rem {b : Bool} {G : Hp} {es : List Ent} {k : List Int} (h : EsOk b G es) : EsOk b G (remE k es) := ⟨remE_asc h.asc, fun e he => h.good e (mem_remE.mp he).1⟩
theorem EsOk.nil {b : Bool} {G : Hp} : EsOk b G [] := ⟨.nil, fun _ h => nomatch h⟩
def leastV : List Ent → V
  | [] => .non
  | e :: _ => e.v
end Mo
namespace Mo
open PySem PySem.Spec PyProof.Rows L2
/-! ### calendar.py -/
def calO (K : PySem.W.Frag) (P : CalP) : HO := .ins (He.ga K "Calendar") P.dx (fl_Calendar (.ref P.row) (.ref P.th))
/-- a calendar's objects -/
def calV (K : PySem.W.Frag) (P : CalP) (b : Bool) (es : List Ent) : Vo := [(P.c, Eq (calO K P)), (P.row, Eq (.lst (es.map (·.v)))), (P.th, Thg b es)]
def spCalInit (K : PySem.W.Frag) : Sp := fun vs H Q _ => ∃ (G : Hp) (L : Vo) (c dx : Addr) (b : Bool), vs = [.ref c] ∧ Hd G H ((c, Eq (.ins (He.ga K "Calendar") dx [])) :: L) ∧
  ∀ P H', P.c = c → Hd G H' (calV K P b [] ++ L) → (∀ a o, a ≠ c → H a = some o → H' a = some o) → Q .non H'
def spPlace (K : PySem.W.Frag) : Sp := fun vs H Q _ => ∃ (b : Bool) (G : Hp) (P : CalP) (es : List Ent) (x : Ent), vs = [.ref P.c, x.v] ∧ Ext G H ∧ H P.c = some (calO K P) ∧ H P.row = some (.lst (es.map (·.v))) ∧ EsOk b G es ∧ GoodK b G x ∧ es.length ≤ 10000 ∧
  ∀ n : Nat, n ≤ es.length → (∀ i y, i < n → es[i]? = some y → HT.lexLt y.k x.k = true) → (∀ i y, n ≤ i → es[i]? = some y → HT.lexLt y.k x.k = false) → Q (.int (n : Int)) H
def spPut (K : PySem.W.Frag) : Sp := fun vs H Q _ => ∃ (b : Bool) (G : Hp) (L : Vo) (P : CalP) (es : List Ent) (x : Ent), vs = [.ref P.c, x.v, x.t] ∧ Hd G H (calV K P b es ++ L) ∧ EsOk b G es ∧ GoodK b G x ∧ x.k ∉ es.map (·.k) ∧ es.length ≤ 5000 ∧
  ∀ H', Hd G H' (calV K P b (insE x es) ++ L) → (∀ a o, a ≠ P.row → a ≠ P.th → H a = some o → H' a = some o) → Q .non H'
def spSize (K : PySem.W.Frag) : Sp := fun vs H Q _ => ∃ (P : CalP) (es : List Ent), vs = [.ref P.c] ∧ H P.c = some (calO K P) ∧ H P.row = some (.lst (es.map (·.v))) ∧ Q (.int (es.length : Int)) H
def spLeast (K : PySem.W.Frag) : Sp := fun vs H Q _ => ∃ (P : CalP) (es : List Ent), vs = [.ref P.c] ∧ H P.c = some (calO K P) ∧ H P.row = some (.lst (es.map (·.v))) ∧ Q (leastV es) H
def spLeave (K : PySem.W.Frag) : Sp := fun vs H Q _ => ∃ (b : Bool) (G : Hp) (L : Vo) (P : CalP) (es : List Ent), vs = [.ref P.c] ∧ Hd G H (calV K P b es ++ L) ∧ EsOk b G es ∧ es.length ≤ 10000 ∧
  (es = [] → Q .non H) ∧ (∀ e r, es = e :: r → ∀ p H', Hd (upd G p (.tup [e.v, e.t])) H' (calV K P b r ++ L) → G p = none → Q (.ref p) H')
section
variable {P : Program} {w : World} {K : PySem.W.Frag} {mg : Str → Option Value} {base : Heap}
theorem ok_Calendar_init (T : Tx K mg) : OkM P w K mg base 1 "Calendar" "__init__" ["self"] (spCalInit K) := by
  refine T.f_Calendar_init.okX sc_Calendar_init (fun vs H Q E h => ?_) (fun cdv A outer s H vs Q E hr h => ?_)
  · obtain ⟨G, L, c, dx, b, rfl, _⟩ := h
    rfl
  · have hu1 := hu_of hr; have hu0 := hr.units0; have hu64 := hr.units; have hu65 := hu65_of hr; have nd := sc_Calendar_init.nd
    obtain ⟨G, L, c, dx, b, rfl, z, q⟩ := h
    refine ⟨_, (pss_cons (ps_fldK (K := K) rfl (pv 0) (pe_lst pa_nil) rfl)
      (pss_one (ps_fldK (K := K) rfl (pv 0) pe_dnew rfl))), ?_⟩
    refine go_start (σ' := [some (.ref c)]) rfl ?_
    k_extra "we"
    refine go_sz rfl fun l hl => ?_
    have z1 := z.new hl (φ := Eq (.lst [])) rfl
    k_extra "we"
    refine go_sfldL (z1.eq (List.mem_cons_of_mem _ List.mem_cons_self)) T.c_Calendar T.n_Calendar_row rfl ?_
    rw [in_Calendar_0]
    have z2 := z1.set (o' := .ins (He.ga K "Calendar") dx [(("row" : Str), V.ref l)]) (ψ := Eq (.ins (He.ga K "Calendar") dx [(("row" : Str), V.ref l)])) 1 rfl rfl
    have k2 : ∀ a o, a ≠ c → H a = some o → (upd (upd H l (.lst [])) c (.ins (He.ga K "Calendar") dx [(("row" : Str), V.ref l)])) a = some o := fun a o n e => by rw [upd_ne n, upd_ne (ne_of_none e hl)]; exact e
    revert z2 k2
    generalize upd (upd H l (.lst [])) c (.ins (He.ga K "Calendar") dx [(("row" : Str), V.ref l)]) = H2
    intro z2 k2
    k_extra "we"
    have fin : ∀ d o, H2 d = none → Thg b [] o → tSeq tNext tNext { nx := fun _ H' => Q .non H', rt := Q } [some (.ref c)] (upd (upd H2 d o) c (.ins (He.ga K "Calendar") dx (fl_Calendar (.ref l) (.ref d)))) := fun d o hd ht => by
      have z3 := z2.new hd (φ := Thg b []) ht
      have z4 := z3.set (o' := .ins (He.ga K "Calendar") dx (fl_Calendar (.ref l) (.ref d))) (ψ := Eq (.ins (He.ga K "Calendar") dx (fl_Calendar (.ref l) (.ref d)))) 2 rfl rfl
      k_extra "we"
      refine q ⟨c, l, d, dx⟩ _ rfl (z4.perm ?_) fun a o n e => ?_
      · exact (List.Perm.swap _ _ _).trans (((List.Perm.swap _ _ _).cons _).trans (List.Perm.swap _ _ _))
      · have e2 := k2 a o n e
        rw [upd_ne n, upd_ne (ne_of_none e2 hd)]
        exact e2
    cases b with
    | true =>
      refine go_dT fun d hd => ?_
      k_extra "we"
      have z3 := z2.new hd (φ := Eq (.dT [])) rfl
      refine go_sfldL (z3.eq (List.mem_cons_of_mem _ (List.mem_cons_of_mem _ List.mem_cons_self))) T.c_Calendar T.n_Calendar_things rfl ?_
      rw [in_Calendar_1]
      exact fin d (.dT []) hd ⟨[], rfl, .refl _⟩
    | false =>
      refine go_dK fun d hd => ?_
      k_extra "we"
      have z3 := z2.new hd (φ := Eq (.dK [])) rfl
      refine go_sfldL (z3.eq (List.mem_cons_of_mem _ (List.mem_cons_of_mem _ List.mem_cons_self))) T.c_Calendar T.n_Calendar_things rfl ?_
      rw [in_Calendar_1]
      exact fin d (.dK []) hd ⟨[], rfl, .refl _⟩
theorem ok_Calendar_place (T : Tx K mg) : OkM P w K mg base 1 "Calendar" "place" ["self", "key"] (spPlace K) := by
  refine T.f_Calendar_place.okX sc_Calendar_place (fun vs H Q E h => ?_) (fun cdv A outer s H vs Q E hr h => ?_)
  · obtain ⟨b, G, P, es, x, rfl, _⟩ := h
    rfl
  · have hu1 := hu_of hr; have hu0 := hr.units0; have hu64 := hr.units; have hu65 := hu65_of hr; have nd := sc_Calendar_place.nd
    obtain ⟨b, G, P, es, x, rfl, xG, hc, hr0, he, hx, hl, q⟩ := h
    refine ⟨_, (pss_cons (ps_set (i := 2) nd rfl (Or.inl rfl) pe_int)
      (pss_cons (ps_set (i := 3) nd rfl (Or.inl rfl) (pe_callB (call_lenK (K := K) rfl) (by rfl) T.b_len (by decide +kernel) (pa_cons (pe_fldK (K := K) rfl (pv 0) rfl) pa_nil)))
      (pss_cons (ps_while (passes_of rfl) (pt_cmpR (op_ltK (K := K) rfl hu0) (pv 2) (pv 3) (nomark _)) (pss_cons (ps_set (i := 4) nd rfl (Or.inl rfl) (pe_op op_fdivX (pe_op (op_addK (K := K) rfl) (pv 2) (pv 3)) pe_int))
      (pss_one (ps_if (pt_cmpR (op_ltK (K := K) rfl hu0) (pe_ix (ix_anyK (K := K) rfl hu1) (pe_fldK (K := K) rfl (pv 0) rfl) (pv 4) (fun _ _ => rfl)) (pv 1) (nomark _)) (pss_one (ps_set (i := 2) nd rfl (Or.inl rfl) (pe_op (op_addK (K := K) rfl) (pv 4) pe_int)))
      (pss_one (ps_set (i := 3) nd rfl (Or.inl rfl) (pv 4)))))))
      (pss_one (ps_ret (pv 2)))))), ?_⟩
    refine go_start (σ' := [some (.ref P.c), some x.v, none, none, none]) rfl ?_
    k_extra "we"
    refine go_fldL hc T.c_Calendar T.n_Calendar_row lk_Calendar_row ?_
    k_extra "we"
    refine go_lenL (SqL.of hr0) ?_
    rw [List.length_map]
    k_extra "we"
    refine go_while (fun m σ H' => H' = H ∧ ∃ (lo hi : Nat) (u : Option V), σ = [some (.ref P.c), some x.v, some (.int (lo : Int)), some (.int (hi : Int)), u] ∧ lo ≤ hi ∧ hi ≤ es.length ∧ m = hi - lo ∧
      (∀ i y, i < lo → es[i]? = some y → HT.lexLt y.k x.k = true) ∧ (∀ i y, hi ≤ i → es[i]? = some y → HT.lexLt y.k x.k = false)) es.length
      ⟨rfl, 0, es.length, none, rfl, Nat.zero_le _, Nat.le_refl _, rfl, fun i y h => absurd h (Nat.not_lt_zero _), fun i y h e => by rw [List.getElem?_eq_none h] at e; cases e⟩ ?_
    rintro m σ' H' ⟨rfl, lo, hi, u, rfl, h1, h2, rfl, h3, h4⟩
    k_extra "we"
    refine go_ite (fun hlt => ?_) (fun hge => ?_)
    · have hlt2 : lo < hi := by omega
      refine ⟨_, fun _ _ h => h, ?_⟩
      k_extra "we"
      refine go_div 2 (by decide) (by decide) ?_
      rw [half]
      have hm : (lo + hi) / 2 < es.length := by omega
      have em : es[(lo + hi) / 2]? = some es[(lo + hi) / 2] := List.getElem?_eq_getElem hm
      k_extra "we"
      refine go_fldL hc T.c_Calendar T.n_Calendar_row lk_Calendar_row ?_
      k_extra "we"
      refine go_subL (SqL.of hr0) (atI_nat (v := es[(lo + hi) / 2].v) (by rw [List.getElem?_map, em]; rfl)) ?_
      k_extra "we"
      refine go_ltE xG (he.good _ (List.mem_of_getElem? em)) hx ?_
      k_extra "we"
      cases hb : HT.lexLt es[(lo + hi) / 2].k x.k with
      | true =>
        k_extra "we"
        refine ⟨_, by omega, rfl, (lo + hi) / 2 + 1, hi, _, rfl, by omega, h2, rfl, fun i y hi2 hy => ?_, h4⟩
        rcases Nat.lt_or_ge i ((lo + hi) / 2) with z | z
        · obtain ⟨hil, hie⟩ := List.getElem?_eq_some_iff.mp hy
          have := List.pairwise_iff_getElem.mp he.asc i ((lo + hi) / 2) hil hm z
          rw [hie] at this
          exact lex_trans this hb
        · have : i = (lo + hi) / 2 := by omega
          subst this
          rw [em] at hy
          cases hy
          exact hb
      | false =>
        k_extra "we"
        refine ⟨_, by omega, rfl, lo, (lo + hi) / 2, _, rfl, by omega, by omega, rfl, h3, fun i y hi2 hy => ?_⟩
        rcases Nat.lt_or_ge ((lo + hi) / 2) i with z | z
        · obtain ⟨hil, hie⟩ := List.getElem?_eq_some_iff.mp hy
          have := List.pairwise_iff_getElem.mp he.asc ((lo + hi) / 2) i hm hil z
          rw [hie] at this
          cases q2 : HT.lexLt y.k x.k with
          | false => rfl
          | true =>
            have := lex_trans this q2
            rw [hb] at this
            cases this
        · have : i = (lo + hi) / 2 := by omega
          subst this
          rw [em] at hy
          cases hy
          exact hb
    · have : lo = hi := by omega
      subst this
      k_extra "we"
      exact q lo h2 h3 h4
theorem ok_Calendar_put (T : Tx K mg) : OkM P w K mg base 2 "Calendar" "put" ["self", "key", "thing"] (spPut K) := by
  have G_Calendar_place := ok_Calendar_place (P := P) (w := w) (base := base) T
  refine T.f_Calendar_put.okX sc_Calendar_put (fun vs H Q E h => ?_) (fun cdv A outer s H vs Q E hr h => ?_)
  · obtain ⟨b, G, L, P, es, x, rfl, _⟩ := h
    rfl
  · have hu1 := hu_of hr; have hu0 := hr.units0; have hu64 := hr.units; have hu65 := hu65_of hr; have nd := sc_Calendar_put.nd
    obtain ⟨b, G, L, P, es, x, rfl, z, he, hx, hn, hl, q⟩ := h
    refine ⟨_, (pss_cons (ps_expr (pe_bmK (K := K) rfl PySem.F.plainAttrs_list PySem.F.slot_list_insert PySem.F.type_list_insert mt_insertN (pe_fldK (K := K) rfl (pv 0) rfl) (pa_cons (pmeK (K := K) rfl T.m_Calendar_place T.c_Calendar G_Calendar_place hr (takes_of rfl rfl rfl rfl) (pv 0) (pa_cons (pv 1) pa_nil)) (pa_cons (pv 1) pa_nil))))
      (pss_one (ps_asg (pv 2) (pg_sub (pe_fldK (K := K) rfl (pv 0) rfl) (pv 1) (set_any hu1))))), ?_⟩
    refine go_start (σ' := [some (.ref P.c), some x.v, some x.t]) rfl ?_
    have hc : H P.c = some (calO K P) := z.eq List.mem_cons_self
    have hr0 : H P.row = some (.lst (es.map (·.v))) := z.eq (List.mem_cons_of_mem _ List.mem_cons_self)
    k_extra "we"
    refine go_fldL hc T.c_Calendar T.n_Calendar_row lk_Calendar_row ?_
    k_extra "we"
    refine go_tyL (SqL.of hr0) ?_
    k_extra "we"
    refine go_methL hc no_Calendar_place ?_
    k_extra "we"
    refine ⟨b, G, P, es, x, rfl, z.ex, hc, hr0, he, hx, by omega, fun n n1 n2 n3 => ?_⟩
    k_extra "we"
    refine go_insert hr0 (by rw [List.length_map]; exact n1) (by rw [List.length_map]; omega) ?_
    have e1 : (es.map (·.v)).take n ++ [x.v] ++ (es.map (·.v)).drop n = (insE x es).map (·.v) := by
      rw [insE_at n1 n2 n3, List.map_append, List.map_take, List.map_cons, List.map_drop, List.append_assoc]
      rfl
    rw [e1]
    have z1 := z.set (o' := .lst ((insE x es).map (·.v))) (ψ := Eq (.lst ((insE x es).map (·.v)))) 1 rfl rfl
    have k1 : ∀ a o, a ≠ P.row → H a = some o → upd H P.row (.lst ((insE x es).map (·.v))) a = some o := fun a o n e => by rw [upd_ne n]; exact e
    revert z1 k1
    generalize upd H P.row (.lst ((insE x es).map (·.v))) = H1
    intro z1 k1
    have hc1 : H1 P.c = some (calO K P) := z1.eq List.mem_cons_self
    k_extra "we"
    refine go_fldL hc1 T.c_Calendar T.n_Calendar_things lk_Calendar_things ?_
    k_extra "we"
    obtain ⟨o, ho, ht⟩ := z1.get (p := P.th) (φ := Thg b es) (List.mem_cons_of_mem _ (List.mem_cons_of_mem _ List.mem_cons_self))
    obtain ⟨o', t1, t2⟩ := thg_put z1.ex ho ht he.asc he.good hx hn (by omega)
    refine go_setD t2 ?_
    refine q _ (z1.set (o' := o') (ψ := Thg b (insE x es)) 2 rfl t1) fun a o n1 n2 e => ?_
    rw [upd_ne n2]
    exact k1 a o n1 e
theorem ok_Calendar_size (T : Tx K mg) : OkM P w K mg base 1 "Calendar" "size" ["self"] (spSize K) := by
  refine T.f_Calendar_size.okX sc_Calendar_size (fun vs H Q E h => ?_) (fun cdv A outer s H vs Q E hr h => ?_)
  · obtain ⟨P, es, rfl, _⟩ := h
    rfl
  · have hu1 := hu_of hr; have hu0 := hr.units0; have hu64 := hr.units; have hu65 := hu65_of hr; have nd := sc_Calendar_size.nd
    obtain ⟨P, es, rfl, hc, hr0, q⟩ := h
    refine ⟨_, (pss_one (ps_ret (pe_callB (call_lenK (K := K) rfl) (by rfl) T.b_len (by decide +kernel) (pa_cons (pe_fldK (K := K) rfl (pv 0) rfl) pa_nil)))), ?_⟩
    refine go_start (σ' := [some (.ref P.c)]) rfl ?_
    k_extra "we"
    refine go_fldL hc T.c_Calendar T.n_Calendar_row lk_Calendar_row ?_
    k_extra "we"
    refine go_lenL (SqL.of hr0) ?_
    rw [List.length_map]
    exact q
theorem ok_Calendar_least (T : Tx K mg) : OkM P w K mg base 1 "Calendar" "least" ["self"] (spLeast K) := by
  refine T.f_Calendar_least.okX sc_Calendar_least (fun vs H Q E h => ?_) (fun cdv A outer s H vs Q E hr h => ?_)
  · obtain ⟨P, es, rfl, _⟩ := h
    rfl
  · have hu1 := hu_of hr; have hu0 := hr.units0; have hu64 := hr.units; have hu65 := hu65_of hr; have nd := sc_Calendar_least.nd
    obtain ⟨P, es, rfl, hc, hr0, q⟩ := h
    refine ⟨_, (pss_cons (ps_if (pt_cmpR (op_eqK (K := K) rfl hu64) (pe_callB (call_lenK (K := K) rfl) (by rfl) T.b_len (by decide +kernel) (pa_cons (pe_fldK (K := K) rfl (pv 0) rfl) pa_nil)) pe_int (nomark _)) (pss_one (ps_ret pe_non))
      pss_nil)
      (pss_one (ps_ret (pe_ix (ix_anyK (K := K) rfl hu1) (pe_fldK (K := K) rfl (pv 0) rfl) pe_int (fun _ _ => rfl))))), ?_⟩
    refine go_start (σ' := [some (.ref P.c)]) rfl ?_
    k_extra "we"
    refine go_fldL hc T.c_Calendar T.n_Calendar_row lk_Calendar_row ?_
    k_extra "we"
    refine go_lenL (SqL.of hr0) ?_
    rw [List.length_map]
    k_extra "we"
    cases es with
    | nil =>
      refine go_ite (fun _ => ?_) (fun h => absurd rfl h)
      k_extra "we"
      exact q
    | cons e r =>
      refine go_ite (fun h => ?_) (fun _ => ?_)
      · rw [List.length_cons] at h
        omega
      · k_extra "we"
        refine go_fldL hc T.c_Calendar T.n_Calendar_row lk_Calendar_row ?_
        k_extra "we"
        exact go_subL (SqL.of hr0) (atI_nat (j := 0) rfl) q
theorem ok_Calendar_leave (T : Tx K mg) : OkM P w K mg base 1 "Calendar" "leave" ["self"] (spLeave K) := by
  refine T.f_Calendar_leave.okX sc_Calendar_leave (fun vs H Q E h => ?_) (fun cdv A outer s H vs Q E hr h => ?_)
  · obtain ⟨b, G, L, P, es, rfl, _⟩ := h
    rfl
  · have hu1 := hu_of hr; have hu0 := hr.units0; have hu64 := hr.units; have hu65 := hu65_of hr; have nd := sc_Calendar_leave.nd
    obtain ⟨b, G, L, P, es, rfl, z, he, hl, q1, q2⟩ := h
    refine ⟨_, (pss_cons (ps_if (pt_cmpR (op_eqK (K := K) rfl hu64) (pe_callB (call_lenK (K := K) rfl) (by rfl) T.b_len (by decide +kernel) (pa_cons (pe_fldK (K := K) rfl (pv 0) rfl) pa_nil)) pe_int (nomark _)) (pss_one (ps_ret pe_non))
      pss_nil)
      (pss_cons (ps_set (i := 1) nd rfl (Or.inl rfl) (pe_bmK (K := K) rfl PySem.F.plainAttrs_list PySem.F.slot_list_pop PySem.F.type_list_pop mt_popAt (pe_fldK (K := K) rfl (pv 0) rfl) (pa_cons pe_int pa_nil)))
      (pss_one (ps_ret (pe_tup (pa_cons (pv 1) (pa_cons (pe_bmK (K := K) rfl PySem.F.plainAttrs_dict PySem.F.slot_dict_pop PySem.F.type_dict_pop (mt_dpop1 hu1) (pe_fldK (K := K) rfl (pv 0) rfl) (pa_cons (pv 1) pa_nil)) pa_nil))))))), ?_⟩
    refine go_start (σ' := [some (.ref P.c), none]) rfl ?_
    have hc : H P.c = some (calO K P) := z.eq List.mem_cons_self
    have hr0 : H P.row = some (.lst (es.map (·.v))) := z.eq (List.mem_cons_of_mem _ List.mem_cons_self)
    k_extra "we"
    refine go_fldL hc T.c_Calendar T.n_Calendar_row lk_Calendar_row ?_
    k_extra "we"
    refine go_lenL (SqL.of hr0) ?_
    rw [List.length_map]
    k_extra "we"
    cases es with
    | nil =>
      refine go_ite (fun _ => ?_) (fun h => absurd rfl h)
      k_extra "we"
      exact q1 rfl
    | cons e r =>
      refine go_ite (fun h => ?_) (fun _ => ?_)
      · rw [List.length_cons] at h
        omega
      · k_extra "we"
        refine go_fldL hc T.c_Calendar T.n_Calendar_row lk_Calendar_row ?_
        k_extra "we"
        refine go_tyL (SqL.of hr0) ?_
        k_extra "we"
        refine go_popAt (n := 0) rfl hr0 (by rw [List.length_map]; exact hl) rfl ?_
        have z1 := z.set (o' := .lst (r.map (·.v))) (ψ := Eq (.lst (r.map (·.v)))) 1 rfl rfl
        have e1 : ((e :: r).map (·.v)).eraseIdx 0 = r.map (·.v) := rfl
        rw [e1]
        revert z1
        generalize upd H P.row (.lst (r.map (·.v))) = H1
        intro z1
        have hc1 : H1 P.c = some (calO K P) := z1.eq List.mem_cons_self
        k_extra "we"
        refine go_fldL hc1 T.c_Calendar T.n_Calendar_things lk_Calendar_things ?_
        obtain ⟨o, ho, ht⟩ := z1.get (p := P.th) (φ := Thg b (e :: r)) (List.mem_cons_of_mem _ (List.mem_cons_of_mem _ List.mem_cons_self))
        obtain ⟨o', t1, t2⟩ := thg_pop (x := e) z1.ex ho ht he.asc he.good (he.good e List.mem_cons_self) (getE_of (asc_nodup he.asc) List.mem_cons_self)
        rw [remE_head he.asc] at t1
        have ty : tyV K "dict" (.ref P.th) H1 := by
          rcases thg_len (n := 0) (kvs := []) ht with ⟨kvs, rfl, _⟩ | ⟨kvs, rfl, _⟩
          · exact .inr (.inr (.inl ⟨rfl, .inr ⟨kvs, ho⟩⟩))
          · exact .inr (.inr (.inl ⟨rfl, .inl ⟨kvs, ho⟩⟩))
        refine ⟨ty, ?_⟩
        k_extra "we"
        refine go_dpop t2 ?_
        have z2 := z1.set (o' := o') (ψ := Thg b r) 2 rfl t1
        k_extra "we"
        refine go_sz rfl fun p hp => ?_
        exact q2 e r rfl p _ (z2.fix hp) (z2.gno hp)
end
end Mo
namespace Mo
open PySem PySem.Spec PyProof.Rows L2
/-! ### anything that keeps things by keys, as a class tells it -/
structure CalI (K : PySem.W.Frag) (cn : Str) where
  Rep : Hp → Vo → Addr → List Ent → Prop
  ins : ∀ {G C c es}, Rep G C c es → ∃ φ, (c, φ) ∈ C ∧ ∀ o, φ o → ∃ dx fs, o = .ins (He.ga K cn) dx fs ∧ ∀ m ∈ (["put", "size", "least", "leave", "take_out"] : List Str), fs.lookup m = none
  mono : ∀ {G G' C c es}, Rep G C c es → Ext G G' → Rep G' C c es
  ok : ∀ {G C c es}, Rep G C c es → EsOk true G es
theorem CalI.at_ {K : PySem.W.Frag} {cn : Str} (I : CalI K cn) {G H : Hp} {C L : Vo} {c : Addr} {es : List Ent} (r : I.Rep G C c es) (z : Hd G H L) (s : ∀ x ∈ C, x ∈ L) : ∃ dx fs, H c = some (.ins (He.ga K cn) dx fs) ∧ ∀ m ∈ (["put", "size", "least", "leave", "take_out"] : List Str), fs.lookup m = none := by
  obtain ⟨φ, h1, h2⟩ := I.ins r
  obtain ⟨o, h3, h4⟩ := z.get (s _ h1)
  obtain ⟨dx, fs, rfl, h5⟩ := h2 o h4
  exact ⟨dx, fs, h3, h5⟩
section
variable {K : PySem.W.Frag} {cn : Str} (I : CalI K cn)
def spPutI : Sp := fun vs H Q _ => ∃ (G : Hp) (C L : Vo) (c : Addr) (es : List Ent) (x : Ent), vs = [.ref c, x.v, x.t] ∧ I.Rep G C c es ∧ Hd G H (C ++ L) ∧ GoodK true G x ∧ x.k ≠ [] ∧ x.k ∉ es.map (·.k) ∧ es.length ≤ 4000 ∧
  ∀ C' H', I.Rep G C' c (insE x es) → Hd G H' (C' ++ L) → Q .non H'
def spSizeI : Sp := fun vs H Q _ => ∃ (G : Hp) (C L : Vo) (c : Addr) (es : List Ent), vs = [.ref c] ∧ I.Rep G C c es ∧ Hd G H (C ++ L) ∧ Q (.int (es.length : Int)) H
def spLeastI : Sp := fun vs H Q _ => ∃ (G : Hp) (C L : Vo) (c : Addr) (es : List Ent), vs = [.ref c] ∧ I.Rep G C c es ∧ Hd G H (C ++ L) ∧ Q (leastV es) H
def spLeaveI : Sp := fun vs H Q _ => ∃ (G : Hp) (C L : Vo) (c : Addr) (es : List Ent), vs = [.ref c] ∧ I.Rep G C c es ∧ Hd G H (C ++ L) ∧ es.length ≤ 4000 ∧
  (es = [] → Q .non H) ∧ (∀ e r, es = e :: r → ∀ p C' H', I.Rep (upd G p (.tup [e.v, e.t])) C' c r → Hd (upd G p (.tup [e.v, e.t])) H' (C' ++ L) → G p = none → Q (.ref p) H')
def spTakeI : Sp := fun vs H Q _ => ∃ (G : Hp) (C L : Vo) (c : Addr) (es : List Ent) (x : Ent), vs = [.ref c, x.v] ∧ I.Rep G C c es ∧ Hd G H (C ++ L) ∧ GoodK true G x ∧ x.k ≠ [] ∧ es.length ≤ 4000 ∧
  (getE x.k es = none → Q .non H) ∧ (∀ t, getE x.k es = some t → ∀ C' H', I.Rep G C' c (remE x.k es) → Hd G H' (C' ++ L) → Q t H')
end
/-! #### data of keys and things -/
/-- a thing that is told apart -/
def Plain (K : PySem.W.Frag) (G : Hp) (t : V) : Prop := ∃ d, Dp K G t d ∧ SeqAt.shaped d = true
theorem Plain.mono {K : PySem.W.Frag} {G G' : Hp} {t : V} (h : Plain K G t) (x : Ext G G') : Plain K G' t := let ⟨d, h1, h2⟩ := h; ⟨d, dp_mono x h1, h2⟩
theorem eqv_ints : ∀ ns ms : List Int, PyData.eqvAll (ns.map PyData.int) (ms.map PyData.int) = decide (ns = ms)
  | [], [] => rfl
  | [], _ :: _ => rfl
  | _ :: _, [] => rfl
  | n :: ns, m :: ms => by
    rw [List.map_cons, List.map_cons]
    show (PyData.eqv (.int n) (.int m) && PyData.eqvAll (ns.map PyData.int) (ms.map PyData.int)) = _
    rw [eqv_ints ns ms]
    show ((n == m) && decide (ns = ms)) = _
    by_cases h : n = m
    · subst h
      simp
    · have h1 : (n == m) = false := beq_eq_false_iff_ne.mpr h
      rw [h1, decide_eq_false (fun z => h (List.cons.inj z).1)]
      rfl
theorem eqv_tup (ns ms : List Int) : PyData.eqv (.tuple (ns.map PyData.int)) (.tuple (ms.map PyData.int)) = decide (ns = ms) := eqv_ints ns ms
theorem dp_ints {K : PySem.W.Frag} {G : Hp} {a : Addr} {ns : List Int} (h : G a = some (.tup (ns.map V.int))) : Dp K G (.ref a) (.tuple (ns.map PyData.int)) := .tup (SqT.of h) (dpa_ints ns)
theorem lay_ints : ∀ ns : List Int, PyData.canLayAll0 (ns.map PyData.int) = true
  | [] => rfl
  | _ :: r => lay_ints r
theorem depth_ints : ∀ ns : List Int, PyData.depth (.tuple (ns.map PyData.int)) ≤ 2
  | [] => by decide
  | _ :: r => by
    have := depth_ints r
    simp only [PyData.depth, PyData.depthAll, List.map_cons] at this ⊢
    omega
theorem shaped_ints (ns : List Int) : SeqAt.shaped (.tuple (ns.map PyData.int)) = true := by
  unfold SeqAt.shaped
  rw [Bool.and_eq_true]
  exact ⟨lay_ints ns, decide_eq_true (Nat.le_trans (depth_ints ns) (by decide))⟩
/-- the same value twice -/
theorem go_eqP {K : PySem.W.Frag} {G H : Hp} {Q : VK} {t : V} (x : Ext G H) (h : Plain K G t) (k : Q (.bl true) H) : rEqA K t t H Q := by
  obtain ⟨d, h1, h2⟩ := h
  exact go_eqD (dp_mono x h1) (dp_mono x h1) h2 h2 (by rw [eqv_self h2]; exact k)
theorem go_neP {K : PySem.W.Frag} {G H : Hp} {Q : VK} {t : V} (x : Ext G H) (h : Plain K G t) (k : Q (.bl false) H) : rNeA K t t H Q := by
  obtain ⟨d, h1, h2⟩ := h
  exact go_neD (dp_mono x h1) (dp_mono x h1) h2 h2 (by rw [eqv_self h2]; exact k)
theorem plain_key {K : PySem.W.Frag} {G : Hp} {e : Ent} (h : GoodK true G e) : Plain K G e.v := by
  obtain ⟨a, h1, h2⟩ := h
  rw [h1]
  exact ⟨_, dp_ints h2, shaped_ints _⟩
theorem plain_non {K : PySem.W.Frag} {G : Hp} : Plain K G .non := ⟨.none, .non, rfl⟩
/-! #### the law's own dict of things -/
def unInl : Key → Int
  | .inl i => i
  | .inr _ => 0
section
variable {K : PySem.W.Frag} {G H : Hp} {Q : VK} {es : List Ent} {th : Addr} {o : HO}
theorem go_minT {e : Ent} {r : List Ent} (ht : H th = some o) (h : Thg true (e :: r) o) (ha : Asc (e :: r)) (k : ∀ b, H b = some (.tup (e.k.map V.int)) → Q (.ref b) H) : rMinT [.ref th] H Q := by
  obtain ⟨kvs, rfl, p⟩ := h
  have hm : ∀ q ∈ kvs, ∃ x ∈ e :: r, q.1 = fT x := fun q hq => by
    obtain ⟨x, hx, rfl⟩ := List.mem_map.mp (p.mem_iff.mp hq)
    exact ⟨x, hx, rfl⟩
  have un : ∀ ns : List Int, (ns.map (Sum.inl : Int → Key)).map unInl = ns := fun ns => by
    rw [List.map_map]
    exact List.map_id ns
  refine ⟨th, kvs, kvs.map fun q => q.1.map unInl, rfl, ht, ?_, ?_, fun b ns hn hle hb => ?_⟩
  · rw [List.map_map]
    refine List.map_congr_left fun q hq => ?_
    obtain ⟨x, _, e1⟩ := hm q hq
    show q.1 = (q.1.map unInl).map Sum.inl
    rw [e1]
    show x.k.map Sum.inl = ((x.k.map Sum.inl).map unInl).map Sum.inl
    rw [un]
  · intro z
    have := congrArg List.length z
    rw [List.length_map, p.length_eq, List.length_map] at this
    cases this
  · have key : ∀ x ∈ e :: r, x.k ∈ kvs.map fun q => q.1.map unInl := fun x hx => by
      have := p.mem_iff.mpr (List.mem_map.mpr ⟨x, hx, rfl⟩)
      exact List.mem_map.mpr ⟨_, this, un x.k⟩
    obtain ⟨q, hq, e1⟩ := List.mem_map.mp hn
    obtain ⟨x, hx, e2⟩ := hm q hq
    have e3 : ns = x.k := by rw [← e1, e2]; exact un x.k
    have e4 : ns = e.k := by
      rcases List.mem_cons.mp hx with rfl | hx
      · exact e3
      · have h1 := (List.pairwise_cons.mp ha).1 x hx
        have h2 := hle e.k (key e List.mem_cons_self)
        rw [e3, h1] at h2
        cases h2
    rw [e4] at hb
    exact k b hb
theorem go_lenThg {b : Bool} (ht : H th = some o) (h : Thg b es o) (k : Q (.int (es.length : Int)) H) : rLenA K [.ref th] H Q := by
  rcases thg_len (n := 0) (kvs := []) h with ⟨kvs, rfl, e⟩ | ⟨kvs, rfl, e⟩
  · exact go_lenDT ht (by rw [e]; exact k)
  · exact go_lenK ht (by rw [e]; exact k)
theorem thg_ty {b : Bool} (ht : H th = some o) (h : Thg b es o) : tyV K "dict" (.ref th) H := by
  rcases thg_len (n := 0) (kvs := []) h with ⟨kvs, rfl, e⟩ | ⟨kvs, rfl, e⟩
  · exact .inr (.inr (.inl ⟨rfl, .inr ⟨kvs, ht⟩⟩))
  · exact .inr (.inr (.inl ⟨rfl, .inl ⟨kvs, ht⟩⟩))
theorem go_isi_tup {a : Addr} {xs : List V} (h : H a = some (.tup xs)) (k : Q (.bl true) H) : rIsi K [.ref a, .ty "tuple"] H Q := go_isi (.ty _) (.base (.tup h)) (kit_ty (by decide +kernel)) k
theorem go_isi_ntup (k : Q (.bl false) H) : rIsi K [.non, .ty "tuple"] H Q := go_isi (.ty _) (.base .non) (kit_ty (by decide +kernel)) k
end
end Mo
namespace Mo
open PySem PySem.Spec PyProof.Rows L2
/-! ### a Calendar is one -/
def calI (K : PySem.W.Frag) : CalI K "Calendar" where
  Rep := fun G C c es => ∃ P, P.c = c ∧ C = calV K P true es ∧ EsOk true G es
  ins := fun {G C c es} h => by
    obtain ⟨P, rfl, rfl, _⟩ := h
    refine ⟨_, List.mem_cons_self, fun o ho => ⟨P.dx, _, ho.symm, fun m hm => ?_⟩⟩
    simp only [List.mem_cons, List.not_mem_nil, or_false] at hm
    rcases hm with rfl | rfl | rfl | rfl | rfl <;> kernel_rfl
  mono := fun {G G' C c es} h x => by
    obtain ⟨P, h1, h2, h3⟩ := h
    exact ⟨P, h1, h2, h3.mono x⟩
  ok := fun {G C c es} h => by
    obtain ⟨P, h1, h2, h3⟩ := h
    exact h3
section
variable {P : Program} {w : World} {K : PySem.W.Frag} {mg : Str → Option Value} {base : Heap}
theorem okI_Calendar_put (T : Tx K mg) : OkM P w K mg base 6 "Calendar" "put" ["self", "key", "thing"] (spPutI (calI K)) :=
  ((ok_Calendar_put T).mono (by decide)).imp fun vs H Q E h => by
    obtain ⟨G, C, L, c, es, x, rfl, ⟨P, rfl, rfl, he⟩, z, hx, _, hn, hl, q⟩ := h
    exact ⟨true, G, L, P, es, x, rfl, z, he, hx, hn, by omega, fun H' z' _ => q _ H' ⟨P, rfl, rfl, he.ins hx hn⟩ z'⟩
theorem okI_Calendar_size (T : Tx K mg) : OkM P w K mg base 6 "Calendar" "size" ["self"] (spSizeI (calI K)) :=
  ((ok_Calendar_size T).mono (by decide)).imp fun vs H Q E h => by
    obtain ⟨G, C, L, c, es, rfl, ⟨P, rfl, rfl, he⟩, z, q⟩ := h
    exact ⟨P, es, rfl, z.eq List.mem_cons_self, z.eq (List.mem_cons_of_mem _ List.mem_cons_self), q⟩
theorem okI_Calendar_least (T : Tx K mg) : OkM P w K mg base 6 "Calendar" "least" ["self"] (spLeastI (calI K)) :=
  ((ok_Calendar_least T).mono (by decide)).imp fun vs H Q E h => by
    obtain ⟨G, C, L, c, es, rfl, ⟨P, rfl, rfl, he⟩, z, q⟩ := h
    exact ⟨P, es, rfl, z.eq List.mem_cons_self, z.eq (List.mem_cons_of_mem _ List.mem_cons_self), q⟩
theorem okI_Calendar_leave (T : Tx K mg) : OkM P w K mg base 6 "Calendar" "leave" ["self"] (spLeaveI (calI K)) :=
  ((ok_Calendar_leave T).mono (by decide)).imp fun vs H Q E h => by
    obtain ⟨G, C, L, c, es, rfl, ⟨P, rfl, rfl, he⟩, z, hl, q1, q2⟩ := h
    refine ⟨true, G, L, P, es, rfl, z, he, by omega, q1, fun e r hr p H' z' hp => q2 e r hr p _ H' ⟨P, rfl, rfl, ?_⟩ z' hp⟩
    subst hr
    have := he.rem (k := e.k)
    rw [remE_head he.asc] at this
    exact this.mono (Ext.new hp)
end
end Mo
namespace Mo
open PySem PySem.Spec PyProof.Rows L2
/-! ### take_out -/
def spTake (K : PySem.W.Frag) : Sp := fun vs H Q _ => ∃ (b : Bool) (G : Hp) (L : Vo) (P : CalP) (es : List Ent) (x : Ent), vs = [.ref P.c, x.v] ∧ Hd G H (calV K P b es ++ L) ∧ EsOk b G es ∧ GoodK b G x ∧ es.length ≤ 10000 ∧
  (getE x.k es = none → Q .non H) ∧ (∀ t, getE x.k es = some t → ∀ H', Hd G H' (calV K P b (remE x.k es) ++ L) → Q t H')
section
variable {P : Program} {w : World} {K : PySem.W.Frag} {mg : Str → Option Value} {base : Heap}
theorem ok_Calendar_take_out (T : Tx K mg) : OkM P w K mg base 2 "Calendar" "take_out" ["self", "key"] (spTake K) := by
  have G_Calendar_place := ok_Calendar_place (P := P) (w := w) (base := base) T
  refine T.f_Calendar_take_out.okX sc_Calendar_take_out (fun vs H Q E h => ?_) (fun cdv A outer s H vs Q E hr h => ?_)
  · obtain ⟨b, G, L, P, es, x, rfl, _⟩ := h
    rfl
  · have hu1 := hu_of hr; have hu0 := hr.units0; have hu64 := hr.units; have hu65 := hu65_of hr; have nd := sc_Calendar_take_out.nd
    obtain ⟨b, G, L, P, es, x, rfl, z, he, hx, hl, q1, q2⟩ := h
    refine ⟨_, (pss_cons (ps_if (pt_cmpR (op_notInK (K := K) rfl hu65) (pv 1) (pe_fldK (K := K) rfl (pv 0) rfl) rfl) (pss_one (ps_ret pe_non))
      pss_nil)
      (pss_cons (ps_expr (pe_bmK (K := K) rfl PySem.F.plainAttrs_list PySem.F.slot_list_pop PySem.F.type_list_pop mt_popAt (pe_fldK (K := K) rfl (pv 0) rfl) (pa_cons (pmeK (K := K) rfl T.m_Calendar_place T.c_Calendar G_Calendar_place hr (takes_of rfl rfl rfl rfl) (pv 0) (pa_cons (pv 1) pa_nil)) pa_nil)))
      (pss_one (ps_ret (pe_bmK (K := K) rfl PySem.F.plainAttrs_dict PySem.F.slot_dict_pop PySem.F.type_dict_pop (mt_dpop1 hu1) (pe_fldK (K := K) rfl (pv 0) rfl) (pa_cons (pv 1) pa_nil)))))), ?_⟩
    refine go_start (σ' := [some (.ref P.c), some x.v]) rfl ?_
    have hc : H P.c = some (calO K P) := z.eq List.mem_cons_self
    have hr0 : H P.row = some (.lst (es.map (·.v))) := z.eq (List.mem_cons_of_mem _ List.mem_cons_self)
    obtain ⟨o, ho, ht⟩ := z.get (p := P.th) (φ := Thg b es) (List.mem_cons_of_mem _ (List.mem_cons_of_mem _ List.mem_cons_self))
    k_extra "we"
    refine go_fldL hc T.c_Calendar T.n_Calendar_things lk_Calendar_things ?_
    refine go_ninD (thg_get z.ex ho ht he.asc he.good hx) ?_
    k_extra "we"
    cases hg : getE x.k es with
    | none =>
      rw [Option.isSome_none]
      k_extra "we"
      exact q1 hg
    | some t =>
      rw [Option.isSome_some]
      k_extra "we"
      refine go_fldL hc T.c_Calendar T.n_Calendar_row lk_Calendar_row ?_
      k_extra "we"
      refine go_tyL (SqL.of hr0) ?_
      k_extra "we"
      refine go_methL hc no_Calendar_place ?_
      k_extra "we"
      refine ⟨b, G, P, es, x, rfl, z.ex, hc, hr0, he, hx, by omega, fun n n1 n2 n3 => ?_⟩
      obtain ⟨e, em, ek, et⟩ := getE_mem hg
      have en := place_at he.asc n2 n3 em ek
      k_extra "we"
      refine go_popAt (n := n) rfl hr0 (by rw [List.length_map]; exact hl) (by rw [List.getElem?_map, en]; rfl) ?_
      have e1 : (es.map (·.v)).eraseIdx n = (remE x.k es).map (·.v) := by
        rw [← ek, ← remE_at (asc_nodup he.asc) en, DT.map_erase]
      rw [e1]
      have z1 := z.set (o' := .lst ((remE x.k es).map (·.v))) (ψ := Eq (.lst ((remE x.k es).map (·.v)))) 1 rfl rfl
      revert z1
      generalize upd H P.row (.lst ((remE x.k es).map (·.v))) = H1
      intro z1
      have hc1 : H1 P.c = some (calO K P) := z1.eq List.mem_cons_self
      k_extra "we"
      refine go_fldL hc1 T.c_Calendar T.n_Calendar_things lk_Calendar_things ?_
      obtain ⟨o, ho, ht⟩ := z1.get (p := P.th) (φ := Thg b es) (List.mem_cons_of_mem _ (List.mem_cons_of_mem _ List.mem_cons_self))
      obtain ⟨o', t1, t2⟩ := thg_pop z1.ex ho ht he.asc he.good hx hg
      refine ⟨thg_ty ho ht, ?_⟩
      k_extra "we"
      refine go_dpop t2 ?_
      exact q2 t hg _ (z1.set (o' := o') (ψ := Thg b (remE x.k es)) 2 rfl t1)
theorem okI_Calendar_take_out (T : Tx K mg) : OkM P w K mg base 6 "Calendar" "take_out" ["self", "key"] (spTakeI (calI K)) :=
  ((ok_Calendar_take_out T).mono (by decide)).imp fun vs H Q E h => by
    obtain ⟨G, C, L, c, es, x, rfl, ⟨P, rfl, rfl, he⟩, z, hx, _, hl, q1, q2⟩ := h
    exact ⟨true, G, L, P, es, x, rfl, z, he, hx, by omega, q1, fun t ht H' z' => q2 t ht _ H' ⟨P, rfl, rfl, he.rem⟩ z'⟩
end
end Mo
namespace Mo
open PySem PySem.Spec PyProof.Rows L2
/-! ### what a wheel keeps: plain Lean -/
structure Spk where
  at_ : Int
  P : CalP
  es : List Ent
def spk (s : Int) (k : List Int) : Int := (k.headD 0).fdiv s
abbrev flat (ws : List Spk) : List Ent := ws.flatMap (·.es)
def spE (w : Spk) : Ent := ⟨[w.at_], .int w.at_, .ref w.P.c⟩
def rimE (w : Spk) : Ent := ⟨[w.at_], .int w.at_, .int w.at_⟩
structure SpkOk (s : Int) (G : Hp) (w : Spk) : Prop where
  ok : EsOk true G w.es
  at_ : ∀ e ∈ w.es, e.k ≠ [] ∧ spk s e.k = w.at_
theorem lex_one {i j : Int} : HT.lexLt [i] [j] = true ↔ i < j := by
  rw [HT.lexLt_cons, HT.lexLt_nil_nil]
  by_cases h : i = j
  · rw [if_pos h]
    constructor
    · intro z; cases z
    · intro z; omega
  · rw [if_neg h, decide_eq_true_iff]
theorem fdiv_mono {a b s : Int} (h : 0 < s) (l : b ≤ a) : b.fdiv s ≤ a.fdiv s := by
  rw [Int.fdiv_eq_ediv_of_nonneg _ (by omega), Int.fdiv_eq_ediv_of_nonneg _ (by omega)]
  exact Int.ediv_le_ediv h l
theorem lt_of_spk {s : Int} {a b : List Int} (hs : 0 < s) (ha : a ≠ []) (hb : b ≠ []) (h : spk s a < spk s b) : HT.lexLt a b = true := by
  match a, ha, b, hb with
  | x :: r, _, y :: t, _ =>
    have h2 : x.fdiv s < y.fdiv s := h
    have h3 : x < y := by
      rcases Decidable.em (x < y) with z | z
      · exact z
      · have := fdiv_mono hs (show y ≤ x by omega)
        omega
    rw [HT.lexLt_cons, if_neg (by omega)]
    exact decide_eq_true h3
abbrev AscW (ws : List Spk) : Prop := ws.Pairwise fun x y => x.at_ < y.at_
theorem ascW_spE {ws : List Spk} (h : AscW ws) : Asc (ws.map spE) := List.pairwise_map.mpr (h.imp fun q => lex_one.mpr q)
theorem ascW_rimE {ws : List Spk} (h : AscW ws) : Asc (ws.map rimE) := List.pairwise_map.mpr (h.imp fun q => lex_one.mpr q)
theorem ok_spE {G : Hp} {ws : List Spk} (h : AscW ws) : EsOk false G (ws.map spE) := ⟨ascW_spE h, fun e he => by
  obtain ⟨w, _, rfl⟩ := List.mem_map.mp he
  exact ⟨w.at_, rfl, rfl⟩⟩
theorem ok_rimE {G : Hp} {ws : List Spk} (h : AscW ws) : EsOk false G (ws.map rimE) := ⟨ascW_rimE h, fun e he => by
  obtain ⟨w, _, rfl⟩ := List.mem_map.mp he
  exact ⟨w.at_, rfl, rfl⟩⟩
theorem flat_ok {s : Int} {G : Hp} (hs : 0 < s) : ∀ {ws : List Spk}, AscW ws → (∀ w ∈ ws, SpkOk s G w) → EsOk true G (flat ws)
  | [], _, _ => EsOk.nil
  | w :: r, h, k => by
    have h2 := List.pairwise_cons.mp h
    have ih := flat_ok hs h2.2 fun x hx => k x (List.mem_cons_of_mem _ hx)
    have kw := k w List.mem_cons_self
    refine ⟨List.pairwise_append.mpr ⟨kw.ok.asc, ih.asc, fun a ha b hb => ?_⟩, fun e he => ?_⟩
    · obtain ⟨x, hx, hb⟩ := List.mem_flatMap.mp hb
      have ka := kw.at_ a ha
      have kb := (k x (List.mem_cons_of_mem _ hx)).at_ b hb
      refine lt_of_spk hs ka.1 kb.1 ?_
      rw [ka.2, kb.2]
      exact h2.1 x hx
    · rcases List.mem_append.mp he with he | he
      · exact kw.ok.good e he
      · exact ih.good e he
/-- the place of a number among the spokes -/
theorem split_at (n : Int) : ∀ ws : List Spk, AscW ws → ∃ A B, (∀ a ∈ A, a.at_ < n) ∧ (∀ b ∈ B, n < b.at_) ∧ (ws = A ++ B ∨ ∃ w : Spk, w.at_ = n ∧ ws = A ++ w :: B)
  | [], _ => ⟨[], [], fun _ h => (nomatch h), fun _ h => (nomatch h), .inl rfl⟩
  | w :: r, h => by
    have h2 := List.pairwise_cons.mp h
    rcases Int.lt_trichotomy w.at_ n with z | z | z
    · obtain ⟨A, B, hA, hB, hr⟩ := split_at n r h2.2
      refine ⟨w :: A, B, fun a ha => ?_, hB, ?_⟩
      · rcases List.mem_cons.mp ha with rfl | ha
        · exact z
        · exact hA a ha
      · rcases hr with rfl | ⟨x, hx, rfl⟩
        · exact .inl rfl
        · exact .inr ⟨x, hx, rfl⟩
    · exact ⟨[], r, fun _ h => (nomatch h), fun b hb => by rw [← z]; exact h2.1 b hb, .inr ⟨w, z, rfl⟩⟩
    · refine ⟨[], w :: r, fun _ h => (nomatch h), fun b hb => ?_, .inl rfl⟩
      rcases List.mem_cons.mp hb with rfl | hb
      · exact z
      · have := h2.1 b hb
        omega
theorem insE_left {x : Ent} : ∀ {A R : List Ent}, (∀ a ∈ A, HT.lexLt a.k x.k = true) → insE x (A ++ R) = A ++ insE x R
  | [], _, _ => rfl
  | a :: A, R, h => by
    show (if HT.lexLt a.k x.k = true then a :: insE x (A ++ R) else _) = _
    rw [if_pos (h a List.mem_cons_self), insE_left fun y hy => h y (List.mem_cons_of_mem _ hy)]
    rfl
theorem insE_right {x : Ent} : ∀ {R B : List Ent}, (∀ b ∈ B, HT.lexLt b.k x.k = false) → insE x (R ++ B) = insE x R ++ B
  | [], [], _ => rfl
  | [], b :: B, h => by
    show (if HT.lexLt b.k x.k = true then _ else x :: b :: B) = _
    rw [h b List.mem_cons_self, if_neg Bool.false_ne_true]
    rfl
  | r :: R, B, h => by
    show (if HT.lexLt r.k x.k = true then r :: insE x (R ++ B) else x :: r :: (R ++ B)) = (if HT.lexLt r.k x.k = true then r :: insE x R else x :: r :: R) ++ B
    rw [insE_right h]
    split <;> rfl
theorem remE_app {k : List Int} {A B : List Ent} : remE k (A ++ B) = remE k A ++ remE k B := List.filter_append ..
theorem getE_app {k : List Int} : ∀ {A B : List Ent}, k ∉ A.map (·.k) → getE k (A ++ B) = getE k B
  | [], _, _ => rfl
  | a :: A, B, h => by
    rw [List.map_cons, List.mem_cons, not_or] at h
    show (if a.k = k then some a.t else getE k (A ++ B)) = _
    rw [if_neg fun z => h.1 z.symm, getE_app h.2]
theorem getE_appR {k : List Int} : ∀ {A B : List Ent}, k ∉ B.map (·.k) → getE k (A ++ B) = getE k A
  | [], B, h => getE_none.mpr h
  | a :: A, B, h => by
    show (if a.k = k then some a.t else getE k (A ++ B)) = (if a.k = k then some a.t else getE k A)
    rw [getE_appR h]
theorem not_flat {s n : Int} {G : Hp} {k : List Int} {A : List Spk} (h : ∀ w ∈ A, SpkOk s G w) (ne : ∀ w ∈ A, w.at_ ≠ spk s k) : k ∉ (flat A).map (·.k) := fun m => by
  obtain ⟨e, he, rfl⟩ := List.mem_map.mp m
  obtain ⟨w, hw, he⟩ := List.mem_flatMap.mp he
  exact ne w hw ((h w hw).at_ e he).2.symm
theorem flat_ins {s : Int} {G : Hp} {x : Ent} {A B : List Spk} {w : Spk} (hs : 0 < s) (hk : x.k ≠ []) (hA : ∀ a ∈ A, SpkOk s G a ∧ a.at_ < spk s x.k) (hB : ∀ b ∈ B, SpkOk s G b ∧ spk s x.k < b.at_) :
    insE x (flat A ++ (w.es ++ flat B)) = flat A ++ (insE x w.es ++ flat B) := by
  rw [insE_left, insE_right]
  · intro e he
    obtain ⟨b, hb, he⟩ := List.mem_flatMap.mp he
    have q := (hB b hb).1.at_ e he
    exact lex_asym (lt_of_spk hs hk q.1 (by rw [q.2]; exact (hB b hb).2))
  · intro e he
    obtain ⟨a, ha, he⟩ := List.mem_flatMap.mp he
    have q := (hA a ha).1.at_ e he
    exact lt_of_spk hs q.1 hk (by rw [q.2]; exact (hA a ha).2)
theorem flat_mid (A : List Spk) (w : Spk) (B : List Spk) : flat (A ++ w :: B) = flat A ++ (w.es ++ flat B) := by
  unfold flat
  rw [List.flatMap_append, List.flatMap_cons]
theorem flat_two (A B : List Spk) : flat (A ++ B) = flat A ++ flat B := by
  unfold flat
  rw [List.flatMap_append]
/-- the spokes of one number -/
theorem getE_mid {f : Spk → Ent} (hf : ∀ w, (f w).k = [w.at_]) {A B : List Spk} {w : Spk} (h : AscW (A ++ w :: B)) : getE [w.at_] ((A ++ w :: B).map f) = some (f w).t := by
  have := getE_of (es := (A ++ w :: B).map f) (x := f w) ?_ (List.mem_map.mpr ⟨w, List.mem_append_right _ List.mem_cons_self, rfl⟩)
  · rw [hf] at this
    exact this
  · rw [List.map_map, List.nodup_iff_pairwise_ne, List.pairwise_map]
    refine h.imp fun {a b} q z => ?_
    have z' : (f a).k = (f b).k := z
    rw [hf, hf] at z'
    have := (List.cons.inj z').1
    omega
theorem getE_gone {f : Spk → Ent} (hf : ∀ w, (f w).k = [w.at_]) {A B : List Spk} {n : Int} (hA : ∀ a ∈ A, a.at_ < n) (hB : ∀ b ∈ B, n < b.at_) : [n] ∉ ((A ++ B).map f).map (·.k) := fun m => by
  rw [List.map_map] at m
  obtain ⟨w, hw, e⟩ := List.mem_map.mp m
  have e' : (f w).k = [n] := e
  rw [hf] at e'
  have := (List.cons.inj e').1
  rcases List.mem_append.mp hw with hw | hw
  · have := hA w hw; omega
  · have := hB w hw; omega
theorem ins_mid {f : Spk → Ent} (hf : ∀ w, (f w).k = [w.at_]) {A B : List Spk} {w : Spk} (hA : ∀ a ∈ A, a.at_ < w.at_) (hB : ∀ b ∈ B, w.at_ < b.at_) : insE (f w) ((A ++ B).map f) = (A ++ w :: B).map f := by
  rw [List.map_append, insE_left, List.map_append, List.map_cons]
  · have := insE_right (x := f w) (R := []) (B := B.map f) (fun e he => by
      obtain ⟨b, hb, rfl⟩ := List.mem_map.mp he
      refine lex_asym ?_
      rw [hf, hf]
      exact lex_one.mpr (hB b hb))
    rw [List.nil_append] at this
    rw [this]
    rfl
  · intro e he
    obtain ⟨a, ha, rfl⟩ := List.mem_map.mp he
    rw [hf, hf]
    exact lex_one.mpr (hA a ha)
theorem rem_mid {f : Spk → Ent} (hf : ∀ w, (f w).k = [w.at_]) {A B : List Spk} {w : Spk} (hA : ∀ a ∈ A, a.at_ < w.at_) (hB : ∀ b ∈ B, w.at_ < b.at_) : remE [w.at_] ((A ++ w :: B).map f) = (A ++ B).map f := by
  rw [List.map_append, List.map_cons, List.map_append, remE_app]
  have e1 : remE [w.at_] (A.map f) = A.map f := remE_none fun m => by
    rw [List.map_map] at m
    obtain ⟨a, ha, e⟩ := List.mem_map.mp m
    have e' : (f a).k = [w.at_] := e
    rw [hf] at e'
    have := (List.cons.inj e').1
    have := hA a ha
    omega
  have e2 : remE [w.at_] (B.map f) = B.map f := remE_none fun m => by
    rw [List.map_map] at m
    obtain ⟨b, hb, e⟩ := List.mem_map.mp m
    have e' : (f b).k = [w.at_] := e
    rw [hf] at e'
    have := (List.cons.inj e').1
    have := hB b hb
    omega
  rw [e1]
  show A.map f ++ List.filter _ (f w :: B.map f) = _
  rw [List.filter_cons_of_neg (by rw [hf]; simp)]
  show A.map f ++ remE [w.at_] (B.map f) = _
  rw [e2]
theorem ascW_mid {A B : List Spk} {w w' : Spk} (e : w'.at_ = w.at_) (h : AscW (A ++ w :: B)) : AscW (A ++ w' :: B) := by
  have h1 := List.pairwise_append.mp h
  have h2 := List.pairwise_cons.mp h1.2.1
  refine List.pairwise_append.mpr ⟨h1.1, List.pairwise_cons.mpr ⟨fun b hb => by rw [e]; exact h2.1 b hb, h2.2⟩, fun a ha b hb => ?_⟩
  rcases List.mem_cons.mp hb with rfl | hb
  · rw [e]; exact h1.2.2 a ha w List.mem_cons_self
  · exact h1.2.2 a ha b (List.mem_cons_of_mem _ hb)
theorem ascW_two {A B : List Spk} {w : Spk} (h : AscW (A ++ w :: B)) : AscW (A ++ B) := by
  have h1 := List.pairwise_append.mp h
  have h2 := List.pairwise_cons.mp h1.2.1
  exact List.pairwise_append.mpr ⟨h1.1, h2.2, fun a ha b hb => h1.2.2 a ha b (List.mem_cons_of_mem _ hb)⟩
theorem ascW_ins {A B : List Spk} {w : Spk} (h : AscW (A ++ B)) (hA : ∀ a ∈ A, a.at_ < w.at_) (hB : ∀ b ∈ B, w.at_ < b.at_) : AscW (A ++ w :: B) := by
  have h1 := List.pairwise_append.mp h
  refine List.pairwise_append.mpr ⟨h1.1, List.pairwise_cons.mpr ⟨hB, h1.2.1⟩, fun a ha b hb => ?_⟩
  rcases List.mem_cons.mp hb with rfl | hb
  · exact hA a ha
  · exact h1.2.2 a ha b hb
theorem flat_len : ∀ {ws : List Spk}, (∀ w ∈ ws, w.es ≠ []) → ws.length ≤ (flat ws).length
  | [], _ => Nat.le_refl _
  | y :: r, h => by
    have h1 := List.length_pos_iff.mpr (h y List.mem_cons_self)
    have h2 := flat_len fun v hv => h v (List.mem_cons_of_mem _ hv)
    unfold flat at h2 ⊢
    rw [List.flatMap_cons, List.length_append, List.length_cons]
    omega
end Mo
namespace Mo
open PySem PySem.Spec PyProof.Rows L2
/-! ### wheel.py -/
structure WhP where
  c : Addr
  dx : Addr
  sp : Addr
  rim : CalP
  span : Int
def whO (K : PySem.W.Frag) (W : WhP) (n : Nat) : HO := .ins (He.ga K "Wheel") W.dx (fl_Wheel (.int W.span) (.ref W.sp) (.ref W.rim.c) (.int (n : Int)))
def spkV (K : PySem.W.Frag) (ws : List Spk) : Vo := ws.flatMap fun w => calV K w.P true w.es
def whV (K : PySem.W.Frag) (W : WhP) (n : Nat) (ws : List Spk) : Vo := (W.c, Eq (whO K W n)) :: (W.sp, Thg false (ws.map spE)) :: (calV K W.rim false (ws.map rimE) ++ spkV K ws)
theorem spkV_mid (K : PySem.W.Frag) (A : List Spk) (w : Spk) (B : List Spk) : spkV K (A ++ w :: B) = spkV K A ++ (calV K w.P true w.es ++ spkV K B) := by
  unfold spkV
  rw [List.flatMap_append, List.flatMap_cons]
theorem spkV_two (K : PySem.W.Frag) (A B : List Spk) : spkV K (A ++ B) = spkV K A ++ spkV K B := by
  unfold spkV
  rw [List.flatMap_append]
structure WsOk (s : Int) (G : Hp) (ws : List Spk) : Prop where
  asc : AscW ws
  each : ∀ w ∈ ws, SpkOk s G w ∧ w.es ≠ []
def whI (K : PySem.W.Frag) : CalI K "Wheel" where
  Rep := fun G C c es => ∃ W ws, W.c = c ∧ C = whV K W es.length ws ∧ es = flat ws ∧ (0 < W.span ∧ W.span ≤ 1000) ∧ WsOk W.span G ws
  ins := fun {G C c es} h => by
    obtain ⟨W, ws, rfl, rfl, _⟩ := h
    refine ⟨_, List.mem_cons_self, fun o ho => ⟨W.dx, _, ho.symm, fun m hm => ?_⟩⟩
    simp only [List.mem_cons, List.not_mem_nil, or_false] at hm
    rcases hm with rfl | rfl | rfl | rfl | rfl <;> kernel_rfl
  mono := fun {G G' C c es} h x => by
    obtain ⟨W, ws, h1, h2, h3, h4, h5⟩ := h
    exact ⟨W, ws, h1, h2, h3, h4, h5.asc, fun w hw => ⟨⟨(h5.each w hw).1.ok.mono x, (h5.each w hw).1.at_⟩, (h5.each w hw).2⟩⟩
  ok := fun {G C c es} h => by
    obtain ⟨W, ws, _, _, rfl, h4, h5⟩ := h
    exact flat_ok h4.1 h5.asc fun w hw => (h5.each w hw).1
def spWheelInit (K : PySem.W.Frag) : Sp := fun vs H Q _ => ∃ (G : Hp) (L : Vo) (c dx : Addr) (s : Int), vs = [.ref c, .int s] ∧ (0 < s ∧ s ≤ 1000) ∧ Hd G H ((c, Eq (.ins (He.ga K "Wheel") dx [])) :: L) ∧
  ∀ C H', (whI K).Rep G C c [] → Hd G H' (C ++ L) → Q .non H'
def spSpokeOf (K : PySem.W.Frag) : Sp := fun vs H Q _ => ∃ (W : WhP) (n : Nat) (x : Ent), vs = [.ref W.c, x.v] ∧ H W.c = some (whO K W n) ∧ (0 < W.span ∧ W.span ≤ 1000) ∧ GoodK true H x ∧ x.k ≠ [] ∧ Q (.int (spk W.span x.k)) H
section
variable {P : Program} {w : World} {K : PySem.W.Frag} {mg : Str → Option Value} {base : Heap}
theorem ok_Wheel_init (T : Tx K mg) : OkM P w K mg base 3 "Wheel" "__init__" ["self", "span"] (spWheelInit K) := by
  have G_Calendar_init := ok_Calendar_init (P := P) (w := w) (base := base) T
  refine T.f_Wheel_init.okX sc_Wheel_init (fun vs H Q E h => ?_) (fun cdv A outer s H vs Q E hr h => ?_)
  · obtain ⟨G, L, c, dx, s, rfl, _⟩ := h
    rfl
  · have hu1 := hu_of hr; have hu0 := hr.units0; have hu64 := hr.units; have hu65 := hu65_of hr; have nd := sc_Wheel_init.nd
    obtain ⟨G, L, c, dx, s, rfl, hs, z, q⟩ := h
    refine ⟨_, (pss_cons (ps_fldK (K := K) rfl (pv 0) (pv 1) rfl)
      (pss_cons (ps_fldK (K := K) rfl (pv 0) pe_dnew rfl)
      (pss_cons (ps_fldK (K := K) rfl (pv 0) (pmk0K (K := K) rfl T.k_Calendar G_Calendar_init hr (takes_of rfl rfl rfl rfl)) rfl)
      (pss_one (ps_fldK (K := K) rfl (pv 0) pe_int rfl))))), ?_⟩
    refine go_start (σ' := [some (.ref c), some (.int s)]) rfl ?_
    k_extra "we"
    refine go_sfldL (z.eq List.mem_cons_self) T.c_Wheel T.n_Wheel_span rfl ?_
    rw [in_Wheel_0]
    have z1 := z.set0 (o' := .ins (He.ga K "Wheel") dx [(("span" : Str), V.int s)]) (ψ := Eq (.ins (He.ga K "Wheel") dx [(("span" : Str), V.int s)])) rfl
    revert z1
    generalize upd H c (.ins (He.ga K "Wheel") dx [(("span" : Str), V.int s)]) = H1
    intro z1
    k_extra "we"
    refine go_dK fun d hd => ?_
    have z2 := z1.new hd (φ := Eq (.dK [])) rfl
    k_extra "we"
    refine go_sfldL (z2.eq (List.mem_cons_of_mem _ List.mem_cons_self)) T.c_Wheel T.n_Wheel_spokes rfl ?_
    rw [in_Wheel_1]
    have z3 := z2.set1 (o' := .ins (He.ga K "Wheel") dx [(("span" : Str), V.int s), (("spokes" : Str), V.ref d)]) (ψ := Eq (.ins (He.ga K "Wheel") dx [(("span" : Str), V.int s), (("spokes" : Str), V.ref d)])) rfl
    revert z3
    generalize upd (upd H1 d (.dK [])) c (.ins (He.ga K "Wheel") dx [(("span" : Str), V.int s), (("spokes" : Str), V.ref d)]) = H2
    intro z3
    k_extra "we"
    intro r rdx nr ndr ne
    have z4 := z3.made (φ := Eq (.ins (He.ga K "Calendar") rdx [])) nr ndr ne rfl
    refine ⟨G, _, r, rdx, false, rfl, z4, fun P5 H5 hPc z5 _ => ⟨rfl, ?_⟩⟩
    subst hPc
    have z5c : H5 c = some (.ins (He.ga K "Wheel") dx [(("span" : Str), V.int s), (("spokes" : Str), V.ref d)]) := z5.eq (List.mem_append_right _ (List.mem_cons_of_mem _ List.mem_cons_self))
    k_extra "we"
    refine go_sfldL z5c T.c_Wheel T.n_Wheel_rim rfl ?_
    rw [in_Wheel_2]
    have z6 := (z5.perm (M := (c, Eq (.ins (He.ga K "Wheel") dx [(("span" : Str), V.int s), (("spokes" : Str), V.ref d)])) :: (d, Eq (.dK [])) :: (calV K P5 false [] ++ L)) (by k_extra "p")).set0 (o' := .ins (He.ga K "Wheel") dx [(("span" : Str), V.int s), (("spokes" : Str), V.ref d), (("rim" : Str), V.ref P5.c)]) (ψ := Eq (.ins (He.ga K "Wheel") dx [(("span" : Str), V.int s), (("spokes" : Str), V.ref d), (("rim" : Str), V.ref P5.c)])) rfl
    revert z6
    generalize upd H5 c (.ins (He.ga K "Wheel") dx [(("span" : Str), V.int s), (("spokes" : Str), V.ref d), (("rim" : Str), V.ref P5.c)]) = H6
    intro z6
    k_extra "we"
    refine go_sfldL (z6.eq List.mem_cons_self) T.c_Wheel T.n_Wheel_many rfl ?_
    rw [in_Wheel_3]
    have z7 := z6.set0 (o' := whO K ⟨c, dx, d, P5, s⟩ 0) (ψ := Eq (whO K ⟨c, dx, d, P5, s⟩ 0)) rfl
    have z8 := z7.re1 (ψ := Thg false []) fun o ho he => ⟨[], he.symm, .refl _⟩
    refine q (whV K ⟨c, dx, d, P5, s⟩ 0 []) _ ⟨⟨c, dx, d, P5, s⟩, [], rfl, rfl, rfl, hs, .nil, fun _ h => nomatch h⟩ ?_
    exact z8.perm (by
      show (((c, Eq (whO K ⟨c, dx, d, P5, s⟩ 0)) :: (d, Thg false []) :: (calV K P5 false [] ++ [])) ++ L).Perm _
      rw [List.append_nil]
      exact .refl _)
theorem ok_Wheel_spoke_of (T : Tx K mg) : OkM P w K mg base 1 "Wheel" "spoke_of" ["self", "key"] (spSpokeOf K) := by
  refine T.f_Wheel_spoke_of.okX sc_Wheel_spoke_of (fun vs H Q E h => ?_) (fun cdv A outer s H vs Q E hr h => ?_)
  · obtain ⟨W, n, x, rfl, _⟩ := h
    rfl
  · have hu1 := hu_of hr; have hu0 := hr.units0; have hu64 := hr.units; have hu65 := hu65_of hr; have nd := sc_Wheel_spoke_of.nd
    obtain ⟨W, n, x, rfl, hc, hs, hx, hk, q⟩ := h
    refine ⟨_, (pss_one (ps_ret (pe_op op_fdivX (pe_ix (ix_anyK (K := K) rfl hu1) (pv 1) pe_int (fun _ _ => rfl)) (pe_fldK (K := K) rfl (pv 0) rfl)))), ?_⟩
    refine go_start (σ' := [some (.ref W.c), some x.v]) rfl ?_
    obtain ⟨a, e1, h1⟩ := hx
    obtain ⟨y, r, e2⟩ : ∃ y r, x.k = y :: r := List.exists_cons_of_ne_nil hk
    k_extra "we"
    rw [e2, List.map_cons] at h1
    have sub : ∀ Q2 : VK, Q2 (.int y) H → rSub K x.v (.int 0) H Q2 := fun Q2 k => by
      rw [e1]
      exact go_subT (SqT.of h1) (atI_nat (j := 0) rfl) k
    refine sub _ ?_
    k_extra "we"
    refine go_fldL hc T.c_Wheel T.n_Wheel_span lk_Wheel_span ?_
    refine go_div 10 (by omega) (by show Int.natAbs _ < 1024; omega) ?_
    have e3 : y.fdiv W.span = spk W.span x.k := by
      unfold spk
      rw [e2]
      rfl
    rw [e3]
    exact q
theorem ok_Wheel_size (T : Tx K mg) : OkM P w K mg base 5 "Wheel" "size" ["self"] (spSizeI (whI K)) := by
  refine T.f_Wheel_size.okX sc_Wheel_size (fun vs H Q E h => ?_) (fun cdv A outer s H vs Q E hr h => ?_)
  · obtain ⟨G, C, L, c, es, rfl, _⟩ := h
    rfl
  · have hu1 := hu_of hr; have hu0 := hr.units0; have hu64 := hr.units; have hu65 := hu65_of hr; have nd := sc_Wheel_size.nd
    obtain ⟨G, C, L, c, es, rfl, ⟨W, ws, rfl, rfl, _⟩, z, q⟩ := h
    refine ⟨_, (pss_one (ps_ret (pe_fldK (K := K) rfl (pv 0) rfl))), ?_⟩
    refine go_start (σ' := [some (.ref W.c)]) rfl ?_
    k_extra "we"
    refine go_fldL (z.eq List.mem_cons_self) T.c_Wheel T.n_Wheel_many lk_Wheel_many ?_
    exact q
theorem ok_Wheel_least (T : Tx K mg) : OkM P w K mg base 5 "Wheel" "least" ["self"] (spLeastI (whI K)) := by
  have G_Calendar_least := ok_Calendar_least (P := P) (w := w) (base := base) T
  refine T.f_Wheel_least.okX sc_Wheel_least (fun vs H Q E h => ?_) (fun cdv A outer s H vs Q E hr h => ?_)
  · obtain ⟨G, C, L, c, es, rfl, _⟩ := h
    rfl
  · have hu1 := hu_of hr; have hu0 := hr.units0; have hu64 := hr.units; have hu65 := hu65_of hr; have nd := sc_Wheel_least.nd
    obtain ⟨G, C, L, c, es, rfl, ⟨W, ws, rfl, rfl, rfl, hs, hw⟩, z, q⟩ := h
    refine ⟨_, (pss_cons (ps_if (pt_cmpR (op_eqK (K := K) rfl hu64) (pe_fldK (K := K) rfl (pv 0) rfl) pe_int (nomark _)) (pss_one (ps_ret pe_non))
      pss_nil)
      (pss_one (ps_ret (pme0K (K := K) rfl T.m_Calendar_least T.c_Calendar G_Calendar_least hr (takes_of rfl rfl rfl rfl) (pe_ix (ix_anyK (K := K) rfl hu1) (pe_fldK (K := K) rfl (pv 0) rfl) (pme0K (K := K) rfl T.m_Calendar_least T.c_Calendar G_Calendar_least hr (takes_of rfl rfl rfl rfl) (pe_fldK (K := K) rfl (pv 0) rfl)) (fun _ _ => rfl)))))), ?_⟩
    refine go_start (σ' := [some (.ref W.c)]) rfl ?_
    have hc : H W.c = some (whO K W (flat ws).length) := z.eq List.mem_cons_self
    k_extra "we"
    refine go_fldL hc T.c_Wheel T.n_Wheel_many lk_Wheel_many ?_
    k_extra "we"
    cases ws with
    | nil =>
      refine go_ite (fun _ => ?_) (fun h => absurd rfl h)
      k_extra "we"
      exact q
    | cons x r =>
      obtain ⟨e, r', he⟩ := List.exists_cons_of_ne_nil (hw.each x List.mem_cons_self).2
      have ef : flat (x :: r) = e :: (r' ++ flat r) := by
        unfold flat
        rw [List.flatMap_cons, he]
        rfl
      refine go_ite (fun h => ?_) (fun _ => ?_)
      · rw [ef, List.length_cons] at h
        omega
      · k_extra "we"
        refine go_fldL hc T.c_Wheel T.n_Wheel_spokes lk_Wheel_spokes ?_
        k_extra "we"
        refine go_fldL hc T.c_Wheel T.n_Wheel_rim lk_Wheel_rim ?_
        have mr : ∀ y ∈ calV K W.rim false ((x :: r).map rimE), y ∈ whV K W (flat (x :: r)).length (x :: r) ++ L := fun y hy => List.mem_append_left _ (List.mem_cons_of_mem _ (List.mem_cons_of_mem _ (List.mem_append_left _ hy)))
        have h1 : H W.rim.c = some (calO K W.rim) := z.eq (mr _ List.mem_cons_self)
        have h2 : H W.rim.row = some (.lst (((x :: r).map rimE).map (·.v))) := z.eq (mr _ (List.mem_cons_of_mem _ List.mem_cons_self))
        refine go_methL h1 no_Calendar_least ?_
        k_extra "we"
        refine ⟨W.rim, (x :: r).map rimE, rfl, h1, h2, ?_⟩
        show rSub K (.ref W.sp) (.int x.at_) H _
        obtain ⟨o, ho, ht⟩ := z.get (p := W.sp) (φ := Thg false ((x :: r).map spE)) (List.mem_append_left _ (List.mem_cons_of_mem _ List.mem_cons_self))
        have ok := ok_spE (G := G) hw.asc
        have g := thg_get (x := spE x) z.ex ho ht ok.asc ok.good ⟨x.at_, rfl, rfl⟩
        have gg := getE_mid (f := spE) (fun _ => rfl) (A := []) hw.asc
        have g' : DGet H W.sp (.int x.at_) (some (.ref x.P.c)) := (show _ = some (V.ref x.P.c) from gg) ▸ g
        refine go_subD g' ?_
        have ms : ∀ y ∈ calV K x.P true x.es, y ∈ whV K W (flat (x :: r)).length (x :: r) ++ L := fun y hy => List.mem_append_left _ (List.mem_cons_of_mem _ (List.mem_cons_of_mem _ (List.mem_append_right _ (by
          unfold spkV
          rw [List.flatMap_cons]
          exact List.mem_append_left _ hy))))
        have h3 : H x.P.c = some (calO K x.P) := z.eq (ms _ List.mem_cons_self)
        have h4 : H x.P.row = some (.lst (x.es.map (·.v))) := z.eq (ms _ (List.mem_cons_of_mem _ List.mem_cons_self))
        k_extra "we"
        refine go_methL h3 no_Calendar_least ?_
        k_extra "we"
        refine ⟨x.P, x.es, rfl, h3, h4, ?_⟩
        rw [ef] at q
        rw [he]
        exact q
end
end Mo
namespace Mo
open PySem PySem.Spec PyProof.Rows L2
/-! ### a wheel: put, take_out, leave -/
theorem thg_gen {es : List Ent} {o : HO} (h : Thg false es o) {es' : List Ent} (e : es = es') : Thg false es' o := e ▸ h
theorem whI_ne {K : PySem.W.Frag} {G : Hp} {C : Vo} {c : Addr} {es : List Ent} (h : (whI K).Rep G C c es) : ∀ e ∈ es, e.k ≠ [] := fun e he => by
  obtain ⟨W, ws, _, _, rfl, _, hw⟩ := h
  obtain ⟨w, hm, he⟩ := List.mem_flatMap.mp he
  exact ((hw.each w hm).1.at_ e he).1
section
variable {P : Program} {w : World} {K : PySem.W.Frag} {mg : Str → Option Value} {base : Heap}
theorem ok_Wheel_put (T : Tx K mg) : OkM P w K mg base 6 "Wheel" "put" ["self", "key", "thing"] (spPutI (whI K)) := by
  have G_Calendar_put := ok_Calendar_put (P := P) (w := w) (base := base) T; have G_Calendar_init := ok_Calendar_init (P := P) (w := w) (base := base) T; have G_Wheel_spoke_of := ok_Wheel_spoke_of (P := P) (w := w) (base := base) T
  refine T.f_Wheel_put.okX sc_Wheel_put (fun vs H Q E h => ?_) (fun cdv A outer s H vs Q E hr h => ?_)
  · obtain ⟨G, C, L, c, es, x, rfl, _⟩ := h
    rfl
  · have hu1 := hu_of hr; have hu0 := hr.units0; have hu64 := hr.units; have hu65 := hu65_of hr; have nd := sc_Wheel_put.nd
    obtain ⟨G, C, L, c, es, x, rfl, ⟨W, ws, rfl, rfl, rfl, hs, hw⟩, z, hx, hk, hn, hl, q⟩ := h
    refine ⟨_, (pss_cons (ps_set (i := 3) nd rfl (Or.inl rfl) (pmeK (K := K) rfl T.m_Wheel_spoke_of T.c_Wheel G_Wheel_spoke_of hr (takes_of rfl rfl rfl rfl) (pv 0) (pa_cons (pv 1) pa_nil)))
      (Evl.pss_cut (ps_if (pt_cmpR (op_notInK (K := K) rfl hu65) (pv 3) (pe_fldK (K := K) rfl (pv 0) rfl) rfl) (pss_cons (ps_asg (pmk0K (K := K) rfl T.k_Calendar G_Calendar_init hr (takes_of rfl rfl rfl rfl)) (pg_sub (pe_fldK (K := K) rfl (pv 0) rfl) (pv 3) (set_any hu1)))
      (pss_one (ps_expr (pmeK (K := K) rfl T.m_Calendar_put T.c_Calendar G_Calendar_put hr (takes_of rfl rfl rfl rfl) (pe_fldK (K := K) rfl (pv 0) rfl) (pa_cons (pv 3) (pa_cons (pv 3) pa_nil))))))
      pss_nil)
      (pss_cons (ps_expr (pmeK (K := K) rfl T.m_Calendar_put T.c_Calendar G_Calendar_put hr (takes_of rfl rfl rfl rfl) (pe_ix (ix_anyK (K := K) rfl hu1) (pe_fldK (K := K) rfl (pv 0) rfl) (pv 3) (fun _ _ => rfl)) (pa_cons (pv 1) (pa_cons (pv 2) pa_nil))))
      (pss_one (ps_fldaugK (K := K) rfl (pv 0) pe_int in_add))))), ?_⟩
    refine go_start (σ' := [some (.ref W.c), some x.v, some x.t, none]) rfl ?_
    have hc : H W.c = some (whO K W (flat ws).length) := z.eq List.mem_cons_self
    have nk : ∀ y ∈ flat ws, y.k ≠ x.k := fun y hy e => hn (by rw [← e]; exact List.mem_map_of_mem hy)
    k_extra "we"
    refine go_methL hc no_Wheel_spoke_of ?_
    k_extra "we"
    refine ⟨W, _, x, rfl, hc, hs, hx.mono z.ex, hk, ?_⟩
    k_extra "we"
    refine ⟨fun σ' H' => ∃ A B w, σ' = [some (.ref W.c), some x.v, some x.t, some (.int (spk W.span x.k))] ∧ w.at_ = spk W.span x.k ∧ flat (A ++ w :: B) = flat ws ∧ AscW (A ++ w :: B) ∧ SpkOk W.span G w ∧ (∀ a ∈ A, (SpkOk W.span G a ∧ a.es ≠ []) ∧ a.at_ < spk W.span x.k) ∧
      (∀ b ∈ B, (SpkOk W.span G b ∧ b.es ≠ []) ∧ spk W.span x.k < b.at_) ∧ Hd G H' (whV K W (flat ws).length (A ++ w :: B) ++ L), ?_, ?_⟩
    · obtain ⟨A, B, hA, hB, hr⟩ := split_at (spk W.span x.k) ws hw.asc
      k_extra "we"
      refine go_fldL hc T.c_Wheel T.n_Wheel_spokes lk_Wheel_spokes ?_
      obtain ⟨o, ho, ht⟩ := z.get (p := W.sp) (φ := Thg false (ws.map spE)) (List.mem_append_left _ (List.mem_cons_of_mem _ List.mem_cons_self))
      have ok := ok_spE (G := G) hw.asc
      have g : DGet H W.sp (.int (spk W.span x.k)) (getE [spk W.span x.k] (ws.map spE)) := thg_get (x := ⟨[spk W.span x.k], .int (spk W.span x.k), .non⟩) z.ex ho ht ok.asc ok.good ⟨_, rfl, rfl⟩
      rcases hr with rfl | ⟨w, hwa, rfl⟩
      · have gn := getE_gone (f := spE) (fun _ => rfl) hA hB
        rw [getE_none.mpr gn] at g
        refine go_ninD g ?_
        rw [Option.isSome_none]
        k_extra "we"
        intro r rdx nr ndr ne
        have z4 := z.made (φ := Eq (.ins (He.ga K "Calendar") rdx [])) nr ndr ne rfl
        refine ⟨G, _, r, rdx, true, rfl, z4, fun P5 H5 hPc z5 _ => ⟨rfl, ?_⟩⟩
        subst hPc
        have z6 := z5.perm (M := (W.sp, Thg false ((A ++ B).map spE)) :: ((W.c, Eq (whO K W (flat (A ++ B)).length)) :: (calV K W.rim false ((A ++ B).map rimE) ++ (spkV K (A ++ B) ++ (calV K P5 true [] ++ L))))) (by
          unfold whV
          k_extra "p")
        have hc6 : H5 W.c = some (whO K W (flat (A ++ B)).length) := z6.eq (List.mem_cons_of_mem _ List.mem_cons_self)
        k_extra "we"
        refine go_fldL hc6 T.c_Wheel T.n_Wheel_spokes lk_Wheel_spokes ?_
        k_extra "we"
        obtain ⟨o, ho, ht⟩ := z6.get (p := W.sp) (φ := Thg false ((A ++ B).map spE)) List.mem_cons_self
        have hl2 := flat_len fun w h => (hw.each w h).2
        have hlen : ((A ++ B).map spE).length ≤ 10000 := by
          rw [List.length_map]
          omega
        obtain ⟨o', t1, t2⟩ := thg_put (x := spE ⟨spk W.span x.k, P5, []⟩) z6.ex ho ht ok.asc ok.good ⟨_, rfl, rfl⟩ gn hlen
        refine go_setD t2 ?_
        rw [ins_mid (f := spE) (fun _ => rfl) (w := ⟨spk W.span x.k, P5, []⟩) hA hB] at t1
        have z7 := z6.set0 t1
        revert z7
        generalize upd H5 W.sp o' = H7
        intro z7
        have hc7 : H7 W.c = some (whO K W (flat (A ++ B)).length) := z7.eq (List.mem_cons_of_mem _ List.mem_cons_self)
        k_extra "we"
        refine go_fldL hc7 T.c_Wheel T.n_Wheel_rim lk_Wheel_rim ?_
        have z8 := z7.perm (M := calV K W.rim false ((A ++ B).map rimE) ++ ((W.sp, Thg false ((A ++ ⟨spk W.span x.k, P5, []⟩ :: B).map spE)) :: (W.c, Eq (whO K W (flat (A ++ B)).length)) :: (spkV K (A ++ B) ++ (calV K P5 true [] ++ L)))) (by k_extra "p")
        have h8 : H7 W.rim.c = some (calO K W.rim) := z8.eq List.mem_cons_self
        refine go_methL h8 no_Calendar_put ?_
        k_extra "we"
        have okr := ok_rimE (G := G) hw.asc
        refine ⟨false, G, _, W.rim, (A ++ B).map rimE, rimE ⟨spk W.span x.k, P5, []⟩, rfl, z8, okr, ⟨_, rfl, rfl⟩, getE_gone (f := rimE) (fun _ => rfl) hA hB, by rw [List.length_map]; omega, fun H9 z9 _ => ?_⟩
        rw [ins_mid (f := rimE) (fun _ => rfl) (w := ⟨spk W.span x.k, P5, []⟩) hA hB] at z9
        k_extra "we"
        refine ⟨A, B, ⟨spk W.span x.k, P5, []⟩, rfl, rfl, by rw [flat_mid, flat_two]; rfl, ascW_ins hw.asc hA hB, ⟨EsOk.nil, fun e he => nomatch he⟩, fun a ha => ⟨hw.each a (List.mem_append_left _ ha), hA a ha⟩, fun b hb => ⟨hw.each b (List.mem_append_right _ hb), hB b hb⟩, z9.perm ?_⟩
        unfold whV
        rw [spkV_mid, spkV_two]
        k_extra "p"
      · have gs := getE_mid (f := spE) (fun _ => rfl) hw.asc
        rw [← hwa, gs] at g
        rw [← hwa]
        refine go_ninD g ?_
        rw [Option.isSome_some]
        k_extra "we"
        have hew := hw.each w (List.mem_append_right _ List.mem_cons_self)
        refine ⟨A, B, w, rfl, rfl, rfl, hw.asc, hew.1, fun a ha => ⟨hw.each a (List.mem_append_left _ ha), by rw [hwa]; exact hA a ha⟩, fun b hb => ⟨hw.each b (List.mem_append_right _ (List.mem_cons_of_mem _ hb)), by rw [hwa]; exact hB b hb⟩, z⟩
    · rintro σ' H' ⟨A, B, w, rfl, hwa, hf, hasc, hwo, hA, hB, z1⟩
      have hc1 : H' W.c = some (whO K W (flat ws).length) := z1.eq List.mem_cons_self
      k_extra "we"
      refine go_fldL hc1 T.c_Wheel T.n_Wheel_spokes lk_Wheel_spokes ?_
      k_extra "we"
      obtain ⟨o, ho, ht⟩ := z1.get (p := W.sp) (φ := Thg false ((A ++ w :: B).map spE)) (List.mem_append_left _ (List.mem_cons_of_mem _ List.mem_cons_self))
      have ok := ok_spE (G := G) hasc
      have g : DGet H' W.sp (.int (spk W.span x.k)) (getE [spk W.span x.k] ((A ++ w :: B).map spE)) := thg_get (x := ⟨[spk W.span x.k], .int (spk W.span x.k), .non⟩) z1.ex ho ht ok.asc ok.good ⟨_, rfl, rfl⟩
      have gs := getE_mid (f := spE) (fun _ => rfl) hasc
      rw [← hwa, gs] at g
      rw [← hwa]
      refine go_subD g ?_
      have z2 := z1.perm (M := calV K w.P true w.es ++ ((W.c, Eq (whO K W (flat ws).length)) :: (W.sp, Thg false ((A ++ w :: B).map spE)) :: (calV K W.rim false ((A ++ w :: B).map rimE) ++ (spkV K A ++ (spkV K B ++ L))))) (by
        unfold whV
        rw [spkV_mid]
        k_extra "p")
      have h2 : H' w.P.c = some (calO K w.P) := z2.eq List.mem_cons_self
      refine go_methL h2 no_Calendar_put ?_
      k_extra "we"
      have hfl : (flat ws).length = (flat A ++ (w.es ++ flat B)).length := by rw [← hf, flat_mid]
      rw [List.length_append, List.length_append] at hfl
      have hnw : x.k ∉ w.es.map (·.k) := fun m => by
        obtain ⟨e, he, ek⟩ := List.mem_map.mp m
        refine nk e ?_ ek
        rw [← hf, flat_mid]
        exact List.mem_append_right _ (List.mem_append_left _ he)
      refine ⟨true, G, _, w.P, w.es, x, rfl, z2, hwo.ok, hx, hnw, by omega, fun H3 z3 _ => ?_⟩
      have z4 := z3.perm (M := (W.c, Eq (whO K W (flat ws).length)) :: (W.sp, Thg false ((A ++ w :: B).map spE)) :: (calV K W.rim false ((A ++ w :: B).map rimE) ++ (spkV K A ++ (calV K w.P true (insE x w.es) ++ (spkV K B ++ L))))) (by k_extra "p")
      have hc4 : H3 W.c = some (whO K W (flat ws).length) := z4.eq List.mem_cons_self
      k_extra "we"
      refine go_fldaugL hc4 T.c_Wheel T.n_Wheel_many lk_Wheel_many ?_
      k_extra "we"
      refine go_putL hc4 rfl ?_
      have en : ((flat ws).length : Int) + 1 = (((flat ws).length + 1 : Nat) : Int) := by omega
      rw [pt_Wheel_many, en]
      have z5 := z4.set0 (o' := whO K W ((flat ws).length + 1)) (ψ := Eq (whO K W ((flat ws).length + 1))) rfl
      have e5 : insE x (flat ws) = flat (A ++ ⟨w.at_, w.P, insE x w.es⟩ :: B) := by
        rw [← hf, flat_mid, flat_mid]
        exact flat_ins hs.1 hk (fun a ha => ⟨(hA a ha).1.1, (hA a ha).2⟩) (fun b hb => ⟨(hB b hb).1.1, (hB b hb).2⟩)
      have ew : ∀ (f : Spk → Ent), (∀ u v : Spk, u.at_ = v.at_ → u.P = v.P → f u = f v) → (A ++ ⟨w.at_, w.P, insE x w.es⟩ :: B).map f = (A ++ w :: B).map f := fun f hf => by
        rw [List.map_append, List.map_append, List.map_cons, List.map_cons, hf ⟨w.at_, w.P, insE x w.es⟩ w rfl rfl]
      refine q (whV K W ((flat ws).length + 1) (A ++ ⟨w.at_, w.P, insE x w.es⟩ :: B)) _ ⟨W, _, rfl, by rw [insE_len], e5, hs, ascW_mid (w := w) rfl hasc, fun v hv => ?_⟩ (z5.perm ?_)
      · rcases List.mem_append.mp hv with hv | hv
        · exact (hA v hv).1
        · rcases List.mem_cons.mp hv with rfl | hv
          · refine ⟨⟨hwo.ok.ins hx hnw, fun e he => ?_⟩, fun h => ?_⟩
            · rcases mem_insE.mp he with rfl | he
              · exact ⟨hk, hwa.symm⟩
              · exact hwo.at_ e he
            · have := insE_len x w.es
              rw [show insE x w.es = [] from h] at this
              cases this
          · exact (hB v hv).1
      · unfold whV
        rw [spkV_mid, ew spE fun u v h1 h2 => by unfold spE; rw [h1, h2], ew rimE fun u v h1 _ => by unfold rimE; rw [h1]]
        k_extra "p"
theorem ok_Wheel_take_out (T : Tx K mg) : OkM P w K mg base 5 "Wheel" "take_out" ["self", "key"] (spTakeI (whI K)) := by
  have G_Calendar_size := ok_Calendar_size (P := P) (w := w) (base := base) T; have G_Calendar_take_out := ok_Calendar_take_out (P := P) (w := w) (base := base) T; have G_Wheel_spoke_of := ok_Wheel_spoke_of (P := P) (w := w) (base := base) T
  refine T.f_Wheel_take_out.okX sc_Wheel_take_out (fun vs H Q E h => ?_) (fun cdv A outer s H vs Q E hr h => ?_)
  · obtain ⟨G, C, L, c, es, x, rfl, _⟩ := h
    rfl
  · have hu1 := hu_of hr; have hu0 := hr.units0; have hu64 := hr.units; have hu65 := hu65_of hr; have nd := sc_Wheel_take_out.nd
    obtain ⟨G, C, L, c, es, x, rfl, ⟨W, ws, rfl, rfl, rfl, hs, hw⟩, z, hx, hk, hl, q1, q2⟩ := h
    refine ⟨_, (pss_cons (ps_set (i := 2) nd rfl (Or.inl rfl) (pmeK (K := K) rfl T.m_Wheel_spoke_of T.c_Wheel G_Wheel_spoke_of hr (takes_of rfl rfl rfl rfl) (pv 0) (pa_cons (pv 1) pa_nil)))
      (pss_cons (ps_if (PW.pt (pw_or (pt_cmpR (op_notInK (K := K) rfl hu65) (pv 2) (pe_fldK (K := K) rfl (pv 0) rfl) rfl) (pw_or1 (pt_cmpR (op_notInK (K := K) rfl hu65) (pv 1) (pe_fldK (K := K) rfl (pe_ix (ix_anyK (K := K) rfl hu1) (pe_fldK (K := K) rfl (pv 0) rfl) (pv 2) (fun _ _ => rfl)) rfl) rfl)))) (pss_one (ps_ret pe_non))
      pss_nil)
      (pss_cons (ps_set (i := 3) nd rfl (Or.inl rfl) (pmeK (K := K) rfl T.m_Calendar_take_out T.c_Calendar G_Calendar_take_out hr (takes_of rfl rfl rfl rfl) (pe_ix (ix_anyK (K := K) rfl hu1) (pe_fldK (K := K) rfl (pv 0) rfl) (pv 2) (fun _ _ => rfl)) (pa_cons (pv 1) pa_nil)))
      (pss_cons (ps_fldaugK (K := K) rfl (pv 0) pe_int in_sub)
      (Evl.pss_cut (ps_if (pt_cmpR (op_eqK (K := K) rfl hu64) (pme0K (K := K) rfl T.m_Calendar_size T.c_Calendar G_Calendar_size hr (takes_of rfl rfl rfl rfl) (pe_ix (ix_anyK (K := K) rfl hu1) (pe_fldK (K := K) rfl (pv 0) rfl) (pv 2) (fun _ _ => rfl))) pe_int (nomark _)) (pss_cons (ps_expr (pe_bmK (K := K) rfl PySem.F.plainAttrs_dict PySem.F.slot_dict_pop PySem.F.type_dict_pop (mt_dpop1 hu1) (pe_fldK (K := K) rfl (pv 0) rfl) (pa_cons (pv 2) pa_nil)))
      (pss_one (ps_expr (pmeK (K := K) rfl T.m_Calendar_take_out T.c_Calendar G_Calendar_take_out hr (takes_of rfl rfl rfl rfl) (pe_fldK (K := K) rfl (pv 0) rfl) (pa_cons (pv 2) pa_nil)))))
      pss_nil)
      (pss_one (ps_ret (pv 3)))))))), ?_⟩
    refine go_start (σ' := [some (.ref W.c), some x.v, none, none]) rfl ?_
    have hc : H W.c = some (whO K W (flat ws).length) := z.eq List.mem_cons_self
    k_extra "we"
    refine go_methL hc no_Wheel_spoke_of ?_
    k_extra "we"
    refine ⟨W, _, x, rfl, hc, hs, hx.mono z.ex, hk, ?_⟩
    k_extra "we"
    refine go_fldL hc T.c_Wheel T.n_Wheel_spokes lk_Wheel_spokes ?_
    obtain ⟨A, B, hA, hB, hr⟩ := split_at (spk W.span x.k) ws hw.asc
    obtain ⟨o, ho, ht⟩ := z.get (p := W.sp) (φ := Thg false (ws.map spE)) (List.mem_append_left _ (List.mem_cons_of_mem _ List.mem_cons_self))
    have ok := ok_spE (G := G) hw.asc
    have g : DGet H W.sp (.int (spk W.span x.k)) (getE [spk W.span x.k] (ws.map spE)) := thg_get (x := ⟨[spk W.span x.k], .int (spk W.span x.k), .non⟩) z.ex ho ht ok.asc ok.good ⟨_, rfl, rfl⟩
    rcases hr with rfl | ⟨w, hwa, rfl⟩
    · have gn := getE_gone (f := spE) (fun _ => rfl) hA hB
      rw [getE_none.mpr gn] at g
      refine go_ninD g ?_
      rw [Option.isSome_none]
      k_extra "we"
      refine q1 (getE_none.mpr (not_flat (n := 0) (s := W.span) (G := G) (fun w h => (hw.each w h).1) fun w h => ?_))
      rcases List.mem_append.mp h with h | h
      · have := hA w h; omega
      · have := hB w h; omega
    · have gs := getE_mid (f := spE) (fun _ => rfl) hw.asc
      rw [← hwa, gs] at g
      have hwo := hw.each w (List.mem_append_right _ List.mem_cons_self)
      have hA2 : ∀ a ∈ A, SpkOk W.span G a ∧ a.es ≠ [] := fun a ha => hw.each a (List.mem_append_left _ ha)
      have hB2 : ∀ b ∈ B, SpkOk W.span G b ∧ b.es ≠ [] := fun b hb => hw.each b (List.mem_append_right _ (List.mem_cons_of_mem _ hb))
      have nA : x.k ∉ (flat A).map (·.k) := not_flat (n := 0) (s := W.span) (G := G) (fun w h => (hA2 w h).1) fun w h => by have := hA w h; omega
      have nB : x.k ∉ (flat B).map (·.k) := not_flat (n := 0) (s := W.span) (G := G) (fun w h => (hB2 w h).1) fun w h => by have := hB w h; omega
      have eg : getE x.k (flat (A ++ w :: B)) = getE x.k w.es := by
        rw [flat_mid, getE_app nA, getE_appR nB]
      have er : remE x.k (flat (A ++ w :: B)) = flat A ++ (remE x.k w.es ++ flat B) := by
        rw [flat_mid, remE_app, remE_app, remE_none nA, remE_none nB]
      rw [← hwa]
      refine go_ninD g ?_
      rw [Option.isSome_some]
      k_extra "we"
      refine go_fldL hc T.c_Wheel T.n_Wheel_spokes lk_Wheel_spokes ?_
      k_extra "we"
      refine go_subD g ?_
      have z2 := z.perm (M := calV K w.P true w.es ++ ((W.c, Eq (whO K W (flat (A ++ w :: B)).length)) :: (W.sp, Thg false ((A ++ w :: B).map spE)) :: (calV K W.rim false ((A ++ w :: B).map rimE) ++ (spkV K A ++ (spkV K B ++ L))))) (by
        unfold whV
        rw [spkV_mid]
        k_extra "p")
      have h2 : H w.P.c = some (calO K w.P) := z2.eq List.mem_cons_self
      refine go_fldL h2 T.c_Calendar T.n_Calendar_things lk_Calendar_things ?_
      obtain ⟨o2, ho2, ht2⟩ := z2.get (p := w.P.th) (φ := Thg true w.es) (List.mem_cons_of_mem _ (List.mem_cons_of_mem _ List.mem_cons_self))
      have g2 := thg_get z.ex ho2 ht2 hwo.1.ok.asc hwo.1.ok.good hx
      refine go_ninD g2 ?_
      k_extra "we"
      have hfl : (flat (A ++ w :: B)).length = (flat A ++ (w.es ++ flat B)).length := by rw [flat_mid]
      rw [List.length_append, List.length_append] at hfl
      cases hg : getE x.k w.es with
      | none =>
        rw [Option.isSome_none]
        k_extra "we"
        exact q1 (eg.trans hg)
      | some t =>
        rw [Option.isSome_some]
        k_extra "we"
        refine go_fldL hc T.c_Wheel T.n_Wheel_spokes lk_Wheel_spokes ?_
        k_extra "we"
        refine go_subD g ?_
        refine go_methL h2 no_Calendar_take_out ?_
        k_extra "we"
        refine ⟨true, G, _, w.P, w.es, x, rfl, z2, hwo.1.ok, hx, by omega, fun h => (by rw [hg] at h; cases h), fun t' ht' H3 z3 => ?_⟩
        rw [hg] at ht'
        obtain rfl := Option.some.inj ht'
        have z4 := z3.perm (M := (W.c, Eq (whO K W (flat (A ++ w :: B)).length)) :: (W.sp, Thg false ((A ++ w :: B).map spE)) :: (calV K W.rim false ((A ++ w :: B).map rimE) ++ (spkV K A ++ (calV K w.P true (remE x.k w.es) ++ (spkV K B ++ L))))) (by k_extra "p")
        have hc4 : H3 W.c = some (whO K W (flat (A ++ w :: B)).length) := z4.eq List.mem_cons_self
        k_extra "we"
        refine go_fldaugL hc4 T.c_Wheel T.n_Wheel_many lk_Wheel_many ?_
        k_extra "we"
        refine go_putL hc4 rfl ?_
        obtain ⟨e, em, ek, et⟩ := getE_mem hg
        have hlr : (remE x.k w.es).length + 1 = w.es.length := by
          obtain ⟨i, hi⟩ := List.mem_iff_getElem?.mp em
          have hil := (List.getElem?_eq_some_iff.mp hi).1
          rw [← ek, ← remE_at (asc_nodup hwo.1.ok.asc) hi, List.length_eraseIdx, if_pos hil]
          omega
        have en : ((flat (A ++ w :: B)).length : Int) - 1 = (((remE x.k (flat (A ++ w :: B))).length : Nat) : Int) := by
          rw [er, List.length_append, List.length_append]
          omega
        rw [pt_Wheel_many, en, show (HO.ins (He.ga K "Wheel") W.dx (fl_Wheel (.int W.span) (.ref W.sp) (.ref W.rim.c) (.int (((remE x.k (flat (A ++ w :: B))).length : Nat) : Int)))) = whO K W (remE x.k (flat (A ++ w :: B))).length from rfl]
        have z5 := z4.set0 (o' := whO K W (remE x.k (flat (A ++ w :: B))).length) (ψ := Eq (whO K W (remE x.k (flat (A ++ w :: B))).length)) rfl
        revert z5
        generalize upd H3 W.c _ = H5
        intro z5
        k_extra "we"
        refine ⟨fun σ' H' => ∃ C', σ' = [some (.ref W.c), some x.v, some (.int w.at_), some t] ∧ (whI K).Rep G C' W.c (remE x.k (flat (A ++ w :: B))) ∧ Hd G H' (C' ++ L), ?_, ?_⟩
        · have hc5 : H5 W.c = some (whO K W (remE x.k (flat (A ++ w :: B))).length) := z5.eq List.mem_cons_self
          k_extra "we"
          refine go_fldL hc5 T.c_Wheel T.n_Wheel_spokes lk_Wheel_spokes ?_
          k_extra "we"
          obtain ⟨o5, ho5, ht5⟩ := z5.get (p := W.sp) (φ := Thg false ((A ++ w :: B).map spE)) (List.mem_cons_of_mem _ List.mem_cons_self)
          have g5 : DGet H5 W.sp (.int w.at_) (getE [w.at_] ((A ++ w :: B).map spE)) := thg_get (x := spE w) z5.ex ho5 ht5 ok.asc ok.good ⟨_, rfl, rfl⟩
          rw [gs] at g5
          refine go_subD g5 ?_
          have m5 : ∀ y ∈ calV K w.P true (remE x.k w.es), y ∈ (W.c, Eq (whO K W (remE x.k (flat (A ++ w :: B))).length)) :: (W.sp, Thg false ((A ++ w :: B).map spE)) :: (calV K W.rim false ((A ++ w :: B).map rimE) ++ (spkV K A ++ (calV K w.P true (remE x.k w.es) ++ (spkV K B ++ L)))) := fun y hy =>
            List.mem_cons_of_mem _ (List.mem_cons_of_mem _ (List.mem_append_right _ (List.mem_append_right _ (List.mem_append_left _ hy))))
          have h5 : H5 w.P.c = some (calO K w.P) := z5.eq (m5 _ List.mem_cons_self)
          have h6 : H5 w.P.row = some (.lst ((remE x.k w.es).map (·.v))) := z5.eq (m5 _ (List.mem_cons_of_mem _ List.mem_cons_self))
          refine go_methL h5 no_Calendar_size ?_
          k_extra "we"
          refine ⟨w.P, remE x.k w.es, rfl, h5, h6, ?_⟩
          k_extra "we"
          refine go_ite (fun h0 => ?_) (fun h0 => ?_)
          · have e0 : remE x.k w.es = [] := List.length_eq_zero_iff.mp (by omega)
            k_extra "we"
            refine go_fldL hc5 T.c_Wheel T.n_Wheel_spokes lk_Wheel_spokes ?_
            refine ⟨thg_ty ho5 ht5, ?_⟩
            k_extra "we"
            obtain ⟨o7, t1, t2⟩ := thg_pop (x := spE w) z5.ex ho5 ht5 ok.asc ok.good ⟨_, rfl, rfl⟩ gs
            refine go_dpop t2 ?_
            rw [show (spE w).k = [w.at_] from rfl, rem_mid (f := spE) (fun _ => rfl) (fun a ha => by rw [hwa]; exact hA a ha) (fun b hb => by rw [hwa]; exact hB b hb)] at t1
            have z7 := z5.set1 t1
            revert z7
            generalize upd H5 W.sp o7 = H7
            intro z7
            have hc7 : H7 W.c = some (whO K W (remE x.k (flat (A ++ w :: B))).length) := z7.eq List.mem_cons_self
            k_extra "we"
            refine go_fldL hc7 T.c_Wheel T.n_Wheel_rim lk_Wheel_rim ?_
            have z8 := z7.perm (M := calV K W.rim false ((A ++ w :: B).map rimE) ++ (calV K w.P true (remE x.k w.es) ++ ((W.c, Eq (whO K W (remE x.k (flat (A ++ w :: B))).length)) :: (W.sp, Thg false ((A ++ B).map spE)) :: (spkV K A ++ (spkV K B ++ L))))) (by k_extra "p")
            have h8 : H7 W.rim.c = some (calO K W.rim) := z8.eq List.mem_cons_self
            refine go_methL h8 no_Calendar_take_out ?_
            k_extra "we"
            have okr := ok_rimE (G := G) hw.asc
            have gr := getE_mid (f := rimE) (fun _ => rfl) hw.asc
            have hl2 := flat_len fun w h => (hw.each w h).2
            refine ⟨false, G, _, W.rim, (A ++ w :: B).map rimE, rimE w, rfl, z8, okr, ⟨_, rfl, rfl⟩, by rw [List.length_map]; omega, fun h => ?_, fun t9 ht9 H9 z9 => ?_⟩
            · rw [show (rimE w).k = [w.at_] from rfl, gr] at h
              cases h
            · rw [show (rimE w).k = [w.at_] from rfl, rem_mid (f := rimE) (fun _ => rfl) (fun a ha => by rw [hwa]; exact hA a ha) (fun b hb => by rw [hwa]; exact hB b hb)] at z9
              have z10 := (z9.perm (M := calV K w.P true (remE x.k w.es) ++ (calV K W.rim false ((A ++ B).map rimE) ++ ((W.c, Eq (whO K W (remE x.k (flat (A ++ w :: B))).length)) :: (W.sp, Thg false ((A ++ B).map spE)) :: (spkV K A ++ (spkV K B ++ L))))) (by k_extra "p")).dropA
              k_extra "we"
              refine ⟨whV K W (remE x.k (flat (A ++ w :: B))).length (A ++ B), rfl, ⟨W, A ++ B, rfl, rfl, ?_, hs, ascW_two hw.asc, fun v hv => ?_⟩, z10.perm ?_⟩
              · rw [er, e0, flat_two]
                rfl
              · rcases List.mem_append.mp hv with hv | hv
                · exact hA2 v hv
                · exact hB2 v hv
              · unfold whV
                rw [spkV_two]
                k_extra "p"
          · k_extra "we"
            have ew : ∀ (f : Spk → Ent), (∀ u v : Spk, u.at_ = v.at_ → u.P = v.P → f u = f v) → (A ++ ⟨w.at_, w.P, remE x.k w.es⟩ :: B).map f = (A ++ w :: B).map f := fun f hf => by
              rw [List.map_append, List.map_append, List.map_cons, List.map_cons, hf ⟨w.at_, w.P, remE x.k w.es⟩ w rfl rfl]
            refine ⟨whV K W (remE x.k (flat (A ++ w :: B))).length (A ++ ⟨w.at_, w.P, remE x.k w.es⟩ :: B), by rw [hwa]; rfl, ⟨W, A ++ ⟨w.at_, w.P, remE x.k w.es⟩ :: B, rfl, rfl, ?_, hs, ascW_mid (w := w) rfl hw.asc, fun v hv => ?_⟩, z5.perm ?_⟩
            · rw [er, flat_mid]
            · rcases List.mem_append.mp hv with hv | hv
              · exact hA2 v hv
              · rcases List.mem_cons.mp hv with rfl | hv
                · exact ⟨⟨hwo.1.ok.rem, fun e he => hwo.1.at_ e (mem_remE.mp he).1⟩, fun h => h0 (by rw [show remE x.k w.es = [] from h]; rfl)⟩
                · exact hB2 v hv
            · unfold whV
              rw [spkV_mid, ew spE fun u v h1 h2 => by unfold spE; rw [h1, h2], ew rimE fun u v h1 _ => by unfold rimE; rw [h1]]
              k_extra "p"
        · rintro σ' H' ⟨C', rfl, rep, z6⟩
          k_extra "we"
          exact q2 t (eg.trans hg) C' _ rep z6
theorem ok_Wheel_leave (T : Tx K mg) : OkM P w K mg base 6 "Wheel" "leave" ["self"] (spLeaveI (whI K)) := by
  have G_Wheel_take_out := ok_Wheel_take_out (P := P) (w := w) (base := base) T; have G_Wheel_least := ok_Wheel_least (P := P) (w := w) (base := base) T
  refine T.f_Wheel_leave.okX sc_Wheel_leave (fun vs H Q E h => ?_) (fun cdv A outer s H vs Q E hr h => ?_)
  · obtain ⟨G, C, L, c, es, rfl, _⟩ := h
    rfl
  · have hu1 := hu_of hr; have hu0 := hr.units0; have hu64 := hr.units; have hu65 := hu65_of hr; have nd := sc_Wheel_leave.nd
    obtain ⟨G, C, L, c, es, rfl, rep, z, hl, q1, q2⟩ := h
    refine ⟨_, (pss_cons (ps_set (i := 1) nd rfl (Or.inl rfl) (pme0K (K := K) rfl T.m_Wheel_least T.c_Wheel G_Wheel_least hr (takes_of rfl rfl rfl rfl) (pv 0)))
      (pss_cons (ps_if (pt_cmpR op_isN1 (pv 1) pe_non (nomark _)) (pss_one (ps_ret pe_non))
      pss_nil)
      (pss_one (ps_ret (pe_tup (pa_cons (pv 1) (pa_cons (pmeK (K := K) rfl T.m_Wheel_take_out T.c_Wheel G_Wheel_take_out hr (takes_of rfl rfl rfl rfl) (pv 0) (pa_cons (pv 1) pa_nil)) pa_nil))))))), ?_⟩
    refine go_start (σ' := [some (.ref c), none]) rfl ?_
    obtain ⟨dx, fs, hc, hno⟩ := (whI K).at_ rep z fun x hx => List.mem_append_left _ hx
    have he := (whI K).ok rep
    k_extra "we"
    refine go_methL hc (hno _ (by decide +kernel)) ?_
    k_extra "we"
    refine ⟨G, C, L, c, es, rfl, rep, z, ?_⟩
    cases es with
    | nil =>
      dsimp only [leastV]
      k_extra "we"
      exact q1 rfl
    | cons e r =>
      obtain ⟨a, e1, h1⟩ := he.good e List.mem_cons_self
      dsimp only [leastV]
      rw [e1]
      k_extra "we"
      refine go_methL hc (hno _ (by decide +kernel)) ?_
      k_extra "we"
      have gg : getE e.k (e :: r) = some e.t := getE_of (asc_nodup he.asc) List.mem_cons_self
      refine ⟨G, C, L, c, e :: r, ⟨e.k, .ref a, e.t⟩, rfl, rep, z, ⟨a, rfl, h1⟩, whI_ne rep e List.mem_cons_self, hl, fun h => (by rw [show getE e.k (e :: r) = none from h] at gg; cases gg), fun t ht C' H' rep' z' => ?_⟩
      have et : t = e.t := by
        have ht' : getE e.k (e :: r) = some t := ht
        rw [gg] at ht'
        exact (Option.some.inj ht').symm
      subst et
      have rep2 : (whI K).Rep G C' c r := by
        have := remE_head he.asc
        have rep3 : (whI K).Rep G C' c (remE e.k (e :: r)) := rep'
        rw [this] at rep3
        exact rep3
      k_extra "we"
      refine go_sz rfl fun p hp => ?_
      rw [← e1]
      exact q2 e r rfl p C' _ ((whI K).mono rep2 (Ext.new (z'.gno hp))) (z'.fix hp) (z'.gno hp)
end
end Mo
namespace Mo
open PySem PySem.Spec PyProof.Rows L2
/-! ### the law looks at a Wheel -/
def spLook_Wheel {K : PySem.W.Frag} (I : CalI K "Wheel") : Sp := fun vs H Q _ => ∃ (G : Hp) (C L : Vo) (c th : Addr) (es : List Ent), vs = [.ref c, .ref th] ∧ I.Rep G C c es ∧ Hd G H (C ++ (th, Thg true es) :: L) ∧ es.length ≤ 4000 ∧ Q (.bl true) H
def spLeft_Wheel {K : PySem.W.Frag} (I : CalI K "Wheel") : Sp := fun vs H Q _ => ∃ (G : Hp) (C L : Vo) (c th : Addr) (es : List Ent), vs = [.ref c, .ref th] ∧ I.Rep G C c es ∧ Hd G H (C ++ (th, Thg true es) :: L) ∧ es.length ≤ 4000 ∧ (∀ e ∈ es, Plain K G e.t) ∧
  (es = [] → Q (.bl true) H) ∧ (∀ e r, es = e :: r → ∀ C' G' H', Ext G G' → I.Rep G' C' c r → Hd G' H' (C' ++ (th, Thg true r) :: L) → Q (.bl true) H')
section
variable {P : Program} {w : World} {K : PySem.W.Frag} {mg : Str → Option Value} {base : Heap}
theorem ok__law_look_Wheel (T : Tx K mg) (I : CalI K "Wheel") (G_Wheel_size : OkM P w K mg base 6 "Wheel" "size" ["self"] (spSizeI I)) (G_Wheel_least : OkM P w K mg base 6 "Wheel" "least" ["self"] (spLeastI I)) :
    OkG P w K mg base 7 "_law_look" ["_law_calendar", "_law_there"] (spLook_Wheel I) := by
  have G__law_whole := ok__law_whole (P := P) (w := w) (base := base) T
  refine T.f__law_look.okX sc__law_look (fun vs H Q E h => ?_) (fun cdv A outer s H vs Q E hr h => ?_)
  · obtain ⟨G, C, L, c, th, es, rfl, _⟩ := h
    rfl
  · have hu1 := hu_of hr; have hu0 := hr.units0; have hu64 := hr.units; have hu65 := hu65_of hr; have nd := sc__law_look.nd
    obtain ⟨G, C, L, c, th, es, rfl, rep, z, hl, q⟩ := h
    refine ⟨_, (pss_cons (ps_set (i := 2) nd rfl (Or.inl rfl) pe_non)
      (Evl.pss_cut (ps_if (pt_cmpR (op_gt) (pe_callB (call_lenK (K := K) rfl) (by rfl) T.b_len (by decide +kernel) (pa_cons (pv 1) pa_nil)) pe_int (nomark _)) (pss_one (ps_set (i := 2) nd rfl (Or.inl rfl) (pe_callB (cr_minT rfl hu1) (by rfl) T.b_min (by decide +kernel) (pa_cons (pv 1) pa_nil))))
      pss_nil)
      (pss_cons (ps_set (i := 3) nd rfl (Or.inl rfl) (pme0K (K := K) rfl T.m_Wheel_size T.c_Wheel G_Wheel_size hr (takes_of rfl rfl rfl rfl) (pv 0)))
      (pss_one (ps_ret (pe_and (pcl T.g__law_whole G__law_whole hr (takes_of rfl rfl rfl rfl) (pa_cons (pv 3) pa_nil)) (pe_and (pe_cmpR (op_eqK (K := K) rfl hu64) (pv 3) (pe_callB (call_lenK (K := K) rfl) (by rfl) T.b_len (by decide +kernel) (pa_cons (pv 1) pa_nil)) (nomark _)) (pe_one (pe_cmpR (op_eqK (K := K) rfl hu64) (pme0K (K := K) rfl T.m_Wheel_least T.c_Wheel G_Wheel_least hr (takes_of rfl rfl rfl rfl) (pv 0)) (pv 2) (nomark _)))))))))), ?_⟩
    refine go_start (σ' := [some (.ref c), some (.ref th), none, none]) rfl ?_
    obtain ⟨o, ho, ht⟩ := z.getA
    obtain ⟨dx, fs, hc, hno⟩ := I.at_ rep z fun x hx => List.mem_append_left _ hx
    have he := I.ok rep
    k_extra "we"
    refine ⟨fun σ' H' => ∃ due, H' = H ∧ σ' = [some (.ref c), some (.ref th), some due, none] ∧ ∀ Q2 : VK, Q2 (.bl true) H → rEqA K (leastV es) due H Q2, ?_, ?_⟩
    · k_extra "we"
      refine go_lenThg ho ht ?_
      k_extra "we"
      cases es with
      | nil =>
        refine go_ite (fun h => absurd h (by simp)) (fun _ => ?_)
        k_extra "we"
        exact ⟨_, rfl, rfl, fun Q2 k => go_eqP (Ext.refl H) (plain_non (K := K)) k⟩
      | cons e r =>
        refine go_ite (fun _ => ?_) (fun h => absurd (show (0 : Int) < ((e :: r).length : Int) by rw [List.length_cons]; omega) h)
        k_extra "we"
        refine go_minT ho ht he.asc fun b hb => ?_
        k_extra "we"
        obtain ⟨a, e1, h1⟩ := he.good e List.mem_cons_self
        refine ⟨_, rfl, rfl, fun Q2 k => ?_⟩
        show rEqA K e.v (.ref b) H _
        rw [e1]
        exact go_eqD (dp_mono z.ex (dp_ints h1)) (dp_ints hb) (shaped_ints _) (shaped_ints _) (by rw [eqv_self (shaped_ints _)]; exact k)
    · rintro σ' H' ⟨due, rfl, rfl, hd⟩
      k_extra "we"
      refine go_methL hc (hno _ (by decide +kernel)) ?_
      k_extra "we"
      refine ⟨G, C, _, c, es, rfl, rep, z, ?_⟩
      k_extra "we"
      refine ⟨_, rfl, ?_⟩
      k_extra "we"
      refine go_lenThg ho ht ?_
      k_extra "we"
      refine go_ite (fun _ => ?_) (fun h => absurd rfl h)
      k_extra "we"
      refine go_methL hc (hno _ (by decide +kernel)) ?_
      k_extra "we"
      refine ⟨G, C, _, c, es, rfl, rep, z, ?_⟩
      k_extra "we"
      exact hd _ q
theorem ok__law_left_Wheel (T : Tx K mg) (I : CalI K "Wheel") (G_Wheel_leave : OkM P w K mg base 6 "Wheel" "leave" ["self"] (spLeaveI I)) :
    OkG P w K mg base 7 "_law_left" ["_law_calendar", "_law_there"] (spLeft_Wheel I) := by
  refine T.f__law_left.okX sc__law_left (fun vs H Q E h => ?_) (fun cdv A outer s H vs Q E hr h => ?_)
  · obtain ⟨G, C, L, c, th, es, rfl, _⟩ := h
    rfl
  · have hu1 := hu_of hr; have hu0 := hr.units0; have hu64 := hr.units; have hu65 := hu65_of hr; have nd := sc__law_left.nd
    obtain ⟨G, C, L, c, th, es, rfl, rep, z, hl, hp, q1, q2⟩ := h
    refine ⟨_, (pss_cons (ps_set (i := 2) nd rfl (Or.inl rfl) (pme0K (K := K) rfl T.m_Wheel_leave T.c_Wheel G_Wheel_leave hr (takes_of rfl rfl rfl rfl) (pv 0)))
      (pss_cons (ps_if (pt_cmpR (op_eqK (K := K) rfl hu64) (pe_callB (call_lenK (K := K) rfl) (by rfl) T.b_len (by decide +kernel) (pa_cons (pv 1) pa_nil)) pe_int (nomark _)) (pss_one (ps_ret (pe_cmpR op_isN1 (pv 2) pe_non (nomark _))))
      pss_nil)
      (pss_cons (ps_set (i := 3) nd rfl (Or.inl rfl) (pe_callB (cr_minT rfl hu1) (by rfl) T.b_min (by decide +kernel) (pa_cons (pv 1) pa_nil)))
      (pss_cons (ps_if (PW.pt (pw_or (pt_not (pt_truthK (K := K) rfl (pe_callB (call_isiKK (K := K) rfl) (by rfl) T.b_isinstance (by decide +kernel) (pa_cons (pv 2) (pa_cons (pe_bltn (v := .ty "tuple") (by rfl) T.b_tuple (by decide +kernel) rfl) pa_nil))) (by intro _; rfl))) (pw_or (pt_cmpR (op_neK (K := K) rfl hu64) (pe_callB (call_lenK (K := K) rfl) (by rfl) T.b_len (by decide +kernel) (pa_cons (pv 2) pa_nil)) pe_int (nomark _)) (pw_or (pt_cmpR (op_neK (K := K) rfl hu64) (pe_ix (ix_anyK (K := K) rfl hu1) (pv 2) pe_int (fun _ _ => rfl)) (pv 3) (nomark _)) (pw_or1 (pt_cmpR (op_neK (K := K) rfl hu64) (pe_ix (ix_anyK (K := K) rfl hu1) (pv 2) pe_int (fun _ _ => rfl)) (pe_ix (ix_anyK (K := K) rfl hu1) (pv 1) (pv 3) (fun _ _ => rfl)) (nomark _))))))) (pss_one (ps_ret pe_bl))
      pss_nil)
      (pss_cons (ps_expr (pe_bmK (K := K) rfl PySem.F.plainAttrs_dict PySem.F.slot_dict_pop PySem.F.type_dict_pop (mt_dpop1 hu1) (pv 1) (pa_cons (pv 3) pa_nil)))
      (pss_one (ps_ret pe_bl))))))), ?_⟩
    refine go_start (σ' := [some (.ref c), some (.ref th), none, none]) rfl ?_
    obtain ⟨dx, fs, hc, hno⟩ := I.at_ rep z fun x hx => List.mem_append_left _ hx
    have he := I.ok rep
    k_extra "we"
    refine go_methL hc (hno _ (by decide +kernel)) ?_
    k_extra "we"
    refine ⟨G, C, _, c, es, rfl, rep, z, hl, fun h0 => ?_, fun e r h1 p C' H1 rep1 z1 hpn => ?_⟩
    · subst h0
      obtain ⟨o, ho, ht⟩ := z.getA
      k_extra "we"
      refine go_lenThg ho ht ?_
      k_extra "we"
      refine go_ite (fun _ => ?_) (fun h => absurd rfl h)
      k_extra "we"
      exact q1 rfl
    · subst h1
      obtain ⟨o, ho, ht⟩ := z1.getA
      have x1 : Ext G (upd G p (.tup [e.v, e.t])) := Ext.new hpn
      have hpt : H1 p = some (.tup [e.v, e.t]) := z1.ex _ _ upd_same
      have he1 := he.mono (x1.trans z1.ex)
      k_extra "we"
      refine go_lenThg ho ht ?_
      k_extra "we"
      refine go_ite (fun h => absurd h (by rw [List.length_cons]; omega)) (fun _ => ?_)
      k_extra "we"
      refine go_minT ho ht he.asc fun b hb => ?_
      k_extra "we"
      refine go_isi_tup hpt ?_
      k_extra "we"
      refine go_lenT (SqT.of hpt) ?_
      k_extra "we"
      refine go_iteN (fun h => absurd rfl h) fun _ => ?_
      k_extra "we"
      refine go_subT (SqT.of hpt) (atI_nat (j := 0) rfl) ?_
      k_extra "we"
      obtain ⟨a, e1, h1⟩ := he1.good e List.mem_cons_self
      have gx : GoodK true H1 ⟨e.k, .ref b, e.t⟩ := ⟨b, rfl, hb⟩
      have gg : getE e.k (e :: r) = some e.t := getE_of (asc_nodup he.asc) List.mem_cons_self
      have ne1 : ∀ Q2 : VK, Q2 (.bl false) H1 → rNeA K e.v (.ref b) H1 Q2 := fun Q2 k => by
        rw [e1]
        exact go_neD (dp_ints h1) (dp_ints hb) (shaped_ints _) (shaped_ints _) (by rw [eqv_self (shaped_ints _)]; exact k)
      refine ne1 _ ?_
      k_extra "we"
      refine go_subT (SqT.of hpt) (atI_nat (j := 1) rfl) ?_
      k_extra "we"
      have g := thg_get (x := ⟨e.k, .ref b, e.t⟩) (Ext.refl H1) ho ht he1.asc he1.good gx
      rw [gg] at g
      refine go_subD g ?_
      refine go_neP (x1.trans z1.ex) (hp e List.mem_cons_self) ?_
      k_extra "we"
      refine ⟨thg_ty ho ht, ?_⟩
      k_extra "we"
      obtain ⟨o', t1, t2⟩ := thg_pop (x := ⟨e.k, .ref b, e.t⟩) (Ext.refl H1) ho ht he1.asc he1.good gx gg
      refine go_dpop t2 ?_
      k_extra "we"
      have t3 : Thg true r o' := by
        have := remE_head he.asc
        have t1' : Thg true (remE e.k (e :: r)) o' := t1
        rw [this] at t1'
        exact t1'
      exact q2 e r rfl C' _ _ x1 rep1 (z1.setA t3)
end
end Mo
namespace Mo
open PySem PySem.Spec PyProof.Rows L2
def spTaken_Wheel {K : PySem.W.Frag} (I : CalI K "Wheel") : Sp := fun vs H Q _ => ∃ (G : Hp) (C L : Vo) (c th : Addr) (es : List Ent) (x : Ent), vs = [.ref c, .ref th, x.v] ∧ I.Rep G C c es ∧ Hd G H (C ++ (th, Thg true es) :: L) ∧ es.length ≤ 4000 ∧ (∀ e ∈ es, Plain K G e.t) ∧ GoodK true G x ∧ x.k ≠ [] ∧
  (∀ C' H', I.Rep G C' c (remE x.k es) → Hd G H' (C' ++ (th, Thg true (remE x.k es)) :: L) → Q (.bl true) H')
section
variable {P : Program} {w : World} {K : PySem.W.Frag} {mg : Str → Option Value} {base : Heap}
theorem ok__law_taken_Wheel (T : Tx K mg) (I : CalI K "Wheel") (G_Wheel_take_out : OkM P w K mg base 6 "Wheel" "take_out" ["self", "key"] (spTakeI I)) :
    OkG P w K mg base 7 "_law_taken" ["_law_calendar", "_law_there", "_law_key_here"] (spTaken_Wheel I) := by
  refine T.f__law_taken.okX sc__law_taken (fun vs H Q E h => ?_) (fun cdv A outer s H vs Q E hr h => ?_)
  · obtain ⟨G, C, L, c, th, es, x, rfl, _⟩ := h
    rfl
  · have hu1 := hu_of hr; have hu0 := hr.units0; have hu64 := hr.units; have hu65 := hu65_of hr; have nd := sc__law_taken.nd
    obtain ⟨G, C, L, c, th, es, x, rfl, rep, z, hl, hp, hx, hk0, q⟩ := h
    refine ⟨_, (pss_cons (ps_set (i := 3) nd rfl (Or.inl rfl) (pmeK (K := K) rfl T.m_Wheel_take_out T.c_Wheel G_Wheel_take_out hr (takes_of rfl rfl rfl rfl) (pv 0) (pa_cons (pv 2) pa_nil)))
      (pss_cons (ps_if (pt_cmpR (op_notInK (K := K) rfl hu65) (pv 2) (pv 1) rfl) (pss_one (ps_ret (pe_cmpR op_isN1 (pv 3) pe_non (nomark _))))
      pss_nil)
      (pss_one (ps_ret (pe_cmpR (op_eqK (K := K) rfl hu64) (pv 3) (pe_bmK (K := K) rfl PySem.F.plainAttrs_dict PySem.F.slot_dict_pop PySem.F.type_dict_pop (mt_dpop1 hu1) (pv 1) (pa_cons (pv 2) pa_nil)) (nomark _)))))), ?_⟩
    refine go_start (σ' := [some (.ref c), some (.ref th), some x.v, none]) rfl ?_
    obtain ⟨dx, fs, hc, hno⟩ := I.at_ rep z fun x hx => List.mem_append_left _ hx
    have he := I.ok rep
    k_extra "we"
    refine go_methL hc (hno _ (by decide +kernel)) ?_
    k_extra "we"
    refine ⟨G, C, _, c, es, x, rfl, rep, z, hx, hk0, hl, fun h0 => ?_, fun t h1 C' H1 rep1 z1 => ?_⟩
    · obtain ⟨o, ho, ht⟩ := z.getA
      have g := thg_get z.ex ho ht he.asc he.good hx
      rw [h0] at g
      k_extra "we"
      refine go_ninD g ?_
      rw [Option.isSome_none]
      k_extra "we"
      have e : remE x.k es = es := remE_none (getE_none.mp h0)
      rw [e] at q
      exact q C _ rep z
    · obtain ⟨o, ho, ht⟩ := z1.getA
      have g := thg_get z1.ex ho ht he.asc he.good hx
      rw [h1] at g
      k_extra "we"
      refine go_ninD g ?_
      rw [Option.isSome_some]
      k_extra "we"
      refine ⟨thg_ty ho ht, ?_⟩
      k_extra "we"
      obtain ⟨o', t1, t2⟩ := thg_pop z1.ex ho ht he.asc he.good hx h1
      refine go_dpop t2 ?_
      obtain ⟨e, em, ek, rfl⟩ := getE_mem h1
      have z2 := z1.setA t1
      exact go_eqP z2.ex (hp e em) (q C' _ rep1 z2)
end
end Mo
namespace Mo
open PySem PySem.Spec PyProof.Rows L2
/-- a list of two numbers -/
def Purse (o : HO) : Prop := ∃ a b : Int, o = .lst [.int a, .int b]
def spMixed : Sp := fun vs H Q _ => ∃ c k : Int, vs = [.int c, .int k] ∧ Bd 1048576 c ∧ Bd 8 k ∧ ∀ r : Int, Bd 31 r → Q (.int r) H
def spPurse (K : PySem.W.Frag) : Sp := fun vs H Q _ => ∃ (a : Addr) (ns : List Int), vs = [.ref a] ∧ SqL K H a (ns.map V.int) ∧ ns.length ≤ 63 ∧ (∀ z ∈ ns, Bd 1048576 z) ∧
  ∀ p H', Hd H H' [(p, Purse)] → Q (.ref p) H'
def spDraw : Sp := fun vs H Q _ => ∃ (G : Hp) (L : Vo) (p : Addr) (n : Int), vs = [.ref p, .int n] ∧ Hd G H L ∧ (p, Purse) ∈ L ∧ 0 < n ∧ Bd 8000 n ∧
  ∀ d H', 0 ≤ d → d < n → Hd G H' L → Q (.int d) H'
theorem fmod_range {a n : Int} (h : 0 < n) : 0 ≤ a.fmod n ∧ a.fmod n < n := ⟨Int.fmod_nonneg_of_pos a h, Int.fmod_lt_of_pos a h⟩
end Mo
namespace Mo
open PySem PySem.Spec PyProof.Rows L2
/-! ### the purse: numbers drawn, whatever they are -/
section
variable {P : Program} {w : World} {K : PySem.W.Frag} {mg : Str → Option Value} {base : Heap}
theorem ok__law_mixed (T : Tx K mg) : OkG P w K mg base 1 "_law_mixed" ["_law_cell", "_law_k"] spMixed := by
  refine T.f__law_mixed.okX sc__law_mixed (fun vs H Q E h => ?_) (fun cdv A outer s H vs Q E hr h => ?_)
  · obtain ⟨c, k, rfl, _⟩ := h
    rfl
  · have hu1 := hu_of hr; have hu0 := hr.units0; have hu64 := hr.units; have hu65 := hu65_of hr; have nd := sc__law_mixed.nd
    obtain ⟨c, k, rfl, hc, hk, q⟩ := h
    refine ⟨_, (pss_cons (ps_set (i := 2) nd rfl (Or.inl rfl) (pe_op op_modX (pe_op op_mulX (pe_op (op_addK (K := K) rfl) (pe_op (op_addK (K := K) rfl) (pe_op (op_addK (K := K) rfl) (pe_op op_mulX (pv 0) (pv 0)) (pe_op op_mulX pe_int (pv 0))) (pe_op op_mulX pe_int (pv 1))) pe_int) pe_int) pe_int))
      (pss_one (ps_ret (pe_op op_modX (pe_op (op_addK (K := K) rfl) (pe_op op_mulX (pv 2) (pv 2)) pe_int) pe_int)))), ?_⟩
    refine go_start (σ' := [some (.int c), some (.int k), none]) rfl ?_
    have b1 : Bd (1048576 + 1048576) (c * c) := hc.mul hc
    have b2 : Bd (2 + 1048576) (3 * c) := Bd.mul (by decide) hc
    have b3 : Bd (13 + 8) (7919 * k) := Bd.mul (by decide) hk
    have b4 : Bd 2097155 (c * c + 3 * c + 7919 * k + 1) := (((b1.add (b2.mono (by decide))).add (b3.mono (by decide))).add (Bd.mono (a := 1) (by decide) (by decide)))
    k_extra "w"
    refine go_I (hc.cmul hc) ?_
    k_extra "w"
    refine go_I (Bd.cmul (a := 2) (by decide) hc) ?_
    k_extra "w"
    refine go_I (Bd.cmul (a := 13) (by decide) hk) ?_
    k_extra "w"
    refine go_I (Bd.cmul (b := 16) b4 (by decide)) ?_
    k_extra "w"
    refine go_mod (by decide) ?_
    generalize hz : Int.fmod _ _ = z
    have hz2 := fmod_range (a := (c * c + 3 * c + 7919 * k + 1) * 48271) (n := 2147483629) (by decide)
    rw [hz] at hz2
    have b5 : Bd 31 z := bd_range hz2.1 hz2.2 (by decide)
    k_extra "w"
    refine go_I (b5.cmul b5) ?_
    k_extra "w"
    refine go_mod (by decide) ?_
    k_extra "w"
    have hy := fmod_range (a := z * z + 7) (n := 2147483587) (by decide)
    exact q _ (bd_range hy.1 hy.2 (by decide))
theorem ok__law_purse (T : Tx K mg) : OkG P w K mg base 2 "_law_purse" ["_law_script"] (spPurse K) := by
  have G__law_mixed := ok__law_mixed (P := P) (w := w) (base := base) T
  refine T.f__law_purse.okX sc__law_purse (fun vs H Q E h => ?_) (fun cdv A outer s H vs Q E hr h => ?_)
  · obtain ⟨a, ns, rfl, _⟩ := h
    rfl
  · have hu1 := hu_of hr; have hu0 := hr.units0; have hu64 := hr.units; have hu65 := hu65_of hr; have nd := sc__law_purse.nd
    obtain ⟨a, ns, rfl, hS, hl, hb, q⟩ := h
    refine ⟨_, (pss_cons (ps_set (i := 1) nd rfl (Or.inl rfl) (pe_op (op_addK (K := K) rfl) (pe_slice (sl_anyK (K := K) rfl) (pv 0) po_none (po_some pe_int)) (pe_lst (pa_cons pe_int pa_nil))))
      (pss_cons (ps_set (i := 2) nd rfl (Or.inl rfl) pe_int)
      (pss_cons (ps_for (passes_of rfl) rfl (pi_range1 rfl T.b_range (pa_cons pe_int pa_nil)) (pg_name (i := 3) nd rfl (Or.inl rfl))
      (pss_one (ps_set (i := 2) nd rfl (Or.inl rfl) (pe_op (op_addK (K := K) rfl) (pe_op op_mulX (pv 2) pe_int) (pcl T.g__law_mixed G__law_mixed hr (takes_of rfl rfl rfl rfl) (pa_cons (pe_ix (ix_anyK (K := K) rfl hu1) (pv 1) (pe_op op_modX (pv 3) (pe_callB (call_lenK (K := K) rfl) (by rfl) T.b_len (by decide +kernel) (pa_cons (pv 1) pa_nil))) (fun _ _ => rfl)) (pa_cons (pv 3) pa_nil)))))))
      (pss_cons (ps_if (pt_cmpR (op_eqK (K := K) rfl hu64) (pe_op op_modX (pe_ix (ix_anyK (K := K) rfl hu1) (pv 1) pe_int (fun _ _ => rfl)) pe_int) pe_int (nomark _)) (pss_one (ps_ret (pe_lst (pa_cons (pe_callB (call_max2 rfl) (by rfl) T.b_max (by decide +kernel) (pa_cons (pe_op op_fdivX (pe_ix (ix_anyK (K := K) rfl hu1) (pv 1) pe_int (fun _ _ => rfl)) pe_int) (pa_cons (pe_op op_sub (pe_un un_neg pe_int) (pe_op op_fdivX (pe_ix (ix_anyK (K := K) rfl hu1) (pv 1) pe_int (fun _ _ => rfl)) pe_int)) pa_nil))) (pa_cons (pv 2) pa_nil)))))
      pss_nil)
      (pss_one (ps_ret (pe_lst (pa_cons (pv 2) (pa_cons (pv 2) pa_nil))))))))), ?_⟩
    refine go_start (σ' := [some (.ref a), none, none, none]) rfl ?_
    k_extra "w"
    refine .inl ⟨a, _, rfl, hS, fun c hc => ?_⟩
    have ec : cutV (ns.map V.int) none (some 63) = ns.map V.int := by
      unfold cutV
      have e1 : HT.sIx (ns.map V.int).length 0 none = 0 := rfl
      have e2 : HT.sIx (ns.map V.int).length (ns.map V.int).length (some 63) = ns.length := by
        have := HT.sIx_nat (ns.map V.int).length (ns.map V.int).length 63
        rw [List.length_map] at this
        rw [List.length_map]
        rw [show (some (63 : Int)) = some ((63 : Nat) : Int) from rfl, this]
        omega
      rw [e1, e2, List.drop_zero, Nat.sub_zero, List.take_of_length_le (by rw [List.length_map]; exact Nat.le_refl _)]
    rw [ec]
    k_extra "w"
    refine go_size (by decide) fun z hz => ?_
    have ncz : c ≠ z := ne_of_none upd_same hz
    refine go_addL (by rw [upd_ne ncz]; exact upd_same) upd_same (by rw [List.length_map, sizeLine_eq]; simp only [List.length_cons, List.length_nil]; omega) fun d hd => ?_
    have eH : Hd H (upd (upd (upd H c (.lst (ns.map V.int))) z (.lst [.int 0])) d (.lst (ns.map V.int ++ [.int 0]))) [] := Hd.nil (((Ext.new hc).trans (Ext.new hz)).trans (Ext.new hd))
    have hcs : (upd (upd (upd H c (.lst (ns.map V.int))) z (.lst [.int 0])) d (.lst (ns.map V.int ++ [.int 0]))) d = some (.lst ((ns ++ [0]).map V.int)) := by
      rw [upd_same, List.map_append]
      rfl
    revert hcs eH
    generalize (upd (upd (upd H c (.lst (ns.map V.int))) z (.lst [.int 0])) d (.lst (ns.map V.int ++ [.int 0]))) = H1
    intro eH hcs
    have hb' : ∀ y ∈ ns ++ [0], Bd 1048576 y := fun y hy => by
      rcases List.mem_append.mp hy with hy | hy
      · exact hb y hy
      · rw [List.mem_singleton.mp hy]
        exact Nat.pow_pos (by decide)
    have hpos : 0 < (ns ++ [0]).length := by rw [List.length_append, List.length_singleton]; omega
    have hlen : (ns ++ [0]).length ≤ 64 := by rw [List.length_append, List.length_singleton]; omega
    revert hcs hb' hpos hlen
    generalize ns ++ [0] = cs
    intro hcs hb' hpos hlen
    k_extra "w"
    refine go_r1 (j := 150) 150 rfl (by decide) ?_
    refine loop_r 150 (fun i σ H' => H' = H1 ∧ ∃ x v, Bd (33 * i + 1) x ∧ σ = [some (.ref a), some (.ref d), some (.int x), v]) ⟨rfl, 1, none, by decide, rfl⟩ ?_ ?_
    · rintro i σ H' hi ⟨rfl, x, v, hx, rfl⟩
      k_extra "w"
      refine go_I (Bd.cmul (b := 31) hx (by decide) (by omega) (by decide) (by omega)) ?_
      k_extra "w"
      refine go_lenL (SqL.of hcs) ?_
      rw [List.length_map]
      refine go_mod (by omega) ?_
      have hm := fmod_range (a := (i : Int)) (n := (cs.length : Int)) (by omega)
      obtain ⟨j, hj⟩ : ∃ j : Nat, (i : Int).fmod (cs.length : Int) = (j : Int) := ⟨_, (Int.toNat_of_nonneg hm.1).symm⟩
      rw [hj]
      have hjl : j < cs.length := by omega
      refine go_subL (SqL.of hcs) (atI_nat (v := .int cs[j]) (by rw [List.getElem?_map, List.getElem?_eq_getElem hjl]; rfl)) ?_
      k_extra "w"
      refine ⟨_, _, rfl, hb' _ (List.getElem_mem hjl), ?_, fun r hr => ?_⟩
      · show (i : Int).natAbs < 2 ^ 8
        rw [Int.natAbs_natCast]
        omega
      · k_extra "w"
        refine ⟨rfl, _, _, ?_, rfl⟩
        have h1 : Bd (33 * i + 1 + 31) (x * 2147483587) := hx.mul (by decide)
        exact Bd.mono (Bd.add h1 (hr.mono (by omega))) (by omega)
    · rintro σ H' ⟨rfl, x, v, hx, rfl⟩
      have e0 : cs[0]? = some cs[0] := List.getElem?_eq_getElem hpos
      have es : atI (cs.map V.int) 0 = some (.int cs[0]) := atI_nat (j := 0) (by rw [List.getElem?_map, e0]; rfl)
      k_extra "w"
      refine go_subL (SqL.of hcs) es ?_
      k_extra "w"
      refine go_mod (by decide) ?_
      k_extra "w"
      refine go_ite (fun _ => ?_) (fun _ => ?_)
      · k_extra "w"
        refine go_subL (SqL.of hcs) es ?_
        k_extra "w"
        refine go_div 2 (by decide) (by decide) ?_
        k_extra "w"
        refine go_subL (SqL.of hcs) es ?_
        k_extra "w"
        refine go_div 2 (by decide) (by decide) ?_
        k_extra "w"
        refine ⟨_, _, rfl, ?_⟩
        k_extra "w"
        refine go_sz rfl fun p hp => ?_
        exact q p _ (eH.new hp ⟨_, _, rfl⟩)
      · k_extra "w"
        refine go_sz rfl fun p hp => ?_
        exact q p _ (eH.new hp ⟨_, _, rfl⟩)
theorem ok__law_draw (T : Tx K mg) : OkG P w K mg base 1 "_law_draw" ["_law_purse_here", "_law_out_of"] spDraw := by
  refine T.f__law_draw.okX sc__law_draw (fun vs H Q E h => ?_) (fun cdv A outer s H vs Q E hr h => ?_)
  · obtain ⟨G, L, p, n, rfl, _⟩ := h
    rfl
  · have hu1 := hu_of hr; have hu0 := hr.units0; have hu64 := hr.units; have hu65 := hu65_of hr; have nd := sc__law_draw.nd
    obtain ⟨G, L, p, n, rfl, hH, hm, hn, hb, q⟩ := h
    refine ⟨_, (pss_cons (ps_if (pt_cmpR (op_eqK (K := K) rfl hu64) (pe_ix (ix_anyK (K := K) rfl hu1) (pv 0) pe_int (fun _ _ => rfl)) pe_int (nomark _)) (pss_one (ps_asg (pe_ix (ix_anyK (K := K) rfl hu1) (pv 0) pe_int (fun _ _ => rfl)) (pg_sub (pv 0) pe_int (set_any hu1))))
      pss_nil)
      (pss_cons (ps_set (i := 2) nd rfl (Or.inl rfl) (pe_op op_modX (pe_ix (ix_anyK (K := K) rfl hu1) (pv 0) pe_int (fun _ _ => rfl)) (pv 1)))
      (pss_cons (ps_asg (pe_op op_fdivX (pe_ix (ix_anyK (K := K) rfl hu1) (pv 0) pe_int (fun _ _ => rfl)) (pv 1)) (pg_sub (pv 0) pe_int (set_any hu1)))
      (pss_one (ps_ret (pv 2)))))), ?_⟩
    refine go_start (σ' := [some (.ref p), some (.int n), none]) rfl ?_
    obtain ⟨o, hp, x, y, rfl⟩ := hH.get hm
    k_extra "w"
    refine go_subL (SqL.of hp) rfl ?_
    k_extra "w"
    have fin : ∀ (H1 : Hp) (x y : Int), Hd G H1 L → H1 p = some (.lst [.int x, .int y]) → tSeq (tAsg (tOp (rI CMod fun i j => .int (i.fmod j)) (tOp (rSub K) (tVar 0) (tC (.int 0))) (tVar 1)) (gName 2))
        (tSeq (tAsg (tOp (rI CDivX fun i j => .int (i.fdiv j)) (tOp (rSub K) (tVar 0) (tC (.int 0))) (tVar 1)) (gSub (tVar 0) (tC (.int 0)) rSet)) (tRet (tVar 2))) { nx := fun _ H' => Q .non H', rt := Q } [some (.ref p), some (.int n), none] H1 := by
      intro H1 x y hH1 hp1
      k_extra "w"
      refine go_subL (SqL.of hp1) rfl ?_
      k_extra "w"
      refine go_mod (by omega) ?_
      k_extra "w"
      refine go_subL (SqL.of hp1) rfl ?_
      k_extra "w"
      refine go_div 8000 (by omega) hb ?_
      k_extra "w"
      refine go_setL hp1 rfl ?_
      k_extra "w"
      have hr := fmod_range (a := x) hn
      exact q _ _ hr.1 hr.2 (hH1.put hm ⟨_, _, rfl⟩)
    refine go_ite (fun _ => ?_) (fun _ => ?_)
    · k_extra "w"
      refine go_subL (SqL.of hp) rfl ?_
      k_extra "w"
      refine go_setL hp rfl ?_
      exact fin _ _ _ (hH.put hm ⟨_, _, rfl⟩) upd_same
    · exact fin _ _ _ hH hp
end
end Mo
namespace Mo
open PySem PySem.Spec PyProof.Rows L2
/-! ### formulas, faults, states: plain Lean -/
inductive Op where
  | plus | less | times | part | rest | below | same
  deriving DecidableEq
def Op.name : Op → Str
  | .plus => "plus" | .less => "less" | .times => "times" | .part => "part" | .rest => "rest" | .below => "below" | .same => "same"
inductive Fm where
  | num (n : Int) | box (x : Str) | long (q : Str) | got (j : Nat) | now | two (o : Op) (f g : Fm)
  deriving DecidableEq
def Fm.data : Fm → PyData
  | .num n => .tuple [.str "number", .int n]
  | .box x => .tuple [.str "box", .str x]
  | .long q => .tuple [.str "long", .str q]
  | .got j => .tuple [.str "got", .int (j : Int)]
  | .now => .tuple [.str "now"]
  | .two o f g => .tuple [.str o.name, f.data, g.data]
inductive Flt where
  | nought | great | full | dry | span | late
  deriving DecidableEq
def Flt.cls : Flt → Str
  | .nought => "Nought" | .great => "Great" | .full => "Full" | .dry => "Dry" | .span => "Span" | .late => "Late"
def Flt.word : Flt → Str
  | .nought => "nought" | .great => "great" | .full => "full" | .dry => "dry" | .span => "span" | .late => "late"
def Worth (n : Int) : Prop := -1000000000000000 ≤ n ∧ n ≤ 1000000000000000
theorem worth_bd {n : Int} (h : Worth n) : Bd 50 n := by
  obtain ⟨h1, h2⟩ := h
  show n.natAbs < 1125899906842624
  omega
def Op.raw (o : Op) (a b : Int) : Except Flt Int := match o with
  | .plus => .ok (a + b)
  | .less => .ok (a - b)
  | .times => .ok (a * b)
  | .below => .ok (if a < b then 1 else 0)
  | .same => .ok (if a = b then 1 else 0)
  | .part => if b = 0 then .error .nought else .ok (a.fdiv b)
  | .rest => if b = 0 then .error .nought else .ok (a.fmod b)
def keptIn (n : Int) : Except Flt Int := if n < -1000000000000000 ∨ 1000000000000000 < n then .error .great else .ok n
def Op.ev (o : Op) (a b : Int) : Except Flt Int := match o.raw a b with
  | .ok n => keptIn n
  | .error e => .error e
/-- what a formula is reckoned by -/
structure Env where
  boxes : Str → Int
  longs : Str → Nat
  now : Int
  got : Nat → Int
def Fm.ev (e : Env) : Fm → Except Flt Int
  | .num n => .ok n
  | .box x => .ok (e.boxes x)
  | .long q => .ok (e.longs q : Int)
  | .got j => .ok (e.got j)
  | .now => .ok e.now
  | .two o f g => match f.ev e with
    | .error x => .error x
    | .ok a => match g.ev e with
      | .error x => .error x
      | .ok b => o.ev a b
def Fm.depth : Fm → Nat
  | .two _ f g => max f.depth g.depth + 1
  | _ => 0
def Fm.size : Fm → Nat
  | .two _ f g => f.size + g.size + 1
  | _ => 1
theorem Fm.depth_lt_size : ∀ f : Fm, f.depth < f.size
  | .num _ => Nat.zero_lt_one
  | .box _ => Nat.zero_lt_one
  | .long _ => Nat.zero_lt_one
  | .got _ => Nat.zero_lt_one
  | .now => Nat.zero_lt_one
  | .two _ f g => by
    have h1 := depth_lt_size f
    have h2 := depth_lt_size g
    show max f.depth g.depth + 1 < f.size + g.size + 1
    omega
/-- a formula by names that are there, with worths -/
def Fm.Ok (bs qs : List Str) : Fm → Prop
  | .num n => Worth n
  | .box x => x ∈ bs
  | .long q => q ∈ qs
  | .got j => j < 2
  | .now => True
  | .two _ f g => f.Ok bs qs ∧ g.Ok bs qs
structure Env.Ok (e : Env) (bs qs : List Str) : Prop where
  boxes : ∀ x ∈ bs, Worth (e.boxes x)
  longs : ∀ q ∈ qs, e.longs q ≤ 100000
  now : Worth e.now
  got : ∀ j, j < 2 → Worth (e.got j)
theorem keptIn_ok {n m : Int} (h : keptIn n = .ok m) : Worth m := by
  unfold keptIn at h
  split at h
  · cases h
  · cases h
    unfold Worth
    omega
theorem Fm.ev_worth {e : Env} {bs qs : List Str} (he : e.Ok bs qs) : ∀ {f : Fm} {n : Int}, f.Ok bs qs → f.ev e = .ok n → Worth n
  | .num m, n, h, q => by cases q; exact h
  | .box x, n, h, q => by cases q; exact he.boxes x h
  | .long x, n, h, q => by
    cases q
    have := he.longs x h
    show -(1000000000000000 : Int) ≤ (e.longs x : Int) ∧ (e.longs x : Int) ≤ 1000000000000000
    omega
  | .got j, n, h, q => by cases q; exact he.got j h
  | .now, n, h, q => by cases q; exact he.now
  | .two o f g, n, h, q => by
    unfold Fm.ev at q
    cases h1 : f.ev e with
    | error x => rw [h1] at q; cases q
    | ok a =>
      rw [h1] at q
      cases h2 : g.ev e with
      | error x => rw [h2] at q; cases q
      | ok b =>
        rw [h2] at q
        have q' : o.ev a b = .ok n := q
        unfold Op.ev at q'
        cases h3 : o.raw a b with
        | error x => rw [h3] at q'; cases q'
        | ok c =>
          rw [h3] at q'
          exact keptIn_ok q'
/-- a machine's state -/
structure MSt where
  boxes : List (Str × Int)
  queues : List (Str × List Int)
  drawn : Int
  sent : Int
def boxesV (bs : List (Str × Int)) : List (Key × V) := bs.map fun p => (Sum.inr p.1, V.int p.2)
/-- the pairs of the dict of queues: the lists' addresses -/
def queuesV (qs : List (Str × List Int)) (as : List Addr) : List (Key × V) := (qs.zip as).map fun p => (Sum.inr p.1.1, V.ref p.2)
def lookD {α : Type} (d : α) (x : Str) : List (Str × α) → α
  | [] => d
  | p :: r => if p.1 = x then p.2 else lookD d x r
theorem val_boxes : ∀ {bs : List (Str × Int)} {x : Str}, x ∈ bs.map (·.1) → valV (boxesV bs) (Sum.inr x) = some (.int (lookD 0 x bs))
  | [], x, h => by simp at h
  | p :: r, x, h => by
    show valV ((Sum.inr p.1, V.int p.2) :: boxesV r) (Sum.inr x) = some (.int (if p.1 = x then p.2 else lookD 0 x r))
    by_cases e : p.1 = x
    · rw [if_pos e]
      exact valV_pos (by show (Sum.inr p.1 : Key) = Sum.inr x; rw [e])
    · rw [if_neg e, valV_neg (by show ¬ (Sum.inr p.1 : Key) = Sum.inr x; exact fun z => e (Sum.inr.inj z))]
      rw [List.map_cons] at h
      exact val_boxes ((List.mem_cons.mp h).resolve_left fun z => e z.symm)
theorem val_queues : ∀ {qs : List (Str × List Int)} {as : List Addr} {x : Str}, qs.length = as.length → x ∈ qs.map (·.1) → ∃ (i : Nat) (a : Addr), qs[i]? = some (x, lookD [] x qs) ∧ as[i]? = some a ∧ valV (queuesV qs as) (Sum.inr x) = some (.ref a)
  | [], _, x, _, h => by simp at h
  | p :: r, [], _, hl, _ => by simp at hl
  | p :: r, a :: as, x, hl, h => by
    have ev : queuesV (p :: r) (a :: as) = (Sum.inr p.1, V.ref a) :: queuesV r as := rfl
    by_cases e : p.1 = x
    · refine ⟨0, a, ?_, rfl, ?_⟩
      · show some p = some (x, if p.1 = x then p.2 else lookD [] x r)
        rw [if_pos e, ← e]
      · rw [ev]
        exact valV_pos (by show (Sum.inr p.1 : Key) = Sum.inr x; rw [e])
    · rw [List.map_cons] at h
      obtain ⟨i, b, h1, h2, h3⟩ := val_queues (qs := r) (as := as) (x := x) (by simpa using hl) ((List.mem_cons.mp h).resolve_left fun z => e z.symm)
      refine ⟨i + 1, b, ?_, h2, ?_⟩
      · show r[i]? = some (x, if p.1 = x then p.2 else lookD [] x r)
        rw [if_neg e]
        exact h1
      · rw [ev, valV_neg (by show ¬ (Sum.inr p.1 : Key) = Sum.inr x; exact fun z => e (Sum.inr.inj z))]
        exact h3
/-- objects that stand in a heap -/
abbrev Ck : Type := List (Addr × HO)
def InH (H : Hp) (C : Ck) : Prop := ∀ e ∈ C, H e.1 = some e.2
def vo (C : Ck) : Vo := C.map fun e => (e.1, Eq e.2)
theorem InH.ext {H H' : Hp} {C : Ck} (h : InH H C) (e : Ext H H') : InH H' C := fun x m => e _ _ (h x m)
theorem Hd.inH {G H : Hp} {L : Vo} {C : Ck} (h : Hd G H L) (s : ∀ e ∈ vo C, e ∈ L) : InH H C := fun e m => h.eq (s (e.1, Eq e.2) (List.mem_map_of_mem m))
/-- the envelope of a state, a time, two worths that came -/
def MSt.env (s : MSt) (now : Int) (g0 g1 : Int) : Env := ⟨fun x => lookD 0 x s.boxes, fun x => (lookD [] x s.queues).length, now, fun j => if j = 0 then g0 else g1⟩
def MSt.bs (s : MSt) : List Str := s.boxes.map (·.1)
def MSt.qs (s : MSt) : List Str := s.queues.map (·.1)
end Mo
namespace Mo
open PySem PySem.Spec PyProof.Rows L2
section
variable {K : PySem.W.Frag}
theorem dp_freeze {G H : Hp} {L : Vo} {l : Addr} {xs : List V} {ds : List PyData} {φ : HO → Prop} (h : Hd G H ((l, φ) :: L)) (e : H l = some (.lst xs)) (d : DpAll K G xs ds) : Ext G (upd G l (.lst xs)) ∧ Hd (upd G l (.lst xs)) H L ∧ Dp K (upd G l (.lst xs)) (.ref l) (.list ds) := by
  have x : Ext G (upd G l (.lst xs)) := Ext.new (h.no List.mem_cons_self)
  exact ⟨x, h.freeze e, .lst (SqL.of upd_same) (dpa_mono x d)⟩
theorem dp_fix {G H : Hp} {L : Vo} {t : Addr} {xs : List V} {ds : List PyData} (h : Hd G H L) (e : H t = none) (d : DpAll K G xs ds) : Ext G (upd G t (.tup xs)) ∧ Hd (upd G t (.tup xs)) (upd H t (.tup xs)) L ∧ Dp K (upd G t (.tup xs)) (.ref t) (.tuple ds) := by
  have x : Ext G (upd G t (.tup xs)) := Ext.new (h.gno e)
  exact ⟨x, h.fix e, .tup (SqT.of upd_same) (dpa_mono x d)⟩
theorem dp_fixL {G H : Hp} {L : Vo} {t : Addr} {xs : List V} {ds : List PyData} (h : Hd G H L) (e : H t = none) (d : DpAll K G xs ds) : Ext G (upd G t (.lst xs)) ∧ Hd (upd G t (.lst xs)) (upd H t (.lst xs)) L ∧ Dp K (upd G t (.lst xs)) (.ref t) (.list ds) := by
  have x : Ext G (upd G t (.lst xs)) := Ext.new (h.gno e)
  exact ⟨x, h.fix e, .lst (SqL.of upd_same) (dpa_mono x d)⟩
end
end Mo
namespace Mo
open PySem PySem.Spec PyProof.Rows L2
/-! ### the law's keys and things -/
/-- a key's numbers: the last one is counted -/
def KeyOk (n : Nat) (ns : List Int) : Prop := ∃ (t r f : Int) (c : Nat), ns = [t, r, f, (c : Int)] ∧ c ≤ n ∧ Worth t
theorem KeyOk.ne {n : Nat} {ns : List Int} (h : KeyOk n ns) : ns ≠ [] := by
  obtain ⟨t, r, f, c, rfl, _⟩ := h
  exact List.cons_ne_nil _ _
def spKey (K : PySem.W.Frag) : Sp := fun vs H Q _ => ∃ (G : Hp) (L : Vo) (pu : Addr), vs = [.ref pu] ∧ Hd G H L ∧ (pu, Purse) ∈ L ∧
  ∀ a ns G' H', KeyOk 4 ns → Ext G G' → Hd G' H' L → G' a = some (.tup (ns.map V.int)) → Q (.ref a) H'
def spThing (K : PySem.W.Frag) : Sp := fun vs H Q _ => ∃ (G : Hp) (L : Vo) (pu a : Addr) (ns : List Int), vs = [.ref pu, .ref a] ∧ Hd G H L ∧ (pu, Purse) ∈ L ∧ KeyOk 100 ns ∧ G a = some (.tup (ns.map V.int)) ∧
  ∀ t G' H', Ext G G' → Hd G' H' L → Plain K G' t → Q t H'
/-- keys that stand in G -/
def KeysIn (G : Hp) (ks : List (List Int × Addr)) : Prop := ∀ e ∈ ks, KeyOk 100 e.1 ∧ G e.2 = some (.tup (e.1.map V.int))
def spKeys (K : PySem.W.Frag) : Sp := fun vs H Q _ => ∃ (G : Hp) (L : Vo) (pu : Addr) (n : Nat), vs = [.ref pu, .int (n : Int)] ∧ Hd G H L ∧ (pu, Purse) ∈ L ∧ n ≤ 60 ∧
  ∀ p ks G' H', ks.length = n → (ks.map (·.1)).Nodup → KeysIn G' ks → Ext G G' → Hd G' H' L → G' p = some (.lst (ks.map fun e => V.ref e.2)) → Q (.ref p) H'
theorem str_ok : ∀ c : Nat, c ≤ 100 → PyData.canLay0 (.str (toString (c : Int))) = true := by
  have h : ∀ c : Fin 101, PyData.canLay0 (.str (toString (((c : Nat)) : Int))) = true := by decide +kernel
  exact fun c hc => h ⟨c, by omega⟩
theorem any_keys (ns : List Int) : ∀ ks : List (List Int × Addr), ((ks.map fun e => PyData.tuple (e.1.map PyData.int)).any fun z => PyData.eqv z (.tuple (ns.map PyData.int))) = decide (ns ∈ ks.map (·.1))
  | [] => by simp
  | e :: r => by
    rw [List.map_cons, List.any_cons, any_keys ns r, eqv_tup, List.map_cons]
    by_cases h : e.1 = ns
    · rw [decide_eq_true h, h]
      simp
    · rw [decide_eq_false h, Bool.false_or]
      exact decide_eq_decide.mpr ⟨fun z => List.mem_cons_of_mem _ z, fun z => (List.mem_cons.mp z).resolve_left fun q => h q.symm⟩
theorem shaped_keys (ks : List (List Int × Addr)) : SeqAt.shaped (.list (ks.map fun e => PyData.tuple (e.1.map PyData.int))) = true := by
  unfold SeqAt.shaped
  rw [Bool.and_eq_true]
  constructor
  · show PyData.canLayAll0 _ = true
    induction ks with
    | nil => rfl
    | cons e r ih =>
      rw [List.map_cons]
      show (PyData.canLay0 _ && PyData.canLayAll0 _) = true
      rw [ih, Bool.and_true]
      exact lay_ints e.1
  · refine decide_eq_true ?_
    have : ∀ ks : List (List Int × Addr), PyData.depth (.list (ks.map fun e => PyData.tuple (e.1.map PyData.int))) ≤ 3 := fun ks => by
      induction ks with
      | nil => decide
      | cons e r ih =>
        have h := depth_ints e.1
        simp only [PyData.depth, PyData.depthAll, List.map_cons] at ih h ⊢
        omega
    exact Nat.le_trans (this ks) (by decide)
theorem dpa_keys {K : PySem.W.Frag} {H : Hp} : ∀ {ks : List (List Int × Addr)}, (∀ e ∈ ks, H e.2 = some (.tup (e.1.map V.int))) → DpAll K H (ks.map fun e => V.ref e.2) (ks.map fun e => PyData.tuple (e.1.map PyData.int))
  | [], _ => .nil
  | e :: r, h => .cons (dp_ints (h e List.mem_cons_self)) (dpa_keys fun x hx => h x (List.mem_cons_of_mem _ hx))
theorem go_inKeys {K : PySem.W.Frag} {G H : Hp} {Q : VK} {ks : List (List Int × Addr)} {ns : List Int} {l a : Addr} (x : Ext G H) (hk : ∀ e ∈ ks, G e.2 = some (.tup (e.1.map V.int))) (hl : H l = some (.lst (ks.map fun e => V.ref e.2))) (ha : G a = some (.tup (ns.map V.int))) (k : Q (.bl (decide (ns ∈ ks.map (·.1)))) H) : rInA K (.ref a) (.ref l) H Q :=
  .inr (.inr ⟨_, _, dp_mono x (dp_ints ha), .lst (SqL.of hl) (dpa_keys fun e he => x _ _ (hk e he)), shaped_ints ns, shaped_keys ks, by rw [any_keys]; exact k⟩)
theorem shaped_thing (ns : List Int) : SeqAt.shaped (.tuple [.str "thing", .tuple (ns.map PyData.int)]) = true := by
  have h1 := lay_ints ns
  have h2 := depth_ints ns
  have h3 : PyData.canLay0 (.str "thing") = true := by decide +kernel
  unfold SeqAt.shaped
  rw [Bool.and_eq_true]
  constructor
  · show (PyData.canLay0 (.str "thing") && (PyData.canLayAll0 (ns.map PyData.int) && true)) = true
    rw [h1, h3]
    rfl
  · refine decide_eq_true ?_
    simp only [PyData.depth, PyData.depthAll] at h2 ⊢
    omega
section
variable {P : Program} {w : World} {K : PySem.W.Frag} {mg : Str → Option Value} {base : Heap}
theorem ok__law_key (T : Tx K mg) : OkG P w K mg base 2 "_law_key" ["_law_purse_here"] (spKey K) := by
  have G__law_draw := ok__law_draw (P := P) (w := w) (base := base) T
  refine T.f__law_key.okX sc__law_key (fun vs H Q E h => ?_) (fun cdv A outer s H vs Q E hr h => ?_)
  · obtain ⟨G, L, pu, rfl, _⟩ := h
    rfl
  · have hu1 := hu_of hr; have hu0 := hr.units0; have hu64 := hr.units; have hu65 := hu65_of hr; have nd := sc__law_key.nd
    obtain ⟨G, L, pu, rfl, z, hm, q⟩ := h
    refine ⟨_, (pss_cons (ps_set (i := 1) nd rfl (Or.inl rfl) (pe_ix (ix_anyK (K := K) rfl hu1) (pe_lst (pa_cons (pcl T.g__law_draw G__law_draw hr (takes_of rfl rfl rfl rfl) (pa_cons (pv 0) (pa_cons pe_int pa_nil))) (pa_cons (pcl T.g__law_draw G__law_draw hr (takes_of rfl rfl rfl rfl) (pa_cons (pv 0) (pa_cons (pe_op (op_addK (K := K) rfl) (pe_op op_pow pe_int pe_int) pe_int) pa_nil))) (pa_cons (pe_op op_sub (pcl T.g__law_draw G__law_draw hr (takes_of rfl rfl rfl rfl) (pa_cons (pv 0) (pa_cons pe_int pa_nil))) pe_int) pa_nil)))) (pcl T.g__law_draw G__law_draw hr (takes_of rfl rfl rfl rfl) (pa_cons (pv 0) (pa_cons pe_int pa_nil))) (fun _ _ => rfl)))
      (pss_cons (ps_set (i := 2) nd rfl (Or.inl rfl) (pcl T.g__law_draw G__law_draw hr (takes_of rfl rfl rfl rfl) (pa_cons (pv 0) (pa_cons pe_int pa_nil))))
      (pss_one (ps_ret (pe_tup (pa_cons (pv 1) (pa_cons (pv 2) (pa_cons (pe_op op_sub (pcl T.g__law_draw G__law_draw hr (takes_of rfl rfl rfl rfl) (pa_cons (pv 0) (pa_cons pe_int pa_nil))) pe_int) (pa_cons (pcl T.g__law_draw G__law_draw hr (takes_of rfl rfl rfl rfl) (pa_cons (pv 0) (pa_cons pe_int pa_nil))) pa_nil))))))))), ?_⟩
    refine go_start (σ' := [some (.ref pu), none, none]) rfl ?_
    k_extra "we"
    refine ⟨G, L, pu, 12, rfl, z, hm, by decide, by decide, fun d1 H1 a0 a1 z1 => ?_⟩
    k_extra "we"
    refine ⟨G, L, pu, _, rfl, z1, hm, by decide, by decide, fun d2 H2 b0 b1 z2 => ?_⟩
    k_extra "we"
    refine ⟨G, L, pu, 3000, rfl, z2, hm, by decide, by decide, fun d3 H3 c0 c1 z3 => ?_⟩
    k_extra "we"
    refine go_sz rfl fun l hl => ?_
    have z4 := z3.new hl (φ := Eq (.lst [.int d1, .int d2, .int (d3 - 1500)])) rfl
    k_extra "we"
    refine ⟨G, _, pu, 3, rfl, z4, List.mem_cons_of_mem _ hm, by decide, by decide, fun j H4 j0 j1 z5 => ?_⟩
    have ht : ∃ t, Worth t ∧ atI [V.int d1, V.int d2, V.int (d3 - 1500)] j = some (.int t) := by
      have hj : j = 0 ∨ j = 1 ∨ j = 2 := by omega
      rcases hj with rfl | rfl | rfl
      · exact ⟨d1, ⟨by omega, by omega⟩, rfl⟩
      · exact ⟨d2, ⟨by omega, by omega⟩, rfl⟩
      · exact ⟨d3 - 1500, ⟨by omega, by omega⟩, rfl⟩
    obtain ⟨t, wt, et⟩ := ht
    refine go_subL (SqL.of (z5.eq List.mem_cons_self)) et ?_
    have z6 := z5.drop
    k_extra "we"
    refine ⟨G, L, pu, 3, rfl, z6, hm, by decide, by decide, fun r H5 r0 r1 z7 => ?_⟩
    k_extra "we"
    refine ⟨G, L, pu, 4, rfl, z7, hm, by decide, by decide, fun f H6 f0 f1 z8 => ?_⟩
    k_extra "we"
    refine ⟨G, L, pu, 5, rfl, z8, hm, by decide, by decide, fun c H7 c0' c1' z9 => ?_⟩
    k_extra "we"
    refine go_sz rfl fun a ha => ?_
    obtain ⟨cn, rfl⟩ : ∃ cn : Nat, c = (cn : Int) := ⟨c.toNat, by omega⟩
    exact q a [t, r, f - 1, (cn : Int)] _ _ ⟨t, r, f - 1, cn, rfl, by omega, wt⟩ (Ext.new (z9.gno ha)) (z9.fix ha) upd_same
theorem ok__law_keys (T : Tx K mg) : OkG P w K mg base 3 "_law_keys" ["_law_purse_here", "_law_many"] (spKeys K) := by
  have G__law_key := ok__law_key (P := P) (w := w) (base := base) T
  refine T.f__law_keys.okX sc__law_keys (fun vs H Q E h => ?_) (fun cdv A outer s H vs Q E hr h => ?_)
  · obtain ⟨G, L, pu, n, rfl, _⟩ := h
    rfl
  · have hu1 := hu_of hr; have hu0 := hr.units0; have hu64 := hr.units; have hu65 := hu65_of hr; have nd := sc__law_keys.nd
    obtain ⟨G, L, pu, n, rfl, z, hm, hn, q⟩ := h
    refine ⟨_, (pss_cons (ps_set (i := 2) nd rfl (Or.inl rfl) (pe_lst pa_nil))
      (pss_cons (ps_for (passes_of rfl) rfl (pi_range1 rfl T.b_range (pa_cons (pv 1) pa_nil)) (pg_name (i := 3) nd rfl (Or.inl rfl))
      (pss_cons (ps_set (i := 4) nd rfl (Or.inl rfl) (pcl T.g__law_key G__law_key hr (takes_of rfl rfl rfl rfl) (pa_cons (pv 0) pa_nil)))
      (pss_cons (ps_while (passes_of rfl) (pt_cmpR (op_inK (K := K) rfl hu65) (pv 4) (pv 2) rfl) (pss_one (ps_set (i := 4) nd rfl (Or.inl rfl) (pe_tup (pa_cons (pe_ix (ix_anyK (K := K) rfl hu1) (pv 4) pe_int (fun _ _ => rfl)) (pa_cons (pe_ix (ix_anyK (K := K) rfl hu1) (pv 4) pe_int (fun _ _ => rfl)) (pa_cons (pe_ix (ix_anyK (K := K) rfl hu1) (pv 4) pe_int (fun _ _ => rfl)) (pa_cons (pe_op (op_addK (K := K) rfl) (pe_ix (ix_anyK (K := K) rfl hu1) (pv 4) pe_int (fun _ _ => rfl)) pe_int) pa_nil))))))))
      (pss_one (ps_expr (pe_bmK (K := K) rfl PySem.F.plainAttrs_list PySem.F.slot_list_append PySem.F.type_list_append mt_append (pv 2) (pa_cons (pv 4) pa_nil)))))))
      (pss_one (ps_ret (pv 2))))), ?_⟩
    refine go_start (σ' := [some (.ref pu), some (.int (n : Int)), none, none, none]) rfl ?_
    k_extra "we"
    refine go_sz rfl fun l hl => ?_
    have z1 := z.new hl (φ := Eq (.lst [])) rfl
    k_extra "we"
    refine go_r1 n rfl (by omega) ?_
    refine loop_r n (fun i σ H' => ∃ (u v : Option V) (ks : List (List Int × Addr)) (G' : Hp), σ = [some (.ref pu), some (.int (n : Int)), some (.ref l), u, v] ∧ ks.length = i ∧ (ks.map (·.1)).Nodup ∧ (∀ e ∈ ks, KeyOk (3 + i) e.1 ∧ G' e.2 = some (.tup (e.1.map V.int))) ∧ Ext G G' ∧ Hd G' H' ((l, Eq (.lst (ks.map fun e => V.ref e.2))) :: L))
      ⟨none, none, [], G, rfl, rfl, List.nodup_nil, (fun e h => nomatch h), Ext.refl G, z1⟩ ?_ ?_
    · rintro i σ' H' hi ⟨u, v, ks, G1, rfl, hkl, hnd, hks, xG, z2⟩
      k_extra "we"
      refine ⟨G1, _, pu, rfl, z2, List.mem_cons_of_mem _ hm, fun a ns G2 H2 hk x2 z3 ha => ?_⟩
      obtain ⟨t, r, f, c, rfl, hc, wt⟩ := hk
      k_extra "we"
      refine go_while (fun m σ H' => ∃ (a : Addr) (t r f : Int) (c : Nat) (G3 : Hp), σ = [some (.ref pu), some (.int (n : Int)), some (.ref l), some (.int (i : Int)), some (.ref a)] ∧ m = 4 + i - c ∧ c ≤ 4 + i ∧ Worth t ∧ Ext G1 G3 ∧
        Hd G3 H' ((l, Eq (.lst (ks.map fun e => V.ref e.2))) :: L) ∧ G3 a = some (.tup ([t, r, f, (c : Int)].map V.int))) (4 + i - c) ⟨a, t, r, f, c, G2, rfl, rfl, by omega, wt, x2, z3, ha⟩ ?_
      rintro m σ2 H3 ⟨a, t, r, f, c, G3, rfl, rfl, hc, wt, x3, z4, ha⟩
      have hks3 : ∀ e ∈ ks, G3 e.2 = some (.tup (e.1.map V.int)) := fun e he => x3 _ _ (hks e he).2
      have hl4 := z4.eq List.mem_cons_self
      k_extra "we"
      refine go_inKeys z4.ex hks3 hl4 ha ?_
      k_extra "we"
      refine go_ite (fun hin => ?_) (fun hin => ?_)
      · refine ⟨_, fun _ _ h => h, ?_⟩
        have hlt : c < 4 + i := by
          obtain ⟨e, he, e1⟩ := List.mem_map.mp hin
          obtain ⟨t', r', f', c', e2, hc', _⟩ := (hks e he).1
          rw [e1] at e2
          simp only [List.cons.injEq, and_true] at e2
          omega
        k_extra "we"
        refine go_subT (ext_t z4.ex (SqT.of ha)) (atI_nat (j := 0) rfl) ?_
        k_extra "we"
        refine go_subT (ext_t z4.ex (SqT.of ha)) (atI_nat (j := 1) rfl) ?_
        k_extra "we"
        refine go_subT (ext_t z4.ex (SqT.of ha)) (atI_nat (j := 2) rfl) ?_
        k_extra "we"
        refine go_subT (ext_t z4.ex (SqT.of ha)) (atI_nat (j := 3) rfl) ?_
        k_extra "we"
        refine go_sz rfl fun p hp => ?_
        k_extra "we"
        exact ⟨_, by omega, p, t, r, f, c + 1, _, rfl, rfl, by omega, wt, x3.trans (Ext.new (z4.gno hp)), z4.fix hp, by rw [upd_same]; rfl⟩
      · k_extra "we"
        refine go_tyL (SqL.of hl4) ?_
        k_extra "we"
        refine go_app hl4 (by rw [List.length_map, sizeLine_eq]; omega) ?_
        refine ⟨_, _, ks ++ [([t, r, f, (c : Int)], a)], G3, rfl, by rw [List.length_append, hkl]; rfl, ?_, fun e he => ?_, xG.trans x3, ?_⟩
        · rw [List.map_append, List.nodup_append]
          refine ⟨hnd, List.nodup_cons.mpr ⟨List.not_mem_nil, List.nodup_nil⟩, fun x hx y hy => ?_⟩
          rw [List.mem_singleton.mp hy]
          intro z
          rw [z] at hx
          exact hin hx
        · rcases List.mem_append.mp he with he | he
          · obtain ⟨t', r', f', c', e2, hc', w'⟩ := (hks e he).1
            exact ⟨⟨t', r', f', c', e2, by omega, w'⟩, hks3 e he⟩
          · rw [List.mem_singleton.mp he]
            exact ⟨⟨t, r, f, c, rfl, by omega, wt⟩, ha⟩
        · rw [List.map_append]
          exact z4.set 0 rfl rfl
    · rintro σ' H' ⟨u, v, ks, G1, rfl, hkl, hnd, hks, xG, z2⟩
      k_extra "we"
      have hl2 := z2.eq List.mem_cons_self
      have x3 : Ext G1 (upd G1 l (.lst (ks.map fun e => V.ref e.2))) := Ext.new (z2.no List.mem_cons_self)
      refine q l ks _ H' hkl hnd (fun e he => ?_) (xG.trans x3) (z2.freeze hl2) upd_same
      obtain ⟨t', r', f', c', e2, hc', w'⟩ := (hks e he).1
      exact ⟨⟨t', r', f', c', e2, by omega, w'⟩, x3 _ _ (hks e he).2⟩
end
end Mo
namespace Mo
open PySem PySem.Spec PyProof.Rows L2
section
variable {P : Program} {w : World} {K : PySem.W.Frag} {mg : Str → Option Value} {base : Heap}
theorem ok__law_thing (T : Tx K mg) : OkG P w K mg base 2 "_law_thing" ["_law_purse_here", "_law_key_here"] (spThing K) := by
  have G__law_draw := ok__law_draw (P := P) (w := w) (base := base) T
  refine T.f__law_thing.okX sc__law_thing (fun vs H Q E h => ?_) (fun cdv A outer s H vs Q E hr h => ?_)
  · obtain ⟨G, L, pu, a, ns, rfl, _⟩ := h
    rfl
  · have hu1 := hu_of hr; have hu0 := hr.units0; have hu64 := hr.units; have hu65 := hu65_of hr; have nd := sc__law_thing.nd
    obtain ⟨G, L, pu, a, ns, rfl, z, hm, ⟨t, r, f, c, rfl, hc, wt⟩, ha, q⟩ := h
    refine ⟨_, (pss_one (ps_ret (pe_ix (ix_anyK (K := K) rfl hu1) (pe_lst (pa_cons (pe_tup (pa_cons pe_str (pa_cons (pv 1) pa_nil))) (pa_cons (pe_tup (pa_cons (pe_ix (ix_anyK (K := K) rfl hu1) (pv 1) pe_int (fun _ _ => rfl)) pa_nil)) (pa_cons (pe_callTy call_str_int (by rfl) T.b_str (by decide +kernel) (pa_cons (pe_ix (ix_anyK (K := K) rfl hu1) (pv 1) pe_int (fun _ _ => rfl)) pa_nil)) (pa_cons (pe_ix (ix_anyK (K := K) rfl hu1) (pv 1) pe_int (fun _ _ => rfl)) (pa_cons pe_str (pa_cons pe_int (pa_cons (pe_tup pa_nil) pa_nil)))))))) (pcl T.g__law_draw G__law_draw hr (takes_of rfl rfl rfl rfl) (pa_cons (pv 0) (pa_cons pe_int pa_nil))) (fun _ _ => rfl)))), ?_⟩
    refine go_start (σ' := [some (.ref pu), some (.ref a)]) rfl ?_
    have kd := dp_ints (K := K) ha
    k_extra "we"
    refine go_sz rfl fun p1 hp1 => ?_
    obtain ⟨x1, z1, w1⟩ := dp_fix (K := K) (xs := [.str "thing", .ref a]) (ds := [.str "thing", .tuple ([t, r, f, (c : Int)].map PyData.int)]) z hp1 (.cons (.str _) (.cons kd .nil))
    k_extra "we"
    refine go_subT (ext_t (x1.trans z1.ex) (SqT.of ha)) (atI_nat (j := 0) rfl) ?_
    k_extra "we"
    refine go_sz rfl fun p2 hp2 => ?_
    obtain ⟨x2, z2, w2⟩ := dp_fix (K := K) (xs := [.int t]) (ds := [.int t]) z1 hp2 (.cons (.int _) .nil)
    k_extra "we"
    refine go_subT (ext_t ((x1.trans x2).trans z2.ex) (SqT.of ha)) (atI_nat (j := 3) rfl) ?_
    k_extra "we"
    refine ⟨(c : Int), rfl, ?_, ?_⟩
    · show (c : Int).natAbs.log2 < 1920
      rw [Int.natAbs_natCast]
      rcases Nat.eq_zero_or_pos c with h0 | h0
      · rw [h0]; decide
      · have : c.log2 < 7 := (Nat.log2_lt (by omega)).mpr (by omega)
        omega
    k_extra "we"
    refine go_subT (ext_t ((x1.trans x2).trans z2.ex) (SqT.of ha)) (atI_nat (j := 0) rfl) ?_
    k_extra "we"
    refine go_sz rfl fun p3 hp3 => ?_
    obtain ⟨x3, z3, w3⟩ := dp_fix (K := K) (xs := []) (ds := []) z2 hp3 .nil
    k_extra "we"
    refine go_sz rfl fun l hl => ?_
    have z4 := z3.new hl (φ := Eq (.lst [.ref p1, .ref p2, .str (toString (c : Int)), .int t, .str "", .int 0, .ref p3])) rfl
    have xG := (x1.trans x2).trans x3
    k_extra "we"
    refine ⟨_, _, pu, 7, rfl, z4, List.mem_cons_of_mem _ hm, by decide, by decide, fun j H4 j0 j1 z5 => ?_⟩
    have fin : ∀ v, Plain K _ v → _ := fun v hv => q v _ H4 xG z5.drop hv
    have hj : j = 0 ∨ j = 1 ∨ j = 2 ∨ j = 3 ∨ j = 4 ∨ j = 5 ∨ j = 6 := by omega
    have hl5 := SqL.of (K := K) (z5.eq List.mem_cons_self)
    rcases hj with rfl | rfl | rfl | rfl | rfl | rfl | rfl
    · exact go_subL hl5 rfl (fin _ ⟨_, dp_mono (x2.trans x3) w1, shaped_thing _⟩)
    · exact go_subL hl5 rfl (fin _ ⟨_, dp_mono x3 w2, rfl⟩)
    · exact go_subL hl5 rfl (fin _ ⟨_, .str _, by unfold SeqAt.shaped; rw [str_ok c hc]; rfl⟩)
    · exact go_subL hl5 rfl (fin _ ⟨_, .int _, rfl⟩)
    · exact go_subL hl5 rfl (fin _ ⟨_, .str _, by decide +kernel⟩)
    · exact go_subL hl5 rfl (fin _ ⟨_, .int _, rfl⟩)
    · exact go_subL hl5 rfl (fin _ ⟨_, w3, rfl⟩)
end
end Mo
namespace Mo
open PySem PySem.Spec PyProof.Rows L2
/-! ### a deed with a Wheel -/
def spStep_Wheel {K : PySem.W.Frag} (I : CalI K "Wheel") : Sp := fun vs H Q _ => ∃ (G : Hp) (C L : Vo) (pu c th lk : Addr) (es : List Ent) (ks : List (List Int × Addr)), vs = [.ref pu, .ref c, .ref th, .ref lk] ∧ I.Rep G C c es ∧ Hd G H (C ++ (th, Thg true es) :: L) ∧ (pu, Purse) ∈ L ∧
  G lk = some (.lst (ks.map fun e => V.ref e.2)) ∧ KeysIn G ks ∧ 0 < ks.length ∧ ks.length ≤ 60 ∧ es.length ≤ 3000 ∧ (∀ e ∈ es, Plain K G e.t) ∧
  ∀ C' G' H' es', Ext G G' → I.Rep G' C' c es' → Hd G' H' (C' ++ (th, Thg true es') :: L) → es'.length ≤ es.length + 1 → (∀ e ∈ es', Plain K G' e.t) → Q (.bl true) H'
section
variable {P : Program} {w : World} {K : PySem.W.Frag} {mg : Str → Option Value} {base : Heap}
theorem ok__law_step_Wheel (T : Tx K mg) (I : CalI K "Wheel") (G_Wheel_put : OkM P w K mg base 6 "Wheel" "put" ["self", "key", "thing"] (spPutI I))
    (G__law_look : OkG P w K mg base 7 "_law_look" ["_law_calendar", "_law_there"] (spLook_Wheel I)) (G__law_left : OkG P w K mg base 7 "_law_left" ["_law_calendar", "_law_there"] (spLeft_Wheel I)) (G__law_taken : OkG P w K mg base 7 "_law_taken" ["_law_calendar", "_law_there", "_law_key_here"] (spTaken_Wheel I)) :
    OkG P w K mg base 8 "_law_step" ["_law_purse_here", "_law_calendar", "_law_there", "_law_keys_here"] (spStep_Wheel I) := by
  have G__law_draw := ok__law_draw (P := P) (w := w) (base := base) T
  have G__law_thing := ok__law_thing (P := P) (w := w) (base := base) T
  refine T.f__law_step.okX sc__law_step (fun vs H Q E h => ?_) (fun cdv A outer s H vs Q E hr h => ?_)
  · obtain ⟨G, C, L, pu, c, th, lk, es, ks, rfl, _⟩ := h
    rfl
  · have hu1 := hu_of hr; have hu0 := hr.units0; have hu64 := hr.units; have hu65 := hu65_of hr; have nd := sc__law_step.nd
    obtain ⟨G, C, L, pu, c, th, lk, es, ks, rfl, rep, z, hm, hlk, hks, n0, n1, hl, hp, q⟩ := h
    refine ⟨_, (pss_cons (ps_set (i := 4) nd rfl (Or.inl rfl) (pcl T.g__law_draw G__law_draw hr (takes_of rfl rfl rfl rfl) (pa_cons (pv 0) (pa_cons pe_int pa_nil))))
      (pss_cons (ps_set (i := 5) nd rfl (Or.inl rfl) (pe_ix (ix_anyK (K := K) rfl hu1) (pv 3) (pcl T.g__law_draw G__law_draw hr (takes_of rfl rfl rfl rfl) (pa_cons (pv 0) (pa_cons (pe_callB (call_lenK (K := K) rfl) (by rfl) T.b_len (by decide +kernel) (pa_cons (pv 3) pa_nil)) pa_nil))) (fun _ _ => rfl)))
      (Evl.pss_cut (ps_if (PW.pt (pw_and (pt_cmpR (op_ltK (K := K) rfl hu0) (pv 4) pe_int (nomark _)) (pw_and1 (pt_cmpR (op_notInK (K := K) rfl hu65) (pv 5) (pv 2) rfl)))) (pss_cons (ps_asg (pcl T.g__law_thing G__law_thing hr (takes_of rfl rfl rfl rfl) (pa_cons (pv 0) (pa_cons (pv 5) pa_nil))) (pg_sub (pv 2) (pv 5) (set_any hu1)))
      (pss_cons (ps_expr (pmeK (K := K) rfl T.m_Wheel_put T.c_Wheel G_Wheel_put hr (takes_of rfl rfl rfl rfl) (pv 1) (pa_cons (pv 5) (pa_cons (pe_ix (ix_anyK (K := K) rfl hu1) (pv 2) (pv 5) (fun _ _ => rfl)) pa_nil))))
      (pss_one (ps_set (i := 6) nd rfl (Or.inl rfl) pe_bl))))
      (pss_one (ps_if (pt_cmpR (op_eqK (K := K) rfl hu64) (pv 4) pe_int (nomark _)) (pss_one (ps_set (i := 6) nd rfl (Or.inl rfl) (pcl T.g__law_left G__law_left hr (takes_of rfl rfl rfl rfl) (pa_cons (pv 1) (pa_cons (pv 2) pa_nil)))))
      (pss_one (ps_set (i := 6) nd rfl (Or.inl rfl) (pcl T.g__law_taken G__law_taken hr (takes_of rfl rfl rfl rfl) (pa_cons (pv 1) (pa_cons (pv 2) (pa_cons (pv 5) pa_nil)))))))))
      (pss_one (ps_ret (pe_and (pv 6) (pe_one (pcl T.g__law_look G__law_look hr (takes_of rfl rfl rfl rfl) (pa_cons (pv 1) (pa_cons (pv 2) pa_nil)))))))))), ?_⟩
    refine go_start (σ' := [some (.ref pu), some (.ref c), some (.ref th), some (.ref lk), none, none, none]) rfl ?_
    have hm2 : (pu, Purse) ∈ C ++ (th, Thg true es) :: L := List.mem_append_right _ (List.mem_cons_of_mem _ hm)
    k_extra "we"
    refine ⟨G, _, pu, 5, rfl, z, hm2, by decide, by decide, fun way H1 _ _ z1 => ?_⟩
    k_extra "we"
    refine go_lenL (SqL.of (z1.ex _ _ hlk)) ?_
    rw [List.length_map]
    refine ⟨G, _, pu, _, rfl, z1, hm2, by omega, Bd.mono (a := 8) (by show Int.natAbs _ < 256; omega) (by decide), fun d H2 d0 d1 z2 => ?_⟩
    obtain ⟨d, rfl⟩ : ∃ m : Nat, d = (m : Int) := ⟨d.toNat, by omega⟩
    have hd : ks[d]? = some ks[d] := List.getElem?_eq_getElem (by omega)
    refine go_subL (SqL.of (z2.ex _ _ hlk)) (atI_nat (v := V.ref ks[d].2) (by rw [List.getElem?_map, hd]; rfl)) ?_
    have hk1 := hks _ (List.mem_of_getElem? hd)
    revert hk1
    generalize ks[d] = kk
    intro hk1
    have he := I.ok rep
    have gx : GoodK true G ⟨kk.1, .ref kk.2, .non⟩ := ⟨kk.2, rfl, hk1.2⟩
    obtain ⟨o, ho, ht⟩ := z2.getA
    have g := thg_get (x := ⟨kk.1, .ref kk.2, .non⟩) z2.ex ho ht he.asc he.good gx
    k_extra "we"
    refine ⟨fun σ' H' => ∃ C' G' es', σ' = [some (.ref pu), some (.ref c), some (.ref th), some (.ref lk), some (.int way), some (.ref kk.2), some (.bl true)] ∧ Ext G G' ∧ I.Rep G' C' c es' ∧ Hd G' H' (C' ++ (th, Thg true es') :: L) ∧ es'.length ≤ es.length + 1 ∧ ∀ e ∈ es', Plain K G' e.t, ?_, ?_⟩
    · have other : ∀ D : Ends, D.nx = (fun σ' H' => ∃ C' G' es', σ' = [some (V.ref pu), some (.ref c), some (.ref th), some (.ref lk), some (.int way), some (.ref kk.2), some (.bl true)] ∧ Ext G G' ∧ I.Rep G' C' c es' ∧ Hd G' H' (C' ++ (th, Thg true es') :: L) ∧ es'.length ≤ es.length + 1 ∧ ∀ e ∈ es', Plain K G' e.t) →
          spTaken_Wheel I [.ref c, .ref th, .ref kk.2] H2 (fun v H' => D.nx [some (.ref pu), some (.ref c), some (.ref th), some (.ref lk), some (.int way), some (.ref kk.2), some v] H') (WE (fun cls d x H => E cls d H) []) := fun D hD => by
        refine ⟨G, C, L, c, th, es, ⟨kk.1, .ref kk.2, .non⟩, rfl, rep, z2, by omega, hp, gx, hk1.1.ne, fun C' H' rep' z' => ?_⟩
        rw [hD]
        exact ⟨C', G, remE kk.1 es, rfl, Ext.refl _, rep', z', Nat.le_succ_of_le (List.length_filter_le _ _), fun e he => hp e (mem_remE.mp he).1⟩
      k_extra "we"
      refine go_ite (fun _ => ?_) (fun _ => ?_)
      · k_extra "we"
        refine go_ninD g ?_
        k_extra "we"
        cases hg : getE kk.1 es with
        | none =>
          rw [Option.isSome_none]
          k_extra "we"
          refine ⟨G, _, pu, kk.2, kk.1, rfl, z2, hm2, hk1.1, hk1.2, fun t G3 H3 x3 z3 pt => ?_⟩
          have hnin : kk.1 ∉ es.map (·.k) := getE_none.mp hg
          have rp2 := I.mono rep x3
          have he2 := I.ok rp2
          have gx2 : GoodK true G3 ⟨kk.1, .ref kk.2, t⟩ := ⟨kk.2, rfl, x3 _ _ hk1.2⟩
          obtain ⟨o, ho, ht⟩ := z3.getA
          obtain ⟨o', t1, t2⟩ := thg_put (x := ⟨kk.1, .ref kk.2, t⟩) z3.ex ho ht he2.asc he2.good gx2 hnin (by omega)
          k_extra "we"
          refine go_setD t2 ?_
          have z4 := z3.setA t1
          have ho4 : upd H3 th o' th = some o' := upd_same
          revert z4 ho4
          generalize upd H3 th o' = H4
          intro z4 ho4
          k_extra "we"
          obtain ⟨dx3, fs3, hc3, hno3⟩ := I.at_ rp2 z4 fun x hx => List.mem_append_left _ hx
          refine go_methL hc3 (hno3 _ (by decide +kernel)) ?_
          k_extra "we"
          have he3 := he2.ins gx2 hnin
          have g3 := thg_get (x := ⟨kk.1, .ref kk.2, t⟩) z4.ex ho4 t1 he3.asc he3.good gx2
          have gg : getE kk.1 (insE ⟨kk.1, .ref kk.2, t⟩ es) = some t := getE_of (x := ⟨kk.1, .ref kk.2, t⟩) (asc_nodup he3.asc) (mem_insE.mpr (.inl rfl))
          rw [gg] at g3
          refine go_subD g3 ?_
          k_extra "we"
          refine ⟨G3, C, _, c, es, ⟨kk.1, .ref kk.2, t⟩, rfl, rp2, z4, gx2, hk1.1.ne, hnin, by omega, fun C' H5 rp5 z5 => ?_⟩
          k_extra "we"
          refine ⟨C', G3, insE ⟨kk.1, .ref kk.2, t⟩ es, rfl, x3, rp5, z5, by rw [insE_len]; exact Nat.le_refl _, fun e he => ?_⟩
          rcases mem_insE.mp he with rfl | he
          · exact pt
          · exact (hp e he).mono x3
        | some t =>
          rw [Option.isSome_some]
          k_extra "we"
          refine go_ite (fun hw => ?_) (fun _ => ?_)
          · omega
          · k_extra "we"
            exact other _ rfl
      · k_extra "we"
        refine go_ite (fun _ => ?_) (fun _ => ?_)
        · k_extra "we"
          refine ⟨G, C, L, c, th, es, rfl, rep, z2, by omega, hp, fun h0 => ?_, fun e r h0 C' G' H' x' rep' z' => ?_⟩
          · k_extra "we"
            exact ⟨C, G, es, rfl, Ext.refl _, rep, z2, Nat.le_succ _, hp⟩
          · k_extra "we"
            subst h0
            exact ⟨C', G', r, rfl, x', rep', z', Nat.le_succ_of_le (Nat.le_succ _), fun e he => (hp e (List.mem_cons_of_mem _ he)).mono x'⟩
        · k_extra "we"
          exact other _ rfl
    · rintro σ' H' ⟨C', G', es', rfl, x', rep', z', hl', hp'⟩
      k_extra "we"
      refine ⟨G', C', L, c, th, es', rfl, rep', z', by omega, ?_⟩
      exact q C' G' H' es' x' rep' z' hl' hp'
end
end Mo
namespace Mo
open PySem PySem.Spec PyProof.Rows L2
/-! ### the head: facts by names, and any others that are decided -/
abbrev AlM : Type := He.AlD × Bool
def SaysM (fa : List He.Fa) (fn : List He.DefD) (exs : List (PySem.W.Frag → Bool)) (K : PySem.W.Frag) : Prop := He.SaysD fa fn K ∧ (exs.all fun b => b K) = true
def obsM (n : Nat) (fa : List He.Fa) (fn : List He.DefD) (exs : List (PySem.W.Frag → Bool)) (g : Addr → Option Obj) : AlM := (He.obsD fa fn (He.frG g (He.asD g n)), exs.all fun b => b (He.frG g (He.asD g n)))
def hookM (n : Nat) (fa : List He.Fa) (fn : List He.DefD) (exs : List (PySem.W.Frag → Bool)) : PySem.W.Hook where
  α := AlM
  obs := fun s => obsM n fa fn exs s.heap.get?
  val := fun _ => (He.valD fn, true)
  says := fun _ h => ∃ K : PySem.W.Frag, K.In h ∧ SaysM fa fn exs K
  of := fun _ _ e => ⟨_, He.frG_in, congrArg (fun z : AlM => z.1) e, congrArg (fun z : AlM => z.2) e⟩
  keeps := fun _ _ _ ⟨K, hK, c⟩ k => ⟨K, PySem.W.Frag.In.keeps hK k, c⟩
theorem obsM_eq {n : Nat} {fa : List He.Fa} {fn : List He.DefD} {exs : List (PySem.W.Frag → Bool)} {g : Addr → Option Obj} {s : Shared} (h : ∀ a, g a = s.heap.get? a) : obsM n fa fn exs g = (hookM n fa fn exs).obs s := by
  have e : g = s.heap.get? := funext h
  rw [e] <;> rfl
section
variable {fa : List He.Fa} {fn : List He.DefD} {exs : List (PySem.W.Frag → Bool)} {K : PySem.W.Frag}
theorem SaysM.fact (c : SaysM fa fn exs K) (i : Nat) {f : He.Fa} (h : fa[i]? = some f := by rfl) : f.ok K = true := c.1.fact i h
theorem SaysM.fn_ (c : SaysM fa fn exs K) (i : Nat) {d : He.DefD} (h : fn[i]? = some d := by rfl) : ∃ fd, FunD K d.name d.qual d.params d.body d.scope (d.dvs K) (d.kws K) (He.fAd K d.at_) fd := c.1.def_ i h
theorem SaysM.ex (c : SaysM fa fn exs K) (i : Nat) {b : PySem.W.Frag → Bool} (h : exs[i]? = some b := by rfl) : b K = true := List.all_eq_true.mp c.2 b (List.mem_of_getElem? h)
end
/-- a law's end, the script's bits told -/
theorem walk_ofEB {l : PySem.W.OpenLaw} {n k : Nat} {q : Program} {loose : List Str} {XP : (Str → Option Value) → Heap → Prop} {YP : World → Heap → Prop} {d : DefRec} {CX : World → CXT} {x : Str}
    (hn : l.most = some n) (hn2 : n ≤ sizeLine) (hdf : d.params.defaults = []) (hr : Room k callerA)
    (F : ∀ (w : World) (mg : Str → Option Value) (fa : Addr) (h : Heap), YP w h → h.Ns mainGlobals mg → mg d.name = some (.ref fa) →
      ∃ (K : PySem.W.Frag) (fd : FuncData) (sp : Sp), K.In h ∧ (∀ (s : Shared) (u : Value), BindsTo s fd ⟨[u], []⟩ [(x, u)]) ∧
        (∀ (H : Hp) (a : Addr) (ns : List Int), ns.length ≤ n → (∀ z ∈ ns, Builtin.Int.intBits z ≤ 1048576) → Only H → SqL K H a (ns.map V.int) → sp [.ref a] H (fun v _ => v = .bl true) fun _ _ _ => False) ∧
        ∀ base : Heap, K.In base → base.Ns mainGlobals mg → FnOk l.prog w K mg base (CX w) k fa fd [x] sp)
    (hCX : ∀ (w : World) (H : Hp) (s : Shared) (e : Value) (s' : Shared), CX w [] H s (fun _ _ _ => False) e s' → False) :
    PySem.W.WalkO q loose XP YP l.row.toRowW d [] (fun f vs => PySem.call f vs) := by
  refine Att.attach_callB hn hdf fun w s₀ s₁ mg mb fa o pm cd doc a vs ns G Y ho hd hcd hmg hobj hints hlen hbits hg => ?_
  obtain ⟨K, fd, sp, KX, hb, hsp, hF⟩ := F w mg fa _ Y G.T.g hmg
  exact law_call KX G.T.g G.T.b G.T.builtins G.T.nolimit hg hobj hints (Nat.le_trans hlen hn2) hr hF hb (fun H hO hS => hsp H a ns hlen hbits hO hS) fun H e s' => hCX w H s₁ e s'
theorem fun_bindsTo {K : PySem.W.Frag} {x qual : Str} {st : Stmt} {f : Addr} {fd : FuncData} (F : L2.Fun K x qual st f fd) {ps : List Str}
    (h : ∀ (kV doc pm : Value) (an : Option Addr) (cdv ct : Value) (us : List Value), us.length = ps.length → bindArgs (PySem.W.fnOf x qual (defArgs st) (defBody st) (defScope st) .none kV doc pm an cdv ct) ⟨us, []⟩ = pure (ps.zip us)) (s : Shared) (us : List Value) (hl : us.length = ps.length) : BindsTo s fd ⟨us, []⟩ (ps.zip us) := by
  obtain ⟨oc, od, kV, doc, pm, an, cdv, ct, osl, rfl, lk, hcd⟩ := F.ex
  exact .of_eq (h kV doc pm an cdv ct us hl)
theorem cx_false {P : Program} {w : World} {H : Hp} {s : Shared} {e : Value} {s' : Shared} (h : L2.CX P w [] H s (fun _ _ _ => False) e s') : False := by
  obtain ⟨_, _, _, _, _, _, _, _, _, _, _, _, z⟩ := h
  exact z
/-- what a law promises -/
def spLaw (K : PySem.W.Frag) : Sp := fun vs H Q _ => ∃ (a : Addr) (ns : List Int), vs = [.ref a] ∧ Only H ∧ SqL K H a (ns.map V.int) ∧ ns.length ≤ 63 ∧ (∀ z ∈ ns, Builtin.Int.intBits z ≤ 1048576) ∧ ∀ H', Q (.bl true) H'
end Mo
namespace Mo
open PySem PySem.Spec PyProof.Rows L2
def d_Calendar_init : He.DefD := ⟨("Calendar", some "__init__"), "__init__", "Calendar.__init__", defArgs s_Calendar_init, defBody s_Calendar_init, defScope s_Calendar_init, [], []⟩
def d_Calendar_place : He.DefD := ⟨("Calendar", some "place"), "place", "Calendar.place", defArgs s_Calendar_place, defBody s_Calendar_place, defScope s_Calendar_place, [], []⟩
def d_Calendar_put : He.DefD := ⟨("Calendar", some "put"), "put", "Calendar.put", defArgs s_Calendar_put, defBody s_Calendar_put, defScope s_Calendar_put, [], []⟩
def d_Calendar_size : He.DefD := ⟨("Calendar", some "size"), "size", "Calendar.size", defArgs s_Calendar_size, defBody s_Calendar_size, defScope s_Calendar_size, [], []⟩
def d_Calendar_least : He.DefD := ⟨("Calendar", some "least"), "least", "Calendar.least", defArgs s_Calendar_least, defBody s_Calendar_least, defScope s_Calendar_least, [], []⟩
def d_Calendar_leave : He.DefD := ⟨("Calendar", some "leave"), "leave", "Calendar.leave", defArgs s_Calendar_leave, defBody s_Calendar_leave, defScope s_Calendar_leave, [], []⟩
def d_Calendar_take_out : He.DefD := ⟨("Calendar", some "take_out"), "take_out", "Calendar.take_out", defArgs s_Calendar_take_out, defBody s_Calendar_take_out, defScope s_Calendar_take_out, [], []⟩
def d_Wheel_init : He.DefD := ⟨("Wheel", some "__init__"), "__init__", "Wheel.__init__", defArgs s_Wheel_init, defBody s_Wheel_init, defScope s_Wheel_init, [], []⟩
def d_Wheel_spoke_of : He.DefD := ⟨("Wheel", some "spoke_of"), "spoke_of", "Wheel.spoke_of", defArgs s_Wheel_spoke_of, defBody s_Wheel_spoke_of, defScope s_Wheel_spoke_of, [], []⟩
def d_Wheel_put : He.DefD := ⟨("Wheel", some "put"), "put", "Wheel.put", defArgs s_Wheel_put, defBody s_Wheel_put, defScope s_Wheel_put, [], []⟩
def d_Wheel_size : He.DefD := ⟨("Wheel", some "size"), "size", "Wheel.size", defArgs s_Wheel_size, defBody s_Wheel_size, defScope s_Wheel_size, [], []⟩
def d_Wheel_least : He.DefD := ⟨("Wheel", some "least"), "least", "Wheel.least", defArgs s_Wheel_least, defBody s_Wheel_least, defScope s_Wheel_least, [], []⟩
def d_Wheel_leave : He.DefD := ⟨("Wheel", some "leave"), "leave", "Wheel.leave", defArgs s_Wheel_leave, defBody s_Wheel_leave, defScope s_Wheel_leave, [], []⟩
def d_Wheel_take_out : He.DefD := ⟨("Wheel", some "take_out"), "take_out", "Wheel.take_out", defArgs s_Wheel_take_out, defBody s_Wheel_take_out, defScope s_Wheel_take_out, [], []⟩
def d__law_whole : He.DefD := ⟨("_law_whole", none), "_law_whole", "_law_whole", defArgs s__law_whole, defBody s__law_whole, defScope s__law_whole, [], []⟩
def d__law_mixed : He.DefD := ⟨("_law_mixed", none), "_law_mixed", "_law_mixed", defArgs s__law_mixed, defBody s__law_mixed, defScope s__law_mixed, [], []⟩
def d__law_purse : He.DefD := ⟨("_law_purse", none), "_law_purse", "_law_purse", defArgs s__law_purse, defBody s__law_purse, defScope s__law_purse, [], []⟩
def d__law_draw : He.DefD := ⟨("_law_draw", none), "_law_draw", "_law_draw", defArgs s__law_draw, defBody s__law_draw, defScope s__law_draw, [], []⟩
def d__law_key : He.DefD := ⟨("_law_key", none), "_law_key", "_law_key", defArgs s__law_key, defBody s__law_key, defScope s__law_key, [], []⟩
def d__law_thing : He.DefD := ⟨("_law_thing", none), "_law_thing", "_law_thing", defArgs s__law_thing, defBody s__law_thing, defScope s__law_thing, [], []⟩
def d__law_keys : He.DefD := ⟨("_law_keys", none), "_law_keys", "_law_keys", defArgs s__law_keys, defBody s__law_keys, defScope s__law_keys, [], []⟩
def d__law_look : He.DefD := ⟨("_law_look", none), "_law_look", "_law_look", defArgs s__law_look, defBody s__law_look, defScope s__law_look, [], []⟩
def d__law_left : He.DefD := ⟨("_law_left", none), "_law_left", "_law_left", defArgs s__law_left, defBody s__law_left, defScope s__law_left, [], []⟩
def d__law_taken : He.DefD := ⟨("_law_taken", none), "_law_taken", "_law_taken", defArgs s__law_taken, defBody s__law_taken, defScope s__law_taken, [], []⟩
def d__law_step : He.DefD := ⟨("_law_step", none), "_law_step", "_law_step", defArgs s__law_step, defBody s__law_step, defScope s__law_step, [], []⟩
def d_law : He.DefD := ⟨("law", none), "law", "law", defArgs s_law, defBody s_law, defScope s_law, [], []⟩
def d_Wheel_place : He.DefD := ⟨("Wheel", some "place"), "place", "Calendar.place", defArgs s_Calendar_place, defBody s_Calendar_place, defScope s_Calendar_place, [], []⟩
def fn0 : List He.DefD := [d_Calendar_init, d_Calendar_place, d_Calendar_put, d_Calendar_size, d_Calendar_least, d_Calendar_leave, d_Calendar_take_out, d_Wheel_init, d_Wheel_spoke_of, d_Wheel_put, d_Wheel_size, d_Wheel_least, d_Wheel_leave, d_Wheel_take_out, d__law_whole, d__law_mixed, d__law_purse, d__law_draw, d__law_key, d__law_thing, d__law_keys, d__law_look, d__law_left, d__law_taken, d__law_step, d_law, d_Wheel_place]
def fn : List He.DefD := fn0
def fa0 : List He.Fa := [.glo "Calendar", .cls "Calendar", .noat "Calendar" "row", .noat "Calendar" "things", .mkr "Calendar", .glo "Calendar", .glo "Wheel", .cls "Wheel", .noat "Wheel" "many", .noat "Wheel" "rim", .noat "Wheel" "row", .noat "Wheel" "span", .noat "Wheel" "spokes", .noat "Wheel" "things", .mkr "Wheel", .glo "Wheel", .free "bool", .free "int", .free "isinstance", .free "len", .free "max", .free "min", .free "range", .free "str", .free "tuple", .glo "_law_whole", .glo "_law_mixed", .glo "_law_purse", .glo "_law_draw", .glo "_law_key"]
def fa1 : List He.Fa := [.glo "_law_thing", .glo "_law_keys", .glo "_law_look", .glo "_law_left", .glo "_law_taken", .glo "_law_step", .glo "law", .meth "Calendar" "place", .meth "Calendar" "put", .meth "Calendar" "size", .meth "Calendar" "least", .meth "Calendar" "leave", .meth "Calendar" "take_out", .meth "Wheel" "place", .meth "Wheel" "put", .meth "Wheel" "size", .meth "Wheel" "least", .meth "Wheel" "leave", .meth "Wheel" "take_out", .meth "Wheel" "spoke_of"]
def fa : List He.Fa := fa0 ++ fa1
def exs : List (PySem.W.Frag → Bool) := [fun K => isCB K "Calendar", fun K => kitB K "Calendar" "Calendar" true, fun K => isCB K "Wheel", fun K => kitB K "Wheel" "Calendar" true]
def lo0 : List PySem.Str := ["__name__", "Calendar", "Wheel", "_law_whole", "_law_mixed", "_law_purse", "_law_draw", "_law_key", "_law_thing", "_law_keys", "_law_look", "_law_left", "_law_taken", "_law_step"]
def loose : List PySem.Str := lo0
abbrev Rr : PySem.W.OpenRow := PySem.W.OpenLaw.row PySem.Challenge.rw_momentloom_k24_wheels_used
abbrev hk : PySem.W.Hook := hookM 6 fa fn exs
def ob (s : PySem.W.SharedT) : AlM := obsM 6 fa fn exs (HandSHeadRun.getT s)
theorem ob_eq (s : PySem.W.SharedT) : ob s = hk.obs s.abs := obsM_eq (HandSHeadRun.getT_eq s)
theorem run (w : World) : HandSHeadRun.RunEq Rr (PySem.W.view Rr.prog [16]) hk ob 20000 loose w := by
  intro os
  kernel_rfl
theorem tx_of {K : PySem.W.Frag} {h : Heap} {mg : Str → Option Value} (X : K.In h) (G : h.Ns mainGlobals mg) (c : SaysM fa fn exs K) : Tx K mg := by
  have F_Calendar_init : Fun K "__init__" "Calendar.__init__" s_Calendar_init (He.fAd K ("Calendar", some "__init__")) (fdA K (He.fAd K ("Calendar", some "__init__"))) := fun_of (c.fn_ 0 (d := d_Calendar_init) rfl)
  have b_Calendar_init : Binds K (fdA K (He.fAd K ("Calendar", some "__init__"))) ["self"] [] := F_Calendar_init.binds (ps := ["self"]) fun _ _ _ _ _ _ us hl => match us, hl with | [_], _ => rfl
  have F_Calendar_place : Fun K "place" "Calendar.place" s_Calendar_place (He.fAd K ("Calendar", some "place")) (fdA K (He.fAd K ("Calendar", some "place"))) := fun_of (c.fn_ 1 (d := d_Calendar_place) rfl)
  have b_Calendar_place : Binds K (fdA K (He.fAd K ("Calendar", some "place"))) ["self", "key"] [] := F_Calendar_place.binds (ps := ["self", "key"]) fun _ _ _ _ _ _ us hl => match us, hl with | [_, _], _ => rfl
  have F_Calendar_put : Fun K "put" "Calendar.put" s_Calendar_put (He.fAd K ("Calendar", some "put")) (fdA K (He.fAd K ("Calendar", some "put"))) := fun_of (c.fn_ 2 (d := d_Calendar_put) rfl)
  have b_Calendar_put : Binds K (fdA K (He.fAd K ("Calendar", some "put"))) ["self", "key", "thing"] [] := F_Calendar_put.binds (ps := ["self", "key", "thing"]) fun _ _ _ _ _ _ us hl => match us, hl with | [_, _, _], _ => rfl
  have F_Calendar_size : Fun K "size" "Calendar.size" s_Calendar_size (He.fAd K ("Calendar", some "size")) (fdA K (He.fAd K ("Calendar", some "size"))) := fun_of (c.fn_ 3 (d := d_Calendar_size) rfl)
  have b_Calendar_size : Binds K (fdA K (He.fAd K ("Calendar", some "size"))) ["self"] [] := F_Calendar_size.binds (ps := ["self"]) fun _ _ _ _ _ _ us hl => match us, hl with | [_], _ => rfl
  have F_Calendar_least : Fun K "least" "Calendar.least" s_Calendar_least (He.fAd K ("Calendar", some "least")) (fdA K (He.fAd K ("Calendar", some "least"))) := fun_of (c.fn_ 4 (d := d_Calendar_least) rfl)
  have b_Calendar_least : Binds K (fdA K (He.fAd K ("Calendar", some "least"))) ["self"] [] := F_Calendar_least.binds (ps := ["self"]) fun _ _ _ _ _ _ us hl => match us, hl with | [_], _ => rfl
  have F_Calendar_leave : Fun K "leave" "Calendar.leave" s_Calendar_leave (He.fAd K ("Calendar", some "leave")) (fdA K (He.fAd K ("Calendar", some "leave"))) := fun_of (c.fn_ 5 (d := d_Calendar_leave) rfl)
  have b_Calendar_leave : Binds K (fdA K (He.fAd K ("Calendar", some "leave"))) ["self"] [] := F_Calendar_leave.binds (ps := ["self"]) fun _ _ _ _ _ _ us hl => match us, hl with | [_], _ => rfl
  have F_Calendar_take_out : Fun K "take_out" "Calendar.take_out" s_Calendar_take_out (He.fAd K ("Calendar", some "take_out")) (fdA K (He.fAd K ("Calendar", some "take_out"))) := fun_of (c.fn_ 6 (d := d_Calendar_take_out) rfl)
  have b_Calendar_take_out : Binds K (fdA K (He.fAd K ("Calendar", some "take_out"))) ["self", "key"] [] := F_Calendar_take_out.binds (ps := ["self", "key"]) fun _ _ _ _ _ _ us hl => match us, hl with | [_, _], _ => rfl
  have F_Wheel_init : Fun K "__init__" "Wheel.__init__" s_Wheel_init (He.fAd K ("Wheel", some "__init__")) (fdA K (He.fAd K ("Wheel", some "__init__"))) := fun_of (c.fn_ 7 (d := d_Wheel_init) rfl)
  have b_Wheel_init : Binds K (fdA K (He.fAd K ("Wheel", some "__init__"))) ["self", "span"] [] := F_Wheel_init.binds (ps := ["self", "span"]) fun _ _ _ _ _ _ us hl => match us, hl with | [_, _], _ => rfl
  have F_Wheel_spoke_of : Fun K "spoke_of" "Wheel.spoke_of" s_Wheel_spoke_of (He.fAd K ("Wheel", some "spoke_of")) (fdA K (He.fAd K ("Wheel", some "spoke_of"))) := fun_of (c.fn_ 8 (d := d_Wheel_spoke_of) rfl)
  have b_Wheel_spoke_of : Binds K (fdA K (He.fAd K ("Wheel", some "spoke_of"))) ["self", "key"] [] := F_Wheel_spoke_of.binds (ps := ["self", "key"]) fun _ _ _ _ _ _ us hl => match us, hl with | [_, _], _ => rfl
  have F_Wheel_put : Fun K "put" "Wheel.put" s_Wheel_put (He.fAd K ("Wheel", some "put")) (fdA K (He.fAd K ("Wheel", some "put"))) := fun_of (c.fn_ 9 (d := d_Wheel_put) rfl)
  have b_Wheel_put : Binds K (fdA K (He.fAd K ("Wheel", some "put"))) ["self", "key", "thing"] [] := F_Wheel_put.binds (ps := ["self", "key", "thing"]) fun _ _ _ _ _ _ us hl => match us, hl with | [_, _, _], _ => rfl
  have F_Wheel_size : Fun K "size" "Wheel.size" s_Wheel_size (He.fAd K ("Wheel", some "size")) (fdA K (He.fAd K ("Wheel", some "size"))) := fun_of (c.fn_ 10 (d := d_Wheel_size) rfl)
  have b_Wheel_size : Binds K (fdA K (He.fAd K ("Wheel", some "size"))) ["self"] [] := F_Wheel_size.binds (ps := ["self"]) fun _ _ _ _ _ _ us hl => match us, hl with | [_], _ => rfl
  have F_Wheel_least : Fun K "least" "Wheel.least" s_Wheel_least (He.fAd K ("Wheel", some "least")) (fdA K (He.fAd K ("Wheel", some "least"))) := fun_of (c.fn_ 11 (d := d_Wheel_least) rfl)
  have b_Wheel_least : Binds K (fdA K (He.fAd K ("Wheel", some "least"))) ["self"] [] := F_Wheel_least.binds (ps := ["self"]) fun _ _ _ _ _ _ us hl => match us, hl with | [_], _ => rfl
  have F_Wheel_leave : Fun K "leave" "Wheel.leave" s_Wheel_leave (He.fAd K ("Wheel", some "leave")) (fdA K (He.fAd K ("Wheel", some "leave"))) := fun_of (c.fn_ 12 (d := d_Wheel_leave) rfl)
  have b_Wheel_leave : Binds K (fdA K (He.fAd K ("Wheel", some "leave"))) ["self"] [] := F_Wheel_leave.binds (ps := ["self"]) fun _ _ _ _ _ _ us hl => match us, hl with | [_], _ => rfl
  have F_Wheel_take_out : Fun K "take_out" "Wheel.take_out" s_Wheel_take_out (He.fAd K ("Wheel", some "take_out")) (fdA K (He.fAd K ("Wheel", some "take_out"))) := fun_of (c.fn_ 13 (d := d_Wheel_take_out) rfl)
  have b_Wheel_take_out : Binds K (fdA K (He.fAd K ("Wheel", some "take_out"))) ["self", "key"] [] := F_Wheel_take_out.binds (ps := ["self", "key"]) fun _ _ _ _ _ _ us hl => match us, hl with | [_, _], _ => rfl
  have F__law_whole : Fun K "_law_whole" "_law_whole" s__law_whole (He.fAd K ("_law_whole", none)) (fdA K (He.fAd K ("_law_whole", none))) := fun_of (c.fn_ 14 (d := d__law_whole) rfl)
  have b__law_whole : Binds K (fdA K (He.fAd K ("_law_whole", none))) ["_law_found"] [] := F__law_whole.binds (ps := ["_law_found"]) fun _ _ _ _ _ _ us hl => match us, hl with | [_], _ => rfl
  have F__law_mixed : Fun K "_law_mixed" "_law_mixed" s__law_mixed (He.fAd K ("_law_mixed", none)) (fdA K (He.fAd K ("_law_mixed", none))) := fun_of (c.fn_ 15 (d := d__law_mixed) rfl)
  have b__law_mixed : Binds K (fdA K (He.fAd K ("_law_mixed", none))) ["_law_cell", "_law_k"] [] := F__law_mixed.binds (ps := ["_law_cell", "_law_k"]) fun _ _ _ _ _ _ us hl => match us, hl with | [_, _], _ => rfl
  have F__law_purse : Fun K "_law_purse" "_law_purse" s__law_purse (He.fAd K ("_law_purse", none)) (fdA K (He.fAd K ("_law_purse", none))) := fun_of (c.fn_ 16 (d := d__law_purse) rfl)
  have b__law_purse : Binds K (fdA K (He.fAd K ("_law_purse", none))) ["_law_script"] [] := F__law_purse.binds (ps := ["_law_script"]) fun _ _ _ _ _ _ us hl => match us, hl with | [_], _ => rfl
  have F__law_draw : Fun K "_law_draw" "_law_draw" s__law_draw (He.fAd K ("_law_draw", none)) (fdA K (He.fAd K ("_law_draw", none))) := fun_of (c.fn_ 17 (d := d__law_draw) rfl)
  have b__law_draw : Binds K (fdA K (He.fAd K ("_law_draw", none))) ["_law_purse_here", "_law_out_of"] [] := F__law_draw.binds (ps := ["_law_purse_here", "_law_out_of"]) fun _ _ _ _ _ _ us hl => match us, hl with | [_, _], _ => rfl
  have F__law_key : Fun K "_law_key" "_law_key" s__law_key (He.fAd K ("_law_key", none)) (fdA K (He.fAd K ("_law_key", none))) := fun_of (c.fn_ 18 (d := d__law_key) rfl)
  have b__law_key : Binds K (fdA K (He.fAd K ("_law_key", none))) ["_law_purse_here"] [] := F__law_key.binds (ps := ["_law_purse_here"]) fun _ _ _ _ _ _ us hl => match us, hl with | [_], _ => rfl
  have F__law_thing : Fun K "_law_thing" "_law_thing" s__law_thing (He.fAd K ("_law_thing", none)) (fdA K (He.fAd K ("_law_thing", none))) := fun_of (c.fn_ 19 (d := d__law_thing) rfl)
  have b__law_thing : Binds K (fdA K (He.fAd K ("_law_thing", none))) ["_law_purse_here", "_law_key_here"] [] := F__law_thing.binds (ps := ["_law_purse_here", "_law_key_here"]) fun _ _ _ _ _ _ us hl => match us, hl with | [_, _], _ => rfl
  have F__law_keys : Fun K "_law_keys" "_law_keys" s__law_keys (He.fAd K ("_law_keys", none)) (fdA K (He.fAd K ("_law_keys", none))) := fun_of (c.fn_ 20 (d := d__law_keys) rfl)
  have b__law_keys : Binds K (fdA K (He.fAd K ("_law_keys", none))) ["_law_purse_here", "_law_many"] [] := F__law_keys.binds (ps := ["_law_purse_here", "_law_many"]) fun _ _ _ _ _ _ us hl => match us, hl with | [_, _], _ => rfl
  have F__law_look : Fun K "_law_look" "_law_look" s__law_look (He.fAd K ("_law_look", none)) (fdA K (He.fAd K ("_law_look", none))) := fun_of (c.fn_ 21 (d := d__law_look) rfl)
  have b__law_look : Binds K (fdA K (He.fAd K ("_law_look", none))) ["_law_calendar", "_law_there"] [] := F__law_look.binds (ps := ["_law_calendar", "_law_there"]) fun _ _ _ _ _ _ us hl => match us, hl with | [_, _], _ => rfl
  have F__law_left : Fun K "_law_left" "_law_left" s__law_left (He.fAd K ("_law_left", none)) (fdA K (He.fAd K ("_law_left", none))) := fun_of (c.fn_ 22 (d := d__law_left) rfl)
  have b__law_left : Binds K (fdA K (He.fAd K ("_law_left", none))) ["_law_calendar", "_law_there"] [] := F__law_left.binds (ps := ["_law_calendar", "_law_there"]) fun _ _ _ _ _ _ us hl => match us, hl with | [_, _], _ => rfl
  have F__law_taken : Fun K "_law_taken" "_law_taken" s__law_taken (He.fAd K ("_law_taken", none)) (fdA K (He.fAd K ("_law_taken", none))) := fun_of (c.fn_ 23 (d := d__law_taken) rfl)
  have b__law_taken : Binds K (fdA K (He.fAd K ("_law_taken", none))) ["_law_calendar", "_law_there", "_law_key_here"] [] := F__law_taken.binds (ps := ["_law_calendar", "_law_there", "_law_key_here"]) fun _ _ _ _ _ _ us hl => match us, hl with | [_, _, _], _ => rfl
  have F__law_step : Fun K "_law_step" "_law_step" s__law_step (He.fAd K ("_law_step", none)) (fdA K (He.fAd K ("_law_step", none))) := fun_of (c.fn_ 24 (d := d__law_step) rfl)
  have b__law_step : Binds K (fdA K (He.fAd K ("_law_step", none))) ["_law_purse_here", "_law_calendar", "_law_there", "_law_keys_here"] [] := F__law_step.binds (ps := ["_law_purse_here", "_law_calendar", "_law_there", "_law_keys_here"]) fun _ _ _ _ _ _ us hl => match us, hl with | [_, _, _, _], _ => rfl
  have F_law : Fun K "law" "law" s_law (He.fAd K ("law", none)) (fdA K (He.fAd K ("law", none))) := fun_of (c.fn_ 25 (d := d_law) rfl)
  have b_law : Binds K (fdA K (He.fAd K ("law", none))) ["_law_script"] [] := F_law.binds (ps := ["_law_script"]) fun _ _ _ _ _ _ us hl => match us, hl with | [_], _ => rfl
  have W_Wheel_place : Fun K "place" "Calendar.place" s_Calendar_place (He.fAd K ("Wheel", some "place")) (fdA K (He.fAd K ("Wheel", some "place"))) := fun_of (c.fn_ 26 (d := d_Wheel_place) rfl)
  have b_Wheel_place : Binds K (fdA K (He.fAd K ("Wheel", some "place"))) ["self", "key"] [] := W_Wheel_place.binds (ps := ["self", "key"]) fun _ _ _ _ _ _ us hl => match us, hl with | [_, _], _ => rfl
  exact ⟨He.glo_ok X G (c.fact 0),
    He.cls_ok (c.fact 1),
    He.noat_ok (c.fact 2),
    He.noat_ok (c.fact 3),
    ⟨He.glo_ok X G (c.fact 5), He.mkr_ok (c.fact 4), b_Calendar_init⟩,
    He.glo_ok X G (c.fact 6),
    He.cls_ok (c.fact 7),
    He.noat_ok (c.fact 8),
    He.noat_ok (c.fact 9),
    He.noat_ok (c.fact 10),
    He.noat_ok (c.fact 11),
    He.noat_ok (c.fact 12),
    He.noat_ok (c.fact 13),
    ⟨He.glo_ok X G (c.fact 15), He.mkr_ok (c.fact 14), b_Wheel_init⟩,
    isC_of (c.ex 0 rfl),
    kit_of' (c.ex 1 rfl),
    isC_of (c.ex 2 rfl),
    kit_of' (c.ex 3 rfl),
    He.free_ok X G (c.fact 16),
    He.free_ok X G (c.fact 17),
    He.free_ok X G (c.fact 18),
    He.free_ok X G (c.fact 19),
    He.free_ok X G (c.fact 20),
    He.free_ok X G (c.fact 21),
    He.free_ok X G (c.fact 22),
    He.free_ok X G (c.fact 23),
    He.free_ok X G (c.fact 24),
    F_Calendar_init,
    F_Calendar_place,
    F_Calendar_put,
    F_Calendar_size,
    F_Calendar_least,
    F_Calendar_leave,
    F_Calendar_take_out,
    F_Wheel_init,
    F_Wheel_spoke_of,
    F_Wheel_put,
    F_Wheel_size,
    F_Wheel_least,
    F_Wheel_leave,
    F_Wheel_take_out,
    F__law_whole,
    ⟨He.glo_ok X G (c.fact 25), F__law_whole.kp, b__law_whole⟩,
    F__law_mixed,
    ⟨He.glo_ok X G (c.fact 26), F__law_mixed.kp, b__law_mixed⟩,
    F__law_purse,
    ⟨He.glo_ok X G (c.fact 27), F__law_purse.kp, b__law_purse⟩,
    F__law_draw,
    ⟨He.glo_ok X G (c.fact 28), F__law_draw.kp, b__law_draw⟩,
    F__law_key,
    ⟨He.glo_ok X G (c.fact 29), F__law_key.kp, b__law_key⟩,
    F__law_thing,
    ⟨He.glo_ok X G (c.fact 30), F__law_thing.kp, b__law_thing⟩,
    F__law_keys,
    ⟨He.glo_ok X G (c.fact 31), F__law_keys.kp, b__law_keys⟩,
    F__law_look,
    ⟨He.glo_ok X G (c.fact 32), F__law_look.kp, b__law_look⟩,
    F__law_left,
    ⟨He.glo_ok X G (c.fact 33), F__law_left.kp, b__law_left⟩,
    F__law_taken,
    ⟨He.glo_ok X G (c.fact 34), F__law_taken.kp, b__law_taken⟩,
    F__law_step,
    ⟨He.glo_ok X G (c.fact 35), F__law_step.kp, b__law_step⟩,
    F_law,
    ⟨He.glo_ok X G (c.fact 36), F_law.kp, b_law⟩,
    ⟨He.meth_ok (c.fact 37), b_Calendar_place⟩,
    ⟨He.meth_ok (c.fact 38), b_Calendar_put⟩,
    ⟨He.meth_ok (c.fact 39), b_Calendar_size⟩,
    ⟨He.meth_ok (c.fact 40), b_Calendar_least⟩,
    ⟨He.meth_ok (c.fact 41), b_Calendar_leave⟩,
    ⟨He.meth_ok (c.fact 42), b_Calendar_take_out⟩,
    ⟨He.meth_ok (c.fact 43), b_Wheel_place⟩,
    ⟨He.meth_ok (c.fact 44), b_Wheel_put⟩,
    ⟨He.meth_ok (c.fact 45), b_Wheel_size⟩,
    ⟨He.meth_ok (c.fact 46), b_Wheel_least⟩,
    ⟨He.meth_ok (c.fact 47), b_Wheel_leave⟩,
    ⟨He.meth_ok (c.fact 48), b_Wheel_take_out⟩,
    ⟨He.meth_ok (c.fact 49), b_Wheel_spoke_of⟩⟩
end Mo
namespace Mo
open PySem PySem.Spec PyProof.Rows L2
/-! ### law_k24 -/
section
variable {P : Program} {w : World} {K : PySem.W.Frag} {mg : Str → Option Value} {base : Heap}
theorem ok_law (T : Tx K mg) : OkG P w K mg base 10 "law" ["_law_script"] (spLaw K) := by
  have G__law_purse := ok__law_purse (P := P) (w := w) (base := base) T
  have G__law_draw := ok__law_draw (P := P) (w := w) (base := base) T
  have G__law_keys := ok__law_keys (P := P) (w := w) (base := base) T
  have G_Wheel_init := ok_Wheel_init (P := P) (w := w) (base := base) T
  have G__law_look := ok__law_look_Wheel (P := P) (w := w) (base := base) T (whI K) ((ok_Wheel_size T).mono (by decide)) ((ok_Wheel_least T).mono (by decide))
  have G__law_left := ok__law_left_Wheel (P := P) (w := w) (base := base) T (whI K) (ok_Wheel_leave T)
  have G__law_step := ok__law_step_Wheel (P := P) (w := w) (base := base) T (whI K) (ok_Wheel_put T) G__law_look G__law_left (ok__law_taken_Wheel T (whI K) ((ok_Wheel_take_out T).mono (by decide)))
  refine T.f_law.okX sc_law (fun vs H Q E h => ?_) (fun cdv A outer s H vs Q E hr h => ?_)
  · obtain ⟨a, ns, rfl, _⟩ := h
    rfl
  · have hu1 := hu_of hr; have hu0 := hr.units0; have hu64 := hr.units; have hu65 := hu65_of hr; have nd := sc_law.nd
    obtain ⟨a, ns, rfl, _, hS, hl, hb, q⟩ := h
    refine ⟨_, (pss_cons (ps_set (i := 1) nd rfl (Or.inl rfl) (pcl T.g__law_purse G__law_purse hr (takes_of rfl rfl rfl rfl) (pa_cons (pv 0) pa_nil)))
      (pss_cons (ps_set (i := 2) nd rfl (Or.inl rfl) (pcl T.g__law_keys G__law_keys hr (takes_of rfl rfl rfl rfl) (pa_cons (pv 1) (pa_cons (pe_op (op_addK (K := K) rfl) pe_int (pcl T.g__law_draw G__law_draw hr (takes_of rfl rfl rfl rfl) (pa_cons (pv 1) (pa_cons pe_int pa_nil)))) pa_nil))))
      (pss_cons (ps_set (i := 3) nd rfl (Or.inl rfl) (pe_lst (pa_cons (pmkK (K := K) rfl T.k_Wheel G_Wheel_init hr (takes_of rfl rfl rfl rfl) (pa_cons (pe_ix (ix_anyK (K := K) rfl hu1) (pe_lst (pa_cons pe_int (pa_cons pe_int (pa_cons pe_int (pa_cons pe_int (pa_cons pe_int pa_nil)))))) (pcl T.g__law_draw G__law_draw hr (takes_of rfl rfl rfl rfl) (pa_cons (pv 1) (pa_cons pe_int pa_nil))) (fun _ _ => rfl)) pa_nil)) (pa_cons (pmkK (K := K) rfl T.k_Wheel G_Wheel_init hr (takes_of rfl rfl rfl rfl) (pa_cons (pe_ix (ix_anyK (K := K) rfl hu1) (pe_lst (pa_cons pe_int (pa_cons pe_int (pa_cons pe_int (pa_cons pe_int (pa_cons pe_int pa_nil)))))) (pcl T.g__law_draw G__law_draw hr (takes_of rfl rfl rfl rfl) (pa_cons (pv 1) (pa_cons pe_int pa_nil))) (fun _ _ => rfl)) pa_nil)) pa_nil))))
      (pss_cons (ps_set (i := 4) nd rfl (Or.inl rfl) (pe_lst (pa_cons pe_dnew (pa_cons pe_dnew pa_nil))))
      (pss_cons (ps_if (PW.pt (pw_or (pt_not (pt_truthK (K := K) rfl (pe_callB (call_isiKK (K := K) rfl) (by rfl) T.b_isinstance (by decide +kernel) (pa_cons (pe_ix (ix_anyK (K := K) rfl hu1) (pv 3) pe_int (fun _ _ => rfl)) (pa_cons (pe_glob (v := .ref (He.ga _ "Calendar")) rfl T.G_Calendar rfl) pa_nil))) (by intro _; rfl))) (pw_or1 (pt_not (pt_truthK (K := K) rfl (pe_callB (call_isiKK (K := K) rfl) (by rfl) T.b_isinstance (by decide +kernel) (pa_cons (pe_ix (ix_anyK (K := K) rfl hu1) (pv 3) pe_int (fun _ _ => rfl)) (pa_cons (pe_glob (v := .ref (He.ga _ "Calendar")) rfl T.G_Calendar rfl) pa_nil))) (by intro _; rfl)))))) (pss_one (ps_ret pe_bl))
      pss_nil)
      (pss_cons (ps_for (passes_of rfl) rfl (pi_range1 rfl T.b_range (pa_cons pe_int pa_nil)) (pg_name (i := 5) nd rfl (Or.inl rfl))
      (pss_cons (ps_set (i := 6) nd rfl (Or.inl rfl) (pcl T.g__law_draw G__law_draw hr (takes_of rfl rfl rfl rfl) (pa_cons (pv 1) (pa_cons pe_int pa_nil))))
      (pss_one (ps_if (pt_not (pt_truthK (K := K) rfl (pcl T.g__law_step G__law_step hr (takes_of rfl rfl rfl rfl) (pa_cons (pv 1) (pa_cons (pe_ix (ix_anyK (K := K) rfl hu1) (pv 3) (pv 6) (fun _ _ => rfl)) (pa_cons (pe_ix (ix_anyK (K := K) rfl hu1) (pv 4) (pv 6) (fun _ _ => rfl)) (pa_cons (pv 2) pa_nil))))) (by intro _; rfl))) (pss_one (ps_ret pe_bl))
      pss_nil))))
      (pss_cons (ps_for (passes_of rfl) rfl (pi_range1 rfl T.b_range (pa_cons pe_int pa_nil)) (pg_name (i := 6) nd rfl (Or.inl rfl))
      (pss_one (ps_while (passes_of rfl) (pt_cmpR (op_gt) (pe_callB (call_lenK (K := K) rfl) (by rfl) T.b_len (by decide +kernel) (pa_cons (pe_ix (ix_anyK (K := K) rfl hu1) (pv 4) (pv 6) (fun _ _ => rfl)) pa_nil)) pe_int (nomark _)) (pss_one (ps_if (PW.pt (pw_or (pt_not (pt_truthK (K := K) rfl (pcl T.g__law_left G__law_left hr (takes_of rfl rfl rfl rfl) (pa_cons (pe_ix (ix_anyK (K := K) rfl hu1) (pv 3) (pv 6) (fun _ _ => rfl)) (pa_cons (pe_ix (ix_anyK (K := K) rfl hu1) (pv 4) (pv 6) (fun _ _ => rfl)) pa_nil))) (by intro _; rfl))) (pw_or1 (pt_not (pt_truthK (K := K) rfl (pcl T.g__law_look G__law_look hr (takes_of rfl rfl rfl rfl) (pa_cons (pe_ix (ix_anyK (K := K) rfl hu1) (pv 3) (pv 6) (fun _ _ => rfl)) (pa_cons (pe_ix (ix_anyK (K := K) rfl hu1) (pv 4) (pv 6) (fun _ _ => rfl)) pa_nil))) (by intro _; rfl)))))) (pss_one (ps_ret pe_bl))
      pss_nil)))))
      (pss_one (ps_ret (pe_and (pcl T.g__law_left G__law_left hr (takes_of rfl rfl rfl rfl) (pa_cons (pe_ix (ix_anyK (K := K) rfl hu1) (pv 3) pe_int (fun _ _ => rfl)) (pa_cons (pe_ix (ix_anyK (K := K) rfl hu1) (pv 4) pe_int (fun _ _ => rfl)) pa_nil))) (pe_one (pcl T.g__law_left G__law_left hr (takes_of rfl rfl rfl rfl) (pa_cons (pe_ix (ix_anyK (K := K) rfl hu1) (pv 3) pe_int (fun _ _ => rfl)) (pa_cons (pe_ix (ix_anyK (K := K) rfl hu1) (pv 4) pe_int (fun _ _ => rfl)) pa_nil)))))))))))))), ?_⟩
    refine go_start (σ' := [some (.ref a), none, none, none, none, none, none]) rfl ?_
    k_extra "we"
    refine ⟨a, ns, rfl, hS, hl, fun z hz => bd_bits (hb z hz), fun pu H1 z1 => ?_⟩
    k_extra "we"
    refine ⟨H, _, pu, 20, rfl, z1, List.mem_cons_self, by decide, by decide, fun n H2 n0 n1 z2 => ?_⟩
    k_extra "we"
    obtain ⟨n, rfl⟩ : ∃ m : Nat, n = (m : Int) := ⟨n.toNat, by omega⟩
    refine ⟨H, _, pu, 1 + n, rfl, z2, List.mem_cons_self, by omega, fun lk ks G H3 hkl hnd hks xG z3 hlk => ?_⟩
    k_extra "we"
    refine go_sz rfl fun l0 hl0 => ?_
    have z30 := z3.new hl0 (φ := Eq (.lst [.int 1, .int 2, .int 7, .int 100, .int 1000])) rfl
    k_extra "we"
    refine ⟨G, _, pu, 5, rfl, z30, List.mem_cons_of_mem _ List.mem_cons_self, by decide, by decide, fun j H31 j0 j1 z31 => ?_⟩
    have spans : ∀ j : Int, 0 ≤ j → j < 5 → ∃ s, (0 < s ∧ s ≤ 1000) ∧ atI [V.int 1, V.int 2, V.int 7, V.int 100, V.int 1000] j = some (.int s) := fun j j0 j1 => by
      have hj : j = 0 ∨ j = 1 ∨ j = 2 ∨ j = 3 ∨ j = 4 := by omega
      rcases hj with rfl | rfl | rfl | rfl | rfl
      · exact ⟨1, by decide, rfl⟩
      · exact ⟨2, by decide, rfl⟩
      · exact ⟨7, by decide, rfl⟩
      · exact ⟨100, by decide, rfl⟩
      · exact ⟨1000, by decide, rfl⟩
    obtain ⟨s0, hs0, es0⟩ := spans j j0 j1
    refine go_subL (SqL.of (z31.eq List.mem_cons_self)) es0 ?_
    have z32 := z31.drop
    k_extra "we"
    intro c0 dx0 nc0 ndx0 ne0
    have z4 := z32.made (φ := Eq (.ins (He.ga K "Wheel") dx0 [])) nc0 ndx0 ne0 rfl
    refine ⟨G, _, c0, dx0, s0, rfl, hs0, z4, fun C0 H5 rep0 z5 => ⟨rfl, ?_⟩⟩
    k_extra "we"
    refine go_sz rfl fun l1 hl1 => ?_
    have z50 := z5.new hl1 (φ := Eq (.lst [.int 1, .int 2, .int 7, .int 100, .int 1000])) rfl
    k_extra "we"
    refine ⟨G, _, pu, 5, rfl, z50, by simp, by decide, by decide, fun j H51 j0 j1 z51 => ?_⟩
    obtain ⟨s1, hs1, es1⟩ := spans j j0 j1
    refine go_subL (SqL.of (z51.eq List.mem_cons_self)) es1 ?_
    have z52 := z51.drop
    k_extra "we"
    intro c1 dx1 nc1 ndx1 ne1
    have z6 := z52.made (φ := Eq (.ins (He.ga K "Wheel") dx1 [])) nc1 ndx1 ne1 rfl
    refine ⟨G, _, c1, dx1, s1, rfl, hs1, z6, fun C1 H7 rep1 z7 => ⟨rfl, ?_⟩⟩
    k_extra "we"
    refine go_sz rfl fun lc hlc => ?_
    obtain ⟨x8, z8⟩ : Ext G (upd G lc (.lst [.ref c0, .ref c1])) ∧ Hd (upd G lc (.lst [.ref c0, .ref c1])) (upd H7 lc (.lst [.ref c0, .ref c1])) (C1 ++ (C0 ++ [(pu, Purse)])) := ⟨Ext.new (z7.gno hlc), z7.fix hlc⟩
    have hlc2 : (upd G lc (.lst [.ref c0, .ref c1])) lc = some (.lst [.ref c0, .ref c1]) := upd_same
    revert x8 z8 hlc2
    generalize upd G lc (.lst [.ref c0, .ref c1]) = G8
    generalize upd H7 lc (.lst [.ref c0, .ref c1]) = H8
    intro x8 z8 hlc2
    k_extra "we"
    refine go_dT fun t0 ht0 => ?_
    have z9 := z8.new ht0 (φ := Thg true []) ⟨[], rfl, .refl _⟩
    k_extra "we"
    refine go_dT fun t1 ht1 => ?_
    have z10 := z9.new ht1 (φ := Thg true []) ⟨[], rfl, .refl _⟩
    k_extra "we"
    refine go_sz rfl fun lt hlt => ?_
    have x11 : Ext G8 (upd G8 lt (.lst [.ref t0, .ref t1])) := Ext.new (z10.gno hlt)
    have z11 := (z10.fix (o := .lst [.ref t0, .ref t1]) hlt).perm (M := C0 ++ (t0, Thg true []) :: (C1 ++ (t1, Thg true []) :: [(pu, Purse)])) (by k_extra "p")
    have hlt2 : (upd G8 lt (.lst [.ref t0, .ref t1])) lt = some (.lst [.ref t0, .ref t1]) := upd_same
    have rep0' := (whI K).mono rep0 (x8.trans x11)
    have rep1' := (whI K).mono rep1 (x8.trans x11)
    have hlc3 := x11 _ _ hlc2
    have hlk3 := (x8.trans x11) _ _ hlk
    have hks3 : KeysIn (upd G8 lt (.lst [.ref t0, .ref t1])) ks := fun e he => ⟨(hks e he).1, (x8.trans x11) _ _ (hks e he).2⟩
    clear z10 z9 z8
    revert z11 hlt2 rep0' rep1' hlc3 hlk3 hks3
    clear x11
    generalize upd G8 lt (.lst [.ref t0, .ref t1]) = G9
    generalize upd (upd (upd H8 t0 (.dT [])) t1 (.dT [])) lt (.lst [.ref t0, .ref t1]) = H9
    intro z11 hlt2 rep0' rep1' hlc3 hlk3 hks3
    k_extra "we"
    obtain ⟨dy0, fy0, hy0, _⟩ := (whI K).at_ rep0' z11 fun x hx => List.mem_append_left _ hx
    obtain ⟨dy1, fy1, hy1, _⟩ := (whI K).at_ rep1' z11 fun x hx => List.mem_append_right _ (List.mem_cons_of_mem _ (List.mem_append_left _ hx))
    refine go_subL (SqL.of (z11.ex _ _ hlc3)) rfl ?_
    k_extra "we"
    refine go_isi_ins hy0 T.c_Wheel T.i_Wheel T.ki_Wheel_Calendar ?_
    k_extra "we"
    refine go_subL (SqL.of (z11.ex _ _ hlc3)) rfl ?_
    k_extra "we"
    refine go_isi_ins hy1 T.c_Wheel T.i_Wheel T.ki_Wheel_Calendar ?_
    k_extra "we"
    refine go_r1 90 rfl (by decide) ?_
    refine loop_r 90 (fun i σ H' => ∃ (u v : Option V) (G' : Hp) (D0 D1 : Vo) (e0 e1 : List Ent), σ = [some (.ref a), some (.ref pu), some (.ref lk), some (.ref lc), some (.ref lt), u, v] ∧ Ext G9 G' ∧ (whI K).Rep G' D0 c0 e0 ∧ (whI K).Rep G' D1 c1 e1 ∧
        Hd G' H' (D0 ++ (t0, Thg true e0) :: (D1 ++ (t1, Thg true e1) :: [(pu, Purse)])) ∧ e0.length ≤ i ∧ e1.length ≤ i ∧ (∀ e ∈ e0, Plain K G' e.t) ∧ (∀ e ∈ e1, Plain K G' e.t))
      ⟨_, _, G9, C0, C1, [], [], rfl, Ext.refl _, rep0', rep1', z11, Nat.le_refl _, Nat.le_refl _, (fun e he => nomatch he), (fun e he => nomatch he)⟩ ?_ ?_
    · rintro i σ' H' hi ⟨u, v, G1, D0, D1, e0, e1, rfl, x1, r0, r1, z, l0, l1, p0, p1⟩
      have kk1 : KeysIn G1 ks := fun e he => ⟨(hks3 e he).1, x1 _ _ (hks3 e he).2⟩
      k_extra "we"
      refine ⟨G1, _, pu, 2, rfl, z, by simp, by decide, by decide, fun d H2 d0 d1 z2 => ?_⟩
      k_extra "we"
      have hd : d = 0 ∨ d = 1 := by omega
      rcases hd with rfl | rfl
      · refine go_subL (SqL.of ((x1.trans z2.ex) _ _ hlc3)) rfl ?_
        k_extra "we"
        refine go_subL (SqL.of ((x1.trans z2.ex) _ _ hlt2)) rfl ?_
        k_extra "we"
        refine ⟨G1, D0, _, pu, c0, t0, lk, e0, ks, rfl, r0, z2, by simp, x1 _ _ hlk3, kk1, by omega, by omega, by omega, p0, fun D0' G2 H3 e0' x2 r0' z3 l0' p0' => ?_⟩
        k_extra "we"
        exact ⟨_, _, G2, D0', D1, e0', e1, rfl, x1.trans x2, r0', (whI K).mono r1 x2, z3, by omega, by omega, p0', fun e he => (p1 e he).mono x2⟩
      · refine go_subL (SqL.of ((x1.trans z2.ex) _ _ hlc3)) rfl ?_
        k_extra "we"
        refine go_subL (SqL.of ((x1.trans z2.ex) _ _ hlt2)) rfl ?_
        k_extra "we"
        have z2' := z2.perm (M := D1 ++ (t1, Thg true e1) :: (D0 ++ (t0, Thg true e0) :: [(pu, Purse)])) (by k_extra "p")
        refine ⟨G1, D1, _, pu, c1, t1, lk, e1, ks, rfl, r1, z2', by simp, x1 _ _ hlk3, kk1, by omega, by omega, by omega, p1, fun D1' G2 H3 e1' x2 r1' z3 l1' p1' => ?_⟩
        k_extra "we"
        exact ⟨_, _, G2, D0, D1', e0, e1', rfl, x1.trans x2, (whI K).mono r0 x2, r1', z3.perm (by k_extra "p"), by omega, by omega, fun e he => (p0 e he).mono x2, p1'⟩
    · rintro σ' H' ⟨u, v, G1, D0, D1, e0, e1, rfl, x1, r0, r1, z, l0, l1, p0, p1⟩
      k_extra "we"
      refine go_r1 2 rfl (by decide) ?_
      refine loop_r 2 (fun i σ H' => ∃ (u v : Option V) (G' : Hp) (D0 D1 : Vo) (e0 e1 : List Ent), σ = [some (.ref a), some (.ref pu), some (.ref lk), some (.ref lc), some (.ref lt), u, v] ∧ Ext G9 G' ∧ (whI K).Rep G' D0 c0 e0 ∧ (whI K).Rep G' D1 c1 e1 ∧
          Hd G' H' (D0 ++ (t0, Thg true e0) :: (D1 ++ (t1, Thg true e1) :: [(pu, Purse)])) ∧ e0.length ≤ 90 ∧ e1.length ≤ 90 ∧ (∀ e ∈ e0, Plain K G' e.t) ∧ (∀ e ∈ e1, Plain K G' e.t) ∧ (0 < i → e0 = []) ∧ (1 < i → e1 = []))
        ⟨_, _, G1, D0, D1, e0, e1, rfl, x1, r0, r1, z, l0, l1, p0, p1, fun h => absurd h (by decide), fun h => absurd h (by decide)⟩ ?_ ?_
      · rintro i σ' H' hi ⟨u, v, G1, D0, D1, e0, e1, rfl, x1, r0, r1, z, l0, l1, p0, p1, q0, q1⟩
        k_extra "we"
        have hi2 : i = 0 ∨ i = 1 := by omega
        rcases hi2 with rfl | rfl
        · refine go_while (fun m σ H' => ∃ (G' : Hp) (D0 D1 : Vo) (e0 : List Ent), σ = [some (.ref a), some (.ref pu), some (.ref lk), some (.ref lc), some (.ref lt), u, some (.int ((0 : Nat) : Int))] ∧ Ext G1 G' ∧ (whI K).Rep G' D0 c0 e0 ∧ (whI K).Rep G' D1 c1 e1 ∧
              Hd G' H' (D0 ++ (t0, Thg true e0) :: (D1 ++ (t1, Thg true e1) :: [(pu, Purse)])) ∧ e0.length = m ∧ e0.length ≤ 90 ∧ (∀ e ∈ e0, Plain K G' e.t)) e0.length ⟨G1, D0, D1, e0, rfl, Ext.refl _, r0, r1, z, rfl, l0, p0⟩ ?_
          rintro m σ2 H2 ⟨G2, D0, D1, e0, rfl, x2, r0, r1, z, rfl, l0, p0⟩
          obtain ⟨o, ho, ht⟩ := z.getA
          k_extra "we"
          refine go_subL (SqL.of (((x1.trans x2).trans z.ex) _ _ hlt2)) rfl ?_
          k_extra "we"
          refine go_lenThg ho ht ?_
          k_extra "we"
          cases e0 with
          | nil =>
            refine go_ite (fun h => absurd h (by simp)) (fun _ => ?_)
            k_extra "we"
            exact ⟨_, _, G2, D0, D1, [], e1, rfl, x1.trans x2, r0, r1, z, Nat.zero_le _, l1, (fun e he => nomatch he), fun e he => (p1 e he).mono x2, fun _ => rfl, fun h => absurd h (by decide)⟩
          | cons e r =>
            refine go_ite (fun _ => ?_) (fun h => absurd (show (0 : Int) < ((e :: r).length : Int) by rw [List.length_cons]; omega) h)
            refine ⟨_, fun _ _ h => h, ?_⟩
            k_extra "we"
            refine go_subL (SqL.of (((x1.trans x2).trans z.ex) _ _ hlc3)) rfl ?_
            k_extra "we"
            refine go_subL (SqL.of (((x1.trans x2).trans z.ex) _ _ hlt2)) rfl ?_
            k_extra "we"
            refine ⟨G2, D0, _, c0, t0, e :: r, rfl, r0, z, by omega, p0, fun h => (nomatch h), fun e' r' h C3 G3 H3 x3 rp3 z3 => ?_⟩
            cases h
            have hl3 : r.length ≤ 90 := Nat.le_of_succ_le l0
            k_extra "we"
            refine go_subL (SqL.of ((((x1.trans x2).trans x3).trans z3.ex) _ _ hlc3)) rfl ?_
            k_extra "we"
            refine go_subL (SqL.of ((((x1.trans x2).trans x3).trans z3.ex) _ _ hlt2)) rfl ?_
            k_extra "we"
            refine ⟨G3, C3, _, c0, t0, r, rfl, rp3, z3, by omega, ?_⟩
            k_extra "we"
            exact ⟨_, Nat.lt_succ_self _, G3, C3, D1, r, rfl, x2.trans x3, rp3, (whI K).mono r1 x3, z3, rfl, hl3, fun y hy => (p0 y (List.mem_cons_of_mem _ hy)).mono x3⟩
        · have e00 : e0 = [] := q0 (by decide)
          subst e00
          refine go_while (fun m σ H' => ∃ (G' : Hp) (D0 D1 : Vo) (e1 : List Ent), σ = [some (.ref a), some (.ref pu), some (.ref lk), some (.ref lc), some (.ref lt), u, some (.int ((1 : Nat) : Int))] ∧ Ext G1 G' ∧ (whI K).Rep G' D0 c0 [] ∧ (whI K).Rep G' D1 c1 e1 ∧
              Hd G' H' (D1 ++ (t1, Thg true e1) :: (D0 ++ (t0, Thg true []) :: [(pu, Purse)])) ∧ e1.length = m ∧ e1.length ≤ 90 ∧ (∀ e ∈ e1, Plain K G' e.t)) e1.length ⟨G1, D0, D1, e1, rfl, Ext.refl _, r0, r1, z.perm (by k_extra "p"), rfl, l1, p1⟩ ?_
          rintro m σ2 H2 ⟨G2, D0, D1, e1, rfl, x2, r0, r1, z, rfl, l1, p1⟩
          obtain ⟨o, ho, ht⟩ := z.getA
          k_extra "we"
          refine go_subL (SqL.of (((x1.trans x2).trans z.ex) _ _ hlt2)) rfl ?_
          k_extra "we"
          refine go_lenThg ho ht ?_
          k_extra "we"
          cases e1 with
          | nil =>
            refine go_ite (fun h => absurd h (by simp)) (fun _ => ?_)
            k_extra "we"
            exact ⟨_, _, G2, D0, D1, [], [], rfl, x1.trans x2, r0, r1, z.perm (by k_extra "p"), Nat.zero_le _, Nat.zero_le _, (fun e he => nomatch he), (fun e he => nomatch he), fun _ => rfl, fun _ => rfl⟩
          | cons e r =>
            refine go_ite (fun _ => ?_) (fun h => absurd (show (0 : Int) < ((e :: r).length : Int) by rw [List.length_cons]; omega) h)
            refine ⟨_, fun _ _ h => h, ?_⟩
            k_extra "we"
            refine go_subL (SqL.of (((x1.trans x2).trans z.ex) _ _ hlc3)) rfl ?_
            k_extra "we"
            refine go_subL (SqL.of (((x1.trans x2).trans z.ex) _ _ hlt2)) rfl ?_
            k_extra "we"
            refine ⟨G2, D1, _, c1, t1, e :: r, rfl, r1, z, by omega, p1, fun h => (nomatch h), fun e' r' h C3 G3 H3 x3 rp3 z3 => ?_⟩
            cases h
            have hl3 : r.length ≤ 90 := Nat.le_of_succ_le l1
            k_extra "we"
            refine go_subL (SqL.of ((((x1.trans x2).trans x3).trans z3.ex) _ _ hlc3)) rfl ?_
            k_extra "we"
            refine go_subL (SqL.of ((((x1.trans x2).trans x3).trans z3.ex) _ _ hlt2)) rfl ?_
            k_extra "we"
            refine ⟨G3, C3, _, c1, t1, r, rfl, rp3, z3, by omega, ?_⟩
            k_extra "we"
            exact ⟨_, Nat.lt_succ_self _, G3, D0, C3, r, rfl, x2.trans x3, (whI K).mono r0 x3, rp3, z3, rfl, hl3, fun y hy => (p1 y (List.mem_cons_of_mem _ hy)).mono x3⟩
      · rintro σ' H' ⟨u, v, G1, D0, D1, e0, e1, rfl, x1, r0, r1, z, l0, l1, p0, p1, q0, q1⟩
        have e00 : e0 = [] := q0 (by decide)
        have e10 : e1 = [] := q1 (by decide)
        subst e00 e10
        k_extra "we"
        refine go_subL (SqL.of ((x1.trans z.ex) _ _ hlc3)) rfl ?_
        k_extra "we"
        refine go_subL (SqL.of ((x1.trans z.ex) _ _ hlt2)) rfl ?_
        k_extra "we"
        refine ⟨G1, D0, _, c0, t0, [], rfl, r0, z, Nat.zero_le _, p0, fun _ => ?_, fun e' r' h => nomatch h⟩
        k_extra "we"
        refine go_subL (SqL.of ((x1.trans z.ex) _ _ hlc3)) rfl ?_
        k_extra "we"
        refine go_subL (SqL.of ((x1.trans z.ex) _ _ hlt2)) rfl ?_
        k_extra "we"
        refine ⟨G1, D1, _, c1, t1, [], rfl, r1, z.perm (M := D1 ++ (t1, Thg true []) :: (D0 ++ (t0, Thg true []) :: [(pu, Purse)])) (by k_extra "p"), Nat.zero_le _, p1, fun _ => ?_, fun e' r' h => nomatch h⟩
        exact q _
end
end Mo
open PySem PySem.W PySem.Calls PyProof.Rows
theorem PySem.Challenge.cw_momentloom_k24_wheels_used_holds : PySem.Challenge.rw_momentloom_k24_wheels_used.Holds := by
  w_on; o_law
  refine HandSHeadRun.head_any (r := Mo.Rr) (q := view Mo.Rr.prog [16]) (H := Mo.hk) (ob := Mo.ob) (M := 20000) (loose := Mo.loose) (d := HandSHeadRun.topDef Mo.Rr.prog 16) (kwd := []) Mo.ob_eq
    (by kernel_rfl) (fun s => by kernel_rfl) Mo.run (by kernel_rfl) (by kernel_rfl) (by kernel_rfl) (by rfl) (by first | assumption | decide +kernel) (by decide +kernel) ⟨rfl, rfl, rfl, rfl, rfl, by decide +kernel⟩ ?hw ?hc
  case hw => w_witness2
  case hc =>
    refine Mo.walk_ofEB (l := PySem.Challenge.rw_momentloom_k24_wheels_used) (n := 63) (k := 10) (x := "_law_script") (CX := fun w => L2.CX PySem.Challenge.rw_momentloom_k24_wheels_used.prog w) rfl (by decide) (by kernel_rfl) ⟨rfl, by decide, by decide⟩ ?F (fun _ _ _ _ _ z => Mo.cx_false z)
    intro w mg fa h Y G hmg0
    obtain ⟨K, KX, c⟩ := Y
    have hmg : mg ("law" : PySem.Str) = some (.ref fa) := by
      have e : (HandSHeadRun.topDef Mo.Rr.prog 16).name = ("law" : PySem.Str) := by kernel_rfl
      rw [← e]
      exact hmg0
    have T := Mo.tx_of KX G c
    have e := hmg.symm.trans T.g_law.gl
    cases e
    exact ⟨K, _, Mo.spLaw K, KX, fun s u => Mo.fun_bindsTo T.f_law (ps := ["_law_script"]) (fun _ _ _ _ _ _ us hl => match us, hl with | [_], _ => rfl) s [u] rfl, fun H a ns hl hb hO hS => ⟨a, ns, rfl, hO, hS, hl, hb, fun _ => rfl⟩, fun base _ _ => Mo.ok_law T⟩
