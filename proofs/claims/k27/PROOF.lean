import PyProof.Rows.All
import Wide.All
import OpenK.AllK
import Wide.FinOn
import KE.KStateDown
import Lean
import HandS.ForMost
import HandS.Exc
import HandS.Finally
import HandS.EndBits
import HandS.WordsExc
import HandS.Defaults
import HandS.DictTup
import HandS.TupLen
import HandS.Deep
import HandS.Wide
import HandS.TryOnly
import HandS.TryMany
import HandS.IsInst
import HandS.ExcIs
import HandS.ExcValue
import HandS.Sort
import HandS.SortInts
import HandS.Head0
import HandS.Head1
import HandS.Head2
import HandS.HeadEnd
import HandS.HeadHook1
import HandS.HeadHook2
import HandS.Conv
import HandS.Style
import PyProof.DictMoreH
import KE.DataMinMax
import HandS.More
import HandS.Evl
import HandS.DeepEq
import HandS.TupLe
import HandS.Text
import KE.DataFind
import PySem.Challenge.RW_momentloom_k27_runs_by_calendars_end
set_option Elab.async false
set_option linter.all false
set_option maxRecDepth 100000
set_option maxHeartbeats 4000000
namespace Mo
open PySem PySem.Spec PyProof.Rows L2
/-! ### heaps: a part of a heap, what is tracked and may change -/
def Ext (G H : Hp) : Prop := ∀ a o, G a = some o → H a = some o
theorem Ext.refl (H : Hp) : Ext H H := fun _ _ h => h
theorem Ext.trans {H H1 H2 : Hp} (a : Ext H H1) (b : Ext H1 H2) : Ext H H2 := fun x o h => b x o (a x o h)
theorem Ext.new {H : Hp} {p : Addr} {o : HO} (h : H p = none) : Ext H (upd H p o) := fun a u e => by
  rw [upd_ne (ne_of_none e h)]
  exact e
theorem Ext.put {G H : Hp} {p : Addr} {o : HO} (e : Ext G H) (h : G p = none) : Ext G (upd H p o) := fun a u ha => by
  rw [upd_ne (ne_of_none ha h)]
  exact e a u ha
theorem Ext.made {H : Hp} {x dx C : Addr} {fs : List (Str × V)} (nx : H x = none) (nd : H dx = none) : Ext H (upd (upd H dx (.own x)) x (.ins C dx fs)) := fun a u e => by
  rw [upd_ne (ne_of_none e nx), upd_ne (ne_of_none e nd)]
  exact e
theorem Ext.free {H H' : Hp} (e : Ext H H') {p : Addr} (h : H' p = none) : H p = none := by
  cases q : H p with
  | none => rfl
  | some o =>
    rw [e p o q] at h
    cases h
theorem ext_rd {H H' : Hp} {a : Addr} {u : HO} (e : Ext H H') (h : Rd H a u) : Rd H' a u := by
  rcases h with h | ⟨o, h⟩
  · exact Or.inl (e a _ h)
  · exact Or.inr ⟨o, e a _ h⟩
theorem ext_l {K : PySem.W.Frag} {H H' : Hp} {a : Addr} {xs : List V} (e : Ext H H') (h : SqL K H a xs) : SqL K H' a xs := by
  rcases h with h | h
  · exact Or.inl (ext_rd e h)
  · exact Or.inr h
theorem ext_t {K : PySem.W.Frag} {H H' : Hp} {a : Addr} {xs : List V} (e : Ext H H') (h : SqT K H a xs) : SqT K H' a xs := by
  rcases h with h | h
  · exact Or.inl (ext_rd e h)
  · exact Or.inr h
/-- the volatile objects: addresses, and what is true of what stands there -/
abbrev Vo : Type := List (Addr × (HO → Prop))
structure Hd (G H : Hp) (L : Vo) : Prop where
  ex : Ext G H
  at_ : ∀ p ∈ L, ∃ o, H p.1 = some o ∧ p.2 o
  out : ∀ p ∈ L, G p.1 = none
  nd : (L.map (·.1)).Nodup
section
variable {G H H' : Hp} {L : Vo} {p : Addr} {o o' : HO} {φ ψ : HO → Prop}
theorem Hd.get (h : Hd G H L) (m : (p, φ) ∈ L) : ∃ o, H p = some o ∧ φ o := h.at_ _ m
theorem Hd.eq (h : Hd G H L) (m : (p, Eq o) ∈ L) : H p = some o := by
  obtain ⟨u, h1, h2⟩ := h.at_ _ m
  have h3 : o = u := h2
  rw [h3]
  exact h1
theorem Hd.no (h : Hd G H L) (m : (p, φ) ∈ L) : G p = none := h.out _ m
theorem Hd.nil (e : Ext G H) : Hd G H [] := ⟨e, fun _ z => (nomatch z), fun _ z => (nomatch z), List.nodup_nil⟩
theorem Hd.grow (h : Hd G H L) (e : Ext H H') : Hd G H' L := ⟨h.ex.trans e, fun q m => let ⟨o, a, b⟩ := h.at_ q m; ⟨o, e _ _ a, b⟩, h.out, h.nd⟩
theorem nodup_same : ∀ {L : Vo}, (L.map (·.1)).Nodup → ∀ {p : Addr} {φ ψ : HO → Prop}, (p, φ) ∈ L → (p, ψ) ∈ L → φ = ψ
  | [], _, _, _, _, m, _ => nomatch m
  | (q, χ) :: L, nd, p, φ, ψ, m, n => by
    rw [List.map_cons, List.nodup_cons] at nd
    rcases List.mem_cons.mp m with e | m
    · rcases List.mem_cons.mp n with f | n
      · cases e
        cases f
        rfl
      · cases e
        exact absurd (List.mem_map_of_mem (f := (·.1)) n) nd.1
    · rcases List.mem_cons.mp n with f | n
      · cases f
        exact absurd (List.mem_map_of_mem (f := (·.1)) m) nd.1
      · exact nodup_same nd.2 m n
/-- the object at p is changed, within what is told of it -/
theorem Hd.put (h : Hd G H L) (m : (p, φ) ∈ L) (hφ : φ o') : Hd G (upd H p o') L := by
  refine ⟨h.ex.put (h.no m), fun q n => ?_, h.out, h.nd⟩
  obtain ⟨a, χ⟩ := q
  by_cases e : a = p
  · subst e
    have z := nodup_same h.nd n m
    subst z
    exact ⟨o', upd_same, hφ⟩
  · obtain ⟨u, h1, h2⟩ := h.at_ _ n
    exact ⟨u, by rw [upd_ne e]; exact h1, h2⟩
theorem mem_set_ne : ∀ {L : Vo} {i : Nat} {p : Addr} {φ ψ : HO → Prop}, (L.map (·.1)).Nodup → L[i]? = some (p, φ) → ∀ q ∈ L.set i (p, ψ), q = (p, ψ) ∨ (q ∈ L ∧ q.1 ≠ p)
  | [], _, _, _, _, _, e, _, _ => by simp at e
  | x :: L, 0, p, φ, ψ, nd, e, q, hq => by
    simp only [List.getElem?_cons_zero, Option.some.injEq] at e
    subst e
    rw [List.map_cons, List.nodup_cons] at nd
    rw [List.set_cons_zero] at hq
    rcases List.mem_cons.mp hq with h | h
    · exact Or.inl h
    · refine Or.inr ⟨List.mem_cons_of_mem _ h, fun z => ?_⟩
      have w : q.1 ∈ L.map (·.1) := List.mem_map_of_mem (f := (·.1)) h
      rw [z] at w
      exact nd.1 w
  | x :: L, i + 1, p, φ, ψ, nd, e, q, hq => by
    rw [List.getElem?_cons_succ] at e
    rw [List.map_cons, List.nodup_cons] at nd
    rw [List.set_cons_succ] at hq
    rcases List.mem_cons.mp hq with h | h
    · refine Or.inr ⟨by rw [h]; exact List.mem_cons_self, fun z => ?_⟩
      have w : p ∈ L.map (·.1) := List.mem_map_of_mem (f := (·.1)) (List.mem_of_getElem? e)
      rw [h] at z
      rw [z] at nd
      exact nd.1 w
    · rcases mem_set_ne nd.2 e q h with r | ⟨r, s⟩
      · exact Or.inl r
      · exact Or.inr ⟨List.mem_cons_of_mem _ r, s⟩
theorem map_set_fst : ∀ {L : Vo} {i : Nat} {p : Addr} {φ ψ : HO → Prop}, L[i]? = some (p, φ) → (L.set i (p, ψ)).map (·.1) = L.map (·.1)
  | [], _, _, _, _, e => by simp at e
  | x :: L, 0, p, φ, ψ, e => by
    simp only [List.getElem?_cons_zero, Option.some.injEq] at e
    subst e
    rfl
  | x :: L, i + 1, p, φ, ψ, e => by
    rw [List.getElem?_cons_succ] at e
    rw [List.set_cons_succ, List.map_cons, List.map_cons, map_set_fst e]
theorem Hd.set (h : Hd G H L) (i : Nat) (m : L[i]? = some (p, φ)) (hψ : ψ o') : Hd G (upd H p o') (L.set i (p, ψ)) :=
  ⟨h.ex.put (h.no (List.mem_of_getElem? m)), fun q n => by
    rcases mem_set_ne h.nd m q n with e | ⟨n', e⟩
    · subst e
      exact ⟨o', upd_same, hψ⟩
    · obtain ⟨u, h1, h2⟩ := h.at_ _ n'
      exact ⟨u, by rw [upd_ne e]; exact h1, h2⟩, fun q n => by
    rcases mem_set_ne h.nd m q n with e | ⟨n', e⟩
    · subst e
      exact h.no (List.mem_of_getElem? m)
    · exact h.out _ n', by rw [map_set_fst m]; exact h.nd⟩
/-- what is told of the object at place i is told otherwise -/
theorem Hd.re (h : Hd G H L) (i : Nat) (m : L[i]? = some (p, φ)) (hψ : ∀ o, H p = some o → φ o → ψ o) : Hd G H (L.set i (p, ψ)) :=
  ⟨h.ex, fun q n => by
    rcases mem_set_ne h.nd m q n with e | ⟨n', e⟩
    · subst e
      obtain ⟨u, h1, h2⟩ := h.at_ _ (List.mem_of_getElem? m)
      exact ⟨u, h1, hψ u h1 h2⟩
    · exact h.at_ _ n', fun q n => by
    rcases mem_set_ne h.nd m q n with e | ⟨n', e⟩
    · subst e
      exact h.no (List.mem_of_getElem? m)
    · exact h.out _ n', by rw [map_set_fst m]; exact h.nd⟩
theorem Hd.set0 (h : Hd G H ((p, φ) :: L)) (hψ : ψ o') : Hd G (upd H p o') ((p, ψ) :: L) := h.set 0 rfl hψ
theorem Hd.set1 {x : Addr × (HO → Prop)} (h : Hd G H (x :: (p, φ) :: L)) (hψ : ψ o') : Hd G (upd H p o') (x :: (p, ψ) :: L) := h.set 1 rfl hψ
theorem Hd.set2 {x y : Addr × (HO → Prop)} (h : Hd G H (x :: y :: (p, φ) :: L)) (hψ : ψ o') : Hd G (upd H p o') (x :: y :: (p, ψ) :: L) := h.set 2 rfl hψ
theorem Hd.re0 (h : Hd G H ((p, φ) :: L)) (hψ : ∀ o, H p = some o → φ o → ψ o) : Hd G H ((p, ψ) :: L) := h.re 0 rfl hψ
theorem Hd.re1 {x : Addr × (HO → Prop)} (h : Hd G H (x :: (p, φ) :: L)) (hψ : ∀ o, H p = some o → φ o → ψ o) : Hd G H (x :: (p, ψ) :: L) := h.re 1 rfl hψ
theorem Hd.setA {A : Vo} (h : Hd G H (A ++ (p, φ) :: L)) (hψ : ψ o') : Hd G (upd H p o') (A ++ (p, ψ) :: L) := by
  have e : (A ++ (p, φ) :: L)[A.length]? = some (p, φ) := by rw [List.getElem?_append_right (Nat.le_refl _), Nat.sub_self]; rfl
  have z := h.set A.length e hψ
  rw [List.set_append_right A.length _ (Nat.le_refl _), Nat.sub_self] at z
  exact z
theorem Hd.getA {A : Vo} (h : Hd G H (A ++ (p, φ) :: L)) : ∃ o, H p = some o ∧ φ o := h.get (List.mem_append_right _ List.mem_cons_self)
theorem Hd.fresh (h : Hd G H L) (hp : H p = none) : p ∉ L.map (·.1) := fun m => by
  obtain ⟨q, n, e⟩ := List.mem_map.mp m
  obtain ⟨u, h1, _⟩ := h.at_ q n
  rw [e, hp] at h1
  cases h1
/-- a new object that may change -/
theorem Hd.new (h : Hd G H L) (hp : H p = none) (hφ : φ o) : Hd G (upd H p o) ((p, φ) :: L) :=
  ⟨h.ex.trans (Ext.new hp), fun q n => by
    rcases List.mem_cons.mp n with e | n
    · subst e
      exact ⟨o, upd_same, hφ⟩
    · obtain ⟨u, h1, h2⟩ := h.at_ q n
      exact ⟨u, by rw [upd_ne (ne_of_none h1 hp)]; exact h1, h2⟩, fun q n => by
    rcases List.mem_cons.mp n with e | n
    · subst e
      exact h.ex.free hp
    · exact h.out q n, by rw [List.map_cons, List.nodup_cons]; exact ⟨h.fresh hp, h.nd⟩⟩
/-- a new object that stays -/
theorem Hd.fix (h : Hd G H L) (hp : H p = none) : Hd (upd G p o) (upd H p o) L :=
  ⟨fun a u e => by
    by_cases z : a = p
    · subst z
      rw [upd_same] at e ⊢
      exact e
    · rw [upd_ne z] at e ⊢
      exact h.ex a u e, fun q n => by
    obtain ⟨u, h1, h2⟩ := h.at_ q n
    exact ⟨u, by rw [upd_ne (ne_of_none h1 hp)]; exact h1, h2⟩, fun q n => by
    obtain ⟨u, h1, _⟩ := h.at_ q n
    rw [upd_ne (ne_of_none h1 hp)]
    exact h.out q n, h.nd⟩
/-- the first volatile object is to stay as it is -/
theorem Hd.freeze (h : Hd G H ((p, φ) :: L)) (e : H p = some o) : Hd (upd G p o) H L :=
  ⟨fun a u q => by
    by_cases z : a = p
    · subst z
      rw [upd_same] at q
      rw [e]
      exact q
    · rw [upd_ne z] at q
      exact h.ex a u q, fun q n => h.at_ q (List.mem_cons_of_mem _ n), fun q n => by
    have nd := h.nd
    rw [List.map_cons, List.nodup_cons] at nd
    have z : q.1 ≠ p := fun z => by
      have w : q.1 ∈ L.map (·.1) := List.mem_map_of_mem (f := (·.1)) n
      rw [z] at w
      exact nd.1 w
    rw [upd_ne z]
    exact h.out q (List.mem_cons_of_mem _ n), by
    have nd := h.nd
    rw [List.map_cons, List.nodup_cons] at nd
    exact nd.2⟩
theorem Hd.made {x dx C : Addr} {fs : List (Str × V)} (h : Hd G H L) (nx : H x = none) (nd : H dx = none) (ne : dx ≠ x) (hφ : φ (.ins C dx fs)) : Hd G (upd (upd H dx (.own x)) x (.ins C dx fs)) ((x, φ) :: L) :=
  (h.grow (Ext.new nd)).new (by rw [upd_ne (fun z => ne z.symm)]; exact nx) hφ
theorem Hd.drop {x : Addr × (HO → Prop)} (h : Hd G H (x :: L)) : Hd G H L :=
  ⟨h.ex, fun q n => h.at_ q (List.mem_cons_of_mem _ n), fun q n => h.out q (List.mem_cons_of_mem _ n), by
    have nd := h.nd
    rw [List.map_cons, List.nodup_cons] at nd
    exact nd.2⟩
theorem Hd.perm {M : Vo} (h : Hd G H L) (q : M.Perm L) : Hd G H M :=
  ⟨h.ex, fun x n => h.at_ x (q.mem_iff.mp n), fun x n => h.out x (q.mem_iff.mp n), (List.Perm.nodup_iff (q.map (·.1))).mpr h.nd⟩
theorem Hd.swap {x y : Addr × (HO → Prop)} (h : Hd G H (x :: y :: L)) : Hd G H (y :: x :: L) := h.perm (List.Perm.swap x y L)
theorem Hd.ext {G0 : Hp} (h : Hd G H L) (e : Ext G0 G) : Hd G0 H L := ⟨e.trans h.ex, h.at_, fun q n => e.free (h.out q n), h.nd⟩
theorem Hd.newG (_ : Hd G H L) (hG : G p = none) : Ext G (upd G p o) := Ext.new hG
theorem Hd.gno (h : Hd G H L) (hp : H p = none) : G p = none := h.ex.free hp
theorem Hd.ne (h : Hd G H L) {q : Addr} {i j : Nat} (m : L[i]? = some (p, φ)) (n : L[j]? = some (q, ψ)) (hij : i ≠ j) : p ≠ q := fun e => by
  have h1 : (L.map (·.1))[i]? = some p := by rw [List.getElem?_map, m]; rfl
  have h2 : (L.map (·.1))[j]? = some q := by rw [List.getElem?_map, n]; rfl
  rw [← e] at h2
  have l1 : i < (L.map (·.1)).length := (List.getElem?_eq_some_iff.mp h1).1
  have l2 : j < (L.map (·.1)).length := (List.getElem?_eq_some_iff.mp h2).1
  exact hij ((List.getElem?_inj l1 h.nd).mp (h1.trans h2.symm))
end
/-! ### data that stands in a heap -/
section
variable {K : PySem.W.Frag} {G H : Hp}
mutual
theorem dp_mono (e : Ext G H) : ∀ {v : V} {d : PyData}, Dp K G v d → Dp K H v d
  | _, _, .non => .non
  | _, _, .bl b => .bl b
  | _, _, .int i => .int i
  | _, _, .str x => .str x
  | _, _, .lst h r => .lst (ext_l e h) (dpa_mono e r)
  | _, _, .tup h r => .tup (ext_t e h) (dpa_mono e r)
theorem dpa_mono (e : Ext G H) : ∀ {vs : List V} {ds : List PyData}, DpAll K G vs ds → DpAll K H vs ds
  | _, _, .nil => .nil
  | _, _, .cons h r => .cons (dp_mono e h) (dpa_mono e r)
end
theorem dp_int {v : V} {i : Int} (h : Dp K H v (.int i)) : v = .int i := by cases h; rfl
theorem dp_str {v : V} {x : Str} (h : Dp K H v (.str x)) : v = .str x := by cases h; rfl
theorem dp_bl {v : V} {b : Bool} (h : Dp K H v (.bool b)) : v = .bl b := by cases h; rfl
theorem dp_non {v : V} (h : Dp K H v .none) : v = .non := by cases h; rfl
theorem dp_tup {v : V} {ds : List PyData} (h : Dp K H v (.tuple ds)) : ∃ a xs, v = .ref a ∧ SqT K H a xs ∧ DpAll K H xs ds := by
  cases h with
  | tup a b => exact ⟨_, _, rfl, a, b⟩
theorem dp_lst {v : V} {ds : List PyData} (h : Dp K H v (.list ds)) : ∃ a xs, v = .ref a ∧ SqL K H a xs ∧ DpAll K H xs ds := by
  cases h with
  | lst a b => exact ⟨_, _, rfl, a, b⟩
theorem dpa_len : ∀ {vs : List V} {ds : List PyData}, DpAll K H vs ds → vs.length = ds.length
  | _, _, .nil => rfl
  | _, _, .cons _ r => by rw [List.length_cons, List.length_cons, dpa_len r]
theorem dpa_get : ∀ {vs : List V} {ds : List PyData} {i : Nat} {d : PyData}, DpAll K H vs ds → ds[i]? = some d → ∃ v, vs[i]? = some v ∧ Dp K H v d
  | _, _, _, _, .nil, e => by simp at e
  | _, _, 0, _, .cons h _, e => by
    simp only [List.getElem?_cons_zero, Option.some.injEq] at e
    subst e
    exact ⟨_, rfl, h⟩
  | _, _, i + 1, _, .cons _ r, e => by
    rw [List.getElem?_cons_succ] at e
    obtain ⟨v, h1, h2⟩ := dpa_get r e
    exact ⟨v, by rw [List.getElem?_cons_succ]; exact h1, h2⟩
theorem dpa_get' : ∀ {vs : List V} {ds : List PyData} {i : Nat} {v : V}, DpAll K H vs ds → vs[i]? = some v → ∃ d, ds[i]? = some d ∧ Dp K H v d
  | _, _, _, _, .nil, e => by simp at e
  | _, _, 0, _, .cons h _, e => by
    simp only [List.getElem?_cons_zero, Option.some.injEq] at e
    subst e
    exact ⟨_, rfl, h⟩
  | _, _, i + 1, _, .cons _ r, e => by
    rw [List.getElem?_cons_succ] at e
    obtain ⟨v, h1, h2⟩ := dpa_get' r e
    exact ⟨v, by rw [List.getElem?_cons_succ]; exact h1, h2⟩
theorem dpa_app : ∀ {vs ws : List V} {ds es : List PyData}, DpAll K H vs ds → DpAll K H ws es → DpAll K H (vs ++ ws) (ds ++ es)
  | _, _, _, _, .nil, s => s
  | _, _, _, _, .cons h r, s => .cons h (dpa_app r s)
theorem dpa_one {v : V} {d : PyData} (h : Dp K H v d) : DpAll K H [v] [d] := .cons h .nil
theorem dpa_ints : ∀ ns : List Int, DpAll K H (ns.map V.int) (ns.map PyData.int)
  | [] => .nil
  | n :: ns => .cons (.int n) (dpa_ints ns)
end
theorem nodup_take {α : Type} {l : List α} {i : Nat} {x : α} (h : l.Nodup) (hi : l[i]? = some x) : x ∉ l.take i := fun m => by
  obtain ⟨j, hj, e⟩ := List.mem_iff_getElem.mp m
  rw [List.length_take] at hj
  rw [List.getElem_take] at e
  have h1 : l[j]? = some x := by rw [List.getElem?_eq_getElem (by omega), e]
  have h2 : j < l.length := by omega
  have := (List.getElem?_inj h2 h).mp (h1.trans hi.symm)
  omega
end Mo
namespace Mo
open PySem PySem.Spec PyProof.Rows L2
abbrev St := L2.St
/-! ### rules: any subscript, any store, any in, any ==, len of anything, calls that may raise -/
section
variable {X : Cx}
def CMulX (i j : Int) : Prop := i.natAbs.log2 + j.natAbs.log2 < 134000000
theorem CMulX.ok {i j : Int} (h : CMulX i j) : IntMulOk i j := by
  have b : ∀ x : Int, Builtin.Int.intBits x ≤ x.natAbs.log2 + 1 := fun x => by
    unfold Builtin.Int.intBits
    split <;> omega
  have h1 := b i
  have h2 := b j
  have h3 : i.natAbs.log2 + j.natAbs.log2 < 134000000 := h
  have e : bitsLine = 134217728 := by decide
  unfold IntMulOk
  intro z
  rw [Bool.and_eq_true] at z
  have z2 := z.2
  unfold Builtin.Int.intTooBig at z2
  have z3 := of_decide_eq_true z2
  rw [e] at z3
  omega
theorem log2_bd {x : Int} {a : Nat} (h : x.natAbs < 2 ^ a) (h0 : 0 < a) : x.natAbs.log2 < a := PySem.Flt.log2_lt_of h0 h
theorem mulX_of {i j : Int} (a b : Nat) (hi : i.natAbs < 2 ^ a) (hj : j.natAbs < 2 ^ b) (h0 : 0 < a) (h1 : 0 < b) (h : a + b ≤ 134000000) : CMulX i j := by
  have x := log2_bd hi h0
  have y := log2_bd hj h1
  unfold CMulX
  omega
theorem op_mulX : OpR X (binaryOp .Mult) (rI CMulX fun i j => .int (i * j)) := opI fun _ _ _ _ _ _ _ hc q => mul_int q hc.ok
def CDivX (_ j : Int) : Prop := j ≠ 0 ∧ j.natAbs.log2 < 9000
theorem op_fdivX : OpR X (binaryOp .FloorDiv) (rI CDivX fun i j => .int (i.fdiv j)) := opI fun _ _ _ _ _ _ _ hc q => floordiv_int hc.1 q (.inl (PyProof.noPylong_of_log2 hc.2))
def CMod (_ j : Int) : Prop := j ≠ 0
theorem op_modX : OpR X (binaryOp .Mod) (rI CMod fun i j => .int (i.fmod j)) := opI fun _ _ _ _ _ _ _ hc q => mod_int' hc q
/-- d[y] by values -/
def rDGet : R2 := fun x y H Q => ∃ a v, x = .ref a ∧ DGet H a y (some v) ∧ Q v H
theorem ix_dict (hu : X.A.units + 1 < cLine) : IxR X rDGet := by
  intro value slice pins s σ H x y v u Q I rx ry h hs
  obtain ⟨a, z, rfl, g, q⟩ := h
  obtain rfl : v = Value.ref a := rx
  have hT := dict_typeIs I g
  unfold subscriptTail
  refine wpAny_bind ?_
  rw [getitemInPython_of_ne hT.not_modules]
  refine wpAny_bind (wpAny_specialOf hT PySem.F.slot_dict_getitem.lookup ?_)
  have fin : wpAny (model X.prog X.w) X.A (subscripted slice false (Value.ref a) u) (fun r s₃ => wpAny (model X.prog X.w) X.A (letTemporaryGo value (Value.ref a) r >>= fun _ => pure r) (EP X pins σ Q) X.xe s₃) X.xe s := by
    rw [hs]
    refine wpAny_operating (d_getItem hu I g ry fun w' s3 I3 rw' => wpAny_bind (wpAny_letTemporaryGo (wpAny_pure ⟨z, H, I3, rw', q⟩)))
  first
    | exact wpAny_pure (wpAny_bind fin)
    | exact wpAny_bind (wpAny_pure (wpAny_bind fin))
    | exact wpAny_bind fin
def rSub (K : PySem.W.Frag) : R2 := fun x y H Q => (rIxL K x y H Q ∨ rIxT K x y H Q) ∨ (rIxS x y H Q ∨ rDGet x y H Q)
theorem ix_any (hu : X.A.units + 1 < cLine) : IxR X (rSub X.K) := (ix_list.or ix_tup).or (ix_str.or (ix_dict hu))
def rSli (K : PySem.W.Frag) : V → Option Int → Option Int → Hp → VK → Prop := fun x lo hi H Q => rSlL K x lo hi H Q ∨ (rSlT K x lo hi H Q ∨ rSlS x lo hi H Q)
theorem sl_any : SlR X (rSli X.K) := sl_list.or (SlR.or (r' := rSlS) sl_tup sl_str)
def rSet : TSet := fun o i v H Q => rSetL o i v H Q ∨ ∃ a H', o = .ref a ∧ DPut H a i v H' ∧ Q H'
theorem set_any (hu : X.A.units + 1 < cLine) : PSet X rSet := by
  intro pins s σ H o i v ov iv u Q I ro ri rv h
  rcases h with h | ⟨a, H', rfl, g, q⟩
  · exact set_list pins s σ H o i v ov iv u Q I ro ri rv h
  · obtain rfl : ov = Value.ref a := ro
    exact d_setItem hu I g ri rv fun s' I' => ⟨H', I', q⟩
/-- y in d, by values -/
def rDIn : R2 := fun y x H Q => ∃ a o, x = .ref a ∧ DGet H a y o ∧ Q (.bl o.isSome) H
def rDNotIn : R2 := fun y x H Q => ∃ a o, x = .ref a ∧ DGet H a y o ∧ Q (.bl (!o.isSome)) H
theorem op_inDict (hu : X.A.units + 1 < cLine) : OpR X (compareOp .In) rDIn := by
  intro pins s σ H x y v u Q I rx ry h
  obtain ⟨a, o, rfl, g, q⟩ := h
  obtain rfl : u = Value.ref a := ry
  exact d_in hu I g rx fun s3 I3 => ⟨.bl o.isSome, H, I3, rfl, q⟩
theorem op_notInDict (hu : X.A.units + 1 < cLine) : OpR X (compareOp .NotIn) rDNotIn := by
  intro pins s σ H x y v u Q I rx ry h
  obtain ⟨a, o, rfl, g, q⟩ := h
  obtain rfl : u = Value.ref a := ry
  exact d_notIn hu I g rx fun s3 I3 => ⟨.bl (!o.isSome), H, I3, rfl, q⟩
def rInA (K : PySem.W.Frag) : R2 := fun x y H Q => rDIn x y H Q ∨ (rIn K false x y H Q ∨ rInD K x y H Q)
def rNotInA (K : PySem.W.Frag) : R2 := fun x y H Q => rDNotIn x y H Q ∨ (rIn K true x y H Q ∨ rNotInD K x y H Q)
theorem op_inA (hu : X.A.units + 65 < cLine) : OpR X (compareOp .In) (rInA X.K) := (op_inDict (by omega)).or (op_in_seq.or (op_inD hu))
theorem op_notInA (hu : X.A.units + 65 < cLine) : OpR X (compareOp .NotIn) (rNotInA X.K) := (op_notInDict (by omega)).or (op_notIn_seq.or (op_notInD hu))
def rEqA (K : PySem.W.Frag) : R2 := fun x y H Q => rEq x y H Q ∨ (rEqD K x y H Q ∨ rEqV K x y H Q)
/-- a != b, two dicts that are equal -/
def rNeV (K : PySem.W.Frag) : R2 := fun x y H Q => ∃ n a b ks ls, n ≤ 60 ∧ x = .ref a ∧ y = .ref b ∧ H a = some (.dK ks) ∧ H b = some (.dK ls) ∧ ks.length = ls.length ∧ (∀ p ∈ ks, ∃ u, valV ls p.1 = some u ∧ EqV K H n p.2 u) ∧ Q (.bl false) H
theorem ne_dicts {prog : Program} {w : World} {K : Type} [DecidableEq K] {knd : KeyKind prog w K} {A : Around} {E : Value → Shared → Prop} {s : Shared} {a b : Addr} {ka kb : List (K × Value)} {r : Bool} {Q : Value → Shared → Prop} (ha : (a == sysModules) = false) (hb : (b == sysModules) = false)
    (da : s.heap.DictOf knd a ka) (db : s.heap.DictOf knd b kb) (hu : A.units < cLine) (hits : ka.length = kb.length → PySem.W.KeqHitsP prog w A.in1 s kb ka r) (h : Q (.bool (!(ka.length == kb.length && r))) s) :
    wpAny (model prog w) A (compareOp .NotEq (.ref a) (.ref b)) Q E s := by
  refine wpAny_richCompare_same_room (op := .NotEq) da.typeIs db.typeIs PySem.F.slot_dict_ne (wpAny_call_entry PySem.F.slot_dict_ne da.typeIs PySem.F.entry_dict_ne ?_ (PySem.F.args_dict_ne_2 _ _)) hu
  show wpAny _ _ (Builtin.Dict.dictSlotArgs "__ne__" ⟨[.ref a, .ref b], []⟩ >>= _) _ _ s
  refine wpAny_bind ?_
  unfold Builtin.Dict.dictSlotArgs
  refine wpAny_bind (wpAny_notOrdered_dict da.typeIs ?_)
  show wpAny _ _ (pure (Value.ref a, Value.ref b)) _ _ s
  refine wpAny_pure ?_
  refine wpAny_bind (wpAny_isInstance (T := "dict") db.typeIs PySem.F.sub_dict_dict ?_)
  simp only [Bool.not_true, Bool.false_eq_true, if_false]
  refine wpAny_bind (wpAny_pure (wpAny_bind (wpAny_pure ?_)))
  refine wpAny_bind (PySem.W.samePairsP ha hb da db hits ?_)
  refine wpAny_pure ⟨_, rfl, ?_, ?_⟩
  · exact fun x => nomatch x
  · simpa using h
theorem op_neV (hu : X.A.units + 64 < cLine) : OpR X (compareOp .NotEq) (rNeV X.K) := by
  intro pins s σ H x y v u Q I rx ry h
  obtain ⟨n, a, b, ks, ls, hn, rfl, rfl, ha, hb, hl, hp, q⟩ := h
  obtain rfl : v = Value.ref a := rx
  obtain rfl : u = Value.ref b := ry
  obtain ⟨_, ya, va, ra, da⟩ := (show ObjOk X.prog X.w H s.heap a (.dK ks) from I.hok a _ ha)
  obtain ⟨_, yb, vb, rb, db⟩ := (show ObjOk X.prog X.w H s.heap b (.dK ls) from I.hok b _ hb)
  refine ne_dicts (knd := mixKind X.prog X.w) (r := true) ya yb da db (by omega) (fun _ => hits_run (fun x y v u h r1 r2 => eqV_run I n X.A.in1 (by show X.A.units + 1 + n < cLine; omega) x y v u h r1 r2) rb ra hp) ?_
  have e : va.length = vb.length := by rw [← ra.length, ← rb.length]; exact hl
  exact fin_bl I q (by simp [e])
def rNeA (K : PySem.W.Frag) : R2 := fun x y H Q => rNe x y H Q ∨ (rNeD K x y H Q ∨ rNeV K x y H Q)
theorem op_eqA (hu : X.A.units + 64 < cLine) : OpR X (compareOp .Eq) (rEqA X.K) := op_eq.or ((op_eqD hu).or (op_eqV hu))
theorem op_neA (hu : X.A.units + 64 < cLine) : OpR X (compareOp .NotEq) (rNeA X.K) := op_ne.or ((op_neD hu).or (op_neV hu))
def rLenA (K : PySem.W.Frag) : List V → Hp → VK → Prop := fun xs H Q =>
  ((∃ p ys, xs = [.ref p] ∧ (SqL K H p ys ∨ SqT K H p ys) ∧ Q (.int ys.length) H) ∨ (∃ z, xs = [.str z] ∧ z.length ≤ sizeLine ∧ Q (.int z.length) H)) ∨ ((∃ a kvs, xs = [V.ref a] ∧ H a = some (.dK kvs) ∧ Q (.int kvs.length) H) ∨ rLenT xs H Q)
theorem call_lenA : CallR X (.builtin "len") (rLenA X.K) := (call_len_seq.or call_len_str).or (call_lenD.or call_len_dT)
/-- {}: of the one kind or the other -/
def tDNew : TE := fun σ H Q => tDNewK σ H Q ∨ tDNewT σ H Q
theorem pe_dnew {pos : Pos} : PE X (.Dict [] [] pos) tDNew := ⟨fun pins s σ H Q I h => by
  rcases h with h | h
  · exact pe_dnewK.run pins s σ H Q I h
  · exact pe_dnewT.run pins s σ H Q I h⟩
end
/-! ### calls, what is raised wished for at the caller's slots -/
section
variable {X : Cx} {CX : CXT} {k : Nat} {f C : Addr} {fd : FuncData} {ps : List Str} {sp : Sp} {E : St → XK} {x m : Str} {p pos apos : Pos} {e o : Expr} {es : List Expr} {ta : TE} {t : TA}
theorem pe_call0S (F : FnOk X.prog X.w X.K X.mg X.base CX k f fd ps sp) (hr : Room k X.A) (hg : Gl X x) (hm : X.mg x = some (.ref f)) (hk : PySem.W.keepIn X.K (.ref f) = true) (hb : Binds X.K fd ps []) (hx : ∀ σ, PassesAt CX X σ (E σ))
    (hdb : (x == ("__debug__" : Str)) = false := by decide) : PE X (.Call (.Name x p) [] [] pos) (tCallS sp E tNil) := by
  refine ⟨fun pins s σ H Q I h => ?_⟩
  refine wpAny_Call_Name_kw (ld_glob I hg hm ?_ hdb)
  exact PySem.W.callWith_K0 I.kIn hk (run_fnS (us := []) F hr hb (hx σ) I .nil h)
def tMethS (C : Addr) (m : Str) (sp : Sp) (E : St → XK) (ta : TE) (t : TA) : TE := fun σ H Q => ta σ H fun x H1 => ∃ a dx fs, x = .ref a ∧ H1 a = some (.ins C dx fs) ∧ fs.lookup m = none ∧
  t σ H1 fun vs H2 => sp (x :: vs) H2 Q (E σ)
theorem pe_methS {pl : Sem Bool} (he : PE X o ta) (c : Cls X.K C) (hm : Meth X.K C m f) (F : FnOk X.prog X.w X.K X.mg X.base CX k f fd ps sp) (hr : Room k X.A) (hb : Binds X.K fd ps []) (hx : ∀ σ, PassesAt CX X σ (E σ)) (ha : PA X (e :: es) t)
    (hst : starEach (e :: es) X.env = (false, eval e X.env) :: starEach es X.env := by rfl) (hpl : (backTo pos (starEach es X.env)).any (·.1) = false := by rfl)
    (ht : eval (.Call (.Attribute o m apos) (e :: es) [] pos) X.env = (do
      let ov ← eval o X.env
      standAt apos.atName
      let (f, first) ← holding [ov] (getMethod ov m pl)
      callWith pos f first (backTo pos (starEach (e :: es) X.env)) (backToKw pos (keywordEach [] X.env))) := by rfl) :
    PE X (.Call (.Attribute o m apos) (e :: es) [] pos) (tMethS C m sp E ta t) := by
  refine ⟨fun pins s σ H Q I h => ?_⟩
  refine PySem.W.methodCall_KW (pl := pl) (thn (he.run pins s σ H _ I h) fun u s1 ⟨x, H1, I1, rx, a, dx, fs, ex, ea, l, q⟩ => ?_) ht
  subst ex
  obtain rfl : u = Value.ref a := rx
  refine getmeth_ok I1 ea c hm l ?_
  refine PySem.W.callWith_K (first := [.ref a]) (h₀ := X.base) I.ok.mod.kin hm.kp (thn (ha.run pos pins s1 σ H1 _ I1 q) fun us s2 ⟨vs, H2, I2, r, q2⟩ => ⟨I2.kIn, ?_⟩) hst hpl
  exact run_fnS (us := .ref a :: us) (vs := .ref a :: vs) F hr hb (hx σ) I2 (.cons rfl r) q2
theorem pe_meth0S {pl : Sem Bool} (he : PE X o ta) (c : Cls X.K C) (hm : Meth X.K C m f) (F : FnOk X.prog X.w X.K X.mg X.base CX k f fd ps sp) (hr : Room k X.A) (hb : Binds X.K fd ps []) (hx : ∀ σ, PassesAt CX X σ (E σ))
    (ht : eval (.Call (.Attribute o m apos) [] [] pos) X.env = (do
      let ov ← eval o X.env
      standAt apos.atName
      let (f, first) ← holding [ov] (getMethod ov m pl)
      callWith pos f first (backTo pos (starEach [] X.env)) (backToKw pos (keywordEach [] X.env))) := by rfl) :
    PE X (.Call (.Attribute o m apos) [] [] pos) (tMethS C m sp E ta tNil) := by
  refine ⟨fun pins s σ H Q I h => ?_⟩
  refine PySem.W.methodCall_KW (pl := pl) (thn (he.run pins s σ H _ I h) fun u s1 ⟨x, H1, I1, rx, a, dx, fs, ex, ea, l, q⟩ => ?_) ht
  subst ex
  obtain rfl : u = Value.ref a := rx
  refine getmeth_ok I1 ea c hm l ?_
  exact PySem.W.callWith_K0 (first := [.ref a]) I1.kIn hm.kp (run_fnS (us := [.ref a]) (vs := [.ref a]) F hr hb (hx σ) I1 (.cons rfl .nil) q)
def tMakeS (C : Addr) (sp : Sp) (E : St → XK) (t : TA) : TE := fun σ H Q => t σ H fun vs H1 => ∀ x dx, H1 x = none → H1 dx = none → dx ≠ x →
  sp (.ref x :: vs) (upd (upd H1 dx (.own x)) x (.ins C dx [])) (fun v H2 => v = .non ∧ Q (.ref x) H2) (E σ)
theorem passes_of_at {σ0 : St} (hx : ∀ σ, PassesAt CX X σ (E σ)) (pins : List (Addr × Obj)) (H : Hp) (s : Shared) (e : Value) (s' : Shared) (I : Inv X pins σ0 H s) (h : CX X.stack H s (E σ0) e s') : X.xe e s' := hx σ0 pins H s e s' I h
theorem run_makeS {pins : List (Addr × Obj)} {σ : St} {H : Hp} {s : Shared} {Q : VK} {us : List Value} {vs : List V} (M : Mk X.K C f) (F : FnOk X.prog X.w X.K X.mg X.base CX k f fd ps sp) (hr : Room (k + 1) X.A) (hb : Binds X.K fd ps [])
    (hx : PassesAt CX X σ (E σ)) (I : Inv X pins σ H s) (r : Vals vs us)
    (h : ∀ x dx, H x = none → H dx = none → dx ≠ x → sp (.ref x :: vs) (upd (upd H dx (.own x)) x (.ins C dx [])) (fun v H2 => v = .non ∧ Q (.ref x) H2) (E σ)) :
    wpAny (model X.prog X.w) X.A (call (.ref C) us) (EP X pins σ Q) X.xe s := by
  have hq := h (s.heap.objs.size + 1) s.heap.objs.size (I.hok.fresh (Nat.le_succ _)) (I.hok.fresh (Nat.le_refl _)) (Nat.ne_of_lt (Nat.lt_succ_self _))
  have I2 := Inv.made (C := C) I
  have r2 : Vals (V.ref (s.heap.objs.size + 1) :: vs) (Value.ref (s.heap.objs.size + 1) :: us) := .cons rfl r
  have hl : (Value.ref (s.heap.objs.size + 1) :: us).length = ps.length := by
    have e := r2.length
    rw [F.len _ _ _ _ hq] at e
    exact e.symm
  have b := hb _ (Value.ref (s.heap.objs.size + 1) :: us) I2.kIn (by rw [List.append_nil]; exact hl)
  rw [List.append_nil] at b
  refine wpAny_call (make_map (f := f) I.kIn M.makes M.init (beq_iff_eq.mp M.fn) (codeAny_mono (F.run _ X.stack _ _ ⟨Value.ref (s.heap.objs.size + 1) :: us, []⟩ (Value.ref (s.heap.objs.size + 1) :: us) _ _ (E σ) (hr.make C us [])
    (I2.env0.make C us []) b r2 hq) fun r s' hq' => ?_))
  cases r with
  | error e => exact hx pins _ _ e s' I2 hq'
  | ok fl =>
    cases fl with
    | ret u =>
      obtain ⟨v, H', I3, rv, ev, q3⟩ := I2.after hq'
      subst ev
      exact ⟨rv, ⟨V.ref (s.heap.objs.size + 1), H', I3, rfl, q3⟩⟩
    | next => exact False.elim hq'
    | brk => exact False.elim hq'
    | cont => exact False.elim hq'
theorem pe_makeS (M : Mk X.K C f) (F : FnOk X.prog X.w X.K X.mg X.base CX k f fd ps sp) (hr : Room (k + 1) X.A) (hg : Gl X x) (hm : X.mg x = some (.ref C)) (hb : Binds X.K fd ps []) (hx : ∀ σ, PassesAt CX X σ (E σ))
    (ha : PA X (e :: es) t) (hdb : (x == ("__debug__" : Str)) = false := by decide) (he : starEach (e :: es) X.env = (false, eval e X.env) :: starEach es X.env := by rfl) (hpl : (backTo pos (starEach es X.env)).any (·.1) = false := by rfl) :
    PE X (.Call (.Name x p) (e :: es) [] pos) (tMakeS C sp E t) := by
  refine ⟨fun pins s σ H Q I h => ?_⟩
  refine wpAny_Call_Name_kw (ld_glob I hg hm ?_ hdb)
  refine PySem.W.callWith_K (h₀ := X.base) I.ok.mod.kin M.kp (thn (ha.run pos pins s σ H _ I h) fun us s1 ⟨vs, H1, I1, r, q⟩ => ⟨I1.kIn, ?_⟩) he hpl
  exact run_makeS M F hr hb (hx σ) I1 r q
theorem pe_make0S (M : Mk X.K C f) (F : FnOk X.prog X.w X.K X.mg X.base CX k f fd ps sp) (hr : Room (k + 1) X.A) (hg : Gl X x) (hm : X.mg x = some (.ref C)) (hb : Binds X.K fd ps []) (hx : ∀ σ, PassesAt CX X σ (E σ))
    (hdb : (x == ("__debug__" : Str)) = false := by decide) : PE X (.Call (.Name x p) [] [] pos) (tMakeS C sp E tNil) := by
  refine ⟨fun pins s σ H Q I h => ?_⟩
  refine wpAny_Call_Name_kw (ld_glob I hg hm ?_ hdb)
  exact PySem.W.callWith_K0 I.kIn M.kp (run_makeS (us := []) M F hr hb (hx σ) I .nil h)
end
/-! ### what the top has written -/
def fdA (K : PySem.W.Frag) (a : Addr) : FuncData := match K.lookup a with
  | some ⟨_, _, .func fd, _⟩ => fd
  | _ => default
theorem fun_of {K : PySem.W.Frag} {x qual : PySem.Str} {st : Stmt} {f : Addr} {kws : List (PySem.Str × L2.V)} (h : ∃ fd, L2.FunD K x qual (L2.defArgs st) (L2.defBody st) (L2.defScope st) [] kws f fd) : L2.Fun K x qual st f (fdA K f) := by
  obtain ⟨fd, F⟩ := h
  obtain ⟨oc, od, dV, kV, doc, pm, an, cdv, ct, osl, e, l, c, hd, _⟩ := F.ex
  have e2 : fdA K f = fd := by
    unfold fdA
    rw [l]
  rw [e2]
  rcases hd with ⟨_, e2⟩ | ⟨e2, _⟩
  · subst e2
    exact ⟨⟨oc, od, kV, doc, pm, an, cdv, ct, osl, e, l, c⟩, F.kp⟩
  · exact absurd rfl e2
/-- a global def as its callers need it -/
structure GF (K : PySem.W.Frag) (mg : Str → Option Value) (x : Str) (ps : List Str) : Prop where
  gl : mg x = some (.ref (He.fAd K (x, none)))
  kp : PySem.W.keepIn K (.ref (He.fAd K (x, none))) = true
  bd : Binds K (fdA K (He.fAd K (x, none))) ps []
/-- a method -/
structure MF (K : PySem.W.Frag) (C m : Str) (ps : List Str) : Prop where
  me : Meth K (He.ga K C) m (He.fAd K (C, some m))
  bd : Binds K (fdA K (He.fAd K (C, some m))) ps []
/-- a class that is made -/
structure KF (K : PySem.W.Frag) (mg : Str → Option Value) (C : Str) (ps : List Str) : Prop where
  gl : mg C = some (.ref (He.ga K C))
  mker : Mk K (He.ga K C) (He.fAd K (C, some "__init__"))
  bd : Binds K (fdA K (He.fAd K (C, some "__init__"))) ps []
section
variable {P : Program} {w : World} {K : PySem.W.Frag} {mg : Str → Option Value} {base : Heap}
/-- a global def of level k keeps a promise -/
abbrev OkG (P : Program) (w : World) (K : PySem.W.Frag) (mg : Str → Option Value) (base : Heap) (k : Nat) (x : Str) (ps : List Str) (sp : Sp) : Prop := FnOk P w K mg base (L2.CX P w) k (He.fAd K (x, none)) (fdA K (He.fAd K (x, none))) ps sp
abbrev OkM (P : Program) (w : World) (K : PySem.W.Frag) (mg : Str → Option Value) (base : Heap) (k : Nat) (C m : Str) (ps : List Str) (sp : Sp) : Prop := FnOk P w K mg base (L2.CX P w) k (He.fAd K (C, some m)) (fdA K (He.fAd K (C, some m))) ps sp
end
section
variable {X : Cx} {k j : Nat} {C m x : Str} {ps : List Str} {sp : Sp} {W : WX} {p pos apos : Pos} {e o : Expr} {es : List Expr} {ta : TE} {t : TA}
/-- f(e, ..) -/
theorem pcl (G : GF X.K X.mg x ps) (F : OkG X.prog X.w X.K X.mg X.base k x ps sp) (hr : Room j X.A) (tk : Takes X W) (ha : PA X (e :: es) t) (hj : k ≤ j := by omega) (hg : Gl X x := by rfl)
    (hdb : (x == ("__debug__" : Str)) = false := by decide) (he : starEach (e :: es) X.env = (false, eval e X.env) :: starEach es X.env := by rfl) (hpl : (backTo pos (starEach es X.env)).any (·.1) = false := by rfl) :
    PE X (.Call (.Name x p) (e :: es) [] pos) (tCallS sp (WE W) t) := pe_callS F (hr.mono hj) hg G.gl G.kp G.bd (passAt tk) ha hdb he hpl
theorem pcl0 (G : GF X.K X.mg x ps) (F : OkG X.prog X.w X.K X.mg X.base k x ps sp) (hr : Room j X.A) (tk : Takes X W) (hj : k ≤ j := by omega) (hg : Gl X x := by rfl)
    (hdb : (x == ("__debug__" : Str)) = false := by decide) : PE X (.Call (.Name x p) [] [] pos) (tCallS sp (WE W) tNil) := pe_call0S F (hr.mono hj) hg G.gl G.kp G.bd (passAt tk) hdb
theorem pme {pl : Sem Bool} (G : MF X.K C m ps) (c : Cls X.K (He.ga X.K C)) (F : OkM X.prog X.w X.K X.mg X.base k C m ps sp) (hr : Room j X.A) (tk : Takes X W) (he : PE X o ta) (ha : PA X (e :: es) t) (hj : k ≤ j := by omega)
    (hst : starEach (e :: es) X.env = (false, eval e X.env) :: starEach es X.env := by rfl) (hpl : (backTo pos (starEach es X.env)).any (·.1) = false := by rfl)
    (ht : eval (.Call (.Attribute o m apos) (e :: es) [] pos) X.env = (do
      let ov ← eval o X.env
      standAt apos.atName
      let (f, first) ← holding [ov] (getMethod ov m pl)
      callWith pos f first (backTo pos (starEach (e :: es) X.env)) (backToKw pos (keywordEach [] X.env))) := by rfl) :
    PE X (.Call (.Attribute o m apos) (e :: es) [] pos) (tMethS (He.ga X.K C) m sp (WE W) ta t) := pe_methS (pl := pl) he c G.me F (hr.mono hj) G.bd (passAt tk) ha hst hpl ht
theorem pme0 {pl : Sem Bool} (G : MF X.K C m ps) (c : Cls X.K (He.ga X.K C)) (F : OkM X.prog X.w X.K X.mg X.base k C m ps sp) (hr : Room j X.A) (tk : Takes X W) (he : PE X o ta) (hj : k ≤ j := by omega)
    (ht : eval (.Call (.Attribute o m apos) [] [] pos) X.env = (do
      let ov ← eval o X.env
      standAt apos.atName
      let (f, first) ← holding [ov] (getMethod ov m pl)
      callWith pos f first (backTo pos (starEach [] X.env)) (backToKw pos (keywordEach [] X.env))) := by rfl) :
    PE X (.Call (.Attribute o m apos) [] [] pos) (tMethS (He.ga X.K C) m sp (WE W) ta tNil) := pe_meth0S (pl := pl) he c G.me F (hr.mono hj) G.bd (passAt tk) ht
theorem pmk (G : KF X.K X.mg C ps) (F : OkM X.prog X.w X.K X.mg X.base k C "__init__" ps sp) (hr : Room j X.A) (tk : Takes X W) (ha : PA X (e :: es) t) (hj : k + 1 ≤ j := by omega) (hg : Gl X C := by rfl)
    (hdb : (C == ("__debug__" : Str)) = false := by decide) (he : starEach (e :: es) X.env = (false, eval e X.env) :: starEach es X.env := by rfl) (hpl : (backTo pos (starEach es X.env)).any (·.1) = false := by rfl) :
    PE X (.Call (.Name C p) (e :: es) [] pos) (tMakeS (He.ga X.K C) sp (WE W) t) := pe_makeS G.mker F (hr.mono hj) hg G.gl G.bd (passAt tk) ha hdb he hpl
theorem pmk0 (G : KF X.K X.mg C ps) (F : OkM X.prog X.w X.K X.mg X.base k C "__init__" ps sp) (hr : Room j X.A) (tk : Takes X W) (hj : k + 1 ≤ j := by omega) (hg : Gl X C := by rfl)
    (hdb : (C == ("__debug__" : Str)) = false := by decide) : PE X (.Call (.Name C p) [] [] pos) (tMakeS (He.ga X.K C) sp (WE W) tNil) := pe_make0S G.mker F (hr.mono hj) hg G.gl G.bd (passAt tk) hdb
end
/-! ### more rules by values -/
section
variable {X : Cx}
theorem hu65_of {A : Around} {k : Nat} (hr : Room k A) : A.units + 65 < cLine := by
  have := hr.un
  omega
def rAddS : R2 := fun x y H Q => ∃ i j, x = .str i ∧ y = .str j ∧ i.length + j.length ≤ sizeLine ∧ Q (.str (i ++ j)) H
def rAddA (K : PySem.W.Frag) : R2 := fun x y H Q => rI0 (fun i j => .int (i + j)) x y H Q ∨ (rCat x y H Q ∨ (rAddS x y H Q ∨ rCatT K x y H Q))
theorem op_addA : OpR X (binaryOp .Add) (rAddA X.K) := op_add.or (op_cat.or (OpR.or (r := rAddS) op_add_str op_catT))
def rLtA (K : PySem.W.Frag) : R2 := fun x y H Q => rI0 (fun i j => .bl (decide (i < j))) x y H Q ∨ rLtT K x y H Q
theorem op_ltA (hu : X.A.units < cLine) : OpR X (compareOp .Lt) (rLtA X.K) := op_lt.or (op_ltT hu)
theorem lexAt_shift {e r : Nat → Bool} {z : Bool} : ∀ {k i : Nat}, Ob.lexAt e r z (i + 1) k = Ob.lexAt (fun j => e (j + 1)) (fun j => r (j + 1)) z i k
  | 0, _ => rfl
  | k + 1, i => by rw [Ob.lexAt_succ, Ob.lexAt_succ, lexAt_shift (k := k) (i := i + 1)]
theorem lexAt_le : ∀ ns ms : List Int, Ob.lexAt (fun j => decide (ns.getD j 0 = ms.getD j 0)) (fun j => decide (ns.getD j 0 ≤ ms.getD j 0)) (decide (ns.length ≤ ms.length)) 0 (min ns.length ms.length) = !HT.lexLt ms ns
  | [], [] => rfl
  | [], y :: ms => by
    rw [HT.lexLt_cons_nil]
    show decide (0 ≤ (y :: ms).length) = true
    exact decide_eq_true (Nat.zero_le _)
  | x :: ns, [] => by
    rw [HT.lexLt_nil_cons]
    show decide ((x :: ns).length ≤ 0) = false
    exact decide_eq_false (by rw [List.length_cons]; omega)
  | x :: ns, y :: ms => by
    have ih := lexAt_le ns ms
    rw [HT.lexLt_cons, List.length_cons, List.length_cons, Nat.succ_min_succ, Ob.lexAt_succ, lexAt_shift]
    have e1 : ((x :: ns).getD 0 0 = (y :: ms).getD 0 0) = (x = y) := rfl
    by_cases e : x = y
    · rw [if_pos (show decide ((x :: ns).getD 0 0 = (y :: ms).getD 0 0) = true from decide_eq_true e), if_pos e.symm, ← ih]
      have e2 : decide (ns.length + 1 ≤ ms.length + 1) = decide (ns.length ≤ ms.length) := by by_cases h : ns.length ≤ ms.length <;> simp [h]
      rw [e2]
      rfl
    · rw [if_neg (show ¬ decide ((x :: ns).getD 0 0 = (y :: ms).getD 0 0) = true from by rw [decide_eq_true_iff]; exact e), if_neg (fun z => e z.symm)]
      show decide (x ≤ y) = !decide (y < x)
      by_cases h : x ≤ y
      · rw [decide_eq_true h, decide_eq_false (by omega)]; rfl
      · rw [decide_eq_false h, decide_eq_true (by omega)]; rfl
theorem lexAt_ge : ∀ ns ms : List Int, Ob.lexAt (fun j => decide (ns.getD j 0 = ms.getD j 0)) (fun j => decide (ms.getD j 0 ≤ ns.getD j 0)) (decide (ns.length ≥ ms.length)) 0 (min ns.length ms.length) = !HT.lexLt ns ms
  | [], [] => rfl
  | [], y :: ms => by
    rw [HT.lexLt_nil_cons]
    show decide (0 ≥ (y :: ms).length) = false
    exact decide_eq_false (by rw [List.length_cons]; omega)
  | x :: ns, [] => by
    rw [HT.lexLt_cons_nil]
    show decide ((x :: ns).length ≥ 0) = true
    exact decide_eq_true (Nat.zero_le _)
  | x :: ns, y :: ms => by
    have ih := lexAt_ge ns ms
    rw [HT.lexLt_cons, List.length_cons, List.length_cons, Nat.succ_min_succ, Ob.lexAt_succ, lexAt_shift]
    by_cases e : x = y
    · rw [if_pos (show decide ((x :: ns).getD 0 0 = (y :: ms).getD 0 0) = true from decide_eq_true e), if_pos e, ← ih]
      have e2 : decide (ns.length + 1 ≥ ms.length + 1) = decide (ns.length ≥ ms.length) := by by_cases h : ms.length ≤ ns.length <;> simp [h]
      rw [e2]
      rfl
    · rw [if_neg (show ¬ decide ((x :: ns).getD 0 0 = (y :: ms).getD 0 0) = true from by rw [decide_eq_true_iff]; exact e), if_neg e]
      show decide (y ≤ x) = !decide (x < y)
      by_cases h : y ≤ x
      · rw [decide_eq_true h, decide_eq_false (by omega)]; rfl
      · rw [decide_eq_false h, decide_eq_true (by omega)]; rfl
def rGeT (K : PySem.W.Frag) : R2 := fun x y H Q => ∃ (a b : Addr) (ns ms : List Int), x = .ref a ∧ y = .ref b ∧ SqT K H a (ns.map V.int) ∧ SqT K H b (ms.map V.int) ∧ Q (.bl (!HT.lexLt ns ms)) H
theorem op_geT {X : Cx} (hu : X.A.units < cLine) : OpR X (compareOp .GtE) (rGeT X.K) := by
  intro pins s σ H x y v u Q I rx ry h
  obtain ⟨a, b, ns, ms, rfl, rfl, ha, hb, q⟩ := h
  cases rx
  cases ry
  obtain ⟨its, r1, p1, _⟩ := I.tuple ha
  obtain ⟨its2, r2, p2, _⟩ := I.tuple hb
  have i1 : IntsAre its ns := Vals.ints r1
  have i2 : IntsAre its2 ms := Vals.ints r2
  have e1 : its.toArray.size = ns.length := by rw [List.size_toArray]; exact i1.length
  have e2 : its2.toArray.size = ms.length := by rw [List.size_toArray]; exact i2.length
  have at1 : ∀ j (h1 : j < its.toArray.size), ∃ t, its.toArray[j] = .int (ns.getD j 0) t := fun j h1 => PyProof.Rows.IntsAre.int_at i1 _ _ (by simp at h1; simp [h1])
  have at2 : ∀ j (h1 : j < its2.toArray.size), ∃ t, its2.toArray[j] = .int (ms.getD j 0) t := fun j h1 => PyProof.Rows.IntsAre.int_at i2 _ _ (by simp at h1; simp [h1])
  have R := Ob.RcOp.tuples_ge (A := X.A) (s := s) (e := fun j => decide (ns.getD j 0 = ms.getD j 0)) (r := fun j => decide (ms.getD j 0 ≤ ns.getD j 0)) p1 p2 hu (fun j h1 h2 => by
    obtain ⟨t, et⟩ := at1 j h1
    obtain ⟨t', et'⟩ := at2 j h2
    rw [et, et']
    have z : (ns.getD j 0 == ms.getD j 0) = decide (ns.getD j 0 = ms.getD j 0) := by
      by_cases q : ns.getD j 0 = ms.getD j 0
      · rw [decide_eq_true q]; exact beq_iff_eq.mpr q
      · rw [decide_eq_false q]; exact beq_eq_false_iff_ne.mpr q
    rw [← z]
    exact SeqAt.EqAt.int_int _ _ _ _) (fun j h1 h2 _ => by
    obtain ⟨t, et⟩ := at1 j h1
    obtain ⟨t', et'⟩ := at2 j h2
    rw [et, et']
    exact Ob.RcOp.ge_int _ _ _ _)
  rw [e1, e2, lexAt_ge] at R
  have z : wpAny (model X.prog X.w) X.A (compareOp .GtE (.ref a) (.ref b)) (EP X pins σ Q) X.xe s := R X.prog X.w X.xe (EP X pins σ Q) ⟨.bl _, H, I, rfl, q⟩
  exact z
def rLeA (K : PySem.W.Frag) : R2 := fun x y H Q => rI0 (fun i j => .bl (decide (i ≤ j))) x y H Q ∨ rLeT K x y H Q
theorem op_leA (hu : X.A.units < cLine) : OpR X (compareOp .LtE) (rLeA X.K) := op_le.or (op_leT hu)
theorem op_leK {K : PySem.W.Frag} (hK : X.K = K) (hu : X.A.units < cLine) : OpR X (compareOp .LtE) (rLeA K) := hK ▸ op_leA hu
def rGeA (K : PySem.W.Frag) : R2 := fun x y H Q => rI0 (fun i j => .bl (decide (j ≤ i))) x y H Q ∨ rGeT K x y H Q
theorem op_geA (hu : X.A.units < cLine) : OpR X (compareOp .GtE) (rGeA X.K) := op_ge.or (op_geT hu)
theorem op_geK {K : PySem.W.Frag} (hK : X.K = K) (hu : X.A.units < cLine) : OpR X (compareOp .GtE) (rGeA K) := hK ▸ op_geA hu
def rIsN1 : R2 := fun x y H Q => y = .non ∧ Q (.bl (decide (x = .non))) H
def rNotN1 : R2 := fun x y H Q => y = .non ∧ Q (.bl (!decide (x = .non))) H
theorem op_isN1 : OpR X (compareOp .Is) rIsN1 := op_isN
theorem op_notN1 : OpR X (compareOp .IsNot) rNotN1 := op_notN
def iSeq (K : PySem.W.Frag) (tl : TE) : TI := fun σ H R => tl σ H fun x H1 => ∃ a, x = .ref a ∧ (((∃ xs, SqL K H1 a xs) ∧ R (Itl K a) H1) ∨ ((∃ xs, SqT K H1 a xs) ∧ R (Itt K a) H1))
theorem pi_seq {tg l : Expr} {tl : TE} (hl : PE X l tl) : PI X tg l (iSeq X.K tl) := by
  refine ⟨fun pins s σ H R I h => ?_⟩
  refine thn (hl.run pins s σ H _ I h) fun v s1 ⟨x, H1, I1, r1, q1⟩ => ?_
  obtain ⟨a, e, q⟩ := q1
  subst e
  cases r1
  rcases q with ⟨⟨xs, hq⟩, q⟩ | ⟨⟨xs, hq⟩, q⟩
  · obtain ⟨its, rv, p, hz⟩ := I1.list hq
    refine wpAny_pyIter_list p.isList ?_
    refine ⟨s1.heap.objs.size, [s1.heap.objs.size], _, _, H1, rfl, I1.kept (t' := s1.toks) fun b o e => Heap.get?_push_of_some _ e, turn_list a _, ⟨_, Heap.get?_push_size _ rfl, rfl, rfl⟩, fun b hb => ?_, q⟩
    have e : b = s1.heap.objs.size := by simpa using hb
    subst e
    exact I1.fpOk (Nat.le_refl _) (I1.hok.fresh (Nat.le_refl _))
  · obtain ⟨its, rv, p, hz⟩ := I1.tuple hq
    refine wpAny_pyIter_tuple (show s1.heap.IsTuple a its.toArray from p) ?_
    refine ⟨s1.heap.objs.size, [s1.heap.objs.size], _, _, H1, rfl, I1.kept (t' := s1.toks) fun b o e => Heap.get?_push_of_some _ e, turn_tuple a _, ⟨_, Heap.get?_push_size _ rfl, rfl, rfl⟩, fun b hb => ?_, q⟩
    have e : b = s1.heap.objs.size := by simpa using hb
    subst e
    exact I1.fpOk (Nat.le_refl _) (I1.hok.fresh (Nat.le_refl _))
theorem call_isiA : CallR X (.builtin "isinstance") (rIsi X.K) := call_isi
end
/-- an own exception -/
structure ExF (K : PySem.W.Frag) (mg : Str → Option Value) (c : Str) : Prop where
  gl : mg c = some (.ref (He.ga K c))
  ex : PySem.W.excIn K (He.ga K c) He.veBase "ValueError.__new__" = true
  kp : PySem.W.keepIn K (.ref (He.ga K c)) = true
  sb : PySem.W.subIn K (.ref (He.ga K c)) (.type "BaseException") = some true
  ty : PySem.W.typeIn K (.ref (He.ga K c)) = some (.type "type")
/-! ### the rules, the written part named -/
section
variable {X : Cx} {K : PySem.W.Frag} {o e value a b : Expr} {es : List Expr} {f m : Str} {pos pos' tpos apos : Pos} {ta tb tv te : TE} {t : TA} {T name id : String} {r : V → List V → Hp → VK → Prop}
theorem op_addK (hK : X.K = K) : OpR X (binaryOp .Add) (rAddA K) := hK ▸ op_addA
theorem op_ltK (hK : X.K = K) (hu : X.A.units < cLine) : OpR X (compareOp .Lt) (rLtA K) := hK ▸ op_ltA hu
theorem op_eqK (hK : X.K = K) (hu : X.A.units + 64 < cLine) : OpR X (compareOp .Eq) (rEqA K) := hK ▸ op_eqA hu
theorem op_neK (hK : X.K = K) (hu : X.A.units + 64 < cLine) : OpR X (compareOp .NotEq) (rNeA K) := hK ▸ op_neA hu
theorem op_inK (hK : X.K = K) (hu : X.A.units + 65 < cLine) : OpR X (compareOp .In) (rInA K) := hK ▸ op_inA hu
theorem op_notInK (hK : X.K = K) (hu : X.A.units + 65 < cLine) : OpR X (compareOp .NotIn) (rNotInA K) := hK ▸ op_notInA hu
theorem ix_anyK (hK : X.K = K) (hu : X.A.units + 1 < cLine) : IxR X (rSub K) := hK ▸ ix_any hu
theorem sl_anyK (hK : X.K = K) : SlR X (rSli K) := hK ▸ sl_any
theorem call_lenK (hK : X.K = K) : CallR X (.builtin "len") (rLenA K) := hK ▸ call_lenA
theorem call_isiKK (hK : X.K = K) : CallR X (.builtin "isinstance") (rIsi K) := hK ▸ call_isiA
def rListOf (K : PySem.W.Frag) : List V → Hp → VK → Prop := fun xs H Q => ∃ p ys, xs = [.ref p] ∧ (SqL K H p ys ∨ SqT K H p ys) ∧ ∀ l, H l = none → Q (.ref l) (upd H l (.lst ys))
theorem call_listK (hK : X.K = K) : CallR X (.type "list") (rListOf K) := hK ▸ call_list_of
def rTupleOf (K : PySem.W.Frag) : List V → Hp → VK → Prop := fun xs H Q => ∃ p ys, xs = [.ref p] ∧ ((SqL K H p ys ∧ ∀ l, H l = none → Q (.ref l) (upd H l (.tup ys))) ∨ (SqT K H p ys ∧ Q (.ref p) H))
theorem call_tupleK (hK : X.K = K) : CallR X (.type "tuple") (rTupleOf K) := hK ▸ call_tuple_of
theorem pe_fldK (hK : X.K = K) (he : PE X e ta) (hb : attributeBase e f X.env (eval e X.env) = eval e X.env) : PE X (.Attribute e f pos) (tFld K ta f) := hK ▸ pe_fld he hb
theorem ps_fldK (hK : X.K = K) (ha : PE X o ta) (hv : PE X value tv) (hs : swapsWith value (some (.Attribute o f pos')) pos.line X.env = pure false) : PS X (.Assign [.Attribute o f pos'] value pos) (sFld K ta tv f) := hK ▸ ps_fld ha hv hs
theorem ps_fldaugK {op : Operator} {rd : V → V → Hp → VK → Prop} (hK : X.K = K) (ha : PE X o ta) (hv : PE X value tv) (hop : InOp X op rd) : PS X (.AugAssign (.Attribute o f tpos) op value pos) (sFldAug K ta tv rd f) := hK ▸ ps_fldaug ha hv hop
theorem pi_seqK {tg l : Expr} {tl : TE} (hK : X.K = K) (hl : PE X l tl) : PI X tg l (iSeq K tl) := hK ▸ pi_seq hl
theorem pg_tupK {es : List Expr} {k : Nat} {t : TGs} {n : Nat} (hK : X.K = K) (hc : X.calm = true) (h : PGs X es t) (hn : (assignEach es X.env).length = n) (hst : (assignEach es X.env).findIdx? (·.1) = none) : PG X (.Tuple es k pos) (gTup K n t) := hK ▸ pg_tup hc h hn hst
theorem pe_bm0K {cpos : Pos} (hK : X.K = K) (pa : PlainAttrs T) (slot : Slot T name id) (hty : typeOf (.builtin id) = pure (.type "method_descriptor")) (hm : MtR X id r) (ho : PE X o ta)
    (hbase : attributeBase o name X.env (eval o X.env) = eval o X.env := by rfl) (hline : (apos.endLine == cpos.line) = true := by rfl) : PE X (.Call (.Attribute o name apos) [] [] cpos) (tBM0 K T r ta) := hK ▸ pe_bm0 pa slot hty hm ho hbase hline
theorem pe_bmK {cpos : Pos} (hK : X.K = K) (pa : PlainAttrs T) (slot : Slot T name id) (hty : typeOf (.builtin id) = pure (.type "method_descriptor")) (hm : MtR X id r) (ho : PE X o ta) (ha : PA X (e :: es) t)
    (hbase : attributeBase o name X.env (eval o X.env) = eval o X.env := by rfl)
    (hfew : ((backTo cpos (starEach (e :: es) X.env)).all (fun x => !x.1) && (backToKw cpos (keywordEach [] X.env)).all (fun x => x.1.isSome)
      && decide ((e :: es).length + ([] : List Keyword).length + (if ([] : List Keyword).isEmpty then 0 else 1) < 30)) = true := by rfl)
    (hline : (apos.endLine == cpos.line) = true := by rfl) (hs : starEach (e :: es) X.env = (false, eval e X.env) :: starEach es X.env := by rfl) (hplain : (backTo cpos (starEach es X.env)).any (·.1) = false := by rfl) :
    PE X (.Call (.Attribute o name apos) (e :: es) [] cpos) (tBM K T r ta t) := hK ▸ pe_bm pa slot hty hm ho ha hbase hfew hline hs hplain
end
section
variable {X : Cx} {K : PySem.W.Frag} {k j : Nat} {C m x : Str} {ps : List Str} {sp : Sp} {W : WX} {p pos apos : Pos} {e o : Expr} {es : List Expr} {ta : TE} {t : TA}
theorem pmeK {pl : Sem Bool} (hK : X.K = K) (G : MF X.K C m ps) (c : Cls X.K (He.ga X.K C)) (F : OkM X.prog X.w X.K X.mg X.base k C m ps sp) (hr : Room j X.A) (tk : Takes X W) (he : PE X o ta) (ha : PA X (e :: es) t) (hj : k ≤ j := by omega)
    (hst : starEach (e :: es) X.env = (false, eval e X.env) :: starEach es X.env := by rfl) (hpl : (backTo pos (starEach es X.env)).any (·.1) = false := by rfl)
    (ht : eval (.Call (.Attribute o m apos) (e :: es) [] pos) X.env = (do
      let ov ← eval o X.env
      standAt apos.atName
      let (f, first) ← holding [ov] (getMethod ov m pl)
      callWith pos f first (backTo pos (starEach (e :: es) X.env)) (backToKw pos (keywordEach [] X.env))) := by rfl) :
    PE X (.Call (.Attribute o m apos) (e :: es) [] pos) (tMethS (He.ga K C) m sp (WE W) ta t) := hK ▸ pme (pl := pl) G c F hr tk he ha hj hst hpl ht
theorem pme0K {pl : Sem Bool} (hK : X.K = K) (G : MF X.K C m ps) (c : Cls X.K (He.ga X.K C)) (F : OkM X.prog X.w X.K X.mg X.base k C m ps sp) (hr : Room j X.A) (tk : Takes X W) (he : PE X o ta) (hj : k ≤ j := by omega)
    (ht : eval (.Call (.Attribute o m apos) [] [] pos) X.env = (do
      let ov ← eval o X.env
      standAt apos.atName
      let (f, first) ← holding [ov] (getMethod ov m pl)
      callWith pos f first (backTo pos (starEach [] X.env)) (backToKw pos (keywordEach [] X.env))) := by rfl) :
    PE X (.Call (.Attribute o m apos) [] [] pos) (tMethS (He.ga K C) m sp (WE W) ta tNil) := hK ▸ pme0 (pl := pl) G c F hr tk he hj ht
theorem pmkK (hK : X.K = K) (G : KF X.K X.mg C ps) (F : OkM X.prog X.w X.K X.mg X.base k C "__init__" ps sp) (hr : Room j X.A) (tk : Takes X W) (ha : PA X (e :: es) t) (hj : k + 1 ≤ j := by omega) (hg : Gl X C := by rfl)
    (hdb : (C == ("__debug__" : Str)) = false := by decide) (he : starEach (e :: es) X.env = (false, eval e X.env) :: starEach es X.env := by rfl) (hpl : (backTo pos (starEach es X.env)).any (·.1) = false := by rfl) :
    PE X (.Call (.Name C p) (e :: es) [] pos) (tMakeS (He.ga K C) sp (WE W) t) := hK ▸ pmk G F hr tk ha hj hg hdb he hpl
theorem pmk0K (hK : X.K = K) (G : KF X.K X.mg C ps) (F : OkM X.prog X.w X.K X.mg X.base k C "__init__" ps sp) (hr : Room j X.A) (tk : Takes X W) (hj : k + 1 ≤ j := by omega) (hg : Gl X C := by rfl)
    (hdb : (C == ("__debug__" : Str)) = false := by decide) : PE X (.Call (.Name C p) [] [] pos) (tMakeS (He.ga K C) sp (WE W) tNil) := hK ▸ pmk0 G F hr tk hj hg hdb
end
/-! ### isinstance of an own instance -/
structure IsC (K : PySem.W.Frag) (C : Str) : Prop where
  ha : PySem.W.findIn K (.ref (He.ga K C)) "__class__" = some (some (.builtin "object.__class__"))
  hn : PySem.W.specialIn K (.builtin "object.__class__") "__get__" = some (some (.builtin "getset_descriptor.__get__"))
  htk : PySem.W.takesIn K (.builtin "object.__class__") = some true
  hm : PySem.W.mroIn K (He.ga K C) (.type "object") = some true
def isCB (K : PySem.W.Frag) (C : Str) : Bool := He.eqO (PySem.W.findIn K (.ref (He.ga K C)) "__class__") (some (some (.builtin "object.__class__"))) && (He.eqO (PySem.W.specialIn K (.builtin "object.__class__") "__get__") (some (some (.builtin "getset_descriptor.__get__"))) &&
  (decide (PySem.W.takesIn K (.builtin "object.__class__") = some true) && decide (PySem.W.mroIn K (He.ga K C) (.type "object") = some true)))
theorem isC_of {K : PySem.W.Frag} {C : Str} (h : isCB K C = true) : IsC K C := by
  unfold isCB at h
  rw [Bool.and_eq_true, Bool.and_eq_true, Bool.and_eq_true] at h
  exact ⟨He.eqO_ok h.1, He.eqO_ok h.2.1, of_decide_eq_true h.2.2.1, of_decide_eq_true h.2.2.2⟩
def kitB (K : PySem.W.Frag) (C D : Str) (b : Bool) : Bool := decide (PySem.W.kitOne K (.ref (He.ga K C)) (.ref (He.ga K D)) = some b)
theorem kit_of' {K : PySem.W.Frag} {C D : Str} {b : Bool} (h : kitB K C D b = true) : PySem.W.kitOne K (.ref (He.ga K C)) (.ref (He.ga K D)) = some b := of_decide_eq_true h
/-- an instance and its class -/
theorem go_isi_ins {K : PySem.W.Frag} {H : Hp} {Q : VK} {a dx : Addr} {C D : Str} {fs : List (Str × V)} {b : Bool} (h : H a = some (.ins (He.ga K C) dx fs)) (c : Cls K (He.ga K C)) (i : IsC K C) (k : PySem.W.kitOne K (.ref (He.ga K C)) (.ref (He.ga K D)) = some b) (q : Q (.bl b) H) : rIsi K [.ref a, .ref (He.ga K D)] H Q :=
  ⟨_, _, _, _, b, rfl, .own _, .base (.ins h c i.ha i.hn i.htk i.hm), k, q⟩
/-! ### one of two promises -/
def tAlt (t u : TE) : TE := fun σ H Q => t σ H Q ∨ u σ H Q
theorem pe_alt {X : Cx} {e : Expr} {t u : TE} (h : PE X e t) (k : PE X e u) : PE X e (tAlt t u) := ⟨fun pins s σ H Q I q => by
  rcases q with q | q
  · exact h.run pins s σ H Q I q
  · exact k.run pins s σ H Q I q⟩
theorem go_alt1 {t u : TE} {σ : L2.St} {H : Hp} {Q : VK} (k : t σ H Q) : tAlt t u σ H Q := .inl k
theorem go_alt2 {t u : TE} {σ : L2.St} {H : Hp} {Q : VK} (k : u σ H Q) : tAlt t u σ H Q := .inr k
def spOr (a b : Sp) : Sp := fun vs H Q E => a vs H Q E ∨ b vs H Q E
theorem fn_or {P : Program} {w : World} {K : PySem.W.Frag} {mg : Str → Option Value} {base : Heap} {CX : CXT} {k : Nat} {f : Addr} {fd : FuncData} {ps : List Str} {a b : Sp} (F : FnOk P w K mg base CX k f fd ps a) (G : FnOk P w K mg base CX k f fd ps b) : FnOk P w K mg base CX k f fd ps (spOr a b) :=
  ⟨fun vs H Q E h => by
    rcases h with h | h
    · exact F.len vs H Q E h
    · exact G.len vs H Q E h, fun A outer s H args us vs Q E hr he hb hv hs => by
    rcases hs with hs | hs
    · exact F.run A outer s H args us vs Q E hr he hb hv hs
    · exact G.run A outer s H args us vs Q E hr he hb hv hs⟩
end Mo
namespace Mo
open PySem PySem.Spec PyProof.Rows L2
/-! ### steps through a reading -/
section
variable {K : PySem.W.Frag} {σ σ' : St} {H : Hp} {Q : VK} {ta tb te tc : TE} {t u c : TT} {tA tB1 : TA} {D : Ends} {s1 s2 : TS} {v x y : V} {i : Nat} {r : R2} {g : TG}
theorem go_start {f : TS} (h : σ = σ') (k : f D σ' H) : f D σ H := by
  rw [h]
  exact k
theorem go_var (h : σ[i]? = some (some v)) (k : Q v H) : tVar i σ H Q := ⟨v, h, k⟩
theorem go_c (k : Q v H) : tC v σ H Q := k
theorem go_op (k : ta σ H fun x H1 => tb σ H1 fun y H2 => r x y H2 Q) : tOp r ta tb σ H Q := k
theorem go_un {r : V → Hp → VK → Prop} (k : ta σ H fun x H1 => r x H1 Q) : tUn r ta σ H Q := k
theorem go_cb {r : List V → Hp → VK → Prop} (k : tA σ H fun vs H1 => r vs H1 Q) : tCB r tA σ H Q := k
theorem go_nil {Q : List V → Hp → Prop} (k : Q [] H) : tNil σ H Q := k
theorem go_cons {Q : List V → Hp → Prop} (k : ta σ H fun x H1 => tA σ H1 fun xs H2 => Q (x :: xs) H2) : tCons ta tA σ H Q := k
theorem go_tup (k : tA σ H fun xs H1 => xs.length ≤ sizeLine ∧ ∀ p, H1 p = none → Q (.ref p) (upd H1 p (.tup xs))) : tTup tA σ H Q := k
theorem go_lst (k : tA σ H fun xs H1 => xs.length ≤ sizeLine ∧ ∀ p, H1 p = none → Q (.ref p) (upd H1 p (.lst xs))) : tLst tA σ H Q := k
theorem go_test {Q : Bool → Hp → Prop} (k : te σ H fun x H1 => ∃ b, x = .bl b ∧ Q b H1) : tTest te σ H Q := k
theorem go_tb {Q : Bool → Hp → Prop} (k : te σ H fun x H1 => ∃ b, x = .bl b ∧ Q b H1) : tB te σ H Q := k
theorem go_bl {b : Bool} {Q : Bool → Prop} (k : Q b) : ∃ d, V.bl b = V.bl d ∧ Q d := ⟨b, rfl, k⟩
theorem go_and {Q : Bool → Hp → Prop} (k : t σ H fun d H1 => if d = true then u σ H1 Q else Q false H1) : tAnd t u σ H Q := k
theorem go_or {Q : Bool → Hp → Prop} (k : t σ H fun d H1 => if d = true then Q true H1 else u σ H1 Q) : tOr t u σ H Q := k
theorem go_not {Q : Bool → Hp → Prop} (k : t σ H fun d H1 => Q (!d) H1) : tNot t σ H Q := k
theorem go_andV (k : ta σ H fun x H1 => ∃ d, x = .bl d ∧ if d = true then tb σ H1 Q else Q (.bl false) H1) : tAndV ta tb σ H Q := k
theorem go_orV (k : ta σ H fun x H1 => ∃ d, x = .bl d ∧ if d = true then Q (.bl true) H1 else tb σ H1 Q) : tOrV ta tb σ H Q := k
theorem go_notV (k : ta σ H fun x H1 => ∃ d, x = .bl d ∧ Q (.bl (!d)) H1) : tNotV ta σ H Q := k
theorem go_ifE (k : c σ H fun d H1 => if d = true then ta σ H1 Q else tb σ H1 Q) : tIf c ta tb σ H Q := k
theorem go_seq (k : s1 { D with nx := s2 D } σ H) : tSeq s1 s2 D σ H := k
theorem go_next (k : D.nx σ H) : tNext D σ H := k
theorem go_brk (k : D.bk σ H) : tBreak D σ H := k
theorem go_cont (k : D.ct σ H) : tCont D σ H := k
theorem go_ifS (k : c σ H fun d H1 => if d = true then s1 D σ H1 else s2 D σ H1) : tIfS c s1 s2 D σ H := k
theorem go_asg (k : te σ H fun x H1 => g x σ H1 D.nx) : tAsg te g D σ H := k
theorem go_gn {Q : St → Hp → Prop} (k : Q (σ.set i (some v)) H) : gName i v σ H Q := k
theorem go_gsub {st : TSet} {Q : St → Hp → Prop} (k : ta σ H fun o H1 => tb σ H1 fun j H2 => st o j v H2 fun H3 => Q σ H3) : gSub ta tb st v σ H Q := k
theorem go_gcons {tg : TG} {tgs : TGs} {vs : List V} {Q : St → Hp → Prop} (k : tg v σ H fun σ1 H1 => tgs vs σ1 H1 Q) : gCons tg tgs (v :: vs) σ H Q := ⟨v, vs, rfl, k⟩
theorem go_gnil {Q : St → Hp → Prop} (k : Q σ H) : gNil [] σ H Q := ⟨rfl, k⟩
theorem go_gtup {n : Nat} {tgs : TGs} {a : Addr} {xs : List V} {Q : St → Hp → Prop} (h : SqT K H a xs) (hn : xs.length = n) (k : tgs xs σ H Q) : gTup K n tgs (.ref a) σ H Q := ⟨a, xs, rfl, h, hn, k⟩
theorem go_ret (k : te σ H D.rt) : tRet te D σ H := k
theorem go_drop (k : te σ H fun _ H1 => D.nx σ H1) : tDrop te D σ H := k
theorem go_fld {f : Str} (k : ta σ H fun x H1 => ∃ a C dx fs v, x = .ref a ∧ H1 a = some (.ins C dx fs) ∧ Cls K C ∧ NoAttr K C f ∧ fs.lookup f = some v ∧ Q v H1) : tFld K ta f σ H Q := k
theorem go_fldL {a C dx : Addr} {fs : List (Str × V)} {f : Str} {v : V} {Q : V → Prop} (h : H a = some (.ins C dx fs)) (hc : Cls K C) (hn : NoAttr K C f) (hl : fs.lookup f = some v) (k : Q v) :
    ∃ b C' dx' fs' v', V.ref a = .ref b ∧ H b = some (.ins C' dx' fs') ∧ Cls K C' ∧ NoAttr K C' f ∧ fs'.lookup f = some v' ∧ Q v' := ⟨a, C, dx, fs, v, rfl, h, hc, hn, hl, k⟩
theorem go_sfld {f : Str} (k : tb σ H fun y H1 => ta σ H1 fun x H2 => ∃ a C dx fs, x = .ref a ∧ H2 a = some (.ins C dx fs) ∧ Cls K C ∧ NoAttr K C f ∧ fs.length < 1000 ∧ D.nx σ (upd H2 a (.ins C dx (putF f y fs)))) : sFld K ta tb f D σ H := k
theorem go_sfldL {a C dx : Addr} {fs : List (Str × V)} {f : Str} {y : V} {Q : Hp → Prop} (h : H a = some (.ins C dx fs)) (hc : Cls K C) (hn : NoAttr K C f) (hl : Nat.blt fs.length 1000 = true) (k : Q (upd H a (.ins C dx (putF f y fs)))) :
    ∃ b C' dx' fs', V.ref a = .ref b ∧ H b = some (.ins C' dx' fs') ∧ Cls K C' ∧ NoAttr K C' f ∧ fs'.length < 1000 ∧ Q (upd H b (.ins C' dx' (putF f y fs'))) := ⟨a, C, dx, fs, rfl, h, hc, hn, Nat.blt_eq.mp hl, k⟩
theorem go_fldaug {rd : V → V → Hp → VK → Prop} {f : Str} (k : ta σ H fun x H1 => ∃ a C dx fs v, x = .ref a ∧ H1 a = some (.ins C dx fs) ∧ Cls K C ∧ NoAttr K C f ∧ fs.lookup f = some v ∧ tb σ H1 fun y H2 => rd v y H2 fun z H3 => ∃ dx' fs', H3 a = some (.ins C dx' fs') ∧ fs'.length < 1000 ∧ D.nx σ (upd H3 a (.ins C dx' (putF f z fs')))) : sFldAug K ta tb rd f D σ H := k
theorem go_fldaugL {a C dx : Addr} {fs : List (Str × V)} {f : Str} {v : V} {Q : Addr → Addr → V → Prop} (h : H a = some (.ins C dx fs)) (hc : Cls K C) (hn : NoAttr K C f) (hl : fs.lookup f = some v) (k : Q a C v) :
    ∃ b C' dx' fs' v', V.ref a = .ref b ∧ H b = some (.ins C' dx' fs') ∧ Cls K C' ∧ NoAttr K C' f ∧ fs'.lookup f = some v' ∧ Q b C' v' := ⟨a, C, dx, fs, v, rfl, h, hc, hn, hl, k⟩
theorem go_addR {a b : Int} (k : Q (.int (a + b)) H) : rAdd (.int a) (.int b) H Q := ⟨a, b, rfl, rfl, k⟩
theorem go_subR {a b : Int} (k : Q (.int (a - b)) H) : L2.rSub (.int a) (.int b) H Q := ⟨a, b, rfl, rfl, k⟩
theorem go_putL {a C dx : Addr} {fs : List (Str × V)} {f : Str} {z : V} {R : Hp → Prop} (h : H a = some (.ins C dx fs)) (hl : Nat.blt fs.length 1000 = true) (k : R (upd H a (.ins C dx (putF f z fs)))) :
    ∃ dx' fs', H a = some (.ins C dx' fs') ∧ fs'.length < 1000 ∧ R (upd H a (.ins C dx' (putF f z fs'))) := ⟨dx, fs, h, Nat.blt_eq.mp hl, k⟩
theorem go_call {sp : Sp} {E : St → XK} (k : tA σ H fun vs H1 => sp vs H1 Q (E σ)) : tCallS sp E tA σ H Q := k
theorem go_meth {C : Addr} {m : Str} {sp : Sp} {E : St → XK} (k : ta σ H fun x H1 => ∃ a dx fs, x = .ref a ∧ H1 a = some (.ins C dx fs) ∧ fs.lookup m = none ∧ tA σ H1 fun vs H2 => sp (x :: vs) H2 Q (E σ)) : tMethS C m sp E ta tA σ H Q := k
theorem go_methL {a C dx : Addr} {fs : List (Str × V)} {m : Str} {R : Prop} (h : H a = some (.ins C dx fs)) (hl : fs.lookup m = none) (k : R) :
    ∃ b dx' fs', V.ref a = .ref b ∧ H b = some (.ins C dx' fs') ∧ fs'.lookup m = none ∧ R := ⟨a, dx, fs, rfl, h, hl, k⟩
theorem go_make {C : Addr} {sp : Sp} {E : St → XK} (k : tA σ H fun vs H1 => ∀ x dx, H1 x = none → H1 dx = none → dx ≠ x → sp (.ref x :: vs) (upd (upd H1 dx (.own x)) x (.ins C dx [])) (fun v H2 => v = .non ∧ Q (.ref x) H2) (E σ)) : tMakeS C sp E tA σ H Q := k
theorem go_bm0 {T : String} {r : V → List V → Hp → VK → Prop} (k : ta σ H fun x H1 => tyV K T x H1 ∧ r x [] H1 Q) : tBM0 K T r ta σ H Q := k
theorem go_bm {T : String} {r : V → List V → Hp → VK → Prop} (k : ta σ H fun x H1 => tyV K T x H1 ∧ tA σ H1 fun xs H2 => r x xs H2 Q) : tBM K T r ta tA σ H Q := k
theorem go_sl {r : V → Option Int → Option Int → Hp → VK → Prop} {tl th : TO} (k : te σ H fun x H1 => tl σ H1 fun l H2 => th σ H2 fun u H3 => r x l u H3 Q) : tSl r te tl th σ H Q := k
theorem go_nopart {Q : Option Int → Hp → Prop} (k : Q none H) : tNoPart σ H Q := k
theorem go_part {Q : Option Int → Hp → Prop} (k : te σ H fun x H1 => ∃ i, x = .int i ∧ Q (some i) H1) : tPart te σ H Q := k
theorem go_int {j : Int} {Q : Int → Prop} (k : Q j) : ∃ i, V.int j = .int i ∧ Q i := ⟨j, rfl, k⟩
theorem go_aug {ti : TIp} (h : σ[i]? = some (some x)) (k : te σ H fun y H1 => ti x y H1 fun z H2 => D.nx (σ.set i (some z)) H2) : tAug i te ti D σ H := ⟨x, h, k⟩
theorem go_ipI {f : Int → Int → Int} {a b : Int} (k : Q (.int (f a b)) H) : ipI f (.int a) (.int b) H Q := ⟨a, b, rfl, rfl, k⟩
/-! #### operations on values -/
theorem go_I0 {f : Int → Int → V} {a b : Int} (k : Q (f a b) H) : rI0 f (.int a) (.int b) H Q := ⟨a, b, rfl, rfl, k⟩
theorem go_I {C : Int → Int → Prop} {f : Int → Int → V} {a b : Int} (hc : C a b) (k : Q (f a b) H) : rI C f (.int a) (.int b) H Q := ⟨a, b, rfl, rfl, hc, k⟩
theorem go_rU {f : Int → V} {a : Int} (k : Q (f a) H) : rU f (.int a) H Q := ⟨a, rfl, k⟩
theorem dec_i {a b : Int} : decide (V.int a = V.int b) = decide (a = b) := by simp
theorem dec_s {a b : Str} : decide (V.str a = V.str b) = decide (a = b) := by simp
theorem dec_b {a b : Bool} : decide (V.bl a = V.bl b) = decide (a = b) := by simp
theorem go_eqi {a b : Int} (k : Q (.bl (decide (a = b))) H) : rEqA K (.int a) (.int b) H Q := .inl ⟨rfl, by rw [dec_i]; exact k⟩
theorem go_nei {a b : Int} (k : Q (.bl (!decide (a = b))) H) : rNeA K (.int a) (.int b) H Q := .inl ⟨rfl, by rw [dec_i]; exact k⟩
theorem go_eqb {a b : Bool} (k : Q (.bl (decide (a = b))) H) : rEqA K (.bl a) (.bl b) H Q := .inl ⟨rfl, by rw [dec_b]; exact k⟩
theorem go_neb {a b : Bool} (k : Q (.bl (!decide (a = b))) H) : rNeA K (.bl a) (.bl b) H Q := .inl ⟨rfl, by rw [dec_b]; exact k⟩
theorem go_eqsT {a b : Str} (h : a = b) (k : Q (.bl true) H) : rEqA K (.str a) (.str b) H Q := .inl ⟨rfl, by rw [dec_s, decide_eq_true h]; exact k⟩
theorem go_eqsF {a b : Str} (h : ¬ a = b) (k : Q (.bl false) H) : rEqA K (.str a) (.str b) H Q := .inl ⟨rfl, by rw [dec_s, decide_eq_false h]; exact k⟩
theorem go_eqs {a b : Str} (k : Q (.bl (decide (a = b))) H) : rEqA K (.str a) (.str b) H Q := .inl ⟨rfl, by rw [dec_s]; exact k⟩
theorem go_nes {a b : Str} (k : Q (.bl (!decide (a = b))) H) : rNeA K (.str a) (.str b) H Q := .inl ⟨rfl, by rw [dec_s]; exact k⟩
theorem go_eqD {a b : V} {d e : PyData} (ha : Dp K H a d) (hb : Dp K H b e) (sa : SeqAt.shaped d = true) (sb : SeqAt.shaped e = true) (k : Q (.bl (PyData.eqv d e)) H) : rEqA K a b H Q := .inr (.inl ⟨d, e, ha, hb, sa, sb, k⟩)
theorem go_neD {a b : V} {d e : PyData} (ha : Dp K H a d) (hb : Dp K H b e) (sa : SeqAt.shaped d = true) (sb : SeqAt.shaped e = true) (k : Q (.bl (!PyData.eqv d e)) H) : rNeA K a b H Q := .inr (.inl ⟨d, e, ha, hb, sa, sb, k⟩)
theorem go_neV {a b : Addr} {ks ls : List (Key × V)} (n : Nat) (hn : n ≤ 60) (ha : H a = some (.dK ks)) (hb : H b = some (.dK ls)) (hl : ks.length = ls.length) (hp : ∀ p ∈ ks, ∃ u, valV ls p.1 = some u ∧ EqV K H n p.2 u) (k : Q (.bl false) H) : rNeA K (.ref a) (.ref b) H Q := .inr (.inr ⟨n, a, b, ks, ls, hn, rfl, rfl, ha, hb, hl, hp, k⟩)
theorem go_isN (k : Q (.bl (decide (x = .non))) H) : rIsN1 x .non H Q := ⟨rfl, k⟩
theorem go_notN (k : Q (.bl (!decide (x = .non))) H) : rNotN1 x .non H Q := ⟨rfl, k⟩
theorem go_isN_t (k : Q (.bl true) H) : rIsN1 .non .non H Q := ⟨rfl, k⟩
theorem go_notN_t (k : Q (.bl false) H) : rNotN1 .non .non H Q := ⟨rfl, k⟩
theorem go_isN_r {a : Addr} (k : Q (.bl false) H) : rIsN1 (.ref a) .non H Q := ⟨rfl, k⟩
theorem go_notN_r {a : Addr} (k : Q (.bl true) H) : rNotN1 (.ref a) .non H Q := ⟨rfl, k⟩
theorem go_isN_i {a : Int} (k : Q (.bl false) H) : rIsN1 (.int a) .non H Q := ⟨rfl, k⟩
theorem go_notN_i {a : Int} (k : Q (.bl true) H) : rNotN1 (.int a) .non H Q := ⟨rfl, k⟩
theorem go_addI {a b : Int} (k : Q (.int (a + b)) H) : rAddA K (.int a) (.int b) H Q := .inl ⟨a, b, rfl, rfl, k⟩
theorem go_addS {a b : Str} (h : a.length + b.length ≤ sizeLine) (k : Q (.str (a ++ b)) H) : rAddA K (.str a) (.str b) H Q := .inr (.inr (.inl ⟨a, b, rfl, rfl, h, k⟩))
theorem go_addL {a b : Addr} {xs ys : List V} (ha : H a = some (.lst xs)) (hb : H b = some (.lst ys)) (hl : xs.length + ys.length ≤ sizeLine) (k : ∀ p, H p = none → Q (.ref p) (upd H p (.lst (xs ++ ys)))) : rAddA K (.ref a) (.ref b) H Q :=
  .inr (.inl ⟨a, b, xs, ys, rfl, rfl, ha, hb, hl, k⟩)
theorem go_ltI {a b : Int} (k : Q (.bl (decide (a < b))) H) : rLtA K (.int a) (.int b) H Q := .inl ⟨a, b, rfl, rfl, k⟩
theorem go_ltT {a b : Addr} {ns ms : List Int} (ha : SqT K H a (ns.map V.int)) (hb : SqT K H b (ms.map V.int)) (k : Q (.bl (HT.lexLt ns ms)) H) : rLtA K (.ref a) (.ref b) H Q := .inr ⟨a, b, ns, ms, rfl, rfl, ha, hb, k⟩
/-- truth of a value -/
theorem go_truB {b : Bool} {Q : Bool → Prop} (k : Q b) : ∃ d, TruV K (.bl b) H d ∧ Q d := ⟨b, rfl, k⟩
theorem go_truN {Q : Bool → Prop} (k : Q false) : ∃ d, TruV K .non H d ∧ Q d := ⟨false, rfl, k⟩
theorem go_isi {x c : V} {t u : Value} {b : Bool} (hc : ClsV c u) (ht : TyX K H x t) (hk : PySem.W.kitOne K t u = some b) (k : Q (.bl b) H) : rIsi K [x, c] H Q := ⟨x, c, t, u, b, rfl, hc, ht, hk, k⟩
theorem go_isi_ii {r1 : Int} (k : Q (.bl true) H) : rIsi K [.int r1, .ty "int"] H Q := go_isi (.ty _) (.base (.int _)) (kit_ty (by decide +kernel)) k
theorem go_isi_ib {r1 : Int} (k : Q (.bl false) H) : rIsi K [.int r1, .ty "bool"] H Q := go_isi (.ty _) (.base (.int _)) (kit_ty (by decide +kernel)) k
theorem go_isi_is {r1 : Int} (k : Q (.bl false) H) : rIsi K [.int r1, .ty "str"] H Q := go_isi (.ty _) (.base (.int _)) (kit_ty (by decide +kernel)) k
theorem go_isi_ss {z : Str} (k : Q (.bl true) H) : rIsi K [.str z, .ty "str"] H Q := go_isi (.ty _) (.base (.str _)) (kit_ty (by decide +kernel)) k
theorem go_isi_si {z : Str} (k : Q (.bl false) H) : rIsi K [.str z, .ty "int"] H Q := go_isi (.ty _) (.base (.str _)) (kit_ty (by decide +kernel)) k
theorem go_isi_bi {z : Bool} (k : Q (.bl true) H) : rIsi K [.bl z, .ty "int"] H Q := go_isi (.ty _) (.base (.bl _)) (kit_ty (by decide +kernel)) k
theorem go_isi_bb {z : Bool} (k : Q (.bl true) H) : rIsi K [.bl z, .ty "bool"] H Q := go_isi (.ty _) (.base (.bl _)) (kit_ty (by decide +kernel)) k
theorem go_isi_ni (k : Q (.bl false) H) : rIsi K [.non, .ty "int"] H Q := go_isi (.ty _) (.base .non) (kit_ty (by decide +kernel)) k
theorem go_pow15 (k : Q (.int 1000000000000000) H) : rI CPow (fun i j => .int (i ^ j.toNat)) (.int 10) (.int 15) H Q := ⟨10, 15, rfl, rfl, ⟨by decide, by decide, by decide⟩, k⟩
theorem go_pow12 (k : Q (.int 1000000000000) H) : rI CPow (fun i j => .int (i ^ j.toNat)) (.int 10) (.int 12) H Q := ⟨10, 12, rfl, rfl, ⟨by decide, by decide, by decide⟩, k⟩
theorem go_pow6 (k : Q (.int 1000000) H) : rI CPow (fun i j => .int (i ^ j.toNat)) (.int 10) (.int 6) H Q := ⟨10, 6, rfl, rfl, ⟨by decide, by decide, by decide⟩, k⟩
theorem go_abs {r1 : Int} {Q1 : Int → Prop} (k : Q1 r1) : ∃ i, [V.int r1] = [V.int i] ∧ Q1 i := ⟨r1, rfl, k⟩
theorem go_max {r1 r2 : Int} {Q1 : Int → Int → Prop} (k : Q1 r1 r2) : ∃ i j, [V.int r1, V.int r2] = [V.int i, V.int j] ∧ Q1 i j := ⟨r1, r2, rfl, k⟩
theorem go_listL {p : Addr} {xs : List V} (h : SqL K H p xs) (k : ∀ l, H l = none → Q (.ref l) (upd H l (.lst xs))) : rListOf K [.ref p] H Q := ⟨p, xs, rfl, .inl h, k⟩
theorem go_listT {p : Addr} {xs : List V} (h : SqT K H p xs) (k : ∀ l, H l = none → Q (.ref l) (upd H l (.lst xs))) : rListOf K [.ref p] H Q := ⟨p, xs, rfl, .inr h, k⟩
theorem go_intI {a : Int} {Q1 : Int → Prop} {Q2 : Bool → Prop} (k : Q1 a) : (∃ i, [V.int a] = [V.int i] ∧ Q1 i) ∨ (∃ d, [V.int a] = [V.bl d] ∧ Q2 d) := .inl ⟨a, rfl, k⟩
theorem go_intB {b : Bool} {Q1 : Int → Prop} {Q2 : Bool → Prop} (k : Q2 b) : (∃ i, [V.bl b] = [V.int i] ∧ Q1 i) ∨ (∃ d, [V.bl b] = [V.bl d] ∧ Q2 d) := .inr ⟨b, rfl, k⟩
theorem go_subL {p : Addr} {xs : List V} {j : Int} {v : V} (h : SqL K H p xs) (e : atI xs j = some v) (k : Q v H) : rSub K (.ref p) (.int j) H Q := .inl (.inl ⟨p, xs, j, v, rfl, rfl, h, e, k⟩)
theorem go_subT {p : Addr} {xs : List V} {j : Int} {v : V} (h : SqT K H p xs) (e : atI xs j = some v) (k : Q v H) : rSub K (.ref p) (.int j) H Q := .inl (.inr ⟨p, xs, j, v, rfl, rfl, h, e, k⟩)
theorem go_subS {z : Str} {j : Int} {c : Nat} (h : z.length ≤ sizeLine) (e : atI z.cps.toList j = some c) (k : Q (.str ⟨#[c]⟩) H) : rSub K (.str z) (.int j) H Q := .inr (.inl ⟨z, j, c, rfl, rfl, h, e, k⟩)
theorem go_subD {p : Addr} {v : V} (g : DGet H p y (some v)) (k : Q v H) : rSub K (.ref p) y H Q := .inr (.inr ⟨p, v, rfl, g, k⟩)
theorem go_subK {p : Addr} {kvs : List (Key × V)} {z : Str} {v : V} (h : H p = some (.dK kvs)) (e : valV kvs (Sum.inr z) = some v) (k : Q v H) : rSub K (.ref p) (.str z) H Q := go_subD (y := .str z) (by have q := DGet.k (k := Sum.inr z) h; rw [e] at q; exact q) k
/-- an item of a told tuple, of a told list -/
theorem go_subDT {ds : List PyData} {j : Int} {n : Nat} {d : PyData} (h : Dp K H x (.tuple ds)) (hj : j = (n : Int)) (e : ds[n]? = some d) (k : ∀ v, Dp K H v d → Q v H) : rSub K x (.int j) H Q := by
  obtain ⟨a, xs, rfl, h1, h2⟩ := dp_tup h
  obtain ⟨v, e1, e2⟩ := dpa_get h2 e
  subst hj
  exact go_subT h1 (atI_nat e1) (k v e2)
theorem go_subDL {ds : List PyData} {j : Int} {n : Nat} {d : PyData} (h : Dp K H x (.list ds)) (hj : j = (n : Int)) (e : ds[n]? = some d) (k : ∀ v, Dp K H v d → Q v H) : rSub K x (.int j) H Q := by
  obtain ⟨a, xs, rfl, h1, h2⟩ := dp_lst h
  obtain ⟨v, e1, e2⟩ := dpa_get h2 e
  subst hj
  exact go_subL h1 (atI_nat e1) (k v e2)
/-- the same, of data that stays (in G) -/
theorem go_gT {G : Hp} {ds : List PyData} {j : Int} {n : Nat} {d : PyData} (e : Ext G H) (h : Dp K G x (.tuple ds)) (hj : j = (n : Int)) (hd : ds[n]? = some d) (k : ∀ v, Dp K G v d → Q v H) : rSub K x (.int j) H Q := by
  obtain ⟨a, xs, rfl, h1, h2⟩ := dp_tup h
  obtain ⟨v, e1, e2⟩ := dpa_get h2 hd
  subst hj
  exact go_subT (ext_t e h1) (atI_nat e1) (k v e2)
theorem go_gL {G : Hp} {ds : List PyData} {j : Int} {n : Nat} {d : PyData} (e : Ext G H) (h : Dp K G x (.list ds)) (hj : j = (n : Int)) (hd : ds[n]? = some d) (k : ∀ v, Dp K G v d → Q v H) : rSub K x (.int j) H Q := by
  obtain ⟨a, xs, rfl, h1, h2⟩ := dp_lst h
  obtain ⟨v, e1, e2⟩ := dpa_get h2 hd
  subst hj
  exact go_subL (ext_l e h1) (atI_nat e1) (k v e2)
theorem go_setL {p : Addr} {xs : List V} {j : Int} {n : Nat} {Q : Hp → Prop} (h : H p = some (.lst xs)) (e : ixN xs.length j = some n) (k : Q (upd H p (.lst (xs.set n v)))) : rSet (.ref p) (.int j) v H Q := .inl ⟨p, xs, j, n, rfl, rfl, h, e, k⟩
theorem go_setD {p : Addr} {H' : Hp} {Q : Hp → Prop} (g : DPut H p y v H') (k : Q H') : rSet (.ref p) y v H Q := .inr ⟨p, H', rfl, g, k⟩
theorem go_setK {p : Addr} {kvs : List (Key × V)} {z : Str} {Q : Hp → Prop} (h : H p = some (.dK kvs)) (hl : kvs.length < sizeLine) (k : Q (upd H p (.dK (putK kvs (Sum.inr z) v)))) : rSet (.ref p) (.str z) v H Q := go_setD (y := .str z) (DPut.k (k := Sum.inr z) h hl) k
theorem go_lenL {p : Addr} {xs : List V} (h : SqL K H p xs) (k : Q (.int (xs.length : Int)) H) : rLenA K [.ref p] H Q := .inl (.inl ⟨p, xs, rfl, .inl h, k⟩)
theorem go_lenT {p : Addr} {xs : List V} (h : SqT K H p xs) (k : Q (.int (xs.length : Int)) H) : rLenA K [.ref p] H Q := .inl (.inl ⟨p, xs, rfl, .inr h, k⟩)
theorem go_lenS {z : Str} (h : z.length ≤ sizeLine) (k : Q (.int (z.length : Int)) H) : rLenA K [.str z] H Q := .inl (.inr ⟨z, rfl, h, k⟩)
theorem go_lenK {p : Addr} {kvs : List (Key × V)} (h : H p = some (.dK kvs)) (k : Q (.int (kvs.length : Int)) H) : rLenA K [.ref p] H Q := .inr (.inl ⟨p, kvs, rfl, h, k⟩)
theorem go_lenDT {p : Addr} {kvs : List (List Key × V)} (h : H p = some (.dT kvs)) (k : Q (.int (kvs.length : Int)) H) : rLenA K [.ref p] H Q := .inr (.inr ⟨p, kvs, rfl, h, k⟩)
theorem go_app {p : Addr} {xs : List V} (h : H p = some (.lst xs)) (hl : xs.length < sizeLine) (k : Q .non (upd H p (.lst (xs ++ [y])))) : rAppend (.ref p) [y] H Q := ⟨p, xs, y, rfl, rfl, h, hl, k⟩
theorem go_tyL {p : Addr} {xs : List V} {R : Prop} (h : SqL K H p xs) (k : R) : tyV K "list" (.ref p) H ∧ R := ⟨.inl ⟨rfl, xs, h⟩, k⟩
theorem go_dK (k : ∀ p, H p = none → Q (.ref p) (upd H p (.dK []))) : tDNew σ H Q := .inl k
theorem go_dT (k : ∀ p, H p = none → Q (.ref p) (upd H p (.dT []))) : tDNew σ H Q := .inr k
theorem go_size {n : Nat} {R : Prop} (h : n ≤ 100000) (k : R) : n ≤ sizeLine ∧ R := ⟨by rw [sizeLine_eq]; omega, k⟩
theorem go_sz {n : Nat} {R : Prop} (h : Nat.ble n 100000 = true) (k : R) : n ≤ sizeLine ∧ R := go_size (Nat.le_of_ble_eq_true h) k
theorem go_iteT {A B : Prop} (h : A) : if true = true then A else B := iteT h
theorem go_iteF {A B : Prop} (h : B) : if false = true then A else B := iteF h
theorem go_iteFn {A B : Prop} (h : A) : if (!false) = true then A else B := h
theorem go_iteTn {A B : Prop} (h : B) : if (!true) = true then A else B := h
theorem go_ite {p : Prop} [Decidable p] {A B : Prop} (h1 : p → A) (h2 : ¬ p → B) : if decide p = true then A else B := by
  by_cases h : p
  · rw [decide_eq_true h]
    exact iteT (h1 h)
  · rw [decide_eq_false h]
    exact iteF (h2 h)
theorem go_iteN {p : Prop} [Decidable p] {A B : Prop} (h1 : ¬ p → A) (h2 : p → B) : if (!decide p) = true then A else B := by
  by_cases h : p
  · rw [decide_eq_true h]
    exact iteF (h2 h)
  · rw [decide_eq_false h]
    exact iteT (h1 h)
end
theorem ixN_nat {n : Nat} {i : Int} {j : Nat} (h : i = (j : Int)) (hj : j < n) : ixN n i = some j := by
  unfold ixN
  subst h
  rw [if_pos (by omega), if_pos (by omega)]
  simp
end Mo
namespace Mo
open PySem PySem.Spec PyProof.Rows L2
/-! #### loops -/
section
variable {K : PySem.W.Frag} {σ : St} {H : Hp} {tl : TE} {tA : TA} {D : Ends} {g : TG} {tb : TS} {c : TT}
def LoopX (g : TG) (tb : TS) (D : Ends) (σ : St) (H : Hp) (J : It) : Prop := ∃ W : Nat → Nat → St → Hp → Prop, (∃ m, W 0 m σ H) ∧ ∀ i m σ H, W i m σ H →
  (J.stop i H ∧ D.nx σ H) ∨ (J.go i H ∧ ∃ N : St → Hp → Prop, (∀ σ' H', N σ' H' → ∃ m', m' < m ∧ W (i + 1) m' σ' H') ∧ ∀ x H', J.yld i H x H' → g x σ H' fun σ2 H2 => tb { D with nx := N, ct := N, bk := D.nx } σ2 H2)
theorem go_for {wi : TI} (k : wi σ H fun J H1 => LoopX g tb D σ H1 J) : tFor wi g tb D σ H := k
theorem go_iR1 {R : It → Hp → Prop} (k : tA σ H fun vs H1 => ∃ j : Int, vs = [.int j] ∧ -(2 ^ 62) ≤ j ∧ j < 2 ^ 62 ∧ R (Itr 0 j.toNat) H1) : iRng1 tA σ H R := k
theorem go_iSeq {R : It → Hp → Prop} (k : tl σ H fun x H1 => ∃ a, x = .ref a ∧ (((∃ xs, SqL K H1 a xs) ∧ R (Itl K a) H1) ∨ ((∃ xs, SqT K H1 a xs) ∧ R (Itt K a) H1))) : iSeq K tl σ H R := k
theorem go_r1 {j : Int} {R : It → Prop} (n : Nat) (hj : j = (n : Int)) (hn : (n : Int) < 2 ^ 62) (k : R (Itr 0 n)) : ∃ j' : Int, [V.int j] = [V.int j'] ∧ -(2 ^ 62) ≤ j' ∧ j' < 2 ^ 62 ∧ R (Itr 0 j'.toNat) := by
  subst hj
  exact ⟨(n : Int), rfl, by omega, hn, by rw [Int.toNat_natCast]; exact k⟩
theorem loop_r (n : Nat) (Pv : Nat → St → Hp → Prop) (h0 : Pv 0 σ H)
    (hs : ∀ (i : Nat) σ' H', i < n → Pv i σ' H' → g (.int (i : Int)) σ' H' fun σ2 H2 => tb { D with nx := Pv (i + 1), ct := Pv (i + 1), bk := D.nx } σ2 H2) (hd : ∀ σ' H', Pv n σ' H' → D.nx σ' H') : LoopX g tb D σ H (Itr 0 n) :=
  for_range (lo := 0) (n := n) Pv h0 (fun i σ' H' hi p => by
    have q := hs i σ' H' hi p
    rw [Int.zero_add]
    exact q) hd
theorem go_sqL {p : Addr} {xs : List V} {R : It → Prop} (h : SqL K H p xs) (k : R (Itl K p)) : ∃ a, V.ref p = .ref a ∧ (((∃ xs, SqL K H a xs) ∧ R (Itl K a)) ∨ ((∃ xs, SqT K H a xs) ∧ R (Itt K a))) := ⟨p, rfl, .inl ⟨⟨xs, h⟩, k⟩⟩
theorem go_sqT {p : Addr} {xs : List V} {R : It → Prop} (h : SqT K H p xs) (k : R (Itt K p)) : ∃ a, V.ref p = .ref a ∧ (((∃ xs, SqL K H a xs) ∧ R (Itl K a)) ∨ ((∃ xs, SqT K H a xs) ∧ R (Itt K a))) := ⟨p, rfl, .inr ⟨⟨xs, h⟩, k⟩⟩
theorem loop_l {p : Addr} {xs : List V} (Pv : Nat → St → Hp → Prop) (h0 : Pv 0 σ H) (hl : ∀ i σ' H', i ≤ xs.length → Pv i σ' H' → SqL K H' p xs)
    (hs : ∀ i x σ' H', xs[i]? = some x → Pv i σ' H' → g x σ' H' fun σ2 H2 => tb { D with nx := Pv (i + 1), ct := Pv (i + 1), bk := D.nx } σ2 H2) (hd : ∀ σ' H', Pv xs.length σ' H' → D.nx σ' H') : LoopX g tb D σ H (Itl K p) :=
  for_list (xs := xs) Pv h0 hl hs hd
theorem loop_t {p : Addr} {xs : List V} (Pv : Nat → St → Hp → Prop) (h0 : Pv 0 σ H) (hl : ∀ i σ' H', i ≤ xs.length → Pv i σ' H' → SqT K H' p xs)
    (hs : ∀ i x σ' H', xs[i]? = some x → Pv i σ' H' → g x σ' H' fun σ2 H2 => tb { D with nx := Pv (i + 1), ct := Pv (i + 1), bk := D.nx } σ2 H2) (hd : ∀ σ' H', Pv xs.length σ' H' → D.nx σ' H') : LoopX g tb D σ H (Itt K p) :=
  for_tup (xs := xs) Pv h0 hl hs hd
theorem go_while (W : Nat → St → Hp → Prop) (m0 : Nat) (h0 : W m0 σ H)
    (hs : ∀ m σ' H', W m σ' H' → c σ' H' fun b H1 => if b = true then ∃ N : St → Hp → Prop, (∀ σ2 H2, N σ2 H2 → ∃ m', m' < m ∧ W m' σ2 H2) ∧ tb { D with nx := N, ct := N, bk := D.nx } σ' H1 else D.nx σ' H1) : tWhile c tb D σ H := ⟨W, ⟨m0, h0⟩, hs⟩
/-! #### list comprehensions -/
def LcX (J : It) (g : TG) (tt : TT) (te : TE) (vs : List Nat) (σ : St) (Dl : Addr) (Q : VK) (H : Hp) : Prop := ∃ W : Nat → Nat → Hp → Prop, (∃ m, W 0 m (upd H Dl (.lst []))) ∧ ∀ i m H, W i m H →
  (J.stop i H ∧ Q (.ref Dl) H) ∨ (J.go i H ∧ ∃ Nx : Hp → Prop, (∀ H', Nx H' → ∃ m', m' < m ∧ W (i + 1) m' H') ∧ ∀ x H', J.yld i H x H' → g x (wipe σ vs) H' fun σ2 H2 => wipe σ2 vs = wipe σ vs ∧ tt σ2 H2 fun b H3 =>
    if b = true then te σ2 H3 fun y H4 => ∃ acc, H4 Dl = some (.lst acc) ∧ acc.length < sizeLine ∧ Nx (upd H4 Dl (.lst (acc ++ [y]))) else Nx H3)
def LcA (g : TG) (tt : TT) (te : TE) (vs : List Nat) (σ : St) (Q : VK) (H : Hp) (J : It) : Prop := ∀ Dl, H Dl = none → LcX J g tt te vs σ Dl Q H
theorem go_lcA {tt : TT} {te : TE} {vs : List Nat} {Q : VK} {J : It} (k : ∀ Dl, H Dl = none → LcX J g tt te vs σ Dl Q H) : LcA g tt te vs σ Q H J := k
theorem go_lc {wi : TI} {tt : TT} {te : TE} {vs : List Nat} {Q : VK} (k : wi σ H fun J H1 => LcA g tt te vs σ Q H1 J) : tLc wi g tt te vs σ H Q := k
theorem lcx_r (n : Nat) {tt : TT} {te : TE} {vs : List Nat} {Dl : Addr} {Q : VK} (Pv : Nat → Hp → Prop) (h0 : Pv 0 (upd H Dl (.lst [])))
    (hs : ∀ (i : Nat) H', i < n → Pv i H' → g (.int (i : Int)) (wipe σ vs) H' fun σ2 H2 => wipe σ2 vs = wipe σ vs ∧ tt σ2 H2 fun b H3 =>
      if b = true then te σ2 H3 fun y H4 => ∃ acc, H4 Dl = some (.lst acc) ∧ acc.length < sizeLine ∧ Pv (i + 1) (upd H4 Dl (.lst (acc ++ [y]))) else Pv (i + 1) H3) (hd : ∀ H', Pv n H' → Q (.ref Dl) H') : LcX (Itr 0 n) g tt te vs σ Dl Q H :=
  lc_range (lo := 0) (n := n) Pv h0 (fun i H' hi p => by
    have q := hs i H' hi p
    rw [Int.zero_add]
    exact q) hd
theorem lcx_l {p : Addr} {xs : List V} {tt : TT} {te : TE} {vs : List Nat} {Dl : Addr} {Q : VK} (Pv : Nat → Hp → Prop) (h0 : Pv 0 (upd H Dl (.lst []))) (hl : ∀ i H', i ≤ xs.length → Pv i H' → SqL K H' p xs)
    (hs : ∀ i x H', xs[i]? = some x → Pv i H' → g x (wipe σ vs) H' fun σ2 H2 => wipe σ2 vs = wipe σ vs ∧ tt σ2 H2 fun b H3 =>
      if b = true then te σ2 H3 fun y H4 => ∃ acc, H4 Dl = some (.lst acc) ∧ acc.length < sizeLine ∧ Pv (i + 1) (upd H4 Dl (.lst (acc ++ [y]))) else Pv (i + 1) H3) (hd : ∀ H', Pv xs.length H' → Q (.ref Dl) H') : LcX (Itl K p) g tt te vs σ Dl Q H :=
  lc_list (xs := xs) Pv h0 hl hs hd
theorem lcx_t {p : Addr} {xs : List V} {tt : TT} {te : TE} {vs : List Nat} {Dl : Addr} {Q : VK} (Pv : Nat → Hp → Prop) (h0 : Pv 0 (upd H Dl (.lst []))) (hl : ∀ i H', i ≤ xs.length → Pv i H' → SqT K H' p xs)
    (hs : ∀ i x H', xs[i]? = some x → Pv i H' → g x (wipe σ vs) H' fun σ2 H2 => wipe σ2 vs = wipe σ vs ∧ tt σ2 H2 fun b H3 =>
      if b = true then te σ2 H3 fun y H4 => ∃ acc, H4 Dl = some (.lst acc) ∧ acc.length < sizeLine ∧ Pv (i + 1) (upd H4 Dl (.lst (acc ++ [y]))) else Pv (i + 1) H3) (hd : ∀ H', Pv xs.length H' → Q (.ref Dl) H') : LcX (Itt K p) g tt te vs σ Dl Q H :=
  lc_tup (xs := xs) Pv h0 hl hs hd
theorem go_yes {Q : Bool → Hp → Prop} (k : Q true H) : tYes σ H Q := k
theorem go_acc {Dl : Addr} {acc : List V} {y : V} {Q : Hp → Prop} (h : H Dl = some (.lst acc)) (hl : acc.length < sizeLine) (k : Q (upd H Dl (.lst (acc ++ [y])))) : ∃ acc', H Dl = some (.lst acc') ∧ acc'.length < sizeLine ∧ Q (upd H Dl (.lst (acc' ++ [y]))) := ⟨acc, h, hl, k⟩
end
/-! #### how large a number is -/
def Bd (n : Nat) (x : Int) : Prop := x.natAbs < 2 ^ n
instance {n : Nat} {x : Int} : Decidable (Bd n x) := inferInstanceAs (Decidable (x.natAbs < 2 ^ n))
theorem Bd.mono {a b : Nat} {x : Int} (h : Bd a x) (e : a ≤ b) : Bd b x := Nat.lt_of_lt_of_le h (Nat.pow_le_pow_right (by decide) e)
theorem Bd.mul {a b : Nat} {x y : Int} (h : Bd a x) (k : Bd b y) : Bd (a + b) (x * y) := by
  unfold Bd at *
  rw [Int.natAbs_mul, Nat.pow_add]
  exact Nat.mul_lt_mul'' h k
theorem Bd.add {a : Nat} {x y : Int} (h : Bd a x) (k : Bd a y) : Bd (a + 1) (x + y) := by
  unfold Bd at *
  have e : (2 : Nat) ^ (a + 1) = 2 ^ a + 2 ^ a := by rw [Nat.pow_succ]; omega
  rw [e]
  have := Int.natAbs_add_le x y
  omega
theorem Bd.cmul {a b : Nat} {x y : Int} (h : Bd a x) (k : Bd b y) (h0 : 0 < a := by decide) (h1 : 0 < b := by decide) (e : a + b ≤ 134000000 := by decide) : CMulX x y := mulX_of a b h k h0 h1 e
theorem bd_bits {x : Int} (h : Builtin.Int.intBits x ≤ 1048576) : Bd 1048576 x := by
  unfold Builtin.Int.intBits at h
  show x.natAbs < 2 ^ 1048576
  generalize 1048576 = n at h
  by_cases e : x.natAbs = 0
  · rw [e]
    exact Nat.pow_pos (by decide)
  · refine (Nat.log2_lt e).mp ?_
    have z : (x == 0) = false := beq_eq_false_iff_ne.mpr (by omega)
    rw [z, if_neg Bool.false_ne_true] at h
    omega
theorem go_mod {H : Hp} {Q : VK} {f : Int → Int → V} {a b : Int} (hb : b ≠ 0) (k : Q (f a b) H) : rI CMod f (.int a) (.int b) H Q := go_I hb k
theorem go_div {H : Hp} {Q : VK} {f : Int → Int → V} {a b : Int} (n : Nat) (hb : b ≠ 0) (h : Bd n b) (k : Q (f a b) H) (h0 : 0 < n := by decide) (h9 : n ≤ 9000 := by decide) : rI CDivX f (.int a) (.int b) H Q := go_I ⟨hb, Nat.lt_of_lt_of_le (log2_bd h h0) h9⟩ k
theorem bd_range {n : Nat} {x m : Int} (h0 : 0 ≤ x) (h : x < m) (k : Bd n m) : Bd n x := Nat.lt_trans (by omega) k
end Mo
local macro_rules | `(tactic| k_extra "s0") => `(tactic| with_reducible first
  | refine Mo.go_seq ?_
  | refine Mo.go_asg ?_
  | refine Mo.go_op ?_
  | refine Mo.go_c ?_
  | refine Mo.go_gn ?_
  | refine Mo.go_test ?_
  | refine Mo.go_bl ?_
  | refine Mo.go_iteT ?_
  | refine Mo.go_iteF ?_
  | refine Mo.go_I0 ?_
  | refine Mo.go_cons ?_
  | refine Mo.go_nil ?_
  | refine Mo.go_call ?_
  | refine Mo.go_ret ?_
  | refine Mo.go_eqi ?_
  | refine Mo.go_addI ?_
  | refine Mo.go_ltI ?_
  | refine Mo.go_truB ?_
  | refine Mo.go_truN ?_
  | refine Mo.go_intB ?_
  | refine Mo.go_isN_t ?_
  | refine Mo.go_notN_t ?_
  | refine Mo.go_isN_r ?_
  | refine Mo.go_notN_r ?_
  | refine Mo.go_nei ?_
  | refine Mo.go_cb ?_
  | refine Mo.go_drop ?_
  | refine Mo.go_tup ?_
  | refine Mo.go_lst ?_
  | refine Mo.go_next ?_
  | refine Mo.go_fld ?_
  | refine Mo.go_sfld ?_
  | refine Mo.go_meth ?_
  | refine Mo.go_make ?_
  | refine Mo.go_bm ?_
  | refine Mo.go_bm0 ?_
  | refine Mo.go_gsub ?_
  | refine Mo.go_gcons ?_
  | refine Mo.go_gnil ?_
  | refine Mo.go_and ?_
  | refine Mo.go_or ?_
  | refine Mo.go_not ?_
  | refine Mo.go_andV ?_
  | refine Mo.go_orV ?_
  | refine Mo.go_notV ?_
  | refine Mo.go_un ?_
  | refine Mo.go_rU ?_
  | refine Mo.go_sl ?_
  | refine Mo.go_nopart ?_
  | refine Mo.go_part ?_
  | refine Mo.go_int ?_
  | refine Mo.go_ifE ?_
  | refine Mo.go_tb ?_
  | refine Mo.go_ipI ?_
  | refine Mo.go_iteFn ?_
  | refine Mo.go_iteTn ?_
  | refine Mo.go_eqb ?_
  | refine Mo.go_neb ?_
  | refine Mo.go_brk ?_
  | refine Mo.go_for ?_
  | refine Mo.go_iR1 ?_
  | refine Mo.go_iSeq ?_
  | refine Mo.go_lc ?_
  | refine Mo.go_yes ?_
  | refine Mo.go_cont ?_
  | refine Mo.go_isi_ii ?_
  | refine Mo.go_isi_ib ?_
  | refine Mo.go_isi_is ?_
  | refine Mo.go_isi_ss ?_
  | refine Mo.go_isi_si ?_
  | refine Mo.go_isi_bi ?_
  | refine Mo.go_isi_bb ?_
  | refine Mo.go_isi_ni ?_
  | refine Mo.go_pow15 ?_
  | refine Mo.go_pow12 ?_
  | refine Mo.go_pow6 ?_
  | refine Mo.go_fldaug ?_
  | refine Mo.go_addR ?_
  | refine Mo.go_subR ?_)
local macro_rules | `(tactic| k_extra "s") => `(tactic| first
  | k_extra "s0"
  | (with_reducible refine Mo.go_ifS ?_))
local macro_rules | `(tactic| k_extra "v") => `(tactic| ((with_reducible refine' Mo.go_var ?k1 ?_); (case k1 => exact rfl)))
local macro_rules | `(tactic| k_extra "e") => `(tactic| first
  | ((with_reducible refine Mo.go_eqsT ?k1 ?_); (case k1 => with_reducible exact rfl))
  | ((with_reducible refine Mo.go_eqsF ?k1 ?_); (case k1 => decide +kernel)))
local macro_rules | `(tactic| k_extra "w") => `(tactic| repeat (first | k_extra "v" | k_extra "s"))
local macro_rules | `(tactic| k_extra "we") => `(tactic| repeat (first | k_extra "v" | k_extra "s" | k_extra "e"))
local macro_rules | `(tactic| k_extra "w0") => `(tactic| repeat (first | k_extra "v" | k_extra "s0" | k_extra "e"))
namespace Mo
open PySem PySem.Spec PyProof.Rows L2
/-! ### exceptions that are held as values -/
/-- an exception of the class at D, at a -/
def ExG (D a : Addr) (dd : Option Addr) : HO := .ext fun h => ∃ (oe : Obj) (vs : Array Value), h.get? a = some oe ∧ Zc (.ref D) dd oe ∧ oe.data = .fields vs
abbrev ExV (D a : Addr) : HO := ExG D a none
/-- an object that is such a one -/
def IsEx (D a : Addr) (o : HO) : Prop := ∃ φ : Heap → Prop, o = .ext φ ∧ ∀ h, φ h → ∃ (oe : Obj) (vs : Array Value), h.get? a = some oe ∧ Zc (.ref D) none oe ∧ oe.data = .fields vs
theorem isEx_V {D a : Addr} : IsEx D a (ExV D a) := ⟨_, rfl, fun _ h => h⟩
theorem isEx_inst {D a : Addr} {h : Heap} {oe : Obj} {vs : Array Value} (e : h.get? a = some oe) (z : Zc (.ref D) none oe) (d : oe.data = .fields vs) : PySem.W.InstAt h a oe D none := by
  obtain ⟨oc, od, oda, osl⟩ := oe
  obtain ⟨h1, h2⟩ := z
  dsimp only at h1 h2 d
  subst h1 h2 d
  exact ⟨e, rfl, rfl, trivial⟩
theorem IsEx.inst {P : Program} {w : World} {H : Hp} {h : Heap} {D a : Addr} {o : HO} (x : IsEx D a o) (k : ObjOk P w H h a o) : ∃ oe, PySem.W.InstAt h a oe D none := by
  obtain ⟨φ, rfl, f⟩ := x
  obtain ⟨oe, vs, e, z, d⟩ := f h k.1
  exact ⟨oe, isEx_inst e z d⟩
/-- the exception that a suite held is tracked behind it -/
theorem inv_track {X : Cx} {pins : List (Addr × Obj)} {σ : St} {H : Hp} {s : Shared} {a D : Addr} {dd : Option Addr} {oe : Obj} {vs : Array Value} (I : Inv X ((a, oe) :: pins) σ H s) (n0 : X.s_0.heap.get? a = none) (np : ∀ p ∈ X.pn ++ pins, p.1 ≠ a) (z : Zc (.ref D) dd oe) (d : oe.data = .fields vs) :
    Inv X pins σ (upd H a (ExG D a dd)) s := by
  obtain ⟨ga, na, nL, nF, nc⟩ := I.pin (a, oe) (List.mem_append_right _ List.mem_cons_self)
  have ga : s.heap.get? a = some oe := ga
  have na : H a = none := na
  have ne0 : ∀ b o, X.s_0.heap.get? b = some o → b ≠ a := fun b o e q => by rw [q, n0] at e; cases e
  refine ⟨I.ok, I.os, I.bare, ⟨I.base.keep, I.base.slot, fun b o e n hx => ?_, I.base.there, fun b xs e => ?_, fun b o u e => ?_, fun b ps e => ?_⟩, I.loc, I.cell, ?_, fun x c e => ?_, fun p hp => ?_, fun b u e => ?_, I.len⟩
  · rw [upd_ne (ne0 b o e)]
    exact I.base.free b o e n hx
  · rw [upd_ne (ne_of_none (I.base.tups b xs e) na)]
    exact I.base.tups b xs e
  · rw [upd_ne (ne_of_none (I.base.frzs b o u e) na)]
    exact I.base.frzs b o u e
  · obtain ⟨m, q⟩ := I.base.tbls b ps e
    exact ⟨m, by rw [upd_ne (ne_of_none q na)]; exact q⟩
  · rw [upd_ne (fun q => nL q.symm)]
    exact I.free
  · have hc : c ≠ a := fun q => by
      obtain ⟨v, o, ho, hd⟩ := I.cell x c e
      rw [q, ga] at ho
      cases ho
      exact nc v hd
    rw [upd_ne hc]
    exact I.freeC x c e
  · obtain ⟨e, n, r⟩ := I.pin p (by
      rcases List.mem_append.mp hp with h | h
      · exact List.mem_append_left _ h
      · exact List.mem_append_right _ (List.mem_cons_of_mem _ h))
    exact ⟨e, by rw [upd_ne (np p hp)]; exact n, r⟩
  · by_cases hb : b = a
    · subst hb
      rw [upd_same] at e
      cases e
      exact ⟨⟨oe, vs, ga, z, d⟩, ⟨oe, ga⟩, fun _ _ ⟨o, v, q, r⟩ k => ⟨o, v, k o q, r⟩⟩
    · rw [upd_ne hb] at e
      exact (I.hok b u e).stay (fun c v _ q => q) (fun c q => by rw [upd_ne (ne_of_none q na)]; exact q) fun c xs q => by rw [upd_ne (ne_of_none q na)]; exact q
/-- what the clause 'except x as n' wishes: behind it the exception is kept -/
def wKeep (K : PySem.W.Frag) (c : Value) (i : Nat) (ts : Addr → Value → Option Addr → TS) (Wout : WX) (D : Ends) : WX := fun cls d σ H =>
  ∃ b, PySem.W.exmOne K cls c = some b ∧ (b = true → ∃ C, cls = .ref C ∧ ∀ a, H a = none → ts a cls d { nx := fun σ' H' => H' a = none → D.nx (σ'.set i none) (upd H' a (ExG C a d)), rt := fun v H' => H' a = none → D.rt v (upd H' a (ExG C a d)), bk := fun σ' H' => H' a = none → D.bk (σ'.set i none) (upd H' a (ExG C a d)), ct := fun σ' H' => H' a = none → D.ct (σ'.set i none) (upd H' a (ExG C a d)) } (σ.set i (some (.ref a))) H) ∧
    (b = false → Wout cls d σ H)
section
variable {X : Cx} {x n : Str} {c : Value} {i : Nat} {body suite : List Stmt} {b₀ : Stmt} {np pos pos' : Pos} {tb : WX → TS} {ts : Addr → Value → Option Addr → TS} {Wout : WX}
theorem ps_try_keep (hs : X.stack = X.env :: X.outer) (hf : X.env.frame = some X.env.locals) (hex : X.ex = []) (hN : X.N.Nodup) (hi : X.N[i]? = some n) (hln : X.env.kindOf n = some .local) (hc : Names X x c) (tk : Takes X Wout)
    (hb : ∀ (W : WX) (pn : List (Addr × Obj)) (xe : Value → Shared → Prop), Takes (X.tr pn xe) W → PassesOwn (model X.prog X.w) X.A X.env xe → PSs (X.tr pn xe) body (tb W))
    (hsu : ∀ (a : Addr) (oe : Obj) (cls : Value) (d : Option Addr) (pn : List (Addr × Obj)), Zc cls d oe → (∃ vs, oe.data = .fields vs) → PSs (X.suite a ((a, oe) :: pn)) (b₀ :: suite) (ts a cls d)) :
    PS X (.Try body [.ExceptHandler (some (.Name x np)) (some n) (b₀ :: suite) pos'] [] [] pos) (fun D σ H => tb (wKeep X.K c i ts Wout D) D σ H) := by
  refine ⟨fun pins s σ H D I h => ?_⟩
  have ok := I.ok
  have hfr : X.A.frames = some (X.env :: X.outer) := by rw [ok.frames, hs]
  have hloc : Loc X.env.scope n := .inl hln
  refine wpAny_Try_except ?_
  refine wpAny_mono ((hb (wKeep X.K c i ts Wout D) (X.pn ++ pins) (fun e s₁ => wpAny (model X.prog X.w) X.A (noteFrame e X.env) (fun _ s₂ => wpAny (model X.prog X.w) X.A (setFlight e none) (fun _ s₃ =>
    wpAny (model X.prog X.w) X.A (handleBy e X.env [.ExceptHandler (some (.Name x np)) (some n) (b₀ :: suite) pos']) (SP X pins D) X.xe s₃) X.xe s₂) X.xe s₁) (fun u s' xx => ?_) PassesOwn.looking).run [] s σ H D (I.toTry _) h) (fun f s1 hsp => ?_) (fun e s1 he => he)
  · -- the catch
    obtain ⟨a, B, sI, pins', σ', H', cls, d, rfl, J', nb, up, sky, na, os, ag, b, hb1, hyes, hno⟩ := xx
    have J : Inv X pins σ' H' sI := J'.ofTry ok
    have sky' : Sky B (X.env :: X.outer) a (Zc cls d) X.env.locals s'.heap := by rw [← hs]; exact sky
    show wpAny (model X.prog X.w) X.A (noteFrame (.ref a) X.env) _ _ _
    refine Sky.land Zc.steady hfr hf sky' fun h3 fl3 up3 => ?_
    have J3 : Inv X pins σ' H' { s' with heap := h3 } := J.landed nb fl3.1 (up.trans up3) os ag
    obtain ⟨oe3, vs3, he3, hz3, hd3⟩ := fl3.there
    have notFr : ∀ {h : Heap} {o : Obj} {vs : Array Value}, h.FunFrames B (X.env :: X.outer) → h.get? a = some o → o.data = .fields vs → a ∉ frs (X.env :: X.outer) := fun {h o vs} ff e dd hm => by
      obtain ⟨_, o', e', hnf⟩ := ff.mem hm
      rw [e] at e'; cases e'
      exact hnf _ dd
    have nfr := notFr fl3.2.2.1 he3 hd3
    have nL : a ≠ X.env.locals := fun z => nfr (List.mem_filterMap.mpr ⟨X.env, List.mem_cons_self, by rw [hf, z]⟩)
    have nF : a ∉ X.fs := fun hm => by
      obtain ⟨e, he, q⟩ := List.mem_filterMap.mp hm
      exact nfr (List.mem_filterMap.mpr ⟨e, List.mem_cons_of_mem _ he, q⟩)
    have gI : ∀ o, sI.heap.get? a ≠ some o := fun o e => by
      have z := nb a o e (by rw [hs]; exact nfr)
      rw [fl3.2.1] at z
      cases z
    have n0 : X.s_0.heap.get? a = none := by
      cases e : X.s_0.heap.get? a with
      | none => rfl
      | some o =>
        obtain ⟨o', e'⟩ := J.base.there a o e (by rw [hex]; exact fun z => nomatch z)
        exact absurd e' (gI o')
    have np' : ∀ p ∈ X.pn ++ pins, p.1 ≠ a := fun p hp z => by
      obtain ⟨e, _⟩ := J.pin p hp
      rw [z] at e
      exact gI _ e
    have S3 := J3.suite he3 hd3 na nL nF
    refine wpAny_handleBy_cons (codeAny_handlers_test ?_) (by intro q; cases q)
    have LT : PySem.W.Looks (model X.prog X.w) h3 (typeOf (.ref a)) cls := fun A Q E s k q => wpAny_typeOf_ref (k _ _ he3) (by rw [hz3.1]; exact q)
    have LM := PySem.W.exm_one (M := model X.prog X.w) (J3.kIn) LT hb1
    have test : ∀ {Q : Value → Shared → Prop} {E : Value → Shared → Prop}, Q c { s' with heap := h3 } → wpAny (model X.prog X.w) (X.A.mark (some (.ref a))) (eval (.Name x np) X.env) Q E { s' with heap := h3 } := fun {Q E} q => by
      obtain ⟨hg, hdbg, hm | ⟨hm, hv, hnn⟩⟩ := hc
      · exact ld_glob (X := X.suite a ((a, oe3) :: (X.pn ++ pins))) S3 hg hm q hdbg
      · exact ld_blt (X := X.suite a ((a, oe3) :: (X.pn ++ pins))) S3 hg hm hv q hnn hdbg
    refine test (LM.here ?_)
    cases b with
    | true =>
      obtain ⟨C, rfl, hyes⟩ := hyes rfl
      refine codeAny_handlers_suite_as ?_
      refine HandSPX.lands_againZ fl3 fun h4 fl4 up4 => ?_
      have J4 : Inv X pins σ' H' { s' with heap := h4 } := J.landed nb fl4.1 ((up.trans up3).trans up4) os ag
      obtain ⟨oe4, vs4, he4, hz4, hd4⟩ := fl4.there
      have S4 := J4.suite he4 hd4 na nL nF
      refine store_ok (X := X.suite a ((a, oe4) :: (X.pn ++ pins))) (v := .ref a) S4 hN hi hloc rfl (fun s5 S5 => ?_) (.inr hln)
      refine wpAny_mono ((hsu a oe4 _ d (X.pn ++ pins) hz4 ⟨_, hd4⟩).run [] s5 _ H' _ S5 (hyes a na)) (fun f s6 hsp => ?_) (fun _ _ z => False.elim z)
      have end_ : ∀ {σ6 : St} {H6 : Hp} {Q : Shared → Prop}, Inv (X.suite a ((a, oe4) :: (X.pn ++ pins))) [] σ6 H6 s6 → (∀ s7, H6 a = none → Inv X pins (σ6.set i none) (upd H6 a (ExG C a d)) s7 → Q s7) →
          wpAny (model X.prog X.w) X.A (do bindName X.env n .none; unbindBehindTheSuite X.env n pos') (fun _ s7 => Q s7) X.xe s6 := fun {σ6 H6 Q} S6 hq => by
        have S6' : Inv X ((a, oe4) :: pins) σ6 H6 s6 := ⟨ok, S6.os, S6.bare, S6.base, S6.loc, S6.cell, S6.free, S6.freeC, fun p hp => S6.pin p (List.mem_append_left _ (by
          rcases List.mem_append.mp hp with h | h
          · exact List.mem_cons_of_mem _ (List.mem_append_left _ h)
          · rcases List.mem_cons.mp h with h | h
            · rw [h]; exact List.mem_cons_self
            · exact List.mem_cons_of_mem _ (List.mem_append_right _ h))), S6.hok, S6.len⟩
        exact gone_ok S6' hN hi hln fun s7 J7 => hq s7 (J7.pin (a, oe4) (List.mem_append_right _ List.mem_cons_self)).2.1 (inv_track J7 n0 np' hz4 hd4)
      cases f with
      | next =>
        obtain ⟨σ6, H6, S6, q6⟩ := hsp
        exact end_ S6 fun s7 e7 J7 => ⟨_, _, J7, q6 e7⟩
      | brk =>
        obtain ⟨σ6, H6, S6, q6⟩ := hsp
        exact end_ S6 fun s7 e7 J7 => ⟨_, _, J7, q6 e7⟩
      | cont =>
        obtain ⟨σ6, H6, S6, q6⟩ := hsp
        exact end_ S6 fun s7 e7 J7 => ⟨_, _, J7, q6 e7⟩
      | ret u =>
        obtain ⟨v6, σ6, H6, S6, r6, q6⟩ := hsp
        exact end_ S6 fun s7 e7 J7 => ⟨_, _, _, J7, r6, q6 e7⟩
    | false =>
      show wpAny _ X.A (handleBy (.ref a) X.env []) _ _ _
      refine wpAny_handleBy_nil ?_
      obtain ⟨k1, k2, k3, oe, vs, T, oT, ts', he, hz, hd, h1, hr⟩ := id fl3
      unfold PySem.passOn
      refine wpAny_bind (wpAny_field he hd h1 ?_)
      rw [if_neg (show ¬ ((Value.ref T == Value.none) = true) from by simp)]
      have fin : wpAny (model X.prog X.w) X.A (setFlight (.ref a) X.env.frame) (fun _ s4 => wpAny (model X.prog X.w) X.A (throw (.ref a) : Sem Flow) (SP X pins D) X.xe s4) X.xe { s' with heap := h3 } := by
        rw [hf]
        refine HandSPX.setFlight_upZ fl3 fun h4 hh4 up4 => wpAny_throw (tk _ _ ?_)
        exact ⟨a, B, sI, pins, σ', H', cls, d, rfl, J, nb, (up.trans up3).trans up4, .inr (.inr (by rw [hs]; exact hh4)), na, os, ag, hno rfl⟩
      first
        | exact wpAny_bind (wpAny_pure (wpAny_bind fin))
        | exact wpAny_bind fin
  · cases f with
    | next =>
      obtain ⟨σ', H', J', q⟩ := hsp
      exact wpAny_execs_nil ⟨σ', H', J'.ofTry ok, q⟩
    | brk =>
      obtain ⟨σ', H', J', q⟩ := hsp
      exact ⟨σ', H', J'.ofTry ok, q⟩
    | cont =>
      obtain ⟨σ', H', J', q⟩ := hsp
      exact ⟨σ', H', J'.ofTry ok, q⟩
    | ret u =>
      obtain ⟨v, σ', H', J', r, q⟩ := hsp
      exact ⟨v, σ', H', J'.ofTry ok, r, q⟩
end
def tTruK (K : PySem.W.Frag) (ta : TE) : TT := fun σ H Q => ta σ H fun x H' => ∃ k, TruV K x H' k ∧ Q k H'
theorem pt_truthK {X : Cx} {K : PySem.W.Frag} {a : Expr} {ta : TE} (hK : X.K = K) (ha : PE X a ta) (he : ∀ whole, isTrue a X.env whole = (do let v ← whole; standAt a.pos; holding [v] (truthy v))) : PT X a (fun σ H Q => ta σ H fun x H' => ∃ k, TruV K x H' k ∧ Q k H') := hK ▸ pt_truth ha he
/-! #### what an exception's class says -/
def excCB (K : PySem.W.Frag) (C : Str) : Bool := He.eqO (PySem.W.findIn K (.ref (He.ga K C)) "__getattribute__") (some (some (.builtin "BaseException.__getattribute__"))) && (He.eqO (PySem.W.findIn K (.ref (He.ga K C)) "__getattr__") (some none) && (decide (PySem.W.subIn K (.ref (He.ga K C)) (.type "BaseException") = some true) && (PySem.W.hasDictIn K (He.ga K C) && (
  He.eqO (PySem.W.findIn K (.ref (He.ga K C)) "__class__") (some (some (.builtin "object.__class__"))) && (He.eqO (PySem.W.specialIn K (.builtin "object.__class__") "__get__") (some (some (.builtin "getset_descriptor.__get__"))) &&
  (decide (PySem.W.takesIn K (.builtin "object.__class__") = some true) && decide (PySem.W.mroIn K (He.ga K C) (.type "object") = some true)))))))
theorem excC_of {K : PySem.W.Frag} {C : Str} (h : excCB K C = true) : ExcC K (He.ga K C) := by
  unfold excCB at h
  simp only [Bool.and_eq_true] at h
  obtain ⟨h1, h2, h3, h4, h5, h6, h7, h8⟩ := h
  exact ⟨He.eqO_ok h1, He.eqO_ok h2, of_decide_eq_true h3, h4, He.eqO_ok h5, He.eqO_ok h6, of_decide_eq_true h7, of_decide_eq_true h8⟩
def kitTB (K : PySem.W.Frag) (C : Str) (n : String) (b : Bool) : Bool := decide (PySem.W.kitOne K (.ref (He.ga K C)) (.type n) = some b)
theorem kitT_of {K : PySem.W.Frag} {C : Str} {n : String} {b : Bool} (h : kitTB K C n b = true) : PySem.W.kitOne K (.ref (He.ga K C)) (.type n) = some b := of_decide_eq_true h
/-- isinstance of a kept exception -/
def rIsX (K : PySem.W.Frag) : List V → Hp → VK → Prop := fun xs H Q => ∃ (a D : Addr) (o : HO) (c : V) (cv : Value) (b : Bool), xs = [.ref a, c] ∧ H a = some o ∧ IsEx D a o ∧ ExcC K D ∧ ClsV c cv ∧ PySem.W.kitOne K (.ref D) cv = some b ∧ Q (.bl b) H
theorem call_isX {X : Cx} : CallR X (.builtin "isinstance") (rIsX X.K) := by
  intro pins s σ H xs us Q I r h
  obtain ⟨a, D, o, c, cv, b, rfl, ha, x, C, hc, e, q⟩ := h
  obtain ⟨u1, u2, rfl, r1, r2⟩ := vals2 r
  cases (show u1 = Value.ref a from r1)
  have e2 := hc.eq r2
  subst e2
  obtain ⟨oe, J⟩ := x.inst (I.hok a o ha)
  exact PySem.W.kia_one (PySem.W.handS_kitx_exc C.hg C.hk C.hs C.hd C.ha C.hn C.ht C.hm) I.kIn J e (fun z => nomatch z) fun tk => ⟨.bl b, H, I.kept (t' := tk) fun _ _ z => z, rfl, q⟩
def rIsiX (K : PySem.W.Frag) : List V → Hp → VK → Prop := fun xs H Q => rIsi K xs H Q ∨ rIsX K xs H Q
theorem call_isiXK {X : Cx} {K : PySem.W.Frag} (hK : X.K = K) : CallR X (.builtin "isinstance") (rIsiX K) := hK ▸ call_isi.or call_isX
/-- X(e): a new exception as a value -/
def tExc (D : Addr) (ta : TE) : TE := fun σ H Q => ta σ H fun _ H1 => ∀ a, H1 a = none → Q (.ref a) (upd H1 a (ExO (.ref D) a))
theorem pe_excK {X : Cx} {K : PySem.W.Frag} {x : Str} {e : Expr} {ta : TE} {p pos : Pos} (hK : X.K = K) (F : ExF K X.mg x) (he : PE X e ta) (hg : Gl X x := by rfl) (hs : starEach [e] X.env = (false, eval e X.env) :: starEach [] X.env := by rfl) (hdb : (x == ("__debug__" : Str)) = false := by decide) :
    PE X (.Call (.Name x p) [e] [] pos) (tExc (He.ga K x) ta) := by
  subst hK
  exact pe_exc1 PySem.F.excBase_ValueError F.ex F.gl F.kp hg he hs hdb
/-! #### a method of an exception -/
theorem exc_meth {K : PySem.W.Frag} {prog : Program} {w : World} {A : Around} {E : Value → Shared → Prop} {s : Shared} {x C f : Addr} {ox : Obj} {name : Str} {pl : Sem Bool} {Q : Value × List Value → Shared → Prop} (X : K.In s.heap) (I : PySem.W.InstAt s.heap x ox C none) (c : ExcC K C)
    (hf : PySem.W.findIn K (.ref C) name = some (some (.ref f))) (ht : PySem.W.isFn K (.ref f) = true) (h : Q (.ref f, [.ref x]) s) : wpAny (model prog w) A (getMethod (.ref x) name pl) Q E s := by
  have hcan : Manifest.canonical "BaseException.__getattribute__" = "object.__getattribute__" := by first | kernel_rfl | decide +kernel
  unfold getMethod specialOf
  refine wpAny_bind (wpAny_bind (I.type.here ((PySem.W.looks_findIn X c.hg).here ?_)))
  dsimp only
  rw [hcan, if_neg (by decide)]
  refine wpAny_bind (wpAny_bind (I.type.here ((PySem.W.looks_findIn X c.hk).here ?_)))
  refine wpAny_bind (wpAny_bind (I.type.here ((PySem.W.looks_findIn X hf).here (wpAny_bind ((PySem.W.looks_typeIn X (beq_iff_eq.mp ht)).here ?_)))))
  rw [if_neg (by decide +kernel)]
  refine wpAny_bind (wpAny_loadPart I.at_ ?_)
  have hd := I.dict
  cases e : ox.dict with
  | none => exact wpAny_bind (wpAny_rule (wpAny_pure h))
  | some dx =>
    rw [e] at hd
    exact hd.elim
/-! #### a def that raises nothing and calls nothing: in any context -/
structure FnA (P : Program) (w : World) (K : PySem.W.Frag) (mg : Str → Option Value) (base : Heap) (f : Addr) (fd : FuncData) (ps : List Str) (sp : Sp) : Prop where
  len : ∀ vs H Q E, sp vs H Q E → vs.length = ps.length
  run : ∀ (A : Around) (outer : List Env) (s : Shared) (H : Hp) (args : Args) (us : List Value) (vs : List V) (Q : VK) (E : XK), A.depth < recursionLimit → Env0 P w K mg base A outer s H → BindsTo s fd args (ps.zip us) → Vals vs us → sp vs H Q E →
    codeAny (model P w) A (.call (.ref f) args) (CR (L2.CX P w) outer P w H s Q E) s
def cxA (P : Program) (w : World) (K : PySem.W.Frag) (mg : Str → Option Value) (base : Heap) (N : List Str) (qual : Str) (scope : Scope) (f : Addr) (cd : Value) (A : Around) (outer : List Env) (s : Shared) (H : Hp) (E : XK) : Cx :=
  { cxOf (L2.CX P w) P w K mg base N qual scope f cd A outer s H E with calm := false }
theorem inv_startA {P : Program} {w : World} {K : PySem.W.Frag} {mg : Str → Option Value} {base : Heap} {N ps : List Str} {qual : Str} {scope : Scope} {f : Addr} {cd : Value} {A : Around} {outer : List Env} {s s1 : Shared} {H : Hp} {E : XK} {us : List Value} {vs : List V}
    (S : FnScope N ps scope) (e0 : Env0 P w K mg base A outer s H) (hl : vs.length = ps.length) (r : Vals vs us)
    (x : InCallC s s.heap.objs.size (bindL (envOfC qual scope s.heap.objs.size f cd).kindOf (ps.zip us) fun _ => none) (cellsFrom (s.heap.objs.size + 1) scope.names []) (bindC (envOfC qual scope s.heap.objs.size f cd).kindOf (ps.zip us) fun _ => none) s1) :
    Inv (cxA P w K mg base N qual scope f cd A outer s H E) [] (L2.start N vs) H s1 := by
  have hpl : ps.length ≤ N.length := by have := congrArg List.length S.pre; rw [List.length_take] at this; omega
  obtain ⟨h1, tk, rfl, hk⟩ := x.done
  have noA : ∀ b : Addr, b ∉ (cxA P w K mg base N qual scope f cd A outer s H E).ex := fun b z => absurd (show b ∈ ([] : List Addr) from z) (by simp)
  refine ⟨⟨e0.mod, S.kind, rfl, rfl, Nat.le_refl _, fun y z c h1 h2 => ?_, fun y hy => ?_, fun y c _ h => ?_, (fun z => Bool.noConfusion (show false = true from z)), Around.frames_deeper e0.frames, .inr ⟨rfl, rfl⟩, fun b z => absurd z (noA b), e0.bs, e0.bsz, fun b _ _ => noA b, fun b z => absurd z (noA b), e0.funs, e0.frf⟩,
    rfl, e0.bare, Un.kept hk, ⟨_, x.toInCall.ns, fun i y v h1 h2 h3 => ?_⟩, fun y c h => ⟨_, x.cell y c h⟩, e0.hok.fresh (Nat.le_refl _), fun y c h => ?_, fun q hq => absurd (show q ∈ ([] : List (Addr × Obj)) from hq) (by simp), e0.hok.kept hk, ?_⟩
  · exact name_of_addr x.apart (PySem.mem_of_lookup h1) (PySem.mem_of_lookup h2)
  · have hy : scope.names.lookup y = some .cell ∨ scope.names.lookup y = some .free := hy
    rcases hy with hy | hy
    · exact cell_has hy
    · exact absurd rfl (S.nofree _ (PySem.mem_of_lookup hy))
  · exact Nat.le_of_lt (x.above y c (PySem.mem_of_lookup h))
  · have hi : i < vs.length := by
      unfold L2.start at h2
      by_cases hi : i < vs.length
      · exact hi
      · rw [List.getElem?_append_right (by simpa using hi)] at h2
        rw [List.getElem?_replicate] at h2
        split at h2 <;> cases h2
    have ha : vs[i]? = some v := by
      unfold L2.start at h2
      rw [List.getElem?_append_left (by simpa using hi), List.getElem?_map] at h2
      cases e : vs[i]? with
      | none => rw [e] at h2; cases h2
      | some a => rw [e] at h2; cases h2; rfl
    obtain ⟨u, hu, rv⟩ := r.get ha
    have hp : ps[i]? = some y := by
      rw [← S.pre, List.getElem?_take_of_lt (by omega)]; exact h1
    have ndP : ps.Nodup := by rw [← S.pre]; exact S.nd.sublist (List.take_sublist _ _)
    refine ⟨u, rv, ?_⟩
    rcases S.par y (List.mem_of_getElem? hp) with k | k
    · exact .inl ⟨k, bindL_get ndP hp hu k⟩
    · obtain ⟨c, e⟩ := cell_has (n := s.heap.objs.size + 1) k
      refine .inr ⟨.inl k, c, e, ?_⟩
      have q := x.cell y c e
      rw [bindC_get ndP hp hu (by show scope.names.lookup y ≠ _; rw [k]; decide)] at q
      exact q
  · exact e0.hok.fresh (Nat.le_of_lt (x.above y c (PySem.mem_of_lookup h)))
  · unfold L2.start
    show _ = N.length
    rw [List.length_append, List.length_map, List.length_replicate]
    omega
theorem fn_ofA {P : Program} {w : World} {K : PySem.W.Frag} {mg : Str → Option Value} {base : Heap} {x qual : Str} {st : Stmt} {f : Addr} {fd : FuncData} {N ps : List Str} {sp : Sp} (F : Fun K x qual st f fd) (S : FnScope N ps (defScope st)) (len : ∀ vs H Q E, sp vs H Q E → vs.length = ps.length)
    (hbody : ∀ (cdv : Value) (A : Around) (outer : List Env) (s : Shared) (H : Hp) (vs : List V) (Q : VK) (E : XK), sp vs H Q E →
      ∃ t, PSs (cxA P w K mg base N qual (defScope st) f cdv A outer s H E) (defBody st) t ∧ t { nx := fun _ H' => Q .non H', rt := Q } (L2.start N vs) H) :
    FnA P w K mg base f fd ps sp := by
  obtain ⟨oc, od, kV, doc, pm, an, cdv, ct, osl, rfl, lk, hcd⟩ := F.ex
  refine ⟨len, fun A outer s H args us vs Q E hr e0 hb r hsp => ?_⟩
  have hl := len _ _ _ _ hsp
  have KX : K.In s.heap := e0.mod.kin.keeps fun b o e => (e0.bs b o e).1
  have lim : s.heap.NoLimit := e0.mod.nolimit.keeps fun b o e => (e0.bs b o e).1
  have hkind : ∀ y ∈ ps.zip us, (defScope st).names.lookup y.1 = some .local ∨ ((defScope st).names.lookup y.1 = some .cell ∧ ((cellsFrom (s.heap.objs.size + 1) (defScope st).names []).lookup y.1).isSome = true) := fun ⟨n, v⟩ hy => by
    rcases S.par n (List.of_mem_zip hy).1 with q | q
    · exact .inl q
    · exact .inr ⟨q, PySem.W.cellsFrom_some _ _ _ (.inl q)⟩
  refine codeAny_call_function hr (KX _ _ lk) rfl S.co S.gen rfl (PySem.W.codeRec_of KX hcd) (hb _ _ _ _ ?_)
  refine wpAny_newFunctionEnv_cells S.kind hkind fun env he s1 x => ?_
  subst he
  refine ⟨lim.keeps x.toInCall.keep, codeAny_func ?_⟩
  obtain ⟨t, ht, hq⟩ := hbody cdv A outer s H vs Q E hsp
  have I : Inv (cxA P w K mg base N qual (defScope st) f cdv A outer s H E) [] (L2.start N vs) H s1 := inv_startA S e0 hl r x
  refine wpAny_mono (ht.run [] s1 (L2.start N vs) H _ I hq) (fun fl s' hs => ?_) fun e s' hs => hs
  have fin : ∀ {σ' : St} {H' : Hp} {v : V} {u : Value}, Inv (cxA P w K mg base N qual (defScope st) f cdv A outer s H E) [] σ' H' s' → RelV v u → Q v H' → CE outer P w H s Q u s' :=
    fun {σ' H' v u} J rv q => ⟨v, H', J.os, J.bare, J.base, J.hok, rv, q⟩
  cases fl with
  | ret u =>
    obtain ⟨v, σ', H', J, rv, q⟩ := hs
    exact fin J rv q
  | next =>
    obtain ⟨σ', H', J, q⟩ := hs
    exact fin (v := V.non) (u := Value.none) J rfl q
  | brk =>
    obtain ⟨_, _, _, q⟩ := hs
    exact False.elim q
  | cont =>
    obtain ⟨_, _, _, q⟩ := hs
    exact False.elim q
theorem run_fnA {X : Cx} {f : Addr} {fd : FuncData} {ps : List Str} {sp : Sp} {E : St → XK} {pins : List (Addr × Obj)} {σ : St} {H : Hp} {s : Shared} {Q : VK} {us : List Value} {vs : List V} (F : FnA X.prog X.w X.K X.mg X.base f fd ps sp) (hr : X.A.depth < recursionLimit) (hb : Binds X.K fd ps []) (hx : PassesAt (L2.CX X.prog X.w) X σ (E σ))
    (I : Inv X pins σ H s) (r : Vals vs us) (h : sp vs H Q (E σ)) : wpAny (model X.prog X.w) X.A (call (.ref f) us) (EP X pins σ Q) X.xe s := by
  have hl : us.length = ps.length := by rw [← r.length]; exact F.len _ _ _ _ h
  have b := hb s us I.kIn (by rw [List.append_nil]; exact hl)
  rw [List.append_nil] at b
  refine wpAny_call (codeAny_mono (F.run X.A X.stack s H ⟨us, []⟩ us vs Q (E σ) hr I.env0 b r h) fun r s' hq => ?_)
  cases r with
  | error e => exact hx pins H s e s' I hq
  | ok fl =>
    cases fl with
    | ret u => exact I.after hq
    | next => exact False.elim hq
    | brk => exact False.elim hq
    | cont => exact False.elim hq
/-- the classes that have it, each with what its method keeps -/
def spWord (z : Str) : Sp := fun vs H Q _ => (∃ v, vs = [v]) ∧ Q (.str z) H
structure WordOk (P : Program) (w : World) (K : PySem.W.Frag) (mg : Str → Option Value) (base : Heap) (m C : Str) (z : Str) : Prop where
  me : Meth K (He.ga K C) m (He.fAd K (C, some m))
  ec : ExcC K (He.ga K C)
  bd : Binds K (fdA K (He.fAd K (C, some m))) ["self"] []
  ok : FnA P w K mg base (He.fAd K (C, some m)) (fdA K (He.fAd K (C, some m))) ["self"] (spWord z)
def tWord (K : PySem.W.Frag) (ws : List (Str × Str)) (S : Addr → Addr → Hp → Prop) (ta : TE) : TE := fun σ H Q => ta σ H fun x H1 => ∃ a p, x = .ref a ∧ p ∈ ws ∧ S a (He.ga K p.1) H1 ∧ Q (.str p.2) H1
section
variable {X : Cx} {j : Nat} {m : Str} {W : WX} {pos apos : Pos} {o : Expr} {ta : TE} {ws : List (Str × Str)} {S : Addr → Addr → Hp → Prop}
theorem pe_wordG {pl : Sem Bool} (hS : ∀ pins σ H s a D, Inv X pins σ H s → S a D H → ∃ oe, PySem.W.InstAt s.heap a oe D none) (hw : ∀ p ∈ ws, WordOk X.prog X.w X.K X.mg X.base m p.1 p.2) (hr : X.A.depth < recursionLimit) (hx : ∀ σ, PassesAt (L2.CX X.prog X.w) X σ (WE W σ)) (he : PE X o ta)
    (ht : eval (.Call (.Attribute o m apos) [] [] pos) X.env = (do
      let ov ← eval o X.env
      standAt apos.atName
      let (f, first) ← holding [ov] (getMethod ov m pl)
      callWith pos f first (backTo pos (starEach [] X.env)) (backToKw pos (keywordEach [] X.env))) := by rfl) :
    PE X (.Call (.Attribute o m apos) [] [] pos) (tWord X.K ws S ta) := by
  refine ⟨fun pins s σ H Q I h => ?_⟩
  refine PySem.W.methodCall_KW (pl := pl) (thn (he.run pins s σ H _ I h) fun u s1 ⟨x, H1, I1, rx, a, p, ex, hp, hS1, q⟩ => ?_) ht
  subst ex
  obtain rfl : u = Value.ref a := rx
  obtain ⟨oe, J⟩ := hS _ _ _ _ _ _ I1 hS1
  have k := hw p hp
  refine exc_meth I1.kIn J k.ec k.me.at_ k.me.fn ?_
  exact PySem.W.callWith_K0 (first := [.ref a]) I1.kIn k.me.kp (run_fnA (E := WE W) (us := [.ref a]) (vs := [.ref a]) k.ok hr k.bd (hx σ) I1 (.cons rfl .nil) ⟨⟨_, rfl⟩, q⟩)
end
def keptEx (a D : Addr) (H : Hp) : Prop := ∃ o, H a = some o ∧ IsEx D a o
theorem keptEx_inst {X : Cx} : ∀ pins σ H s a D, Inv X pins σ H s → keptEx a D H → ∃ oe, PySem.W.InstAt s.heap a oe D none := fun _ _ _ _ _ _ I ⟨o, ho, x⟩ => x.inst (I.hok _ o ho)
def suiteEx (ea : Addr) (ecls : Value) (d : Option Addr) (a D : Addr) (_ : Hp) : Prop := a = ea ∧ ecls = .ref D ∧ d = none
theorem suiteEx_inst {X : Cx} {ea : Addr} {oe : Obj} {ecls : Value} {d : Option Addr} {pn : List (Addr × Obj)} (hz : Zc ecls d oe) (hf : ∃ vs, oe.data = .fields vs) : ∀ pins σ H s a D, Inv (X.suite ea ((ea, oe) :: pn)) pins σ H s → suiteEx ea ecls d a D H → ∃ oe, PySem.W.InstAt s.heap a oe D none := fun _ _ _ s a D I ⟨e1, e2, e3⟩ => by
  subst e1 e2 e3
  obtain ⟨hget, _⟩ := I.pin (a, oe) (List.mem_append.mpr (.inl List.mem_cons_self))
  obtain ⟨vs, hv⟩ := hf
  exact ⟨oe, isEx_inst hget hz hv⟩
theorem pe_wordK {X : Cx} {K : PySem.W.Frag} {j : Nat} {m : Str} {W : WX} {pos apos : Pos} {o : Expr} {ta : TE} {ws : List (Str × Str)} {pl : Sem Bool} (hK : X.K = K) (hw : ∀ p ∈ ws, WordOk X.prog X.w X.K X.mg X.base m p.1 p.2) (hr : Room j X.A) (tk : Takes X W) (he : PE X o ta)
    (ht : eval (.Call (.Attribute o m apos) [] [] pos) X.env = (do
      let ov ← eval o X.env
      standAt apos.atName
      let (f, first) ← holding [ov] (getMethod ov m pl)
      callWith pos f first (backTo pos (starEach [] X.env)) (backToKw pos (keywordEach [] X.env))) := by rfl) :
    PE X (.Call (.Attribute o m apos) [] [] pos) (tWord K ws keptEx ta) := hK ▸ pe_wordG (pl := pl) keptEx_inst hw (by have := hr.dp; omega) (passAt tk) he ht
theorem takes_never {X : Cx} {W : WX} (h : ∀ c d σ H, ¬ W c d σ H) : Takes X W := fun _ _ ⟨_, _, _, _, σ, H, c, d, _, _, _, _, _, _, _, _, w⟩ => (h c d σ H w).elim
theorem pe_wordS {X : Cx} {K : PySem.W.Frag} {j : Nat} {m : Str} {pos apos : Pos} {o : Expr} {ta : TE} {ws : List (Str × Str)} {pl : Sem Bool} {ea : Addr} {oe : Obj} {ecls : Value} {d : Option Addr} {pn : List (Addr × Obj)} (hK : X.K = K) (hz : Zc ecls d oe) (hf : ∃ vs, oe.data = .fields vs) (hw : ∀ p ∈ ws, WordOk X.prog X.w X.K X.mg X.base m p.1 p.2) (hr : Room j X.A) (he : PE (X.suite ea ((ea, oe) :: pn)) o ta)
    (ht : eval (.Call (.Attribute o m apos) [] [] pos) X.env = (do
      let ov ← eval o X.env
      standAt apos.atName
      let (f, first) ← holding [ov] (getMethod ov m pl)
      callWith pos f first (backTo pos (starEach [] X.env)) (backToKw pos (keywordEach [] X.env))) := by rfl) :
    PE (X.suite ea ((ea, oe) :: pn)) (.Call (.Attribute o m apos) [] [] pos) (tWord K ws (suiteEx ea ecls d) ta) := by
  subst hK
  exact pe_wordG (X := X.suite ea ((ea, oe) :: pn)) (W := fun _ _ _ _ => False) (pl := pl) (suiteEx_inst hz hf) hw (by have := hr.dp; show X.A.depth < _; omega) (passAt (takes_never fun _ _ _ _ h => h)) he ht
end Mo
namespace Mo
open PySem PySem.Spec PyProof.Rows L2
def top (i : Nat) : Stmt := PySem.Challenge.pw_momentloom_k27_runs_by_calendars_end.main.body.getD i (.Pass ⟨0, 0, 0, 0⟩)
abbrev s_Fault_word : Stmt := inClass (top 2) 0
abbrev s_Nought_word : Stmt := inClass (top 3) 0
abbrev s_Great_word : Stmt := inClass (top 4) 0
abbrev s_Full_word : Stmt := inClass (top 5) 0
abbrev s_Dry_word : Stmt := inClass (top 6) 0
abbrev s_Span_word : Stmt := inClass (top 7) 0
abbrev s_Late_word : Stmt := inClass (top 8) 0
abbrev s_kept_in : Stmt := top 11
abbrev s_of_two : Stmt := top 12
abbrev s_worth_of : Stmt := top 13
abbrev s_copied : Stmt := top 15
abbrev s_copied_machine : Stmt := top 16
abbrev s_Model_init : Stmt := inClass (top 17) 0
abbrev s_State_init : Stmt := inClass (top 18) 0
abbrev s_State_copy : Stmt := inClass (top 18) 1
abbrev s_first_state : Stmt := top 19
abbrev s_deeds_for : Stmt := top 20
abbrev s_Doing_init : Stmt := inClass (top 25) 0
abbrev s_Doing_reckon : Stmt := inClass (top 25) 1
abbrev s_Doing_put : Stmt := inClass (top 25) 2
abbrev s_Doing_push : Stmt := inClass (top 25) 3
abbrev s_Doing_pull : Stmt := inClass (top 25) 4
abbrev s_Doing_draw : Stmt := inClass (top 25) 5
abbrev s_Doing_send : Stmt := inClass (top 25) 6
abbrev s_Doing_do : Stmt := inClass (top 25) 7
abbrev s_Doing_do_all : Stmt := inClass (top 25) 8
abbrev s_Doing_writes : Stmt := inClass (top 25) 9
abbrev s_done : Stmt := top 26
abbrev s_Book_init : Stmt := inClass (top 28) 0
abbrev s_pending_at_first : Stmt := top 29
abbrev s_Rider_init : Stmt := inClass (top 31) 0
abbrev s_Rider_ride : Stmt := inClass (top 31) 1
abbrev s_Rider_outcome_now : Stmt := inClass (top 31) 2
abbrev s_by_calendar : Stmt := top 32
abbrev s_Calendar_init : Stmt := inClass (top 34) 0
abbrev s_Calendar_place : Stmt := inClass (top 34) 1
abbrev s_Calendar_put : Stmt := inClass (top 34) 2
abbrev s_Calendar_size : Stmt := inClass (top 34) 3
abbrev s_Calendar_least : Stmt := inClass (top 34) 4
abbrev s_Calendar_leave : Stmt := inClass (top 34) 5
abbrev s_Calendar_take_out : Stmt := inClass (top 34) 6
abbrev s_Wheel_init : Stmt := inClass (top 36) 0
abbrev s_Wheel_spoke_of : Stmt := inClass (top 36) 1
abbrev s_Wheel_put : Stmt := inClass (top 36) 2
abbrev s_Wheel_size : Stmt := inClass (top 36) 3
abbrev s_Wheel_least : Stmt := inClass (top 36) 4
abbrev s_Wheel_leave : Stmt := inClass (top 36) 5
abbrev s_Wheel_take_out : Stmt := inClass (top 36) 6
abbrev s__law_mixed : Stmt := top 38
abbrev s__law_purse : Stmt := top 39
abbrev s__law_draw : Stmt := top 40
abbrev s__law_machine : Stmt := top 41
abbrev s__law_due : Stmt := top 42
abbrev s_law : Stmt := top 43
def nm_Fault_word : List Str := ["self"]
theorem sc_Fault_word : FnScope nm_Fault_word ["self"] (defScope s_Fault_word) := ⟨rfl, rfl, rfl, by decide +kernel, rfl, by decide +kernel, by decide +kernel⟩
def nm_Nought_word : List Str := ["self"]
theorem sc_Nought_word : FnScope nm_Nought_word ["self"] (defScope s_Nought_word) := ⟨rfl, rfl, rfl, by decide +kernel, rfl, by decide +kernel, by decide +kernel⟩
def nm_Great_word : List Str := ["self"]
theorem sc_Great_word : FnScope nm_Great_word ["self"] (defScope s_Great_word) := ⟨rfl, rfl, rfl, by decide +kernel, rfl, by decide +kernel, by decide +kernel⟩
def nm_Full_word : List Str := ["self"]
theorem sc_Full_word : FnScope nm_Full_word ["self"] (defScope s_Full_word) := ⟨rfl, rfl, rfl, by decide +kernel, rfl, by decide +kernel, by decide +kernel⟩
def nm_Dry_word : List Str := ["self"]
theorem sc_Dry_word : FnScope nm_Dry_word ["self"] (defScope s_Dry_word) := ⟨rfl, rfl, rfl, by decide +kernel, rfl, by decide +kernel, by decide +kernel⟩
def nm_Span_word : List Str := ["self"]
theorem sc_Span_word : FnScope nm_Span_word ["self"] (defScope s_Span_word) := ⟨rfl, rfl, rfl, by decide +kernel, rfl, by decide +kernel, by decide +kernel⟩
def nm_Late_word : List Str := ["self"]
theorem sc_Late_word : FnScope nm_Late_word ["self"] (defScope s_Late_word) := ⟨rfl, rfl, rfl, by decide +kernel, rfl, by decide +kernel, by decide +kernel⟩
def nm_kept_in : List Str := ["number"]
theorem sc_kept_in : FnScope nm_kept_in ["number"] (defScope s_kept_in) := ⟨rfl, rfl, rfl, by decide +kernel, rfl, by decide +kernel, by decide +kernel⟩
def nm_of_two : List Str := ["word", "one", "other"]
theorem sc_of_two : FnScope nm_of_two ["word", "one", "other"] (defScope s_of_two) := ⟨rfl, rfl, rfl, by decide +kernel, rfl, by decide +kernel, by decide +kernel⟩
def nm_worth_of : List Str := ["formula", "state", "now", "got", "word", "one"]
theorem sc_worth_of : FnScope nm_worth_of ["formula", "state", "now", "got"] (defScope s_worth_of) := ⟨rfl, rfl, rfl, by decide +kernel, rfl, by decide +kernel, by decide +kernel⟩
def nm_copied : List Str := ["deeds", "found", "deed"]
theorem sc_copied : FnScope nm_copied ["deeds"] (defScope s_copied) := ⟨rfl, rfl, rfl, by decide +kernel, rfl, by decide +kernel, by decide +kernel⟩
def nm_copied_machine : List Str := ["machine", "name", "boxes", "queues", "draws", "hears", "sign", "deeds"]
theorem sc_copied_machine : FnScope nm_copied_machine ["machine"] (defScope s_copied_machine) := ⟨rfl, rfl, rfl, by decide +kernel, rfl, by decide +kernel, by decide +kernel⟩
def nm_Model_init : List Str := ["self", "machines", "machine"]
theorem sc_Model_init : FnScope nm_Model_init ["self", "machines"] (defScope s_Model_init) := ⟨rfl, rfl, rfl, by decide +kernel, rfl, by decide +kernel, by decide +kernel⟩
def nm_State_init : List Str := ["self", "boxes", "queues", "drawn", "sent"]
theorem sc_State_init : FnScope nm_State_init ["self", "boxes", "queues", "drawn", "sent"] (defScope s_State_init) := ⟨rfl, rfl, rfl, by decide +kernel, rfl, by decide +kernel, by decide +kernel⟩
def nm_State_copy : List Str := ["self", "queues", "name", "worths"]
theorem sc_State_copy : FnScope nm_State_copy ["self"] (defScope s_State_copy) := ⟨rfl, rfl, rfl, by decide +kernel, rfl, by decide +kernel, by decide +kernel⟩
def nm_first_state : List Str := ["model", "at", "boxes", "name", "worth", "queues"]
theorem sc_first_state : FnScope nm_first_state ["model", "at"] (defScope s_first_state) := ⟨rfl, rfl, rfl, by decide +kernel, rfl, by decide +kernel, by decide +kernel⟩
def nm_deeds_for : List Str := ["model", "at", "sign", "heard", "deeds"]
theorem sc_deeds_for : FnScope nm_deeds_for ["model", "at", "sign"] (defScope s_deeds_for) := ⟨rfl, rfl, rfl, by decide +kernel, rfl, by decide +kernel, by decide +kernel⟩
def nm_Doing_init : List Str := ["self", "draws", "state", "happening"]
theorem sc_Doing_init : FnScope nm_Doing_init ["self", "draws", "state", "happening"] (defScope s_Doing_init) := ⟨rfl, rfl, rfl, by decide +kernel, rfl, by decide +kernel, by decide +kernel⟩
def nm_Doing_reckon : List Str := ["self", "formula"]
theorem sc_Doing_reckon : FnScope nm_Doing_reckon ["self", "formula"] (defScope s_Doing_reckon) := ⟨rfl, rfl, rfl, by decide +kernel, rfl, by decide +kernel, by decide +kernel⟩
def nm_Doing_put : List Str := ["self", "box", "worth"]
theorem sc_Doing_put : FnScope nm_Doing_put ["self", "box", "worth"] (defScope s_Doing_put) := ⟨rfl, rfl, rfl, by decide +kernel, rfl, by decide +kernel, by decide +kernel⟩
def nm_Doing_push : List Str := ["self", "queue", "worth"]
theorem sc_Doing_push : FnScope nm_Doing_push ["self", "queue", "worth"] (defScope s_Doing_push) := ⟨rfl, rfl, rfl, by decide +kernel, rfl, by decide +kernel, by decide +kernel⟩
def nm_Doing_pull : List Str := ["self", "deed", "row"]
theorem sc_Doing_pull : FnScope nm_Doing_pull ["self", "deed"] (defScope s_Doing_pull) := ⟨rfl, rfl, rfl, by decide +kernel, rfl, by decide +kernel, by decide +kernel⟩
def nm_Doing_draw : List Str := ["self", "box", "many"]
theorem sc_Doing_draw : FnScope nm_Doing_draw ["self", "box", "many"] (defScope s_Doing_draw) := ⟨rfl, rfl, rfl, by decide +kernel, rfl, by decide +kernel, by decide +kernel⟩
def nm_Doing_send : List Str := ["self", "deed", "span", "got", "key"]
theorem sc_Doing_send : FnScope nm_Doing_send ["self", "deed"] (defScope s_Doing_send) := ⟨rfl, rfl, rfl, by decide +kernel, rfl, by decide +kernel, by decide +kernel⟩
def nm_Doing_do : List Str := ["self", "deed"]
theorem sc_Doing_do : FnScope nm_Doing_do ["self", "deed"] (defScope s_Doing_do) := ⟨rfl, rfl, rfl, by decide +kernel, rfl, by decide +kernel, by decide +kernel⟩
def nm_Doing_do_all : List Str := ["self", "deeds", "deed"]
theorem sc_Doing_do_all : FnScope nm_Doing_do_all ["self", "deeds"] (defScope s_Doing_do_all) := ⟨rfl, rfl, rfl, by decide +kernel, rfl, by decide +kernel, by decide +kernel⟩
def nm_Doing_writes : List Str := ["self", "machine", "name", "found", "worth"]
theorem sc_Doing_writes : FnScope nm_Doing_writes ["self", "machine"] (defScope s_Doing_writes) := ⟨rfl, rfl, rfl, by decide +kernel, rfl, by decide +kernel, by decide +kernel⟩
def nm_done : List Str := ["model", "state", "happening", "key", "at", "sign", "one", "other", "machine", "doing", "record"]
theorem sc_done : FnScope nm_done ["model", "state", "happening"] (defScope s_done) := ⟨rfl, rfl, rfl, by decide +kernel, rfl, by decide +kernel, by decide +kernel⟩
def nm_Book_init : List Str := ["self", "records", "ending", "states"]
theorem sc_Book_init : FnScope nm_Book_init ["self", "records", "ending", "states"] (defScope s_Book_init) := ⟨rfl, rfl, rfl, by decide +kernel, rfl, by decide +kernel, by decide +kernel⟩
def nm_pending_at_first : List Str := ["signs", "found", "count", "sign", "time", "rank", "at", "name", "one", "other"]
theorem sc_pending_at_first : FnScope nm_pending_at_first ["signs"] (defScope s_pending_at_first) := ⟨rfl, rfl, rfl, by decide +kernel, rfl, by decide +kernel, by decide +kernel⟩
def nm_Rider_init : List Str := ["self", "model", "signs", "calendar", "happening", "at"]
theorem sc_Rider_init : FnScope nm_Rider_init ["self", "model", "signs", "calendar"] (defScope s_Rider_init) := ⟨rfl, rfl, rfl, by decide +kernel, rfl, by decide +kernel, by decide +kernel⟩
def nm_Rider_ride : List Str := ["self", "key", "happening", "state", "record", "ends", "e", "news"]
theorem sc_Rider_ride : FnScope nm_Rider_ride ["self"] (defScope s_Rider_ride) := ⟨rfl, rfl, rfl, by decide +kernel, rfl, by decide +kernel, by decide +kernel⟩
def nm_Rider_outcome_now : List Str := ["self"]
theorem sc_Rider_outcome_now : FnScope nm_Rider_outcome_now ["self"] (defScope s_Rider_outcome_now) := ⟨rfl, rfl, rfl, by decide +kernel, rfl, by decide +kernel, by decide +kernel⟩
def nm_by_calendar : List Str := ["model", "signs", "most", "calendar", "rider"]
theorem sc_by_calendar : FnScope nm_by_calendar ["model", "signs", "most", "calendar"] (defScope s_by_calendar) := ⟨rfl, rfl, rfl, by decide +kernel, rfl, by decide +kernel, by decide +kernel⟩
def nm_Calendar_init : List Str := ["self"]
theorem sc_Calendar_init : FnScope nm_Calendar_init ["self"] (defScope s_Calendar_init) := ⟨rfl, rfl, rfl, by decide +kernel, rfl, by decide +kernel, by decide +kernel⟩
def nm_Calendar_place : List Str := ["self", "key", "low", "high", "middle"]
theorem sc_Calendar_place : FnScope nm_Calendar_place ["self", "key"] (defScope s_Calendar_place) := ⟨rfl, rfl, rfl, by decide +kernel, rfl, by decide +kernel, by decide +kernel⟩
def nm_Calendar_put : List Str := ["self", "key", "thing"]
theorem sc_Calendar_put : FnScope nm_Calendar_put ["self", "key", "thing"] (defScope s_Calendar_put) := ⟨rfl, rfl, rfl, by decide +kernel, rfl, by decide +kernel, by decide +kernel⟩
def nm_Calendar_size : List Str := ["self"]
theorem sc_Calendar_size : FnScope nm_Calendar_size ["self"] (defScope s_Calendar_size) := ⟨rfl, rfl, rfl, by decide +kernel, rfl, by decide +kernel, by decide +kernel⟩
def nm_Calendar_least : List Str := ["self"]
theorem sc_Calendar_least : FnScope nm_Calendar_least ["self"] (defScope s_Calendar_least) := ⟨rfl, rfl, rfl, by decide +kernel, rfl, by decide +kernel, by decide +kernel⟩
def nm_Calendar_leave : List Str := ["self", "key"]
theorem sc_Calendar_leave : FnScope nm_Calendar_leave ["self"] (defScope s_Calendar_leave) := ⟨rfl, rfl, rfl, by decide +kernel, rfl, by decide +kernel, by decide +kernel⟩
def nm_Calendar_take_out : List Str := ["self", "key"]
theorem sc_Calendar_take_out : FnScope nm_Calendar_take_out ["self", "key"] (defScope s_Calendar_take_out) := ⟨rfl, rfl, rfl, by decide +kernel, rfl, by decide +kernel, by decide +kernel⟩
def nm_Wheel_init : List Str := ["self", "span"]
theorem sc_Wheel_init : FnScope nm_Wheel_init ["self", "span"] (defScope s_Wheel_init) := ⟨rfl, rfl, rfl, by decide +kernel, rfl, by decide +kernel, by decide +kernel⟩
def nm_Wheel_spoke_of : List Str := ["self", "key"]
theorem sc_Wheel_spoke_of : FnScope nm_Wheel_spoke_of ["self", "key"] (defScope s_Wheel_spoke_of) := ⟨rfl, rfl, rfl, by decide +kernel, rfl, by decide +kernel, by decide +kernel⟩
def nm_Wheel_put : List Str := ["self", "key", "thing", "at"]
theorem sc_Wheel_put : FnScope nm_Wheel_put ["self", "key", "thing"] (defScope s_Wheel_put) := ⟨rfl, rfl, rfl, by decide +kernel, rfl, by decide +kernel, by decide +kernel⟩
def nm_Wheel_size : List Str := ["self"]
theorem sc_Wheel_size : FnScope nm_Wheel_size ["self"] (defScope s_Wheel_size) := ⟨rfl, rfl, rfl, by decide +kernel, rfl, by decide +kernel, by decide +kernel⟩
def nm_Wheel_least : List Str := ["self"]
theorem sc_Wheel_least : FnScope nm_Wheel_least ["self"] (defScope s_Wheel_least) := ⟨rfl, rfl, rfl, by decide +kernel, rfl, by decide +kernel, by decide +kernel⟩
def nm_Wheel_leave : List Str := ["self", "key"]
theorem sc_Wheel_leave : FnScope nm_Wheel_leave ["self"] (defScope s_Wheel_leave) := ⟨rfl, rfl, rfl, by decide +kernel, rfl, by decide +kernel, by decide +kernel⟩
def nm_Wheel_take_out : List Str := ["self", "key", "at", "thing"]
theorem sc_Wheel_take_out : FnScope nm_Wheel_take_out ["self", "key"] (defScope s_Wheel_take_out) := ⟨rfl, rfl, rfl, by decide +kernel, rfl, by decide +kernel, by decide +kernel⟩
def nm__law_mixed : List Str := ["_law_cell", "_law_k", "_law_number"]
theorem sc__law_mixed : FnScope nm__law_mixed ["_law_cell", "_law_k"] (defScope s__law_mixed) := ⟨rfl, rfl, rfl, by decide +kernel, rfl, by decide +kernel, by decide +kernel⟩
def nm__law_purse : List Str := ["_law_script", "_law_cells", "_law_number", "_law_k"]
theorem sc__law_purse : FnScope nm__law_purse ["_law_script"] (defScope s__law_purse) := ⟨rfl, rfl, rfl, by decide +kernel, rfl, by decide +kernel, by decide +kernel⟩
def nm__law_draw : List Str := ["_law_purse_here", "_law_out_of", "_law_drawn"]
theorem sc__law_draw : FnScope nm__law_draw ["_law_purse_here", "_law_out_of"] (defScope s__law_draw) := ⟨rfl, rfl, rfl, by decide +kernel, rfl, by decide +kernel, by decide +kernel⟩
def nm__law_machine : List Str := ["_law_last", "_law_stop", "_law_span", "_law_stops", "_law_again", "_law_deeds"]
theorem sc__law_machine : FnScope nm__law_machine ["_law_last", "_law_stop", "_law_span"] (defScope s__law_machine) := ⟨rfl, rfl, rfl, by decide +kernel, rfl, by decide +kernel, by decide +kernel⟩
def nm__law_due : List Str := ["_law_last", "_law_stop", "_law_span", "_law_others", "_law_most", "_law_records", "_law_ending", "_law_pending", "_law_ticks", "_law_key", "_law_k", "_law_time"]
theorem sc__law_due : FnScope nm__law_due ["_law_last", "_law_stop", "_law_span", "_law_others", "_law_most"] (defScope s__law_due) := ⟨rfl, rfl, rfl, by decide +kernel, rfl, by decide +kernel, by decide +kernel⟩
def nm_law : List Str := ["_law_script", "_law_purse_here", "_law_last", "_law_stop", "_law_span", "_law_others", "_law_most", "_law_machines", "_law_signs", "_law_due_here", "_law_calendar", "_law_book", "_law_state", "_law_k", "_law_time", "_law_record"]
theorem sc_law : FnScope nm_law ["_law_script"] (defScope s_law) := ⟨rfl, rfl, rfl, by decide +kernel, rfl, by decide +kernel, by decide +kernel⟩
def fl_Model (a0 : V) : List (Str × V) := [(("machines" : Str), a0)]
theorem lk_Model_machines {a0 : V} : (fl_Model a0).lookup ("machines" : Str) = some a0 := by kernel_rfl
theorem pt_Model_machines {a0 z : V} : putF "machines" z (fl_Model a0) = fl_Model z := by kernel_rfl
theorem in_Model_0 {a0 : V} : putF "machines" a0 ([] : List (Str × V)) = [(("machines" : Str), a0)] := by kernel_rfl
def fl_State (a0 a1 a2 a3 : V) : List (Str × V) := [(("boxes" : Str), a0), (("queues" : Str), a1), (("drawn" : Str), a2), (("sent" : Str), a3)]
theorem lk_State_boxes {a0 a1 a2 a3 : V} : (fl_State a0 a1 a2 a3).lookup ("boxes" : Str) = some a0 := by kernel_rfl
theorem pt_State_boxes {a0 a1 a2 a3 z : V} : putF "boxes" z (fl_State a0 a1 a2 a3) = fl_State z a1 a2 a3 := by kernel_rfl
theorem in_State_0 {a0 : V} : putF "boxes" a0 ([] : List (Str × V)) = [(("boxes" : Str), a0)] := by kernel_rfl
theorem lk_State_queues {a0 a1 a2 a3 : V} : (fl_State a0 a1 a2 a3).lookup ("queues" : Str) = some a1 := by kernel_rfl
theorem pt_State_queues {a0 a1 a2 a3 z : V} : putF "queues" z (fl_State a0 a1 a2 a3) = fl_State a0 z a2 a3 := by kernel_rfl
theorem in_State_1 {a0 a1 : V} : putF "queues" a1 ([(("boxes" : Str), a0)] : List (Str × V)) = [(("boxes" : Str), a0), (("queues" : Str), a1)] := by kernel_rfl
theorem lk_State_drawn {a0 a1 a2 a3 : V} : (fl_State a0 a1 a2 a3).lookup ("drawn" : Str) = some a2 := by kernel_rfl
theorem pt_State_drawn {a0 a1 a2 a3 z : V} : putF "drawn" z (fl_State a0 a1 a2 a3) = fl_State a0 a1 z a3 := by kernel_rfl
theorem in_State_2 {a0 a1 a2 : V} : putF "drawn" a2 ([(("boxes" : Str), a0), (("queues" : Str), a1)] : List (Str × V)) = [(("boxes" : Str), a0), (("queues" : Str), a1), (("drawn" : Str), a2)] := by kernel_rfl
theorem lk_State_sent {a0 a1 a2 a3 : V} : (fl_State a0 a1 a2 a3).lookup ("sent" : Str) = some a3 := by kernel_rfl
theorem pt_State_sent {a0 a1 a2 a3 z : V} : putF "sent" z (fl_State a0 a1 a2 a3) = fl_State a0 a1 a2 z := by kernel_rfl
theorem in_State_3 {a0 a1 a2 a3 : V} : putF "sent" a3 ([(("boxes" : Str), a0), (("queues" : Str), a1), (("drawn" : Str), a2)] : List (Str × V)) = [(("boxes" : Str), a0), (("queues" : Str), a1), (("drawn" : Str), a2), (("sent" : Str), a3)] := by kernel_rfl
theorem no_State_copy {a0 a1 a2 a3 : V} : (fl_State a0 a1 a2 a3).lookup ("copy" : Str) = none := by kernel_rfl
def fl_Doing (a0 a1 a2 a3 a4 a5 a6 a7 : V) : List (Str × V) := [(("draws" : Str), a0), (("state" : Str), a1), (("key" : Str), a2), (("at" : Str), a3), (("got" : Str), a4), (("written" : Str), a5), (("news" : Str), a6), (("ends" : Str), a7)]
theorem lk_Doing_draws {a0 a1 a2 a3 a4 a5 a6 a7 : V} : (fl_Doing a0 a1 a2 a3 a4 a5 a6 a7).lookup ("draws" : Str) = some a0 := by kernel_rfl
theorem pt_Doing_draws {a0 a1 a2 a3 a4 a5 a6 a7 z : V} : putF "draws" z (fl_Doing a0 a1 a2 a3 a4 a5 a6 a7) = fl_Doing z a1 a2 a3 a4 a5 a6 a7 := by kernel_rfl
theorem in_Doing_0 {a0 : V} : putF "draws" a0 ([] : List (Str × V)) = [(("draws" : Str), a0)] := by kernel_rfl
theorem lk_Doing_state {a0 a1 a2 a3 a4 a5 a6 a7 : V} : (fl_Doing a0 a1 a2 a3 a4 a5 a6 a7).lookup ("state" : Str) = some a1 := by kernel_rfl
theorem pt_Doing_state {a0 a1 a2 a3 a4 a5 a6 a7 z : V} : putF "state" z (fl_Doing a0 a1 a2 a3 a4 a5 a6 a7) = fl_Doing a0 z a2 a3 a4 a5 a6 a7 := by kernel_rfl
theorem in_Doing_1 {a0 a1 : V} : putF "state" a1 ([(("draws" : Str), a0)] : List (Str × V)) = [(("draws" : Str), a0), (("state" : Str), a1)] := by kernel_rfl
theorem lk_Doing_key {a0 a1 a2 a3 a4 a5 a6 a7 : V} : (fl_Doing a0 a1 a2 a3 a4 a5 a6 a7).lookup ("key" : Str) = some a2 := by kernel_rfl
theorem pt_Doing_key {a0 a1 a2 a3 a4 a5 a6 a7 z : V} : putF "key" z (fl_Doing a0 a1 a2 a3 a4 a5 a6 a7) = fl_Doing a0 a1 z a3 a4 a5 a6 a7 := by kernel_rfl
theorem in_Doing_2 {a0 a1 a2 : V} : putF "key" a2 ([(("draws" : Str), a0), (("state" : Str), a1)] : List (Str × V)) = [(("draws" : Str), a0), (("state" : Str), a1), (("key" : Str), a2)] := by kernel_rfl
theorem lk_Doing_at {a0 a1 a2 a3 a4 a5 a6 a7 : V} : (fl_Doing a0 a1 a2 a3 a4 a5 a6 a7).lookup ("at" : Str) = some a3 := by kernel_rfl
theorem pt_Doing_at {a0 a1 a2 a3 a4 a5 a6 a7 z : V} : putF "at" z (fl_Doing a0 a1 a2 a3 a4 a5 a6 a7) = fl_Doing a0 a1 a2 z a4 a5 a6 a7 := by kernel_rfl
theorem in_Doing_3 {a0 a1 a2 a3 : V} : putF "at" a3 ([(("draws" : Str), a0), (("state" : Str), a1), (("key" : Str), a2)] : List (Str × V)) = [(("draws" : Str), a0), (("state" : Str), a1), (("key" : Str), a2), (("at" : Str), a3)] := by kernel_rfl
theorem lk_Doing_got {a0 a1 a2 a3 a4 a5 a6 a7 : V} : (fl_Doing a0 a1 a2 a3 a4 a5 a6 a7).lookup ("got" : Str) = some a4 := by kernel_rfl
theorem pt_Doing_got {a0 a1 a2 a3 a4 a5 a6 a7 z : V} : putF "got" z (fl_Doing a0 a1 a2 a3 a4 a5 a6 a7) = fl_Doing a0 a1 a2 a3 z a5 a6 a7 := by kernel_rfl
theorem in_Doing_4 {a0 a1 a2 a3 a4 : V} : putF "got" a4 ([(("draws" : Str), a0), (("state" : Str), a1), (("key" : Str), a2), (("at" : Str), a3)] : List (Str × V)) = [(("draws" : Str), a0), (("state" : Str), a1), (("key" : Str), a2), (("at" : Str), a3), (("got" : Str), a4)] := by kernel_rfl
theorem lk_Doing_written {a0 a1 a2 a3 a4 a5 a6 a7 : V} : (fl_Doing a0 a1 a2 a3 a4 a5 a6 a7).lookup ("written" : Str) = some a5 := by kernel_rfl
theorem pt_Doing_written {a0 a1 a2 a3 a4 a5 a6 a7 z : V} : putF "written" z (fl_Doing a0 a1 a2 a3 a4 a5 a6 a7) = fl_Doing a0 a1 a2 a3 a4 z a6 a7 := by kernel_rfl
theorem in_Doing_5 {a0 a1 a2 a3 a4 a5 : V} : putF "written" a5 ([(("draws" : Str), a0), (("state" : Str), a1), (("key" : Str), a2), (("at" : Str), a3), (("got" : Str), a4)] : List (Str × V)) = [(("draws" : Str), a0), (("state" : Str), a1), (("key" : Str), a2), (("at" : Str), a3), (("got" : Str), a4), (("written" : Str), a5)] := by kernel_rfl
theorem lk_Doing_news {a0 a1 a2 a3 a4 a5 a6 a7 : V} : (fl_Doing a0 a1 a2 a3 a4 a5 a6 a7).lookup ("news" : Str) = some a6 := by kernel_rfl
theorem pt_Doing_news {a0 a1 a2 a3 a4 a5 a6 a7 z : V} : putF "news" z (fl_Doing a0 a1 a2 a3 a4 a5 a6 a7) = fl_Doing a0 a1 a2 a3 a4 a5 z a7 := by kernel_rfl
theorem in_Doing_6 {a0 a1 a2 a3 a4 a5 a6 : V} : putF "news" a6 ([(("draws" : Str), a0), (("state" : Str), a1), (("key" : Str), a2), (("at" : Str), a3), (("got" : Str), a4), (("written" : Str), a5)] : List (Str × V)) = [(("draws" : Str), a0), (("state" : Str), a1), (("key" : Str), a2), (("at" : Str), a3), (("got" : Str), a4), (("written" : Str), a5), (("news" : Str), a6)] := by kernel_rfl
theorem lk_Doing_ends {a0 a1 a2 a3 a4 a5 a6 a7 : V} : (fl_Doing a0 a1 a2 a3 a4 a5 a6 a7).lookup ("ends" : Str) = some a7 := by kernel_rfl
theorem pt_Doing_ends {a0 a1 a2 a3 a4 a5 a6 a7 z : V} : putF "ends" z (fl_Doing a0 a1 a2 a3 a4 a5 a6 a7) = fl_Doing a0 a1 a2 a3 a4 a5 a6 z := by kernel_rfl
theorem in_Doing_7 {a0 a1 a2 a3 a4 a5 a6 a7 : V} : putF "ends" a7 ([(("draws" : Str), a0), (("state" : Str), a1), (("key" : Str), a2), (("at" : Str), a3), (("got" : Str), a4), (("written" : Str), a5), (("news" : Str), a6)] : List (Str × V)) = [(("draws" : Str), a0), (("state" : Str), a1), (("key" : Str), a2), (("at" : Str), a3), (("got" : Str), a4), (("written" : Str), a5), (("news" : Str), a6), (("ends" : Str), a7)] := by kernel_rfl
theorem no_Doing_do {a0 a1 a2 a3 a4 a5 a6 a7 : V} : (fl_Doing a0 a1 a2 a3 a4 a5 a6 a7).lookup ("do" : Str) = none := by kernel_rfl
theorem no_Doing_do_all {a0 a1 a2 a3 a4 a5 a6 a7 : V} : (fl_Doing a0 a1 a2 a3 a4 a5 a6 a7).lookup ("do_all" : Str) = none := by kernel_rfl
theorem no_Doing_draw {a0 a1 a2 a3 a4 a5 a6 a7 : V} : (fl_Doing a0 a1 a2 a3 a4 a5 a6 a7).lookup ("draw" : Str) = none := by kernel_rfl
theorem no_Doing_pull {a0 a1 a2 a3 a4 a5 a6 a7 : V} : (fl_Doing a0 a1 a2 a3 a4 a5 a6 a7).lookup ("pull" : Str) = none := by kernel_rfl
theorem no_Doing_push {a0 a1 a2 a3 a4 a5 a6 a7 : V} : (fl_Doing a0 a1 a2 a3 a4 a5 a6 a7).lookup ("push" : Str) = none := by kernel_rfl
theorem no_Doing_put {a0 a1 a2 a3 a4 a5 a6 a7 : V} : (fl_Doing a0 a1 a2 a3 a4 a5 a6 a7).lookup ("put" : Str) = none := by kernel_rfl
theorem no_Doing_reckon {a0 a1 a2 a3 a4 a5 a6 a7 : V} : (fl_Doing a0 a1 a2 a3 a4 a5 a6 a7).lookup ("reckon" : Str) = none := by kernel_rfl
theorem no_Doing_send {a0 a1 a2 a3 a4 a5 a6 a7 : V} : (fl_Doing a0 a1 a2 a3 a4 a5 a6 a7).lookup ("send" : Str) = none := by kernel_rfl
theorem no_Doing_writes {a0 a1 a2 a3 a4 a5 a6 a7 : V} : (fl_Doing a0 a1 a2 a3 a4 a5 a6 a7).lookup ("writes" : Str) = none := by kernel_rfl
def fl_Book (a0 a1 a2 : V) : List (Str × V) := [(("records" : Str), a0), (("ending" : Str), a1), (("states" : Str), a2)]
theorem lk_Book_records {a0 a1 a2 : V} : (fl_Book a0 a1 a2).lookup ("records" : Str) = some a0 := by kernel_rfl
theorem pt_Book_records {a0 a1 a2 z : V} : putF "records" z (fl_Book a0 a1 a2) = fl_Book z a1 a2 := by kernel_rfl
theorem in_Book_0 {a0 : V} : putF "records" a0 ([] : List (Str × V)) = [(("records" : Str), a0)] := by kernel_rfl
theorem lk_Book_ending {a0 a1 a2 : V} : (fl_Book a0 a1 a2).lookup ("ending" : Str) = some a1 := by kernel_rfl
theorem pt_Book_ending {a0 a1 a2 z : V} : putF "ending" z (fl_Book a0 a1 a2) = fl_Book a0 z a2 := by kernel_rfl
theorem in_Book_1 {a0 a1 : V} : putF "ending" a1 ([(("records" : Str), a0)] : List (Str × V)) = [(("records" : Str), a0), (("ending" : Str), a1)] := by kernel_rfl
theorem lk_Book_states {a0 a1 a2 : V} : (fl_Book a0 a1 a2).lookup ("states" : Str) = some a2 := by kernel_rfl
theorem pt_Book_states {a0 a1 a2 z : V} : putF "states" z (fl_Book a0 a1 a2) = fl_Book a0 a1 z := by kernel_rfl
theorem in_Book_2 {a0 a1 a2 : V} : putF "states" a2 ([(("records" : Str), a0), (("ending" : Str), a1)] : List (Str × V)) = [(("records" : Str), a0), (("ending" : Str), a1), (("states" : Str), a2)] := by kernel_rfl
def fl_Rider (a0 a1 a2 a3 a4 : V) : List (Str × V) := [(("model" : Str), a0), (("states" : Str), a1), (("calendar" : Str), a2), (("found" : Str), a3), (("ended" : Str), a4)]
theorem lk_Rider_model {a0 a1 a2 a3 a4 : V} : (fl_Rider a0 a1 a2 a3 a4).lookup ("model" : Str) = some a0 := by kernel_rfl
theorem pt_Rider_model {a0 a1 a2 a3 a4 z : V} : putF "model" z (fl_Rider a0 a1 a2 a3 a4) = fl_Rider z a1 a2 a3 a4 := by kernel_rfl
theorem in_Rider_0 {a0 : V} : putF "model" a0 ([] : List (Str × V)) = [(("model" : Str), a0)] := by kernel_rfl
theorem lk_Rider_states {a0 a1 a2 a3 a4 : V} : (fl_Rider a0 a1 a2 a3 a4).lookup ("states" : Str) = some a1 := by kernel_rfl
theorem pt_Rider_states {a0 a1 a2 a3 a4 z : V} : putF "states" z (fl_Rider a0 a1 a2 a3 a4) = fl_Rider a0 z a2 a3 a4 := by kernel_rfl
theorem in_Rider_1 {a0 a1 : V} : putF "states" a1 ([(("model" : Str), a0)] : List (Str × V)) = [(("model" : Str), a0), (("states" : Str), a1)] := by kernel_rfl
theorem lk_Rider_calendar {a0 a1 a2 a3 a4 : V} : (fl_Rider a0 a1 a2 a3 a4).lookup ("calendar" : Str) = some a2 := by kernel_rfl
theorem pt_Rider_calendar {a0 a1 a2 a3 a4 z : V} : putF "calendar" z (fl_Rider a0 a1 a2 a3 a4) = fl_Rider a0 a1 z a3 a4 := by kernel_rfl
theorem in_Rider_2 {a0 a1 a2 : V} : putF "calendar" a2 ([(("model" : Str), a0), (("states" : Str), a1)] : List (Str × V)) = [(("model" : Str), a0), (("states" : Str), a1), (("calendar" : Str), a2)] := by kernel_rfl
theorem lk_Rider_found {a0 a1 a2 a3 a4 : V} : (fl_Rider a0 a1 a2 a3 a4).lookup ("found" : Str) = some a3 := by kernel_rfl
theorem pt_Rider_found {a0 a1 a2 a3 a4 z : V} : putF "found" z (fl_Rider a0 a1 a2 a3 a4) = fl_Rider a0 a1 a2 z a4 := by kernel_rfl
theorem in_Rider_3 {a0 a1 a2 a3 : V} : putF "found" a3 ([(("model" : Str), a0), (("states" : Str), a1), (("calendar" : Str), a2)] : List (Str × V)) = [(("model" : Str), a0), (("states" : Str), a1), (("calendar" : Str), a2), (("found" : Str), a3)] := by kernel_rfl
theorem lk_Rider_ended {a0 a1 a2 a3 a4 : V} : (fl_Rider a0 a1 a2 a3 a4).lookup ("ended" : Str) = some a4 := by kernel_rfl
theorem pt_Rider_ended {a0 a1 a2 a3 a4 z : V} : putF "ended" z (fl_Rider a0 a1 a2 a3 a4) = fl_Rider a0 a1 a2 a3 z := by kernel_rfl
theorem in_Rider_4 {a0 a1 a2 a3 a4 : V} : putF "ended" a4 ([(("model" : Str), a0), (("states" : Str), a1), (("calendar" : Str), a2), (("found" : Str), a3)] : List (Str × V)) = [(("model" : Str), a0), (("states" : Str), a1), (("calendar" : Str), a2), (("found" : Str), a3), (("ended" : Str), a4)] := by kernel_rfl
theorem no_Rider_outcome_now {a0 a1 a2 a3 a4 : V} : (fl_Rider a0 a1 a2 a3 a4).lookup ("outcome_now" : Str) = none := by kernel_rfl
theorem no_Rider_ride {a0 a1 a2 a3 a4 : V} : (fl_Rider a0 a1 a2 a3 a4).lookup ("ride" : Str) = none := by kernel_rfl
def fl_Calendar (a0 a1 : V) : List (Str × V) := [(("row" : Str), a0), (("things" : Str), a1)]
theorem lk_Calendar_row {a0 a1 : V} : (fl_Calendar a0 a1).lookup ("row" : Str) = some a0 := by kernel_rfl
theorem pt_Calendar_row {a0 a1 z : V} : putF "row" z (fl_Calendar a0 a1) = fl_Calendar z a1 := by kernel_rfl
theorem in_Calendar_0 {a0 : V} : putF "row" a0 ([] : List (Str × V)) = [(("row" : Str), a0)] := by kernel_rfl
theorem lk_Calendar_things {a0 a1 : V} : (fl_Calendar a0 a1).lookup ("things" : Str) = some a1 := by kernel_rfl
theorem pt_Calendar_things {a0 a1 z : V} : putF "things" z (fl_Calendar a0 a1) = fl_Calendar a0 z := by kernel_rfl
theorem in_Calendar_1 {a0 a1 : V} : putF "things" a1 ([(("row" : Str), a0)] : List (Str × V)) = [(("row" : Str), a0), (("things" : Str), a1)] := by kernel_rfl
theorem no_Calendar_least {a0 a1 : V} : (fl_Calendar a0 a1).lookup ("least" : Str) = none := by kernel_rfl
theorem no_Calendar_leave {a0 a1 : V} : (fl_Calendar a0 a1).lookup ("leave" : Str) = none := by kernel_rfl
theorem no_Calendar_place {a0 a1 : V} : (fl_Calendar a0 a1).lookup ("place" : Str) = none := by kernel_rfl
theorem no_Calendar_put {a0 a1 : V} : (fl_Calendar a0 a1).lookup ("put" : Str) = none := by kernel_rfl
theorem no_Calendar_size {a0 a1 : V} : (fl_Calendar a0 a1).lookup ("size" : Str) = none := by kernel_rfl
theorem no_Calendar_take_out {a0 a1 : V} : (fl_Calendar a0 a1).lookup ("take_out" : Str) = none := by kernel_rfl
def fl_Wheel (a0 a1 a2 a3 : V) : List (Str × V) := [(("span" : Str), a0), (("spokes" : Str), a1), (("rim" : Str), a2), (("many" : Str), a3)]
theorem lk_Wheel_span {a0 a1 a2 a3 : V} : (fl_Wheel a0 a1 a2 a3).lookup ("span" : Str) = some a0 := by kernel_rfl
theorem pt_Wheel_span {a0 a1 a2 a3 z : V} : putF "span" z (fl_Wheel a0 a1 a2 a3) = fl_Wheel z a1 a2 a3 := by kernel_rfl
theorem in_Wheel_0 {a0 : V} : putF "span" a0 ([] : List (Str × V)) = [(("span" : Str), a0)] := by kernel_rfl
theorem lk_Wheel_spokes {a0 a1 a2 a3 : V} : (fl_Wheel a0 a1 a2 a3).lookup ("spokes" : Str) = some a1 := by kernel_rfl
theorem pt_Wheel_spokes {a0 a1 a2 a3 z : V} : putF "spokes" z (fl_Wheel a0 a1 a2 a3) = fl_Wheel a0 z a2 a3 := by kernel_rfl
theorem in_Wheel_1 {a0 a1 : V} : putF "spokes" a1 ([(("span" : Str), a0)] : List (Str × V)) = [(("span" : Str), a0), (("spokes" : Str), a1)] := by kernel_rfl
theorem lk_Wheel_rim {a0 a1 a2 a3 : V} : (fl_Wheel a0 a1 a2 a3).lookup ("rim" : Str) = some a2 := by kernel_rfl
theorem pt_Wheel_rim {a0 a1 a2 a3 z : V} : putF "rim" z (fl_Wheel a0 a1 a2 a3) = fl_Wheel a0 a1 z a3 := by kernel_rfl
theorem in_Wheel_2 {a0 a1 a2 : V} : putF "rim" a2 ([(("span" : Str), a0), (("spokes" : Str), a1)] : List (Str × V)) = [(("span" : Str), a0), (("spokes" : Str), a1), (("rim" : Str), a2)] := by kernel_rfl
theorem lk_Wheel_many {a0 a1 a2 a3 : V} : (fl_Wheel a0 a1 a2 a3).lookup ("many" : Str) = some a3 := by kernel_rfl
theorem pt_Wheel_many {a0 a1 a2 a3 z : V} : putF "many" z (fl_Wheel a0 a1 a2 a3) = fl_Wheel a0 a1 a2 z := by kernel_rfl
theorem in_Wheel_3 {a0 a1 a2 a3 : V} : putF "many" a3 ([(("span" : Str), a0), (("spokes" : Str), a1), (("rim" : Str), a2)] : List (Str × V)) = [(("span" : Str), a0), (("spokes" : Str), a1), (("rim" : Str), a2), (("many" : Str), a3)] := by kernel_rfl
theorem no_Wheel_least {a0 a1 a2 a3 : V} : (fl_Wheel a0 a1 a2 a3).lookup ("least" : Str) = none := by kernel_rfl
theorem no_Wheel_leave {a0 a1 a2 a3 : V} : (fl_Wheel a0 a1 a2 a3).lookup ("leave" : Str) = none := by kernel_rfl
theorem no_Wheel_place {a0 a1 a2 a3 : V} : (fl_Wheel a0 a1 a2 a3).lookup ("place" : Str) = none := by kernel_rfl
theorem no_Wheel_put {a0 a1 a2 a3 : V} : (fl_Wheel a0 a1 a2 a3).lookup ("put" : Str) = none := by kernel_rfl
theorem no_Wheel_size {a0 a1 a2 a3 : V} : (fl_Wheel a0 a1 a2 a3).lookup ("size" : Str) = none := by kernel_rfl
theorem no_Wheel_spoke_of {a0 a1 a2 a3 : V} : (fl_Wheel a0 a1 a2 a3).lookup ("spoke_of" : Str) = none := by kernel_rfl
theorem no_Wheel_take_out {a0 a1 a2 a3 : V} : (fl_Wheel a0 a1 a2 a3).lookup ("take_out" : Str) = none := by kernel_rfl
/-- what the top has written -/
structure Tx (K : PySem.W.Frag) (mg : Str → Option Value) : Prop where
  G_MomentError : mg "MomentError" = some (.ref (He.ga K "MomentError"))
  G_Fault : mg "Fault" = some (.ref (He.ga K "Fault"))
  G_Nought : mg "Nought" = some (.ref (He.ga K "Nought"))
  G_Great : mg "Great" = some (.ref (He.ga K "Great"))
  G_Full : mg "Full" = some (.ref (He.ga K "Full"))
  G_Dry : mg "Dry" = some (.ref (He.ga K "Dry"))
  G_Span : mg "Span" = some (.ref (He.ga K "Span"))
  G_Late : mg "Late" = some (.ref (He.ga K "Late"))
  G_Model : mg "Model" = some (.ref (He.ga K "Model"))
  c_Model : Cls K (He.ga K "Model")
  n_Model_machines : NoAttr K (He.ga K "Model") "machines"
  k_Model : KF K mg "Model" ["self", "machines"]
  G_State : mg "State" = some (.ref (He.ga K "State"))
  c_State : Cls K (He.ga K "State")
  n_State_boxes : NoAttr K (He.ga K "State") "boxes"
  n_State_drawn : NoAttr K (He.ga K "State") "drawn"
  n_State_queues : NoAttr K (He.ga K "State") "queues"
  n_State_sent : NoAttr K (He.ga K "State") "sent"
  k_State : KF K mg "State" ["self", "boxes", "queues", "drawn", "sent"]
  G_Doing : mg "Doing" = some (.ref (He.ga K "Doing"))
  c_Doing : Cls K (He.ga K "Doing")
  n_Doing_at : NoAttr K (He.ga K "Doing") "at"
  n_Doing_draws : NoAttr K (He.ga K "Doing") "draws"
  n_Doing_ends : NoAttr K (He.ga K "Doing") "ends"
  n_Doing_got : NoAttr K (He.ga K "Doing") "got"
  n_Doing_key : NoAttr K (He.ga K "Doing") "key"
  n_Doing_news : NoAttr K (He.ga K "Doing") "news"
  n_Doing_state : NoAttr K (He.ga K "Doing") "state"
  n_Doing_written : NoAttr K (He.ga K "Doing") "written"
  k_Doing : KF K mg "Doing" ["self", "draws", "state", "happening"]
  G_Book : mg "Book" = some (.ref (He.ga K "Book"))
  c_Book : Cls K (He.ga K "Book")
  n_Book_ending : NoAttr K (He.ga K "Book") "ending"
  n_Book_records : NoAttr K (He.ga K "Book") "records"
  n_Book_states : NoAttr K (He.ga K "Book") "states"
  k_Book : KF K mg "Book" ["self", "records", "ending", "states"]
  G_Rider : mg "Rider" = some (.ref (He.ga K "Rider"))
  c_Rider : Cls K (He.ga K "Rider")
  n_Rider_calendar : NoAttr K (He.ga K "Rider") "calendar"
  n_Rider_ended : NoAttr K (He.ga K "Rider") "ended"
  n_Rider_found : NoAttr K (He.ga K "Rider") "found"
  n_Rider_model : NoAttr K (He.ga K "Rider") "model"
  n_Rider_states : NoAttr K (He.ga K "Rider") "states"
  k_Rider : KF K mg "Rider" ["self", "model", "signs", "calendar"]
  G_Calendar : mg "Calendar" = some (.ref (He.ga K "Calendar"))
  c_Calendar : Cls K (He.ga K "Calendar")
  n_Calendar_row : NoAttr K (He.ga K "Calendar") "row"
  n_Calendar_things : NoAttr K (He.ga K "Calendar") "things"
  k_Calendar : KF K mg "Calendar" ["self"]
  G_Wheel : mg "Wheel" = some (.ref (He.ga K "Wheel"))
  c_Wheel : Cls K (He.ga K "Wheel")
  n_Wheel_many : NoAttr K (He.ga K "Wheel") "many"
  n_Wheel_rim : NoAttr K (He.ga K "Wheel") "rim"
  n_Wheel_row : NoAttr K (He.ga K "Wheel") "row"
  n_Wheel_span : NoAttr K (He.ga K "Wheel") "span"
  n_Wheel_spokes : NoAttr K (He.ga K "Wheel") "spokes"
  n_Wheel_things : NoAttr K (He.ga K "Wheel") "things"
  k_Wheel : KF K mg "Wheel" ["self", "span"]
  x_Dry : ExF K mg "Dry"
  x_Full : ExF K mg "Full"
  x_Great : ExF K mg "Great"
  x_Late : ExF K mg "Late"
  x_Nought : ExF K mg "Nought"
  x_Span : ExF K mg "Span"
  e_Dry_Fault : PySem.W.exmOne K (.ref (He.ga K "Dry")) (.ref (He.ga K "Fault")) = some true
  e_Full_Fault : PySem.W.exmOne K (.ref (He.ga K "Full")) (.ref (He.ga K "Fault")) = some true
  e_Great_Fault : PySem.W.exmOne K (.ref (He.ga K "Great")) (.ref (He.ga K "Fault")) = some true
  e_Late_Fault : PySem.W.exmOne K (.ref (He.ga K "Late")) (.ref (He.ga K "Fault")) = some true
  e_Nought_Fault : PySem.W.exmOne K (.ref (He.ga K "Nought")) (.ref (He.ga K "Fault")) = some true
  e_Span_Fault : PySem.W.exmOne K (.ref (He.ga K "Span")) (.ref (He.ga K "Fault")) = some true
  xc_Dry : ExcC K (He.ga K "Dry")
  xc_Fault : ExcC K (He.ga K "Fault")
  xc_Full : ExcC K (He.ga K "Full")
  xc_Great : ExcC K (He.ga K "Great")
  xc_Late : ExcC K (He.ga K "Late")
  xc_MomentError : ExcC K (He.ga K "MomentError")
  xc_Nought : ExcC K (He.ga K "Nought")
  xc_Span : ExcC K (He.ga K "Span")
  b_enumerate : mg "enumerate" = none
  b_int : mg "int" = none
  b_len : mg "len" = none
  b_list : mg "list" = none
  b_max : mg "max" = none
  b_min : mg "min" = none
  b_range : mg "range" = none
  w_MOST : ∃ t, mg "MOST" = some (.int 1000000000000000 t)
  w_ROOM : ∃ t, mg "ROOM" = some (.int 30 t)
  w_LONGEST : ∃ t, mg "LONGEST" = some (.int 1000000 t)
  w_LATEST : ∃ t, mg "LATEST" = some (.int 1000000000000 t)
  f_Fault_word : Fun K "word" "Fault.word" s_Fault_word (He.fAd K ("Fault", some "word")) (fdA K (He.fAd K ("Fault", some "word")))
  f_Nought_word : Fun K "word" "Nought.word" s_Nought_word (He.fAd K ("Nought", some "word")) (fdA K (He.fAd K ("Nought", some "word")))
  f_Great_word : Fun K "word" "Great.word" s_Great_word (He.fAd K ("Great", some "word")) (fdA K (He.fAd K ("Great", some "word")))
  f_Full_word : Fun K "word" "Full.word" s_Full_word (He.fAd K ("Full", some "word")) (fdA K (He.fAd K ("Full", some "word")))
  f_Dry_word : Fun K "word" "Dry.word" s_Dry_word (He.fAd K ("Dry", some "word")) (fdA K (He.fAd K ("Dry", some "word")))
  f_Span_word : Fun K "word" "Span.word" s_Span_word (He.fAd K ("Span", some "word")) (fdA K (He.fAd K ("Span", some "word")))
  f_Late_word : Fun K "word" "Late.word" s_Late_word (He.fAd K ("Late", some "word")) (fdA K (He.fAd K ("Late", some "word")))
  f_kept_in : Fun K "kept_in" "kept_in" s_kept_in (He.fAd K ("kept_in", none)) (fdA K (He.fAd K ("kept_in", none)))
  g_kept_in : GF K mg "kept_in" ["number"]
  f_of_two : Fun K "of_two" "of_two" s_of_two (He.fAd K ("of_two", none)) (fdA K (He.fAd K ("of_two", none)))
  g_of_two : GF K mg "of_two" ["word", "one", "other"]
  f_worth_of : Fun K "worth_of" "worth_of" s_worth_of (He.fAd K ("worth_of", none)) (fdA K (He.fAd K ("worth_of", none)))
  g_worth_of : GF K mg "worth_of" ["formula", "state", "now", "got"]
  f_copied : Fun K "copied" "copied" s_copied (He.fAd K ("copied", none)) (fdA K (He.fAd K ("copied", none)))
  g_copied : GF K mg "copied" ["deeds"]
  f_copied_machine : Fun K "copied_machine" "copied_machine" s_copied_machine (He.fAd K ("copied_machine", none)) (fdA K (He.fAd K ("copied_machine", none)))
  g_copied_machine : GF K mg "copied_machine" ["machine"]
  f_Model_init : Fun K "__init__" "Model.__init__" s_Model_init (He.fAd K ("Model", some "__init__")) (fdA K (He.fAd K ("Model", some "__init__")))
  f_State_init : Fun K "__init__" "State.__init__" s_State_init (He.fAd K ("State", some "__init__")) (fdA K (He.fAd K ("State", some "__init__")))
  f_State_copy : Fun K "copy" "State.copy" s_State_copy (He.fAd K ("State", some "copy")) (fdA K (He.fAd K ("State", some "copy")))
  f_first_state : Fun K "first_state" "first_state" s_first_state (He.fAd K ("first_state", none)) (fdA K (He.fAd K ("first_state", none)))
  g_first_state : GF K mg "first_state" ["model", "at"]
  f_deeds_for : Fun K "deeds_for" "deeds_for" s_deeds_for (He.fAd K ("deeds_for", none)) (fdA K (He.fAd K ("deeds_for", none)))
  g_deeds_for : GF K mg "deeds_for" ["model", "at", "sign"]
  f_Doing_init : Fun K "__init__" "Doing.__init__" s_Doing_init (He.fAd K ("Doing", some "__init__")) (fdA K (He.fAd K ("Doing", some "__init__")))
  f_Doing_reckon : Fun K "reckon" "Doing.reckon" s_Doing_reckon (He.fAd K ("Doing", some "reckon")) (fdA K (He.fAd K ("Doing", some "reckon")))
  f_Doing_put : Fun K "put" "Doing.put" s_Doing_put (He.fAd K ("Doing", some "put")) (fdA K (He.fAd K ("Doing", some "put")))
  f_Doing_push : Fun K "push" "Doing.push" s_Doing_push (He.fAd K ("Doing", some "push")) (fdA K (He.fAd K ("Doing", some "push")))
  f_Doing_pull : Fun K "pull" "Doing.pull" s_Doing_pull (He.fAd K ("Doing", some "pull")) (fdA K (He.fAd K ("Doing", some "pull")))
  f_Doing_draw : Fun K "draw" "Doing.draw" s_Doing_draw (He.fAd K ("Doing", some "draw")) (fdA K (He.fAd K ("Doing", some "draw")))
  f_Doing_send : Fun K "send" "Doing.send" s_Doing_send (He.fAd K ("Doing", some "send")) (fdA K (He.fAd K ("Doing", some "send")))
  f_Doing_do : Fun K "do" "Doing.do" s_Doing_do (He.fAd K ("Doing", some "do")) (fdA K (He.fAd K ("Doing", some "do")))
  f_Doing_do_all : Fun K "do_all" "Doing.do_all" s_Doing_do_all (He.fAd K ("Doing", some "do_all")) (fdA K (He.fAd K ("Doing", some "do_all")))
  f_Doing_writes : Fun K "writes" "Doing.writes" s_Doing_writes (He.fAd K ("Doing", some "writes")) (fdA K (He.fAd K ("Doing", some "writes")))
  f_done : Fun K "done" "done" s_done (He.fAd K ("done", none)) (fdA K (He.fAd K ("done", none)))
  g_done : GF K mg "done" ["model", "state", "happening"]
  f_Book_init : Fun K "__init__" "Book.__init__" s_Book_init (He.fAd K ("Book", some "__init__")) (fdA K (He.fAd K ("Book", some "__init__")))
  f_pending_at_first : Fun K "pending_at_first" "pending_at_first" s_pending_at_first (He.fAd K ("pending_at_first", none)) (fdA K (He.fAd K ("pending_at_first", none)))
  g_pending_at_first : GF K mg "pending_at_first" ["signs"]
  f_Rider_init : Fun K "__init__" "Rider.__init__" s_Rider_init (He.fAd K ("Rider", some "__init__")) (fdA K (He.fAd K ("Rider", some "__init__")))
  f_Rider_ride : Fun K "ride" "Rider.ride" s_Rider_ride (He.fAd K ("Rider", some "ride")) (fdA K (He.fAd K ("Rider", some "ride")))
  f_Rider_outcome_now : Fun K "outcome_now" "Rider.outcome_now" s_Rider_outcome_now (He.fAd K ("Rider", some "outcome_now")) (fdA K (He.fAd K ("Rider", some "outcome_now")))
  f_by_calendar : Fun K "by_calendar" "by_calendar" s_by_calendar (He.fAd K ("by_calendar", none)) (fdA K (He.fAd K ("by_calendar", none)))
  g_by_calendar : GF K mg "by_calendar" ["model", "signs", "most", "calendar"]
  f_Calendar_init : Fun K "__init__" "Calendar.__init__" s_Calendar_init (He.fAd K ("Calendar", some "__init__")) (fdA K (He.fAd K ("Calendar", some "__init__")))
  f_Calendar_place : Fun K "place" "Calendar.place" s_Calendar_place (He.fAd K ("Calendar", some "place")) (fdA K (He.fAd K ("Calendar", some "place")))
  f_Calendar_put : Fun K "put" "Calendar.put" s_Calendar_put (He.fAd K ("Calendar", some "put")) (fdA K (He.fAd K ("Calendar", some "put")))
  f_Calendar_size : Fun K "size" "Calendar.size" s_Calendar_size (He.fAd K ("Calendar", some "size")) (fdA K (He.fAd K ("Calendar", some "size")))
  f_Calendar_least : Fun K "least" "Calendar.least" s_Calendar_least (He.fAd K ("Calendar", some "least")) (fdA K (He.fAd K ("Calendar", some "least")))
  f_Calendar_leave : Fun K "leave" "Calendar.leave" s_Calendar_leave (He.fAd K ("Calendar", some "leave")) (fdA K (He.fAd K ("Calendar", some "leave")))
  f_Calendar_take_out : Fun K "take_out" "Calendar.take_out" s_Calendar_take_out (He.fAd K ("Calendar", some "take_out")) (fdA K (He.fAd K ("Calendar", some "take_out")))
  f_Wheel_init : Fun K "__init__" "Wheel.__init__" s_Wheel_init (He.fAd K ("Wheel", some "__init__")) (fdA K (He.fAd K ("Wheel", some "__init__")))
  f_Wheel_spoke_of : Fun K "spoke_of" "Wheel.spoke_of" s_Wheel_spoke_of (He.fAd K ("Wheel", some "spoke_of")) (fdA K (He.fAd K ("Wheel", some "spoke_of")))
  f_Wheel_put : Fun K "put" "Wheel.put" s_Wheel_put (He.fAd K ("Wheel", some "put")) (fdA K (He.fAd K ("Wheel", some "put")))
  f_Wheel_size : Fun K "size" "Wheel.size" s_Wheel_size (He.fAd K ("Wheel", some "size")) (fdA K (He.fAd K ("Wheel", some "size")))
  f_Wheel_least : Fun K "least" "Wheel.least" s_Wheel_least (He.fAd K ("Wheel", some "least")) (fdA K (He.fAd K ("Wheel", some "least")))
  f_Wheel_leave : Fun K "leave" "Wheel.leave" s_Wheel_leave (He.fAd K ("Wheel", some "leave")) (fdA K (He.fAd K ("Wheel", some "leave")))
  f_Wheel_take_out : Fun K "take_out" "Wheel.take_out" s_Wheel_take_out (He.fAd K ("Wheel", some "take_out")) (fdA K (He.fAd K ("Wheel", some "take_out")))
  f__law_mixed : Fun K "_law_mixed" "_law_mixed" s__law_mixed (He.fAd K ("_law_mixed", none)) (fdA K (He.fAd K ("_law_mixed", none)))
  g__law_mixed : GF K mg "_law_mixed" ["_law_cell", "_law_k"]
  f__law_purse : Fun K "_law_purse" "_law_purse" s__law_purse (He.fAd K ("_law_purse", none)) (fdA K (He.fAd K ("_law_purse", none)))
  g__law_purse : GF K mg "_law_purse" ["_law_script"]
  f__law_draw : Fun K "_law_draw" "_law_draw" s__law_draw (He.fAd K ("_law_draw", none)) (fdA K (He.fAd K ("_law_draw", none)))
  g__law_draw : GF K mg "_law_draw" ["_law_purse_here", "_law_out_of"]
  f__law_machine : Fun K "_law_machine" "_law_machine" s__law_machine (He.fAd K ("_law_machine", none)) (fdA K (He.fAd K ("_law_machine", none)))
  g__law_machine : GF K mg "_law_machine" ["_law_last", "_law_stop", "_law_span"]
  f__law_due : Fun K "_law_due" "_law_due" s__law_due (He.fAd K ("_law_due", none)) (fdA K (He.fAd K ("_law_due", none)))
  g__law_due : GF K mg "_law_due" ["_law_last", "_law_stop", "_law_span", "_law_others", "_law_most"]
  f_law : Fun K "law" "law" s_law (He.fAd K ("law", none)) (fdA K (He.fAd K ("law", none)))
  g_law : GF K mg "law" ["_law_script"]
  m_Fault_word : Meth K (He.ga K "Fault") "word" (He.fAd K ("Fault", some "word")) ∧ Fun K "word" "Fault.word" s_Fault_word (He.fAd K ("Fault", some "word")) (fdA K (He.fAd K ("Fault", some "word"))) ∧ Binds K (fdA K (He.fAd K ("Fault", some "word"))) ["self"] []
  m_Nought_word : Meth K (He.ga K "Nought") "word" (He.fAd K ("Nought", some "word")) ∧ Fun K "word" "Nought.word" s_Nought_word (He.fAd K ("Nought", some "word")) (fdA K (He.fAd K ("Nought", some "word"))) ∧ Binds K (fdA K (He.fAd K ("Nought", some "word"))) ["self"] []
  m_Great_word : Meth K (He.ga K "Great") "word" (He.fAd K ("Great", some "word")) ∧ Fun K "word" "Great.word" s_Great_word (He.fAd K ("Great", some "word")) (fdA K (He.fAd K ("Great", some "word"))) ∧ Binds K (fdA K (He.fAd K ("Great", some "word"))) ["self"] []
  m_Full_word : Meth K (He.ga K "Full") "word" (He.fAd K ("Full", some "word")) ∧ Fun K "word" "Full.word" s_Full_word (He.fAd K ("Full", some "word")) (fdA K (He.fAd K ("Full", some "word"))) ∧ Binds K (fdA K (He.fAd K ("Full", some "word"))) ["self"] []
  m_Dry_word : Meth K (He.ga K "Dry") "word" (He.fAd K ("Dry", some "word")) ∧ Fun K "word" "Dry.word" s_Dry_word (He.fAd K ("Dry", some "word")) (fdA K (He.fAd K ("Dry", some "word"))) ∧ Binds K (fdA K (He.fAd K ("Dry", some "word"))) ["self"] []
  m_Span_word : Meth K (He.ga K "Span") "word" (He.fAd K ("Span", some "word")) ∧ Fun K "word" "Span.word" s_Span_word (He.fAd K ("Span", some "word")) (fdA K (He.fAd K ("Span", some "word"))) ∧ Binds K (fdA K (He.fAd K ("Span", some "word"))) ["self"] []
  m_Late_word : Meth K (He.ga K "Late") "word" (He.fAd K ("Late", some "word")) ∧ Fun K "word" "Late.word" s_Late_word (He.fAd K ("Late", some "word")) (fdA K (He.fAd K ("Late", some "word"))) ∧ Binds K (fdA K (He.fAd K ("Late", some "word"))) ["self"] []
  m_State_copy : MF K "State" "copy" ["self"]
  m_Doing_reckon : MF K "Doing" "reckon" ["self", "formula"]
  m_Doing_put : MF K "Doing" "put" ["self", "box", "worth"]
  m_Doing_push : MF K "Doing" "push" ["self", "queue", "worth"]
  m_Doing_pull : MF K "Doing" "pull" ["self", "deed"]
  m_Doing_draw : MF K "Doing" "draw" ["self", "box", "many"]
  m_Doing_send : MF K "Doing" "send" ["self", "deed"]
  m_Doing_do : MF K "Doing" "do" ["self", "deed"]
  m_Doing_do_all : MF K "Doing" "do_all" ["self", "deeds"]
  m_Doing_writes : MF K "Doing" "writes" ["self", "machine"]
  m_Rider_ride : MF K "Rider" "ride" ["self"]
  m_Rider_outcome_now : MF K "Rider" "outcome_now" ["self"]
  m_Calendar_place : MF K "Calendar" "place" ["self", "key"]
  m_Calendar_put : MF K "Calendar" "put" ["self", "key", "thing"]
  m_Calendar_size : MF K "Calendar" "size" ["self"]
  m_Calendar_least : MF K "Calendar" "least" ["self"]
  m_Calendar_leave : MF K "Calendar" "leave" ["self"]
  m_Calendar_take_out : MF K "Calendar" "take_out" ["self", "key"]
  m_Wheel_place : MF K "Wheel" "place" ["self", "key"]
  m_Wheel_put : MF K "Wheel" "put" ["self", "key", "thing"]
  m_Wheel_size : MF K "Wheel" "size" ["self"]
  m_Wheel_least : MF K "Wheel" "least" ["self"]
  m_Wheel_leave : MF K "Wheel" "leave" ["self"]
  m_Wheel_take_out : MF K "Wheel" "take_out" ["self", "key"]
  m_Wheel_spoke_of : MF K "Wheel" "spoke_of" ["self", "key"]
section
variable {X : Cx}
theorem Tx.v_MOST (T : Tx X.K X.mg) {pos : Pos} (hg : Gl X "MOST" := by rfl) : PE X (.Name "MOST" pos) (tC (.int 1000000000000000)) := let ⟨_, h⟩ := T.w_MOST; pe_glob hg h ⟨_, rfl⟩
theorem Tx.v_ROOM (T : Tx X.K X.mg) {pos : Pos} (hg : Gl X "ROOM" := by rfl) : PE X (.Name "ROOM" pos) (tC (.int 30)) := let ⟨_, h⟩ := T.w_ROOM; pe_glob hg h ⟨_, rfl⟩
theorem Tx.v_LONGEST (T : Tx X.K X.mg) {pos : Pos} (hg : Gl X "LONGEST" := by rfl) : PE X (.Name "LONGEST" pos) (tC (.int 1000000)) := let ⟨_, h⟩ := T.w_LONGEST; pe_glob hg h ⟨_, rfl⟩
theorem Tx.v_LATEST (T : Tx X.K X.mg) {pos : Pos} (hg : Gl X "LATEST" := by rfl) : PE X (.Name "LATEST" pos) (tC (.int 1000000000000)) := let ⟨_, h⟩ := T.w_LATEST; pe_glob hg h ⟨_, rfl⟩
theorem mk_Dry {K : PySem.W.Frag} {mg : Str → Option Value} (T : Tx K mg) (hK : X.K = K) (hm : X.mg = mg) {m : Str} {j : Nat} {p p2 pos : Pos} (hg : Gl X "Dry" := by rfl) (he : starEach ((.Constant (.str m) j p2 : Expr) :: []) X.env = (false, eval (.Constant (.str m) j p2) X.env) :: starEach [] X.env := by rfl) : PMk X (.Call (.Name "Dry" p) [.Constant (.str m) j p2] [] pos) (fun _ H Q => Q (.ref (He.ga K "Dry")) none H) := by
  subst hK hm
  exact pmk_own PySem.F.excBase_ValueError T.x_Dry.ex T.x_Dry.gl T.x_Dry.kp (raises_own T.x_Dry.sb T.x_Dry.ty) hg
theorem mk_Full {K : PySem.W.Frag} {mg : Str → Option Value} (T : Tx K mg) (hK : X.K = K) (hm : X.mg = mg) {m : Str} {j : Nat} {p p2 pos : Pos} (hg : Gl X "Full" := by rfl) (he : starEach ((.Constant (.str m) j p2 : Expr) :: []) X.env = (false, eval (.Constant (.str m) j p2) X.env) :: starEach [] X.env := by rfl) : PMk X (.Call (.Name "Full" p) [.Constant (.str m) j p2] [] pos) (fun _ H Q => Q (.ref (He.ga K "Full")) none H) := by
  subst hK hm
  exact pmk_own PySem.F.excBase_ValueError T.x_Full.ex T.x_Full.gl T.x_Full.kp (raises_own T.x_Full.sb T.x_Full.ty) hg
theorem mk_Great {K : PySem.W.Frag} {mg : Str → Option Value} (T : Tx K mg) (hK : X.K = K) (hm : X.mg = mg) {m : Str} {j : Nat} {p p2 pos : Pos} (hg : Gl X "Great" := by rfl) (he : starEach ((.Constant (.str m) j p2 : Expr) :: []) X.env = (false, eval (.Constant (.str m) j p2) X.env) :: starEach [] X.env := by rfl) : PMk X (.Call (.Name "Great" p) [.Constant (.str m) j p2] [] pos) (fun _ H Q => Q (.ref (He.ga K "Great")) none H) := by
  subst hK hm
  exact pmk_own PySem.F.excBase_ValueError T.x_Great.ex T.x_Great.gl T.x_Great.kp (raises_own T.x_Great.sb T.x_Great.ty) hg
theorem mk_Late {K : PySem.W.Frag} {mg : Str → Option Value} (T : Tx K mg) (hK : X.K = K) (hm : X.mg = mg) {m : Str} {j : Nat} {p p2 pos : Pos} (hg : Gl X "Late" := by rfl) (he : starEach ((.Constant (.str m) j p2 : Expr) :: []) X.env = (false, eval (.Constant (.str m) j p2) X.env) :: starEach [] X.env := by rfl) : PMk X (.Call (.Name "Late" p) [.Constant (.str m) j p2] [] pos) (fun _ H Q => Q (.ref (He.ga K "Late")) none H) := by
  subst hK hm
  exact pmk_own PySem.F.excBase_ValueError T.x_Late.ex T.x_Late.gl T.x_Late.kp (raises_own T.x_Late.sb T.x_Late.ty) hg
theorem mk_Nought {K : PySem.W.Frag} {mg : Str → Option Value} (T : Tx K mg) (hK : X.K = K) (hm : X.mg = mg) {m : Str} {j : Nat} {p p2 pos : Pos} (hg : Gl X "Nought" := by rfl) (he : starEach ((.Constant (.str m) j p2 : Expr) :: []) X.env = (false, eval (.Constant (.str m) j p2) X.env) :: starEach [] X.env := by rfl) : PMk X (.Call (.Name "Nought" p) [.Constant (.str m) j p2] [] pos) (fun _ H Q => Q (.ref (He.ga K "Nought")) none H) := by
  subst hK hm
  exact pmk_own PySem.F.excBase_ValueError T.x_Nought.ex T.x_Nought.gl T.x_Nought.kp (raises_own T.x_Nought.sb T.x_Nought.ty) hg
theorem mk_Span {K : PySem.W.Frag} {mg : Str → Option Value} (T : Tx K mg) (hK : X.K = K) (hm : X.mg = mg) {m : Str} {j : Nat} {p p2 pos : Pos} (hg : Gl X "Span" := by rfl) (he : starEach ((.Constant (.str m) j p2 : Expr) :: []) X.env = (false, eval (.Constant (.str m) j p2) X.env) :: starEach [] X.env := by rfl) : PMk X (.Call (.Name "Span" p) [.Constant (.str m) j p2] [] pos) (fun _ H Q => Q (.ref (He.ga K "Span")) none H) := by
  subst hK hm
  exact pmk_own PySem.F.excBase_ValueError T.x_Span.ex T.x_Span.gl T.x_Span.kp (raises_own T.x_Span.sb T.x_Span.ty) hg
end
end Mo
local macro_rules | `(tactic| k_extra "lk") => `(tactic| with_reducible first
  | exact Mo.lk_Model_machines
  | exact Mo.lk_State_boxes
  | exact Mo.lk_State_queues
  | exact Mo.lk_State_drawn
  | exact Mo.lk_State_sent
  | exact Mo.lk_Doing_draws
  | exact Mo.lk_Doing_state
  | exact Mo.lk_Doing_key
  | exact Mo.lk_Doing_at
  | exact Mo.lk_Doing_got
  | exact Mo.lk_Doing_written
  | exact Mo.lk_Doing_news
  | exact Mo.lk_Doing_ends
  | exact Mo.lk_Book_records
  | exact Mo.lk_Book_ending
  | exact Mo.lk_Book_states
  | exact Mo.lk_Rider_model
  | exact Mo.lk_Rider_states
  | exact Mo.lk_Rider_calendar
  | exact Mo.lk_Rider_found
  | exact Mo.lk_Rider_ended
  | exact Mo.lk_Calendar_row
  | exact Mo.lk_Calendar_things
  | exact Mo.lk_Wheel_span
  | exact Mo.lk_Wheel_spokes
  | exact Mo.lk_Wheel_rim
  | exact Mo.lk_Wheel_many)
local macro_rules | `(tactic| k_extra "nolk") => `(tactic| with_reducible first
  | exact Mo.no_State_copy
  | exact Mo.no_Doing_do
  | exact Mo.no_Doing_do_all
  | exact Mo.no_Doing_draw
  | exact Mo.no_Doing_pull
  | exact Mo.no_Doing_push
  | exact Mo.no_Doing_put
  | exact Mo.no_Doing_reckon
  | exact Mo.no_Doing_send
  | exact Mo.no_Doing_writes
  | exact Mo.no_Rider_outcome_now
  | exact Mo.no_Rider_ride
  | exact Mo.no_Calendar_least
  | exact Mo.no_Calendar_leave
  | exact Mo.no_Calendar_place
  | exact Mo.no_Calendar_put
  | exact Mo.no_Calendar_size
  | exact Mo.no_Calendar_take_out
  | exact Mo.no_Wheel_least
  | exact Mo.no_Wheel_leave
  | exact Mo.no_Wheel_place
  | exact Mo.no_Wheel_put
  | exact Mo.no_Wheel_size
  | exact Mo.no_Wheel_spoke_of
  | exact Mo.no_Wheel_take_out)
local macro_rules | `(tactic| k_extra "cl") => `(tactic| with_reducible first
  | exact Mo.Tx.c_Model (by assumption)
  | exact Mo.Tx.c_State (by assumption)
  | exact Mo.Tx.c_Doing (by assumption)
  | exact Mo.Tx.c_Book (by assumption)
  | exact Mo.Tx.c_Rider (by assumption)
  | exact Mo.Tx.c_Calendar (by assumption)
  | exact Mo.Tx.c_Wheel (by assumption))
local macro_rules | `(tactic| k_extra "na") => `(tactic| with_reducible first
  | exact Mo.Tx.n_Model_machines (by assumption)
  | exact Mo.Tx.n_State_boxes (by assumption)
  | exact Mo.Tx.n_State_queues (by assumption)
  | exact Mo.Tx.n_State_drawn (by assumption)
  | exact Mo.Tx.n_State_sent (by assumption)
  | exact Mo.Tx.n_Doing_draws (by assumption)
  | exact Mo.Tx.n_Doing_state (by assumption)
  | exact Mo.Tx.n_Doing_key (by assumption)
  | exact Mo.Tx.n_Doing_at (by assumption)
  | exact Mo.Tx.n_Doing_got (by assumption)
  | exact Mo.Tx.n_Doing_written (by assumption)
  | exact Mo.Tx.n_Doing_news (by assumption)
  | exact Mo.Tx.n_Doing_ends (by assumption)
  | exact Mo.Tx.n_Book_records (by assumption)
  | exact Mo.Tx.n_Book_ending (by assumption)
  | exact Mo.Tx.n_Book_states (by assumption)
  | exact Mo.Tx.n_Rider_model (by assumption)
  | exact Mo.Tx.n_Rider_states (by assumption)
  | exact Mo.Tx.n_Rider_calendar (by assumption)
  | exact Mo.Tx.n_Rider_found (by assumption)
  | exact Mo.Tx.n_Rider_ended (by assumption)
  | exact Mo.Tx.n_Calendar_row (by assumption)
  | exact Mo.Tx.n_Calendar_things (by assumption)
  | exact Mo.Tx.n_Wheel_span (by assumption)
  | exact Mo.Tx.n_Wheel_spokes (by assumption)
  | exact Mo.Tx.n_Wheel_rim (by assumption)
  | exact Mo.Tx.n_Wheel_many (by assumption))
local macro_rules | `(tactic| k_extra "pt") => `(tactic| with_reducible first
  | exact Mo.pt_Model_machines
  | exact Mo.in_Model_0
  | exact Mo.pt_State_boxes
  | exact Mo.in_State_0
  | exact Mo.pt_State_queues
  | exact Mo.in_State_1
  | exact Mo.pt_State_drawn
  | exact Mo.in_State_2
  | exact Mo.pt_State_sent
  | exact Mo.in_State_3
  | exact Mo.pt_Doing_draws
  | exact Mo.in_Doing_0
  | exact Mo.pt_Doing_state
  | exact Mo.in_Doing_1
  | exact Mo.pt_Doing_key
  | exact Mo.in_Doing_2
  | exact Mo.pt_Doing_at
  | exact Mo.in_Doing_3
  | exact Mo.pt_Doing_got
  | exact Mo.in_Doing_4
  | exact Mo.pt_Doing_written
  | exact Mo.in_Doing_5
  | exact Mo.pt_Doing_news
  | exact Mo.in_Doing_6
  | exact Mo.pt_Doing_ends
  | exact Mo.in_Doing_7
  | exact Mo.pt_Book_records
  | exact Mo.in_Book_0
  | exact Mo.pt_Book_ending
  | exact Mo.in_Book_1
  | exact Mo.pt_Book_states
  | exact Mo.in_Book_2
  | exact Mo.pt_Rider_model
  | exact Mo.in_Rider_0
  | exact Mo.pt_Rider_states
  | exact Mo.in_Rider_1
  | exact Mo.pt_Rider_calendar
  | exact Mo.in_Rider_2
  | exact Mo.pt_Rider_found
  | exact Mo.in_Rider_3
  | exact Mo.pt_Rider_ended
  | exact Mo.in_Rider_4
  | exact Mo.pt_Calendar_row
  | exact Mo.in_Calendar_0
  | exact Mo.pt_Calendar_things
  | exact Mo.in_Calendar_1
  | exact Mo.pt_Wheel_span
  | exact Mo.in_Wheel_0
  | exact Mo.pt_Wheel_spokes
  | exact Mo.in_Wheel_1
  | exact Mo.pt_Wheel_rim
  | exact Mo.in_Wheel_2
  | exact Mo.pt_Wheel_many
  | exact Mo.in_Wheel_3)
namespace Mo
open PySem PySem.Spec PyProof.Rows L2
/-! ### the head: facts by names, and any others that are decided -/
abbrev AlM : Type := He.AlD × Bool
def SaysM (fa : List He.Fa) (fn : List He.DefD) (exs : List (PySem.W.Frag → Bool)) (K : PySem.W.Frag) : Prop := He.SaysD fa fn K ∧ (exs.all fun b => b K) = true
def obsM (n : Nat) (fa : List He.Fa) (fn : List He.DefD) (exs : List (PySem.W.Frag → Bool)) (g : Addr → Option Obj) : AlM := (He.obsD fa fn (He.frG g (He.asD g n)), exs.all fun b => b (He.frG g (He.asD g n)))
def hookM (n : Nat) (fa : List He.Fa) (fn : List He.DefD) (exs : List (PySem.W.Frag → Bool)) : PySem.W.Hook where
  α := AlM
  obs := fun s => obsM n fa fn exs s.heap.get?
  val := fun _ => (He.valD fn, true)
  says := fun _ h => ∃ K : PySem.W.Frag, K.In h ∧ SaysM fa fn exs K
  of := fun _ _ e => ⟨_, He.frG_in, congrArg (fun z : AlM => z.1) e, congrArg (fun z : AlM => z.2) e⟩
  keeps := fun _ _ _ ⟨K, hK, c⟩ k => ⟨K, PySem.W.Frag.In.keeps hK k, c⟩
theorem obsM_eq {n : Nat} {fa : List He.Fa} {fn : List He.DefD} {exs : List (PySem.W.Frag → Bool)} {g : Addr → Option Obj} {s : Shared} (h : ∀ a, g a = s.heap.get? a) : obsM n fa fn exs g = (hookM n fa fn exs).obs s := by
  have e : g = s.heap.get? := funext h
  rw [e] <;> rfl
section
variable {fa : List He.Fa} {fn : List He.DefD} {exs : List (PySem.W.Frag → Bool)} {K : PySem.W.Frag}
theorem SaysM.fact (c : SaysM fa fn exs K) (i : Nat) {f : He.Fa} (h : fa[i]? = some f := by rfl) : f.ok K = true := c.1.fact i h
theorem SaysM.fn_ (c : SaysM fa fn exs K) (i : Nat) {d : He.DefD} (h : fn[i]? = some d := by rfl) : ∃ fd, FunD K d.name d.qual d.params d.body d.scope (d.dvs K) (d.kws K) (He.fAd K d.at_) fd := c.1.def_ i h
theorem SaysM.ex (c : SaysM fa fn exs K) (i : Nat) {b : PySem.W.Frag → Bool} (h : exs[i]? = some b := by rfl) : b K = true := List.all_eq_true.mp c.2 b (List.mem_of_getElem? h)
end
/-- a law's end, the script's bits told -/
theorem walk_ofEB {l : PySem.W.OpenLaw} {n k : Nat} {q : Program} {loose : List Str} {XP : (Str → Option Value) → Heap → Prop} {YP : World → Heap → Prop} {d : DefRec} {CX : World → CXT} {x : Str}
    (hn : l.most = some n) (hn2 : n ≤ sizeLine) (hdf : d.params.defaults = []) (hr : Room k callerA)
    (F : ∀ (w : World) (mg : Str → Option Value) (fa : Addr) (h : Heap), YP w h → h.Ns mainGlobals mg → mg d.name = some (.ref fa) →
      ∃ (K : PySem.W.Frag) (fd : FuncData) (sp : Sp), K.In h ∧ (∀ (s : Shared) (u : Value), BindsTo s fd ⟨[u], []⟩ [(x, u)]) ∧
        (∀ (H : Hp) (a : Addr) (ns : List Int), ns.length ≤ n → (∀ z ∈ ns, Builtin.Int.intBits z ≤ 1048576) → Only H → SqL K H a (ns.map V.int) → sp [.ref a] H (fun v _ => v = .bl true) fun _ _ _ => False) ∧
        ∀ base : Heap, K.In base → base.Ns mainGlobals mg → FnOk l.prog w K mg base (CX w) k fa fd [x] sp)
    (hCX : ∀ (w : World) (H : Hp) (s : Shared) (e : Value) (s' : Shared), CX w [] H s (fun _ _ _ => False) e s' → False) :
    PySem.W.WalkO q loose XP YP l.row.toRowW d [] (fun f vs => PySem.call f vs) := by
  refine Att.attach_callB hn hdf fun w s₀ s₁ mg mb fa o pm cd doc a vs ns G Y ho hd hcd hmg hobj hints hlen hbits hg => ?_
  obtain ⟨K, fd, sp, KX, hb, hsp, hF⟩ := F w mg fa _ Y G.T.g hmg
  exact law_call KX G.T.g G.T.b G.T.builtins G.T.nolimit hg hobj hints (Nat.le_trans hlen hn2) hr hF hb (fun H hO hS => hsp H a ns hlen hbits hO hS) fun H e s' => hCX w H s₁ e s'
theorem fun_bindsTo {K : PySem.W.Frag} {x qual : Str} {st : Stmt} {f : Addr} {fd : FuncData} (F : L2.Fun K x qual st f fd) {ps : List Str}
    (h : ∀ (kV doc pm : Value) (an : Option Addr) (cdv ct : Value) (us : List Value), us.length = ps.length → bindArgs (PySem.W.fnOf x qual (defArgs st) (defBody st) (defScope st) .none kV doc pm an cdv ct) ⟨us, []⟩ = pure (ps.zip us)) (s : Shared) (us : List Value) (hl : us.length = ps.length) : BindsTo s fd ⟨us, []⟩ (ps.zip us) := by
  obtain ⟨oc, od, kV, doc, pm, an, cdv, ct, osl, rfl, lk, hcd⟩ := F.ex
  exact .of_eq (h kV doc pm an cdv ct us hl)
theorem cx_false {P : Program} {w : World} {H : Hp} {s : Shared} {e : Value} {s' : Shared} (h : L2.CX P w [] H s (fun _ _ _ => False) e s') : False := by
  obtain ⟨_, _, _, _, _, _, _, _, _, _, _, _, z⟩ := h
  exact z
/-- what a law promises -/
def spLaw (K : PySem.W.Frag) : Sp := fun vs H Q _ => ∃ (a : Addr) (ns : List Int), vs = [.ref a] ∧ Only H ∧ SqL K H a (ns.map V.int) ∧ ns.length ≤ 63 ∧ (∀ z ∈ ns, Builtin.Int.intBits z ≤ 1048576) ∧ ∀ H', Q (.bl true) H'
/-- a module's name is a plain tuple -/
def tupTy (K : PySem.W.Frag) (x : Str) : Bool := match K.lookup (He.ga K x) with
  | some ⟨.type c, none, .seq _ _, _⟩ => decide (c = "tuple")
  | _ => false
theorem tupTy_ok {K : PySem.W.Frag} {x : Str} (h : tupTy K x = true) (H : Hp) : tyV K "tuple" (.ref (He.ga K x)) H := by
  unfold tupTy at h
  cases q : K.lookup (He.ga K x) with
  | none => rw [q] at h; cases h
  | some o =>
    obtain ⟨oc, od, dt, osl⟩ := o
    rw [q] at h
    cases oc with
    | type c =>
      cases od with
      | none =>
        cases dt with
        | seq its n => exact .inr (.inl ⟨rfl, _, q, congrArg Value.type (of_decide_eq_true (show decide (c = "tuple") = true from h)), rfl⟩)
        | _ => cases h
      | some a => cases dt <;> cases h
    | _ => cases od <;> cases dt <;> cases h
end Mo
namespace Mo
open PySem PySem.Spec PyProof.Rows L2
/-! ### the head's facts in two parts -/
theorem obsM_join {n : Nat} {fa fb : List He.Fa} {fn fm : List He.DefD} {ea eb : List (PySem.W.Frag → Bool)} {g : Addr → Option Obj} (h1 : obsM n fa fn ea g = (He.valD fn, true)) (h2 : obsM n fb fm eb g = (He.valD fm, true)) : obsM n (fa ++ fb) (fn ++ fm) (ea ++ eb) g = (He.valD (fn ++ fm), true) := by
  unfold obsM He.obsD He.valD at h1 h2 ⊢
  simp only [Prod.mk.injEq, Bool.and_eq_true] at h1 h2 ⊢
  obtain ⟨⟨⟨a1, a2⟩, a3⟩, a4⟩ := h1
  obtain ⟨⟨⟨b1, b2⟩, b3⟩, b4⟩ := h2
  refine ⟨⟨⟨?_, ?_⟩, ?_⟩, ?_⟩
  · rw [List.all_append, a1, b1]; rfl
  · rw [List.all_append, a2, b2]; rfl
  · rw [List.map_append, List.map_append, a3, b3]
  · rw [List.all_append, a4, b4]; rfl
theorem runEq_join {r : PySem.W.OpenRow} {q : Program} {M n : Nat} {loose : List Str} {w : World} {fa fb : List He.Fa} {fn fm : List He.DefD} {ea eb : List (PySem.W.Frag → Bool)}
    (h1 : HandSHeadRun.RunEq r q (hookM n fa fn ea) (fun s => obsM n fa fn ea (HandSHeadRun.getT s)) M loose w) (h2 : HandSHeadRun.RunEq r q (hookM n fb fm eb) (fun s => obsM n fb fm eb (HandSHeadRun.getT s)) M loose w) :
    HandSHeadRun.RunEq r q (hookM n (fa ++ fb) (fn ++ fm) (ea ++ eb)) (fun s => obsM n (fa ++ fb) (fn ++ fm) (ea ++ eb) (HandSHeadRun.getT s)) M loose w := by
  intro os
  have a := h1 os
  have b := h2 os
  revert a b
  generalize HandSHeadRun.endF _ _ _ _ _ = X
  cases X with
  | none => intro a; cases a
  | some s =>
    intro a b
    have a1 := Option.some.inj a
    have b1 := Option.some.inj b
    have a2 := congrArg (fun x => x.1) a1
    have a3 := congrArg (fun x => x.2.1) a1
    have a4 := congrArg (fun x => x.2.2) a1
    have b4 := congrArg (fun x => x.2.2) b1
    exact congrArg some (Prod.ext a2 (Prod.ext a3 (obsM_join (show _ = (He.valD fn, true) from a4) (show _ = (He.valD fm, true) from b4))))
end Mo
namespace Mo
open PySem PySem.Spec PyProof.Rows L2
def d_Fault_word : He.DefD := ⟨("Fault", some "word"), "word", "Fault.word", defArgs s_Fault_word, defBody s_Fault_word, defScope s_Fault_word, [], []⟩
def d_Nought_word : He.DefD := ⟨("Nought", some "word"), "word", "Nought.word", defArgs s_Nought_word, defBody s_Nought_word, defScope s_Nought_word, [], []⟩
def d_Great_word : He.DefD := ⟨("Great", some "word"), "word", "Great.word", defArgs s_Great_word, defBody s_Great_word, defScope s_Great_word, [], []⟩
def d_Full_word : He.DefD := ⟨("Full", some "word"), "word", "Full.word", defArgs s_Full_word, defBody s_Full_word, defScope s_Full_word, [], []⟩
def d_Dry_word : He.DefD := ⟨("Dry", some "word"), "word", "Dry.word", defArgs s_Dry_word, defBody s_Dry_word, defScope s_Dry_word, [], []⟩
def d_Span_word : He.DefD := ⟨("Span", some "word"), "word", "Span.word", defArgs s_Span_word, defBody s_Span_word, defScope s_Span_word, [], []⟩
def d_Late_word : He.DefD := ⟨("Late", some "word"), "word", "Late.word", defArgs s_Late_word, defBody s_Late_word, defScope s_Late_word, [], []⟩
def d_kept_in : He.DefD := ⟨("kept_in", none), "kept_in", "kept_in", defArgs s_kept_in, defBody s_kept_in, defScope s_kept_in, [], []⟩
def d_of_two : He.DefD := ⟨("of_two", none), "of_two", "of_two", defArgs s_of_two, defBody s_of_two, defScope s_of_two, [], []⟩
def d_worth_of : He.DefD := ⟨("worth_of", none), "worth_of", "worth_of", defArgs s_worth_of, defBody s_worth_of, defScope s_worth_of, [], []⟩
def d_copied : He.DefD := ⟨("copied", none), "copied", "copied", defArgs s_copied, defBody s_copied, defScope s_copied, [], []⟩
def d_copied_machine : He.DefD := ⟨("copied_machine", none), "copied_machine", "copied_machine", defArgs s_copied_machine, defBody s_copied_machine, defScope s_copied_machine, [], []⟩
def d_Model_init : He.DefD := ⟨("Model", some "__init__"), "__init__", "Model.__init__", defArgs s_Model_init, defBody s_Model_init, defScope s_Model_init, [], []⟩
def d_State_init : He.DefD := ⟨("State", some "__init__"), "__init__", "State.__init__", defArgs s_State_init, defBody s_State_init, defScope s_State_init, [], []⟩
def d_State_copy : He.DefD := ⟨("State", some "copy"), "copy", "State.copy", defArgs s_State_copy, defBody s_State_copy, defScope s_State_copy, [], []⟩
def d_first_state : He.DefD := ⟨("first_state", none), "first_state", "first_state", defArgs s_first_state, defBody s_first_state, defScope s_first_state, [], []⟩
def d_deeds_for : He.DefD := ⟨("deeds_for", none), "deeds_for", "deeds_for", defArgs s_deeds_for, defBody s_deeds_for, defScope s_deeds_for, [], []⟩
def d_Doing_init : He.DefD := ⟨("Doing", some "__init__"), "__init__", "Doing.__init__", defArgs s_Doing_init, defBody s_Doing_init, defScope s_Doing_init, [], []⟩
def d_Doing_reckon : He.DefD := ⟨("Doing", some "reckon"), "reckon", "Doing.reckon", defArgs s_Doing_reckon, defBody s_Doing_reckon, defScope s_Doing_reckon, [], []⟩
def d_Doing_put : He.DefD := ⟨("Doing", some "put"), "put", "Doing.put", defArgs s_Doing_put, defBody s_Doing_put, defScope s_Doing_put, [], []⟩
def d_Doing_push : He.DefD := ⟨("Doing", some "push"), "push", "Doing.push", defArgs s_Doing_push, defBody s_Doing_push, defScope s_Doing_push, [], []⟩
def d_Doing_pull : He.DefD := ⟨("Doing", some "pull"), "pull", "Doing.pull", defArgs s_Doing_pull, defBody s_Doing_pull, defScope s_Doing_pull, [], []⟩
def d_Doing_draw : He.DefD := ⟨("Doing", some "draw"), "draw", "Doing.draw", defArgs s_Doing_draw, defBody s_Doing_draw, defScope s_Doing_draw, [], []⟩
def d_Doing_send : He.DefD := ⟨("Doing", some "send"), "send", "Doing.send", defArgs s_Doing_send, defBody s_Doing_send, defScope s_Doing_send, [], []⟩
def d_Doing_do : He.DefD := ⟨("Doing", some "do"), "do", "Doing.do", defArgs s_Doing_do, defBody s_Doing_do, defScope s_Doing_do, [], []⟩
def d_Doing_do_all : He.DefD := ⟨("Doing", some "do_all"), "do_all", "Doing.do_all", defArgs s_Doing_do_all, defBody s_Doing_do_all, defScope s_Doing_do_all, [], []⟩
def d_Doing_writes : He.DefD := ⟨("Doing", some "writes"), "writes", "Doing.writes", defArgs s_Doing_writes, defBody s_Doing_writes, defScope s_Doing_writes, [], []⟩
def d_done : He.DefD := ⟨("done", none), "done", "done", defArgs s_done, defBody s_done, defScope s_done, [], []⟩
def d_Book_init : He.DefD := ⟨("Book", some "__init__"), "__init__", "Book.__init__", defArgs s_Book_init, defBody s_Book_init, defScope s_Book_init, [], []⟩
def d_pending_at_first : He.DefD := ⟨("pending_at_first", none), "pending_at_first", "pending_at_first", defArgs s_pending_at_first, defBody s_pending_at_first, defScope s_pending_at_first, [], []⟩
def d_Rider_init : He.DefD := ⟨("Rider", some "__init__"), "__init__", "Rider.__init__", defArgs s_Rider_init, defBody s_Rider_init, defScope s_Rider_init, [], []⟩
def d_Rider_ride : He.DefD := ⟨("Rider", some "ride"), "ride", "Rider.ride", defArgs s_Rider_ride, defBody s_Rider_ride, defScope s_Rider_ride, [], []⟩
def d_Rider_outcome_now : He.DefD := ⟨("Rider", some "outcome_now"), "outcome_now", "Rider.outcome_now", defArgs s_Rider_outcome_now, defBody s_Rider_outcome_now, defScope s_Rider_outcome_now, [], []⟩
def d_by_calendar : He.DefD := ⟨("by_calendar", none), "by_calendar", "by_calendar", defArgs s_by_calendar, defBody s_by_calendar, defScope s_by_calendar, [], []⟩
def d_Calendar_init : He.DefD := ⟨("Calendar", some "__init__"), "__init__", "Calendar.__init__", defArgs s_Calendar_init, defBody s_Calendar_init, defScope s_Calendar_init, [], []⟩
def d_Calendar_place : He.DefD := ⟨("Calendar", some "place"), "place", "Calendar.place", defArgs s_Calendar_place, defBody s_Calendar_place, defScope s_Calendar_place, [], []⟩
def d_Calendar_put : He.DefD := ⟨("Calendar", some "put"), "put", "Calendar.put", defArgs s_Calendar_put, defBody s_Calendar_put, defScope s_Calendar_put, [], []⟩
def d_Calendar_size : He.DefD := ⟨("Calendar", some "size"), "size", "Calendar.size", defArgs s_Calendar_size, defBody s_Calendar_size, defScope s_Calendar_size, [], []⟩
def d_Calendar_least : He.DefD := ⟨("Calendar", some "least"), "least", "Calendar.least", defArgs s_Calendar_least, defBody s_Calendar_least, defScope s_Calendar_least, [], []⟩
def d_Calendar_leave : He.DefD := ⟨("Calendar", some "leave"), "leave", "Calendar.leave", defArgs s_Calendar_leave, defBody s_Calendar_leave, defScope s_Calendar_leave, [], []⟩
def d_Calendar_take_out : He.DefD := ⟨("Calendar", some "take_out"), "take_out", "Calendar.take_out", defArgs s_Calendar_take_out, defBody s_Calendar_take_out, defScope s_Calendar_take_out, [], []⟩
def d_Wheel_init : He.DefD := ⟨("Wheel", some "__init__"), "__init__", "Wheel.__init__", defArgs s_Wheel_init, defBody s_Wheel_init, defScope s_Wheel_init, [], []⟩
def d_Wheel_spoke_of : He.DefD := ⟨("Wheel", some "spoke_of"), "spoke_of", "Wheel.spoke_of", defArgs s_Wheel_spoke_of, defBody s_Wheel_spoke_of, defScope s_Wheel_spoke_of, [], []⟩
def d_Wheel_put : He.DefD := ⟨("Wheel", some "put"), "put", "Wheel.put", defArgs s_Wheel_put, defBody s_Wheel_put, defScope s_Wheel_put, [], []⟩
def d_Wheel_size : He.DefD := ⟨("Wheel", some "size"), "size", "Wheel.size", defArgs s_Wheel_size, defBody s_Wheel_size, defScope s_Wheel_size, [], []⟩
def d_Wheel_least : He.DefD := ⟨("Wheel", some "least"), "least", "Wheel.least", defArgs s_Wheel_least, defBody s_Wheel_least, defScope s_Wheel_least, [], []⟩
def d_Wheel_leave : He.DefD := ⟨("Wheel", some "leave"), "leave", "Wheel.leave", defArgs s_Wheel_leave, defBody s_Wheel_leave, defScope s_Wheel_leave, [], []⟩
def d_Wheel_take_out : He.DefD := ⟨("Wheel", some "take_out"), "take_out", "Wheel.take_out", defArgs s_Wheel_take_out, defBody s_Wheel_take_out, defScope s_Wheel_take_out, [], []⟩
def d__law_mixed : He.DefD := ⟨("_law_mixed", none), "_law_mixed", "_law_mixed", defArgs s__law_mixed, defBody s__law_mixed, defScope s__law_mixed, [], []⟩
def d__law_purse : He.DefD := ⟨("_law_purse", none), "_law_purse", "_law_purse", defArgs s__law_purse, defBody s__law_purse, defScope s__law_purse, [], []⟩
def d__law_draw : He.DefD := ⟨("_law_draw", none), "_law_draw", "_law_draw", defArgs s__law_draw, defBody s__law_draw, defScope s__law_draw, [], []⟩
def d__law_machine : He.DefD := ⟨("_law_machine", none), "_law_machine", "_law_machine", defArgs s__law_machine, defBody s__law_machine, defScope s__law_machine, [], []⟩
def d__law_due : He.DefD := ⟨("_law_due", none), "_law_due", "_law_due", defArgs s__law_due, defBody s__law_due, defScope s__law_due, [], []⟩
def d_law : He.DefD := ⟨("law", none), "law", "law", defArgs s_law, defBody s_law, defScope s_law, [], []⟩
def d_Wheel_place : He.DefD := ⟨("Wheel", some "place"), "place", "Calendar.place", defArgs s_Calendar_place, defBody s_Calendar_place, defScope s_Calendar_place, [], []⟩
def fn0 : List He.DefD := [d_Fault_word, d_Nought_word, d_Great_word, d_Full_word, d_Dry_word, d_Span_word, d_Late_word, d_kept_in, d_of_two, d_worth_of, d_copied, d_copied_machine, d_Model_init, d_State_init, d_State_copy, d_first_state, d_deeds_for, d_Doing_init, d_Doing_reckon, d_Doing_put, d_Doing_push, d_Doing_pull, d_Doing_draw, d_Doing_send, d_Doing_do, d_Doing_do_all, d_Doing_writes, d_done, d_Book_init, d_pending_at_first]
def fn1 : List He.DefD := [d_Rider_init, d_Rider_ride, d_Rider_outcome_now, d_by_calendar, d_Calendar_init, d_Calendar_place, d_Calendar_put, d_Calendar_size, d_Calendar_least, d_Calendar_leave, d_Calendar_take_out, d_Wheel_init, d_Wheel_spoke_of, d_Wheel_put, d_Wheel_size, d_Wheel_least, d_Wheel_leave, d_Wheel_take_out, d__law_mixed, d__law_purse, d__law_draw, d__law_machine, d__law_due, d_law, d_Wheel_place]
def fa0 : List He.Fa := [.glo "MomentError", .glo "Fault", .glo "Nought", .glo "Great", .glo "Full", .glo "Dry", .glo "Span", .glo "Late", .glo "Model", .cls "Model", .noat "Model" "machines", .mkr "Model", .glo "State", .cls "State", .noat "State" "boxes", .noat "State" "drawn", .noat "State" "queues", .noat "State" "sent", .mkr "State", .glo "Doing", .cls "Doing", .noat "Doing" "at", .noat "Doing" "draws", .noat "Doing" "ends", .noat "Doing" "got", .noat "Doing" "key", .noat "Doing" "news", .noat "Doing" "state", .noat "Doing" "written", .mkr "Doing"]
def fa1 : List He.Fa := [.glo "Book", .cls "Book", .noat "Book" "ending", .noat "Book" "records", .noat "Book" "states", .mkr "Book", .glo "Rider", .cls "Rider", .noat "Rider" "calendar", .noat "Rider" "ended", .noat "Rider" "found", .noat "Rider" "model", .noat "Rider" "states", .mkr "Rider", .glo "Calendar", .cls "Calendar", .noat "Calendar" "row", .noat "Calendar" "things", .mkr "Calendar", .glo "Wheel", .cls "Wheel", .noat "Wheel" "many", .noat "Wheel" "rim", .noat "Wheel" "row", .noat "Wheel" "span", .noat "Wheel" "spokes", .noat "Wheel" "things", .mkr "Wheel", .exc "Dry", .exc "Full"]
def fa2 : List He.Fa := [.exc "Great", .exc "Late", .exc "Nought", .exc "Span", .exm "Dry" "Fault" true, .exm "Full" "Fault" true, .exm "Great" "Fault" true, .exm "Late" "Fault" true, .exm "Nought" "Fault" true, .exm "Span" "Fault" true, .free "enumerate", .free "int", .free "len", .free "list", .free "max", .free "min", .free "range", .int "MOST" 1000000000000000, .int "ROOM" 30, .int "LONGEST" 1000000, .int "LATEST" 1000000000000, .glo "kept_in", .glo "of_two", .glo "worth_of", .glo "copied", .glo "copied_machine", .glo "first_state", .glo "deeds_for", .glo "done", .glo "pending_at_first"]
def fa3 : List He.Fa := [.glo "by_calendar", .glo "_law_mixed", .glo "_law_purse", .glo "_law_draw", .glo "_law_machine", .glo "_law_due", .glo "law", .meth "Fault" "word", .meth "Nought" "word", .meth "Great" "word", .meth "Full" "word", .meth "Dry" "word", .meth "Span" "word", .meth "Late" "word", .meth "State" "copy", .meth "Doing" "reckon", .meth "Doing" "put", .meth "Doing" "push", .meth "Doing" "pull", .meth "Doing" "draw", .meth "Doing" "send", .meth "Doing" "do", .meth "Doing" "do_all", .meth "Doing" "writes", .meth "Rider" "ride", .meth "Rider" "outcome_now", .meth "Calendar" "place", .meth "Calendar" "put", .meth "Calendar" "size", .meth "Calendar" "least"]
def fa4 : List He.Fa := [.meth "Calendar" "leave", .meth "Calendar" "take_out", .meth "Wheel" "place", .meth "Wheel" "put", .meth "Wheel" "size", .meth "Wheel" "least", .meth "Wheel" "leave", .meth "Wheel" "take_out", .meth "Wheel" "spoke_of"]
def fn : List He.DefD := fn0 ++ fn1
def fa : List He.Fa := fa0 ++ fa1 ++ fa2 ++ fa3 ++ fa4
def exs : List (PySem.W.Frag → Bool) := [fun K => excCB K "Dry", fun K => excCB K "Fault", fun K => excCB K "Full", fun K => excCB K "Great", fun K => excCB K "Late", fun K => excCB K "MomentError", fun K => excCB K "Nought", fun K => excCB K "Span"]
def lo0 : List PySem.Str := ["__name__", "MomentError", "Fault", "Nought", "Great", "Full", "Dry", "Span", "Late", "MOST", "kept_in", "of_two", "worth_of", "copied", "copied_machine", "Model", "State", "first_state", "deeds_for", "ROOM", "LONGEST", "LATEST", "Doing", "done", "Book", "pending_at_first", "Rider", "by_calendar", "Calendar", "Wheel"]
def lo1 : List PySem.Str := ["_law_mixed", "_law_purse", "_law_draw", "_law_machine", "_law_due"]
def loose : List PySem.Str := lo0 ++ lo1
abbrev Rr : PySem.W.OpenRow := PySem.W.OpenLaw.row PySem.Challenge.rw_momentloom_k27_runs_by_calendars_end
abbrev hk : PySem.W.Hook := hookM 6 fa fn exs
def ob (s : PySem.W.SharedT) : AlM := obsM 6 fa fn exs (HandSHeadRun.getT s)
theorem ob_eq (s : PySem.W.SharedT) : ob s = hk.obs s.abs := obsM_eq (HandSHeadRun.getT_eq s)

theorem run (w : World) : HandSHeadRun.RunEq Rr (PySem.W.view Rr.prog [43]) hk ob 20000 loose w := by
  intro os
  kernel_rfl
theorem tx_of {K : PySem.W.Frag} {h : Heap} {mg : Str → Option Value} (X : K.In h) (G : h.Ns mainGlobals mg) (c : SaysM fa fn exs K) : Tx K mg := by
  have F_Fault_word : Fun K "word" "Fault.word" s_Fault_word (He.fAd K ("Fault", some "word")) (fdA K (He.fAd K ("Fault", some "word"))) := fun_of (c.fn_ 0 (d := d_Fault_word) rfl)
  have b_Fault_word : Binds K (fdA K (He.fAd K ("Fault", some "word"))) ["self"] [] := F_Fault_word.binds (ps := ["self"]) fun _ _ _ _ _ _ us hl => match us, hl with | [_], _ => rfl
  have W_Fault_word := F_Fault_word
  have F_Nought_word : Fun K "word" "Nought.word" s_Nought_word (He.fAd K ("Nought", some "word")) (fdA K (He.fAd K ("Nought", some "word"))) := fun_of (c.fn_ 1 (d := d_Nought_word) rfl)
  have b_Nought_word : Binds K (fdA K (He.fAd K ("Nought", some "word"))) ["self"] [] := F_Nought_word.binds (ps := ["self"]) fun _ _ _ _ _ _ us hl => match us, hl with | [_], _ => rfl
  have W_Nought_word := F_Nought_word
  have F_Great_word : Fun K "word" "Great.word" s_Great_word (He.fAd K ("Great", some "word")) (fdA K (He.fAd K ("Great", some "word"))) := fun_of (c.fn_ 2 (d := d_Great_word) rfl)
  have b_Great_word : Binds K (fdA K (He.fAd K ("Great", some "word"))) ["self"] [] := F_Great_word.binds (ps := ["self"]) fun _ _ _ _ _ _ us hl => match us, hl with | [_], _ => rfl
  have W_Great_word := F_Great_word
  have F_Full_word : Fun K "word" "Full.word" s_Full_word (He.fAd K ("Full", some "word")) (fdA K (He.fAd K ("Full", some "word"))) := fun_of (c.fn_ 3 (d := d_Full_word) rfl)
  have b_Full_word : Binds K (fdA K (He.fAd K ("Full", some "word"))) ["self"] [] := F_Full_word.binds (ps := ["self"]) fun _ _ _ _ _ _ us hl => match us, hl with | [_], _ => rfl
  have W_Full_word := F_Full_word
  have F_Dry_word : Fun K "word" "Dry.word" s_Dry_word (He.fAd K ("Dry", some "word")) (fdA K (He.fAd K ("Dry", some "word"))) := fun_of (c.fn_ 4 (d := d_Dry_word) rfl)
  have b_Dry_word : Binds K (fdA K (He.fAd K ("Dry", some "word"))) ["self"] [] := F_Dry_word.binds (ps := ["self"]) fun _ _ _ _ _ _ us hl => match us, hl with | [_], _ => rfl
  have W_Dry_word := F_Dry_word
  have F_Span_word : Fun K "word" "Span.word" s_Span_word (He.fAd K ("Span", some "word")) (fdA K (He.fAd K ("Span", some "word"))) := fun_of (c.fn_ 5 (d := d_Span_word) rfl)
  have b_Span_word : Binds K (fdA K (He.fAd K ("Span", some "word"))) ["self"] [] := F_Span_word.binds (ps := ["self"]) fun _ _ _ _ _ _ us hl => match us, hl with | [_], _ => rfl
  have W_Span_word := F_Span_word
  have F_Late_word : Fun K "word" "Late.word" s_Late_word (He.fAd K ("Late", some "word")) (fdA K (He.fAd K ("Late", some "word"))) := fun_of (c.fn_ 6 (d := d_Late_word) rfl)
  have b_Late_word : Binds K (fdA K (He.fAd K ("Late", some "word"))) ["self"] [] := F_Late_word.binds (ps := ["self"]) fun _ _ _ _ _ _ us hl => match us, hl with | [_], _ => rfl
  have W_Late_word := F_Late_word
  have F_kept_in : Fun K "kept_in" "kept_in" s_kept_in (He.fAd K ("kept_in", none)) (fdA K (He.fAd K ("kept_in", none))) := fun_of (c.fn_ 7 (d := d_kept_in) rfl)
  have b_kept_in : Binds K (fdA K (He.fAd K ("kept_in", none))) ["number"] [] := F_kept_in.binds (ps := ["number"]) fun _ _ _ _ _ _ us hl => match us, hl with | [_], _ => rfl
  have F_of_two : Fun K "of_two" "of_two" s_of_two (He.fAd K ("of_two", none)) (fdA K (He.fAd K ("of_two", none))) := fun_of (c.fn_ 8 (d := d_of_two) rfl)
  have b_of_two : Binds K (fdA K (He.fAd K ("of_two", none))) ["word", "one", "other"] [] := F_of_two.binds (ps := ["word", "one", "other"]) fun _ _ _ _ _ _ us hl => match us, hl with | [_, _, _], _ => rfl
  have F_worth_of : Fun K "worth_of" "worth_of" s_worth_of (He.fAd K ("worth_of", none)) (fdA K (He.fAd K ("worth_of", none))) := fun_of (c.fn_ 9 (d := d_worth_of) rfl)
  have b_worth_of : Binds K (fdA K (He.fAd K ("worth_of", none))) ["formula", "state", "now", "got"] [] := F_worth_of.binds (ps := ["formula", "state", "now", "got"]) fun _ _ _ _ _ _ us hl => match us, hl with | [_, _, _, _], _ => rfl
  have F_copied : Fun K "copied" "copied" s_copied (He.fAd K ("copied", none)) (fdA K (He.fAd K ("copied", none))) := fun_of (c.fn_ 10 (d := d_copied) rfl)
  have b_copied : Binds K (fdA K (He.fAd K ("copied", none))) ["deeds"] [] := F_copied.binds (ps := ["deeds"]) fun _ _ _ _ _ _ us hl => match us, hl with | [_], _ => rfl
  have F_copied_machine : Fun K "copied_machine" "copied_machine" s_copied_machine (He.fAd K ("copied_machine", none)) (fdA K (He.fAd K ("copied_machine", none))) := fun_of (c.fn_ 11 (d := d_copied_machine) rfl)
  have b_copied_machine : Binds K (fdA K (He.fAd K ("copied_machine", none))) ["machine"] [] := F_copied_machine.binds (ps := ["machine"]) fun _ _ _ _ _ _ us hl => match us, hl with | [_], _ => rfl
  have F_Model_init : Fun K "__init__" "Model.__init__" s_Model_init (He.fAd K ("Model", some "__init__")) (fdA K (He.fAd K ("Model", some "__init__"))) := fun_of (c.fn_ 12 (d := d_Model_init) rfl)
  have b_Model_init : Binds K (fdA K (He.fAd K ("Model", some "__init__"))) ["self", "machines"] [] := F_Model_init.binds (ps := ["self", "machines"]) fun _ _ _ _ _ _ us hl => match us, hl with | [_, _], _ => rfl
  have F_State_init : Fun K "__init__" "State.__init__" s_State_init (He.fAd K ("State", some "__init__")) (fdA K (He.fAd K ("State", some "__init__"))) := fun_of (c.fn_ 13 (d := d_State_init) rfl)
  have b_State_init : Binds K (fdA K (He.fAd K ("State", some "__init__"))) ["self", "boxes", "queues", "drawn", "sent"] [] := F_State_init.binds (ps := ["self", "boxes", "queues", "drawn", "sent"]) fun _ _ _ _ _ _ us hl => match us, hl with | [_, _, _, _, _], _ => rfl
  have F_State_copy : Fun K "copy" "State.copy" s_State_copy (He.fAd K ("State", some "copy")) (fdA K (He.fAd K ("State", some "copy"))) := fun_of (c.fn_ 14 (d := d_State_copy) rfl)
  have b_State_copy : Binds K (fdA K (He.fAd K ("State", some "copy"))) ["self"] [] := F_State_copy.binds (ps := ["self"]) fun _ _ _ _ _ _ us hl => match us, hl with | [_], _ => rfl
  have F_first_state : Fun K "first_state" "first_state" s_first_state (He.fAd K ("first_state", none)) (fdA K (He.fAd K ("first_state", none))) := fun_of (c.fn_ 15 (d := d_first_state) rfl)
  have b_first_state : Binds K (fdA K (He.fAd K ("first_state", none))) ["model", "at"] [] := F_first_state.binds (ps := ["model", "at"]) fun _ _ _ _ _ _ us hl => match us, hl with | [_, _], _ => rfl
  have F_deeds_for : Fun K "deeds_for" "deeds_for" s_deeds_for (He.fAd K ("deeds_for", none)) (fdA K (He.fAd K ("deeds_for", none))) := fun_of (c.fn_ 16 (d := d_deeds_for) rfl)
  have b_deeds_for : Binds K (fdA K (He.fAd K ("deeds_for", none))) ["model", "at", "sign"] [] := F_deeds_for.binds (ps := ["model", "at", "sign"]) fun _ _ _ _ _ _ us hl => match us, hl with | [_, _, _], _ => rfl
  have F_Doing_init : Fun K "__init__" "Doing.__init__" s_Doing_init (He.fAd K ("Doing", some "__init__")) (fdA K (He.fAd K ("Doing", some "__init__"))) := fun_of (c.fn_ 17 (d := d_Doing_init) rfl)
  have b_Doing_init : Binds K (fdA K (He.fAd K ("Doing", some "__init__"))) ["self", "draws", "state", "happening"] [] := F_Doing_init.binds (ps := ["self", "draws", "state", "happening"]) fun _ _ _ _ _ _ us hl => match us, hl with | [_, _, _, _], _ => rfl
  have F_Doing_reckon : Fun K "reckon" "Doing.reckon" s_Doing_reckon (He.fAd K ("Doing", some "reckon")) (fdA K (He.fAd K ("Doing", some "reckon"))) := fun_of (c.fn_ 18 (d := d_Doing_reckon) rfl)
  have b_Doing_reckon : Binds K (fdA K (He.fAd K ("Doing", some "reckon"))) ["self", "formula"] [] := F_Doing_reckon.binds (ps := ["self", "formula"]) fun _ _ _ _ _ _ us hl => match us, hl with | [_, _], _ => rfl
  have F_Doing_put : Fun K "put" "Doing.put" s_Doing_put (He.fAd K ("Doing", some "put")) (fdA K (He.fAd K ("Doing", some "put"))) := fun_of (c.fn_ 19 (d := d_Doing_put) rfl)
  have b_Doing_put : Binds K (fdA K (He.fAd K ("Doing", some "put"))) ["self", "box", "worth"] [] := F_Doing_put.binds (ps := ["self", "box", "worth"]) fun _ _ _ _ _ _ us hl => match us, hl with | [_, _, _], _ => rfl
  have F_Doing_push : Fun K "push" "Doing.push" s_Doing_push (He.fAd K ("Doing", some "push")) (fdA K (He.fAd K ("Doing", some "push"))) := fun_of (c.fn_ 20 (d := d_Doing_push) rfl)
  have b_Doing_push : Binds K (fdA K (He.fAd K ("Doing", some "push"))) ["self", "queue", "worth"] [] := F_Doing_push.binds (ps := ["self", "queue", "worth"]) fun _ _ _ _ _ _ us hl => match us, hl with | [_, _, _], _ => rfl
  have F_Doing_pull : Fun K "pull" "Doing.pull" s_Doing_pull (He.fAd K ("Doing", some "pull")) (fdA K (He.fAd K ("Doing", some "pull"))) := fun_of (c.fn_ 21 (d := d_Doing_pull) rfl)
  have b_Doing_pull : Binds K (fdA K (He.fAd K ("Doing", some "pull"))) ["self", "deed"] [] := F_Doing_pull.binds (ps := ["self", "deed"]) fun _ _ _ _ _ _ us hl => match us, hl with | [_, _], _ => rfl
  have F_Doing_draw : Fun K "draw" "Doing.draw" s_Doing_draw (He.fAd K ("Doing", some "draw")) (fdA K (He.fAd K ("Doing", some "draw"))) := fun_of (c.fn_ 22 (d := d_Doing_draw) rfl)
  have b_Doing_draw : Binds K (fdA K (He.fAd K ("Doing", some "draw"))) ["self", "box", "many"] [] := F_Doing_draw.binds (ps := ["self", "box", "many"]) fun _ _ _ _ _ _ us hl => match us, hl with | [_, _, _], _ => rfl
  have F_Doing_send : Fun K "send" "Doing.send" s_Doing_send (He.fAd K ("Doing", some "send")) (fdA K (He.fAd K ("Doing", some "send"))) := fun_of (c.fn_ 23 (d := d_Doing_send) rfl)
  have b_Doing_send : Binds K (fdA K (He.fAd K ("Doing", some "send"))) ["self", "deed"] [] := F_Doing_send.binds (ps := ["self", "deed"]) fun _ _ _ _ _ _ us hl => match us, hl with | [_, _], _ => rfl
  have F_Doing_do : Fun K "do" "Doing.do" s_Doing_do (He.fAd K ("Doing", some "do")) (fdA K (He.fAd K ("Doing", some "do"))) := fun_of (c.fn_ 24 (d := d_Doing_do) rfl)
  have b_Doing_do : Binds K (fdA K (He.fAd K ("Doing", some "do"))) ["self", "deed"] [] := F_Doing_do.binds (ps := ["self", "deed"]) fun _ _ _ _ _ _ us hl => match us, hl with | [_, _], _ => rfl
  have F_Doing_do_all : Fun K "do_all" "Doing.do_all" s_Doing_do_all (He.fAd K ("Doing", some "do_all")) (fdA K (He.fAd K ("Doing", some "do_all"))) := fun_of (c.fn_ 25 (d := d_Doing_do_all) rfl)
  have b_Doing_do_all : Binds K (fdA K (He.fAd K ("Doing", some "do_all"))) ["self", "deeds"] [] := F_Doing_do_all.binds (ps := ["self", "deeds"]) fun _ _ _ _ _ _ us hl => match us, hl with | [_, _], _ => rfl
  have F_Doing_writes : Fun K "writes" "Doing.writes" s_Doing_writes (He.fAd K ("Doing", some "writes")) (fdA K (He.fAd K ("Doing", some "writes"))) := fun_of (c.fn_ 26 (d := d_Doing_writes) rfl)
  have b_Doing_writes : Binds K (fdA K (He.fAd K ("Doing", some "writes"))) ["self", "machine"] [] := F_Doing_writes.binds (ps := ["self", "machine"]) fun _ _ _ _ _ _ us hl => match us, hl with | [_, _], _ => rfl
  have F_done : Fun K "done" "done" s_done (He.fAd K ("done", none)) (fdA K (He.fAd K ("done", none))) := fun_of (c.fn_ 27 (d := d_done) rfl)
  have b_done : Binds K (fdA K (He.fAd K ("done", none))) ["model", "state", "happening"] [] := F_done.binds (ps := ["model", "state", "happening"]) fun _ _ _ _ _ _ us hl => match us, hl with | [_, _, _], _ => rfl
  have F_Book_init : Fun K "__init__" "Book.__init__" s_Book_init (He.fAd K ("Book", some "__init__")) (fdA K (He.fAd K ("Book", some "__init__"))) := fun_of (c.fn_ 28 (d := d_Book_init) rfl)
  have b_Book_init : Binds K (fdA K (He.fAd K ("Book", some "__init__"))) ["self", "records", "ending", "states"] [] := F_Book_init.binds (ps := ["self", "records", "ending", "states"]) fun _ _ _ _ _ _ us hl => match us, hl with | [_, _, _, _], _ => rfl
  have F_pending_at_first : Fun K "pending_at_first" "pending_at_first" s_pending_at_first (He.fAd K ("pending_at_first", none)) (fdA K (He.fAd K ("pending_at_first", none))) := fun_of (c.fn_ 29 (d := d_pending_at_first) rfl)
  have b_pending_at_first : Binds K (fdA K (He.fAd K ("pending_at_first", none))) ["signs"] [] := F_pending_at_first.binds (ps := ["signs"]) fun _ _ _ _ _ _ us hl => match us, hl with | [_], _ => rfl
  have F_Rider_init : Fun K "__init__" "Rider.__init__" s_Rider_init (He.fAd K ("Rider", some "__init__")) (fdA K (He.fAd K ("Rider", some "__init__"))) := fun_of (c.fn_ 30 (d := d_Rider_init) rfl)
  have b_Rider_init : Binds K (fdA K (He.fAd K ("Rider", some "__init__"))) ["self", "model", "signs", "calendar"] [] := F_Rider_init.binds (ps := ["self", "model", "signs", "calendar"]) fun _ _ _ _ _ _ us hl => match us, hl with | [_, _, _, _], _ => rfl
  have F_Rider_ride : Fun K "ride" "Rider.ride" s_Rider_ride (He.fAd K ("Rider", some "ride")) (fdA K (He.fAd K ("Rider", some "ride"))) := fun_of (c.fn_ 31 (d := d_Rider_ride) rfl)
  have b_Rider_ride : Binds K (fdA K (He.fAd K ("Rider", some "ride"))) ["self"] [] := F_Rider_ride.binds (ps := ["self"]) fun _ _ _ _ _ _ us hl => match us, hl with | [_], _ => rfl
  have F_Rider_outcome_now : Fun K "outcome_now" "Rider.outcome_now" s_Rider_outcome_now (He.fAd K ("Rider", some "outcome_now")) (fdA K (He.fAd K ("Rider", some "outcome_now"))) := fun_of (c.fn_ 32 (d := d_Rider_outcome_now) rfl)
  have b_Rider_outcome_now : Binds K (fdA K (He.fAd K ("Rider", some "outcome_now"))) ["self"] [] := F_Rider_outcome_now.binds (ps := ["self"]) fun _ _ _ _ _ _ us hl => match us, hl with | [_], _ => rfl
  have F_by_calendar : Fun K "by_calendar" "by_calendar" s_by_calendar (He.fAd K ("by_calendar", none)) (fdA K (He.fAd K ("by_calendar", none))) := fun_of (c.fn_ 33 (d := d_by_calendar) rfl)
  have b_by_calendar : Binds K (fdA K (He.fAd K ("by_calendar", none))) ["model", "signs", "most", "calendar"] [] := F_by_calendar.binds (ps := ["model", "signs", "most", "calendar"]) fun _ _ _ _ _ _ us hl => match us, hl with | [_, _, _, _], _ => rfl
  have F_Calendar_init : Fun K "__init__" "Calendar.__init__" s_Calendar_init (He.fAd K ("Calendar", some "__init__")) (fdA K (He.fAd K ("Calendar", some "__init__"))) := fun_of (c.fn_ 34 (d := d_Calendar_init) rfl)
  have b_Calendar_init : Binds K (fdA K (He.fAd K ("Calendar", some "__init__"))) ["self"] [] := F_Calendar_init.binds (ps := ["self"]) fun _ _ _ _ _ _ us hl => match us, hl with | [_], _ => rfl
  have F_Calendar_place : Fun K "place" "Calendar.place" s_Calendar_place (He.fAd K ("Calendar", some "place")) (fdA K (He.fAd K ("Calendar", some "place"))) := fun_of (c.fn_ 35 (d := d_Calendar_place) rfl)
  have b_Calendar_place : Binds K (fdA K (He.fAd K ("Calendar", some "place"))) ["self", "key"] [] := F_Calendar_place.binds (ps := ["self", "key"]) fun _ _ _ _ _ _ us hl => match us, hl with | [_, _], _ => rfl
  have F_Calendar_put : Fun K "put" "Calendar.put" s_Calendar_put (He.fAd K ("Calendar", some "put")) (fdA K (He.fAd K ("Calendar", some "put"))) := fun_of (c.fn_ 36 (d := d_Calendar_put) rfl)
  have b_Calendar_put : Binds K (fdA K (He.fAd K ("Calendar", some "put"))) ["self", "key", "thing"] [] := F_Calendar_put.binds (ps := ["self", "key", "thing"]) fun _ _ _ _ _ _ us hl => match us, hl with | [_, _, _], _ => rfl
  have F_Calendar_size : Fun K "size" "Calendar.size" s_Calendar_size (He.fAd K ("Calendar", some "size")) (fdA K (He.fAd K ("Calendar", some "size"))) := fun_of (c.fn_ 37 (d := d_Calendar_size) rfl)
  have b_Calendar_size : Binds K (fdA K (He.fAd K ("Calendar", some "size"))) ["self"] [] := F_Calendar_size.binds (ps := ["self"]) fun _ _ _ _ _ _ us hl => match us, hl with | [_], _ => rfl
  have F_Calendar_least : Fun K "least" "Calendar.least" s_Calendar_least (He.fAd K ("Calendar", some "least")) (fdA K (He.fAd K ("Calendar", some "least"))) := fun_of (c.fn_ 38 (d := d_Calendar_least) rfl)
  have b_Calendar_least : Binds K (fdA K (He.fAd K ("Calendar", some "least"))) ["self"] [] := F_Calendar_least.binds (ps := ["self"]) fun _ _ _ _ _ _ us hl => match us, hl with | [_], _ => rfl
  have F_Calendar_leave : Fun K "leave" "Calendar.leave" s_Calendar_leave (He.fAd K ("Calendar", some "leave")) (fdA K (He.fAd K ("Calendar", some "leave"))) := fun_of (c.fn_ 39 (d := d_Calendar_leave) rfl)
  have b_Calendar_leave : Binds K (fdA K (He.fAd K ("Calendar", some "leave"))) ["self"] [] := F_Calendar_leave.binds (ps := ["self"]) fun _ _ _ _ _ _ us hl => match us, hl with | [_], _ => rfl
  have F_Calendar_take_out : Fun K "take_out" "Calendar.take_out" s_Calendar_take_out (He.fAd K ("Calendar", some "take_out")) (fdA K (He.fAd K ("Calendar", some "take_out"))) := fun_of (c.fn_ 40 (d := d_Calendar_take_out) rfl)
  have b_Calendar_take_out : Binds K (fdA K (He.fAd K ("Calendar", some "take_out"))) ["self", "key"] [] := F_Calendar_take_out.binds (ps := ["self", "key"]) fun _ _ _ _ _ _ us hl => match us, hl with | [_, _], _ => rfl
  have F_Wheel_init : Fun K "__init__" "Wheel.__init__" s_Wheel_init (He.fAd K ("Wheel", some "__init__")) (fdA K (He.fAd K ("Wheel", some "__init__"))) := fun_of (c.fn_ 41 (d := d_Wheel_init) rfl)
  have b_Wheel_init : Binds K (fdA K (He.fAd K ("Wheel", some "__init__"))) ["self", "span"] [] := F_Wheel_init.binds (ps := ["self", "span"]) fun _ _ _ _ _ _ us hl => match us, hl with | [_, _], _ => rfl
  have F_Wheel_spoke_of : Fun K "spoke_of" "Wheel.spoke_of" s_Wheel_spoke_of (He.fAd K ("Wheel", some "spoke_of")) (fdA K (He.fAd K ("Wheel", some "spoke_of"))) := fun_of (c.fn_ 42 (d := d_Wheel_spoke_of) rfl)
  have b_Wheel_spoke_of : Binds K (fdA K (He.fAd K ("Wheel", some "spoke_of"))) ["self", "key"] [] := F_Wheel_spoke_of.binds (ps := ["self", "key"]) fun _ _ _ _ _ _ us hl => match us, hl with | [_, _], _ => rfl
  have F_Wheel_put : Fun K "put" "Wheel.put" s_Wheel_put (He.fAd K ("Wheel", some "put")) (fdA K (He.fAd K ("Wheel", some "put"))) := fun_of (c.fn_ 43 (d := d_Wheel_put) rfl)
  have b_Wheel_put : Binds K (fdA K (He.fAd K ("Wheel", some "put"))) ["self", "key", "thing"] [] := F_Wheel_put.binds (ps := ["self", "key", "thing"]) fun _ _ _ _ _ _ us hl => match us, hl with | [_, _, _], _ => rfl
  have F_Wheel_size : Fun K "size" "Wheel.size" s_Wheel_size (He.fAd K ("Wheel", some "size")) (fdA K (He.fAd K ("Wheel", some "size"))) := fun_of (c.fn_ 44 (d := d_Wheel_size) rfl)
  have b_Wheel_size : Binds K (fdA K (He.fAd K ("Wheel", some "size"))) ["self"] [] := F_Wheel_size.binds (ps := ["self"]) fun _ _ _ _ _ _ us hl => match us, hl with | [_], _ => rfl
  have F_Wheel_least : Fun K "least" "Wheel.least" s_Wheel_least (He.fAd K ("Wheel", some "least")) (fdA K (He.fAd K ("Wheel", some "least"))) := fun_of (c.fn_ 45 (d := d_Wheel_least) rfl)
  have b_Wheel_least : Binds K (fdA K (He.fAd K ("Wheel", some "least"))) ["self"] [] := F_Wheel_least.binds (ps := ["self"]) fun _ _ _ _ _ _ us hl => match us, hl with | [_], _ => rfl
  have F_Wheel_leave : Fun K "leave" "Wheel.leave" s_Wheel_leave (He.fAd K ("Wheel", some "leave")) (fdA K (He.fAd K ("Wheel", some "leave"))) := fun_of (c.fn_ 46 (d := d_Wheel_leave) rfl)
  have b_Wheel_leave : Binds K (fdA K (He.fAd K ("Wheel", some "leave"))) ["self"] [] := F_Wheel_leave.binds (ps := ["self"]) fun _ _ _ _ _ _ us hl => match us, hl with | [_], _ => rfl
  have F_Wheel_take_out : Fun K "take_out" "Wheel.take_out" s_Wheel_take_out (He.fAd K ("Wheel", some "take_out")) (fdA K (He.fAd K ("Wheel", some "take_out"))) := fun_of (c.fn_ 47 (d := d_Wheel_take_out) rfl)
  have b_Wheel_take_out : Binds K (fdA K (He.fAd K ("Wheel", some "take_out"))) ["self", "key"] [] := F_Wheel_take_out.binds (ps := ["self", "key"]) fun _ _ _ _ _ _ us hl => match us, hl with | [_, _], _ => rfl
  have F__law_mixed : Fun K "_law_mixed" "_law_mixed" s__law_mixed (He.fAd K ("_law_mixed", none)) (fdA K (He.fAd K ("_law_mixed", none))) := fun_of (c.fn_ 48 (d := d__law_mixed) rfl)
  have b__law_mixed : Binds K (fdA K (He.fAd K ("_law_mixed", none))) ["_law_cell", "_law_k"] [] := F__law_mixed.binds (ps := ["_law_cell", "_law_k"]) fun _ _ _ _ _ _ us hl => match us, hl with | [_, _], _ => rfl
  have F__law_purse : Fun K "_law_purse" "_law_purse" s__law_purse (He.fAd K ("_law_purse", none)) (fdA K (He.fAd K ("_law_purse", none))) := fun_of (c.fn_ 49 (d := d__law_purse) rfl)
  have b__law_purse : Binds K (fdA K (He.fAd K ("_law_purse", none))) ["_law_script"] [] := F__law_purse.binds (ps := ["_law_script"]) fun _ _ _ _ _ _ us hl => match us, hl with | [_], _ => rfl
  have F__law_draw : Fun K "_law_draw" "_law_draw" s__law_draw (He.fAd K ("_law_draw", none)) (fdA K (He.fAd K ("_law_draw", none))) := fun_of (c.fn_ 50 (d := d__law_draw) rfl)
  have b__law_draw : Binds K (fdA K (He.fAd K ("_law_draw", none))) ["_law_purse_here", "_law_out_of"] [] := F__law_draw.binds (ps := ["_law_purse_here", "_law_out_of"]) fun _ _ _ _ _ _ us hl => match us, hl with | [_, _], _ => rfl
  have F__law_machine : Fun K "_law_machine" "_law_machine" s__law_machine (He.fAd K ("_law_machine", none)) (fdA K (He.fAd K ("_law_machine", none))) := fun_of (c.fn_ 51 (d := d__law_machine) rfl)
  have b__law_machine : Binds K (fdA K (He.fAd K ("_law_machine", none))) ["_law_last", "_law_stop", "_law_span"] [] := F__law_machine.binds (ps := ["_law_last", "_law_stop", "_law_span"]) fun _ _ _ _ _ _ us hl => match us, hl with | [_, _, _], _ => rfl
  have F__law_due : Fun K "_law_due" "_law_due" s__law_due (He.fAd K ("_law_due", none)) (fdA K (He.fAd K ("_law_due", none))) := fun_of (c.fn_ 52 (d := d__law_due) rfl)
  have b__law_due : Binds K (fdA K (He.fAd K ("_law_due", none))) ["_law_last", "_law_stop", "_law_span", "_law_others", "_law_most"] [] := F__law_due.binds (ps := ["_law_last", "_law_stop", "_law_span", "_law_others", "_law_most"]) fun _ _ _ _ _ _ us hl => match us, hl with | [_, _, _, _, _], _ => rfl
  have F_law : Fun K "law" "law" s_law (He.fAd K ("law", none)) (fdA K (He.fAd K ("law", none))) := fun_of (c.fn_ 53 (d := d_law) rfl)
  have b_law : Binds K (fdA K (He.fAd K ("law", none))) ["_law_script"] [] := F_law.binds (ps := ["_law_script"]) fun _ _ _ _ _ _ us hl => match us, hl with | [_], _ => rfl
  have W_Wheel_place : Fun K "place" "Calendar.place" s_Calendar_place (He.fAd K ("Wheel", some "place")) (fdA K (He.fAd K ("Wheel", some "place"))) := fun_of (c.fn_ 54 (d := d_Wheel_place) rfl)
  have b_Wheel_place : Binds K (fdA K (He.fAd K ("Wheel", some "place"))) ["self", "key"] [] := W_Wheel_place.binds (ps := ["self", "key"]) fun _ _ _ _ _ _ us hl => match us, hl with | [_, _], _ => rfl
  exact ⟨He.glo_ok X G (c.fact 0),
    He.glo_ok X G (c.fact 1),
    He.glo_ok X G (c.fact 2),
    He.glo_ok X G (c.fact 3),
    He.glo_ok X G (c.fact 4),
    He.glo_ok X G (c.fact 5),
    He.glo_ok X G (c.fact 6),
    He.glo_ok X G (c.fact 7),
    He.glo_ok X G (c.fact 8),
    He.cls_ok (c.fact 9),
    He.noat_ok (c.fact 10),
    ⟨He.glo_ok X G (c.fact 8), He.mkr_ok (c.fact 11), b_Model_init⟩,
    He.glo_ok X G (c.fact 12),
    He.cls_ok (c.fact 13),
    He.noat_ok (c.fact 14),
    He.noat_ok (c.fact 15),
    He.noat_ok (c.fact 16),
    He.noat_ok (c.fact 17),
    ⟨He.glo_ok X G (c.fact 12), He.mkr_ok (c.fact 18), b_State_init⟩,
    He.glo_ok X G (c.fact 19),
    He.cls_ok (c.fact 20),
    He.noat_ok (c.fact 21),
    He.noat_ok (c.fact 22),
    He.noat_ok (c.fact 23),
    He.noat_ok (c.fact 24),
    He.noat_ok (c.fact 25),
    He.noat_ok (c.fact 26),
    He.noat_ok (c.fact 27),
    He.noat_ok (c.fact 28),
    ⟨He.glo_ok X G (c.fact 19), He.mkr_ok (c.fact 29), b_Doing_init⟩,
    He.glo_ok X G (c.fact 30),
    He.cls_ok (c.fact 31),
    He.noat_ok (c.fact 32),
    He.noat_ok (c.fact 33),
    He.noat_ok (c.fact 34),
    ⟨He.glo_ok X G (c.fact 30), He.mkr_ok (c.fact 35), b_Book_init⟩,
    He.glo_ok X G (c.fact 36),
    He.cls_ok (c.fact 37),
    He.noat_ok (c.fact 38),
    He.noat_ok (c.fact 39),
    He.noat_ok (c.fact 40),
    He.noat_ok (c.fact 41),
    He.noat_ok (c.fact 42),
    ⟨He.glo_ok X G (c.fact 36), He.mkr_ok (c.fact 43), b_Rider_init⟩,
    He.glo_ok X G (c.fact 44),
    He.cls_ok (c.fact 45),
    He.noat_ok (c.fact 46),
    He.noat_ok (c.fact 47),
    ⟨He.glo_ok X G (c.fact 44), He.mkr_ok (c.fact 48), b_Calendar_init⟩,
    He.glo_ok X G (c.fact 49),
    He.cls_ok (c.fact 50),
    He.noat_ok (c.fact 51),
    He.noat_ok (c.fact 52),
    He.noat_ok (c.fact 53),
    He.noat_ok (c.fact 54),
    He.noat_ok (c.fact 55),
    He.noat_ok (c.fact 56),
    ⟨He.glo_ok X G (c.fact 49), He.mkr_ok (c.fact 57), b_Wheel_init⟩,
    ⟨He.glo_ok X G (c.fact 5), (He.exc_ok (c.fact 58)).1, (He.exc_ok (c.fact 58)).2.1, (He.exc_ok (c.fact 58)).2.2.1, (He.exc_ok (c.fact 58)).2.2.2⟩,
    ⟨He.glo_ok X G (c.fact 4), (He.exc_ok (c.fact 59)).1, (He.exc_ok (c.fact 59)).2.1, (He.exc_ok (c.fact 59)).2.2.1, (He.exc_ok (c.fact 59)).2.2.2⟩,
    ⟨He.glo_ok X G (c.fact 3), (He.exc_ok (c.fact 60)).1, (He.exc_ok (c.fact 60)).2.1, (He.exc_ok (c.fact 60)).2.2.1, (He.exc_ok (c.fact 60)).2.2.2⟩,
    ⟨He.glo_ok X G (c.fact 7), (He.exc_ok (c.fact 61)).1, (He.exc_ok (c.fact 61)).2.1, (He.exc_ok (c.fact 61)).2.2.1, (He.exc_ok (c.fact 61)).2.2.2⟩,
    ⟨He.glo_ok X G (c.fact 2), (He.exc_ok (c.fact 62)).1, (He.exc_ok (c.fact 62)).2.1, (He.exc_ok (c.fact 62)).2.2.1, (He.exc_ok (c.fact 62)).2.2.2⟩,
    ⟨He.glo_ok X G (c.fact 6), (He.exc_ok (c.fact 63)).1, (He.exc_ok (c.fact 63)).2.1, (He.exc_ok (c.fact 63)).2.2.1, (He.exc_ok (c.fact 63)).2.2.2⟩,
    He.exm_ok (c.fact 64),
    He.exm_ok (c.fact 65),
    He.exm_ok (c.fact 66),
    He.exm_ok (c.fact 67),
    He.exm_ok (c.fact 68),
    He.exm_ok (c.fact 69),
    excC_of (c.ex 0 rfl),
    excC_of (c.ex 1 rfl),
    excC_of (c.ex 2 rfl),
    excC_of (c.ex 3 rfl),
    excC_of (c.ex 4 rfl),
    excC_of (c.ex 5 rfl),
    excC_of (c.ex 6 rfl),
    excC_of (c.ex 7 rfl),
    He.free_ok X G (c.fact 70),
    He.free_ok X G (c.fact 71),
    He.free_ok X G (c.fact 72),
    He.free_ok X G (c.fact 73),
    He.free_ok X G (c.fact 74),
    He.free_ok X G (c.fact 75),
    He.free_ok X G (c.fact 76),
    He.int_ok X G (c.fact 77),
    He.int_ok X G (c.fact 78),
    He.int_ok X G (c.fact 79),
    He.int_ok X G (c.fact 80),
    F_Fault_word,
    F_Nought_word,
    F_Great_word,
    F_Full_word,
    F_Dry_word,
    F_Span_word,
    F_Late_word,
    F_kept_in,
    ⟨He.glo_ok X G (c.fact 81), F_kept_in.kp, b_kept_in⟩,
    F_of_two,
    ⟨He.glo_ok X G (c.fact 82), F_of_two.kp, b_of_two⟩,
    F_worth_of,
    ⟨He.glo_ok X G (c.fact 83), F_worth_of.kp, b_worth_of⟩,
    F_copied,
    ⟨He.glo_ok X G (c.fact 84), F_copied.kp, b_copied⟩,
    F_copied_machine,
    ⟨He.glo_ok X G (c.fact 85), F_copied_machine.kp, b_copied_machine⟩,
    F_Model_init,
    F_State_init,
    F_State_copy,
    F_first_state,
    ⟨He.glo_ok X G (c.fact 86), F_first_state.kp, b_first_state⟩,
    F_deeds_for,
    ⟨He.glo_ok X G (c.fact 87), F_deeds_for.kp, b_deeds_for⟩,
    F_Doing_init,
    F_Doing_reckon,
    F_Doing_put,
    F_Doing_push,
    F_Doing_pull,
    F_Doing_draw,
    F_Doing_send,
    F_Doing_do,
    F_Doing_do_all,
    F_Doing_writes,
    F_done,
    ⟨He.glo_ok X G (c.fact 88), F_done.kp, b_done⟩,
    F_Book_init,
    F_pending_at_first,
    ⟨He.glo_ok X G (c.fact 89), F_pending_at_first.kp, b_pending_at_first⟩,
    F_Rider_init,
    F_Rider_ride,
    F_Rider_outcome_now,
    F_by_calendar,
    ⟨He.glo_ok X G (c.fact 90), F_by_calendar.kp, b_by_calendar⟩,
    F_Calendar_init,
    F_Calendar_place,
    F_Calendar_put,
    F_Calendar_size,
    F_Calendar_least,
    F_Calendar_leave,
    F_Calendar_take_out,
    F_Wheel_init,
    F_Wheel_spoke_of,
    F_Wheel_put,
    F_Wheel_size,
    F_Wheel_least,
    F_Wheel_leave,
    F_Wheel_take_out,
    F__law_mixed,
    ⟨He.glo_ok X G (c.fact 91), F__law_mixed.kp, b__law_mixed⟩,
    F__law_purse,
    ⟨He.glo_ok X G (c.fact 92), F__law_purse.kp, b__law_purse⟩,
    F__law_draw,
    ⟨He.glo_ok X G (c.fact 93), F__law_draw.kp, b__law_draw⟩,
    F__law_machine,
    ⟨He.glo_ok X G (c.fact 94), F__law_machine.kp, b__law_machine⟩,
    F__law_due,
    ⟨He.glo_ok X G (c.fact 95), F__law_due.kp, b__law_due⟩,
    F_law,
    ⟨He.glo_ok X G (c.fact 96), F_law.kp, b_law⟩,
    ⟨He.meth_ok (c.fact 97), W_Fault_word, b_Fault_word⟩,
    ⟨He.meth_ok (c.fact 98), W_Nought_word, b_Nought_word⟩,
    ⟨He.meth_ok (c.fact 99), W_Great_word, b_Great_word⟩,
    ⟨He.meth_ok (c.fact 100), W_Full_word, b_Full_word⟩,
    ⟨He.meth_ok (c.fact 101), W_Dry_word, b_Dry_word⟩,
    ⟨He.meth_ok (c.fact 102), W_Span_word, b_Span_word⟩,
    ⟨He.meth_ok (c.fact 103), W_Late_word, b_Late_word⟩,
    ⟨He.meth_ok (c.fact 104), b_State_copy⟩,
    ⟨He.meth_ok (c.fact 105), b_Doing_reckon⟩,
    ⟨He.meth_ok (c.fact 106), b_Doing_put⟩,
    ⟨He.meth_ok (c.fact 107), b_Doing_push⟩,
    ⟨He.meth_ok (c.fact 108), b_Doing_pull⟩,
    ⟨He.meth_ok (c.fact 109), b_Doing_draw⟩,
    ⟨He.meth_ok (c.fact 110), b_Doing_send⟩,
    ⟨He.meth_ok (c.fact 111), b_Doing_do⟩,
    ⟨He.meth_ok (c.fact 112), b_Doing_do_all⟩,
    ⟨He.meth_ok (c.fact 113), b_Doing_writes⟩,
    ⟨He.meth_ok (c.fact 114), b_Rider_ride⟩,
    ⟨He.meth_ok (c.fact 115), b_Rider_outcome_now⟩,
    ⟨He.meth_ok (c.fact 116), b_Calendar_place⟩,
    ⟨He.meth_ok (c.fact 117), b_Calendar_put⟩,
    ⟨He.meth_ok (c.fact 118), b_Calendar_size⟩,
    ⟨He.meth_ok (c.fact 119), b_Calendar_least⟩,
    ⟨He.meth_ok (c.fact 120), b_Calendar_leave⟩,
    ⟨He.meth_ok (c.fact 121), b_Calendar_take_out⟩,
    ⟨He.meth_ok (c.fact 122), b_Wheel_place⟩,
    ⟨He.meth_ok (c.fact 123), b_Wheel_put⟩,
    ⟨He.meth_ok (c.fact 124), b_Wheel_size⟩,
    ⟨He.meth_ok (c.fact 125), b_Wheel_least⟩,
    ⟨He.meth_ok (c.fact 126), b_Wheel_leave⟩,
    ⟨He.meth_ok (c.fact 127), b_Wheel_take_out⟩,
    ⟨He.meth_ok (c.fact 128), b_Wheel_spoke_of⟩⟩
end Mo
namespace Mo
open PySem PySem.Spec PyProof.Rows L2
/-! ### formulas, faults, states: plain Lean -/
inductive Op where
  | plus | less | times | part | rest | below | same
  deriving DecidableEq
def Op.name : Op → Str
  | .plus => "plus" | .less => "less" | .times => "times" | .part => "part" | .rest => "rest" | .below => "below" | .same => "same"
inductive Fm where
  | num (n : Int) | box (x : Str) | long (q : Str) | got (j : Nat) | now | two (o : Op) (f g : Fm)
  deriving DecidableEq
def Fm.data : Fm → PyData
  | .num n => .tuple [.str "number", .int n]
  | .box x => .tuple [.str "box", .str x]
  | .long q => .tuple [.str "long", .str q]
  | .got j => .tuple [.str "got", .int (j : Int)]
  | .now => .tuple [.str "now"]
  | .two o f g => .tuple [.str o.name, f.data, g.data]
inductive Flt where
  | nought | great | full | dry | span | late
  deriving DecidableEq
def Flt.cls : Flt → Str
  | .nought => "Nought" | .great => "Great" | .full => "Full" | .dry => "Dry" | .span => "Span" | .late => "Late"
def Flt.word : Flt → Str
  | .nought => "nought" | .great => "great" | .full => "full" | .dry => "dry" | .span => "span" | .late => "late"
def Worth (n : Int) : Prop := -1000000000000000 ≤ n ∧ n ≤ 1000000000000000
theorem worth_bd {n : Int} (h : Worth n) : Bd 50 n := by
  obtain ⟨h1, h2⟩ := h
  show n.natAbs < 1125899906842624
  omega
def Op.raw (o : Op) (a b : Int) : Except Flt Int := match o with
  | .plus => .ok (a + b)
  | .less => .ok (a - b)
  | .times => .ok (a * b)
  | .below => .ok (if a < b then 1 else 0)
  | .same => .ok (if a = b then 1 else 0)
  | .part => if b = 0 then .error .nought else .ok (a.fdiv b)
  | .rest => if b = 0 then .error .nought else .ok (a.fmod b)
def keptIn (n : Int) : Except Flt Int := if n < -1000000000000000 ∨ 1000000000000000 < n then .error .great else .ok n
def Op.ev (o : Op) (a b : Int) : Except Flt Int := match o.raw a b with
  | .ok n => keptIn n
  | .error e => .error e
/-- what a formula is reckoned by -/
structure Env where
  boxes : Str → Int
  longs : Str → Nat
  now : Int
  got : Nat → Int
def Fm.ev (e : Env) : Fm → Except Flt Int
  | .num n => .ok n
  | .box x => .ok (e.boxes x)
  | .long q => .ok (e.longs q : Int)
  | .got j => .ok (e.got j)
  | .now => .ok e.now
  | .two o f g => match f.ev e with
    | .error x => .error x
    | .ok a => match g.ev e with
      | .error x => .error x
      | .ok b => o.ev a b
def Fm.depth : Fm → Nat
  | .two _ f g => max f.depth g.depth + 1
  | _ => 0
def Fm.size : Fm → Nat
  | .two _ f g => f.size + g.size + 1
  | _ => 1
theorem Fm.depth_lt_size : ∀ f : Fm, f.depth < f.size
  | .num _ => Nat.zero_lt_one
  | .box _ => Nat.zero_lt_one
  | .long _ => Nat.zero_lt_one
  | .got _ => Nat.zero_lt_one
  | .now => Nat.zero_lt_one
  | .two _ f g => by
    have h1 := depth_lt_size f
    have h2 := depth_lt_size g
    show max f.depth g.depth + 1 < f.size + g.size + 1
    omega
/-- a formula by names that are there, with worths -/
def Fm.Ok (bs qs : List Str) : Fm → Prop
  | .num n => Worth n
  | .box x => x ∈ bs
  | .long q => q ∈ qs
  | .got j => j < 2
  | .now => True
  | .two _ f g => f.Ok bs qs ∧ g.Ok bs qs
structure Env.Ok (e : Env) (bs qs : List Str) : Prop where
  boxes : ∀ x ∈ bs, Worth (e.boxes x)
  longs : ∀ q ∈ qs, e.longs q ≤ 100000
  now : Worth e.now
  got : ∀ j, j < 2 → Worth (e.got j)
theorem keptIn_ok {n m : Int} (h : keptIn n = .ok m) : Worth m := by
  unfold keptIn at h
  split at h
  · cases h
  · cases h
    unfold Worth
    omega
theorem Fm.ev_worth {e : Env} {bs qs : List Str} (he : e.Ok bs qs) : ∀ {f : Fm} {n : Int}, f.Ok bs qs → f.ev e = .ok n → Worth n
  | .num m, n, h, q => by cases q; exact h
  | .box x, n, h, q => by cases q; exact he.boxes x h
  | .long x, n, h, q => by
    cases q
    have := he.longs x h
    show -(1000000000000000 : Int) ≤ (e.longs x : Int) ∧ (e.longs x : Int) ≤ 1000000000000000
    omega
  | .got j, n, h, q => by cases q; exact he.got j h
  | .now, n, h, q => by cases q; exact he.now
  | .two o f g, n, h, q => by
    unfold Fm.ev at q
    cases h1 : f.ev e with
    | error x => rw [h1] at q; cases q
    | ok a =>
      rw [h1] at q
      cases h2 : g.ev e with
      | error x => rw [h2] at q; cases q
      | ok b =>
        rw [h2] at q
        have q' : o.ev a b = .ok n := q
        unfold Op.ev at q'
        cases h3 : o.raw a b with
        | error x => rw [h3] at q'; cases q'
        | ok c =>
          rw [h3] at q'
          exact keptIn_ok q'
/-- a machine's state -/
structure MSt where
  boxes : List (Str × Int)
  queues : List (Str × List Int)
  drawn : Int
  sent : Int
def boxesV (bs : List (Str × Int)) : List (Key × V) := bs.map fun p => (Sum.inr p.1, V.int p.2)
/-- the pairs of the dict of queues: the lists' addresses -/
def queuesV (qs : List (Str × List Int)) (as : List Addr) : List (Key × V) := (qs.zip as).map fun p => (Sum.inr p.1.1, V.ref p.2)
def lookD {α : Type} (d : α) (x : Str) : List (Str × α) → α
  | [] => d
  | p :: r => if p.1 = x then p.2 else lookD d x r
theorem val_boxes : ∀ {bs : List (Str × Int)} {x : Str}, x ∈ bs.map (·.1) → valV (boxesV bs) (Sum.inr x) = some (.int (lookD 0 x bs))
  | [], x, h => by simp at h
  | p :: r, x, h => by
    show valV ((Sum.inr p.1, V.int p.2) :: boxesV r) (Sum.inr x) = some (.int (if p.1 = x then p.2 else lookD 0 x r))
    by_cases e : p.1 = x
    · rw [if_pos e]
      exact valV_pos (by show (Sum.inr p.1 : Key) = Sum.inr x; rw [e])
    · rw [if_neg e, valV_neg (by show ¬ (Sum.inr p.1 : Key) = Sum.inr x; exact fun z => e (Sum.inr.inj z))]
      rw [List.map_cons] at h
      exact val_boxes ((List.mem_cons.mp h).resolve_left fun z => e z.symm)
theorem val_queues : ∀ {qs : List (Str × List Int)} {as : List Addr} {x : Str}, qs.length = as.length → x ∈ qs.map (·.1) → ∃ (i : Nat) (a : Addr), qs[i]? = some (x, lookD [] x qs) ∧ as[i]? = some a ∧ valV (queuesV qs as) (Sum.inr x) = some (.ref a)
  | [], _, x, _, h => by simp at h
  | p :: r, [], _, hl, _ => by simp at hl
  | p :: r, a :: as, x, hl, h => by
    have ev : queuesV (p :: r) (a :: as) = (Sum.inr p.1, V.ref a) :: queuesV r as := rfl
    by_cases e : p.1 = x
    · refine ⟨0, a, ?_, rfl, ?_⟩
      · show some p = some (x, if p.1 = x then p.2 else lookD [] x r)
        rw [if_pos e, ← e]
      · rw [ev]
        exact valV_pos (by show (Sum.inr p.1 : Key) = Sum.inr x; rw [e])
    · rw [List.map_cons] at h
      obtain ⟨i, b, h1, h2, h3⟩ := val_queues (qs := r) (as := as) (x := x) (by simpa using hl) ((List.mem_cons.mp h).resolve_left fun z => e z.symm)
      refine ⟨i + 1, b, ?_, h2, ?_⟩
      · show r[i]? = some (x, if p.1 = x then p.2 else lookD [] x r)
        rw [if_neg e]
        exact h1
      · rw [ev, valV_neg (by show ¬ (Sum.inr p.1 : Key) = Sum.inr x; exact fun z => e (Sum.inr.inj z))]
        exact h3
/-- objects that stand in a heap -/
abbrev Ck : Type := List (Addr × HO)
def InH (H : Hp) (C : Ck) : Prop := ∀ e ∈ C, H e.1 = some e.2
def vo (C : Ck) : Vo := C.map fun e => (e.1, Eq e.2)
theorem InH.ext {H H' : Hp} {C : Ck} (h : InH H C) (e : Ext H H') : InH H' C := fun x m => e _ _ (h x m)
theorem Hd.inH {G H : Hp} {L : Vo} {C : Ck} (h : Hd G H L) (s : ∀ e ∈ vo C, e ∈ L) : InH H C := fun e m => h.eq (s (e.1, Eq e.2) (List.mem_map_of_mem m))
/-- the envelope of a state, a time, two worths that came -/
def MSt.env (s : MSt) (now : Int) (g0 g1 : Int) : Env := ⟨fun x => lookD 0 x s.boxes, fun x => (lookD [] x s.queues).length, now, fun j => if j = 0 then g0 else g1⟩
def MSt.bs (s : MSt) : List Str := s.boxes.map (·.1)
def MSt.qs (s : MSt) : List Str := s.queues.map (·.1)
end Mo
namespace Mo
open PySem PySem.Spec PyProof.Rows L2
/-! ### deeds, machines: plain Lean -/
inductive Dd where
  | put (b : Str) (f : Fm) | push (q : Str) (f : Fm) | pull (q b : Str) (ds : List Dd) | draw (b : Str) (f : Fm)
  | send (to : Int) (sign : Str) (span : Fm) (rank : Int) (g h : Fm) | iff (f : Fm) (ones others : List Dd) | fin
mutual
def Dd.data : Dd → PyData
  | .put b f => .tuple [.str "put", .str b, f.data]
  | .push q f => .tuple [.str "push", .str q, f.data]
  | .pull q b ds => .tuple [.str "pull", .str q, .str b, .list (Dd.datas ds)]
  | .draw b f => .tuple [.str "draw", .str b, f.data]
  | .send to sign span rank g h => .tuple [.str "send", .int to, .str sign, span.data, .int rank, g.data, h.data]
  | .iff f ones others => .tuple [.str "if", f.data, .list (Dd.datas ones), .list (Dd.datas others)]
  | .fin => .tuple [.str "end"]
def Dd.datas : List Dd → List PyData
  | [] => []
  | d :: ds => d.data :: Dd.datas ds
end
mutual
def Dd.depth : Dd → Nat
  | .pull _ _ ds => Dd.depths ds + 1
  | .iff _ ones others => max (Dd.depths ones) (Dd.depths others) + 1
  | _ => 0
def Dd.depths : List Dd → Nat
  | [] => 0
  | d :: ds => max (d.depth + 1) (Dd.depths ds)
end
mutual
/-- no list of more than a thousand deeds -/
def Dd.Sm : Dd → Prop
  | .pull _ _ ds => ds.length ≤ 1000 ∧ Dd.Sms ds
  | .iff _ a b => (a.length ≤ 1000 ∧ Dd.Sms a) ∧ (b.length ≤ 1000 ∧ Dd.Sms b)
  | _ => True
def Dd.Sms : List Dd → Prop
  | [] => True
  | d :: ds => d.Sm ∧ Dd.Sms ds
end
theorem sms_get : ∀ {ds : List Dd} {i : Nat} {d : Dd}, Dd.Sms ds → ds[i]? = some d → d.Sm
  | [], _, _, _, h => by simp at h
  | e :: ds, 0, d, k, h => by
    simp only [List.getElem?_cons_zero, Option.some.injEq] at h
    subst h
    rw [Dd.Sms] at k
    exact k.1
  | e :: ds, i + 1, d, k, h => by
    rw [List.getElem?_cons_succ] at h
    rw [Dd.Sms] at k
    exact sms_get k.2 h
theorem datas_map : ∀ ds : List Dd, Dd.datas ds = ds.map Dd.data
  | [] => by rw [Dd.datas, List.map_nil]
  | d :: ds => by rw [Dd.datas, datas_map ds, List.map_cons]
theorem datas_app (ds es : List Dd) : Dd.datas (ds ++ es) = Dd.datas ds ++ Dd.datas es := by rw [datas_map, datas_map, datas_map, List.map_append]
theorem datas_take {ds : List Dd} {i : Nat} {d : Dd} (h : ds[i]? = some d) : Dd.datas (ds.take (i + 1)) = Dd.datas (ds.take i) ++ [d.data] := by
  rw [datas_map, datas_map, List.take_add_one, h, List.map_append]
  rfl
theorem depths_get : ∀ {ds : List Dd} {i : Nat} {d : Dd}, ds[i]? = some d → d.depth < Dd.depths ds
  | [], _, _, h => by simp at h
  | e :: ds, 0, d, h => by
    simp only [List.getElem?_cons_zero, Option.some.injEq] at h
    subst h
    rw [Dd.depths]
    omega
  | e :: ds, i + 1, d, h => by
    rw [List.getElem?_cons_succ] at h
    have := depths_get h
    rw [Dd.depths]
    omega
structure Mach where
  name : Str
  boxes : List (Str × Int)
  queues : List Str
  draws : List Int
  hears : List (Str × List Dd)
def boxD (p : Str × Int) : PyData := .tuple [.str p.1, .int p.2]
def hearD (p : Str × List Dd) : PyData := .tuple [.str p.1, .list (Dd.datas p.2)]
def Mach.data (m : Mach) : PyData := .tuple [.str m.name, .list (m.boxes.map boxD), .list (m.queues.map PyData.str), .list (m.draws.map PyData.int), .list (m.hears.map hearD)]
def Mach.depth (m : Mach) : Nat := m.hears.foldr (fun p n => max (Dd.depths p.2) n) 0
theorem Mach.depth_get {hs : List (Str × List Dd)} {i : Nat} {p : Str × List Dd} (h : hs[i]? = some p) : Dd.depths p.2 ≤ hs.foldr (fun p n => max (Dd.depths p.2) n) 0 := by
  induction hs generalizing i with
  | nil => simp at h
  | cons q hs ih =>
    rw [List.foldr_cons]
    cases i with
    | zero =>
      simp only [List.getElem?_cons_zero, Option.some.injEq] at h
      subst h
      omega
    | succ i =>
      rw [List.getElem?_cons_succ] at h
      have := ih h
      omega
/-- the state in which a machine begins -/
def Mach.first (m : Mach) : MSt := ⟨m.boxes, m.queues.map fun q => (q, []), 0, 0⟩
/-! ### deeds that stand in a heap: their lists in H, what is of tuples alone in G -/
section
variable (K : PySem.W.Frag) (G H : Hp)
mutual
inductive DdIn : V → Dd → Prop
  | put {v : V} {b : Str} {f : Fm} (h : Dp K G v (Dd.data (.put b f))) : DdIn v (.put b f)
  | push {v : V} {q : Str} {f : Fm} (h : Dp K G v (Dd.data (.push q f))) : DdIn v (.push q f)
  | draw {v : V} {b : Str} {f : Fm} (h : Dp K G v (Dd.data (.draw b f))) : DdIn v (.draw b f)
  | send {v : V} {to : Int} {sign : Str} {span : Fm} {rank : Int} {g h : Fm} (q : Dp K G v (Dd.data (.send to sign span rank g h))) : DdIn v (.send to sign span rank g h)
  | fin {v : V} (h : Dp K G v (Dd.data .fin)) : DdIn v .fin
  | pull {a l : Addr} {q b : Str} {vs : List V} {ds : List Dd} (ht : SqT K H a [.str "pull", .str q, .str b, .ref l]) (hl : SqL K H l vs) (hs : DdsIn vs ds) : DdIn (.ref a) (.pull q b ds)
  | iff {a l m : Addr} {f : Fm} {v : V} {vs ws : List V} {ones others : List Dd} (ht : SqT K H a [.str "if", v, .ref l, .ref m]) (hf : Dp K G v f.data) (hl : SqL K H l vs) (hs : DdsIn vs ones) (hm : SqL K H m ws) (hr : DdsIn ws others) : DdIn (.ref a) (.iff f ones others)
inductive DdsIn : List V → List Dd → Prop
  | nil : DdsIn [] []
  | cons {v : V} {vs : List V} {d : Dd} {ds : List Dd} (h : DdIn v d) (r : DdsIn vs ds) : DdsIn (v :: vs) (d :: ds)
end
end
section
variable {K : PySem.W.Frag} {G G' H H' : Hp}
mutual
theorem ddIn_mono (e : Ext G G') (e' : Ext H H') : ∀ {v : V} {d : Dd}, DdIn K G H v d → DdIn K G' H' v d
  | _, _, .put h => .put (dp_mono e h)
  | _, _, .push h => .push (dp_mono e h)
  | _, _, .draw h => .draw (dp_mono e h)
  | _, _, .send h => .send (dp_mono e h)
  | _, _, .fin h => .fin (dp_mono e h)
  | _, _, .pull h1 h2 h3 => .pull (ext_t e' h1) (ext_l e' h2) (ddsIn_mono e e' h3)
  | _, _, .iff h1 h2 h3 h4 h5 h6 => .iff (ext_t e' h1) (dp_mono e h2) (ext_l e' h3) (ddsIn_mono e e' h4) (ext_l e' h5) (ddsIn_mono e e' h6)
theorem ddsIn_mono (e : Ext G G') (e' : Ext H H') : ∀ {vs : List V} {ds : List Dd}, DdsIn K G H vs ds → DdsIn K G' H' vs ds
  | _, _, .nil => .nil
  | _, _, .cons h r => .cons (ddIn_mono e e' h) (ddsIn_mono e e' r)
end
theorem ddsIn_len : ∀ {vs : List V} {ds : List Dd}, DdsIn K G H vs ds → vs.length = ds.length
  | _, _, .nil => rfl
  | _, _, .cons _ r => by rw [List.length_cons, List.length_cons, ddsIn_len r]
theorem ddsIn_get : ∀ {vs : List V} {ds : List Dd} {i : Nat} {v : V}, DdsIn K G H vs ds → vs[i]? = some v → ∃ d, ds[i]? = some d ∧ DdIn K G H v d
  | _, _, _, _, .nil, e => by simp at e
  | _, _, 0, _, .cons h _, e => by
    simp only [List.getElem?_cons_zero, Option.some.injEq] at e
    subst e
    exact ⟨_, rfl, h⟩
  | _, _, i + 1, _, .cons _ r, e => by
    rw [List.getElem?_cons_succ] at e
    obtain ⟨d, h1, h2⟩ := ddsIn_get r e
    exact ⟨d, by rw [List.getElem?_cons_succ]; exact h1, h2⟩
mutual
/-- what stays is also in the heap -/
theorem ddIn_of (e : Ext G H) : ∀ (d : Dd) {v : V}, Dp K G v d.data → DdIn K G H v d
  | .put b f, _, h => .put h
  | .push q f, _, h => .push h
  | .draw b f, _, h => .draw h
  | .send to sign span rank g k, _, h => .send h
  | .fin, _, h => .fin h
  | .pull q b ds, v, h => by
    rw [Dd.data] at h
    obtain ⟨a, xs, rfl, h1, h2⟩ := dp_tup h
    cases h2 with
    | cons e1 h2 => cases h2 with
      | cons e2 h2 => cases h2 with
        | cons e3 h2 => cases h2 with
          | cons e4 h2 =>
            cases h2
            obtain rfl := dp_str e1
            obtain rfl := dp_str e2
            obtain rfl := dp_str e3
            obtain ⟨l, ys, rfl, h3, h4⟩ := dp_lst e4
            exact .pull (ext_t e h1) (ext_l e h3) (ddsIn_of e ds h4)
  | .iff f ones others, v, h => by
    rw [Dd.data] at h
    obtain ⟨a, xs, rfl, h1, h2⟩ := dp_tup h
    cases h2 with
    | cons e1 h2 => cases h2 with
      | cons e2 h2 => cases h2 with
        | cons e3 h2 => cases h2 with
          | cons e4 h2 =>
            cases h2
            obtain rfl := dp_str e1
            obtain ⟨l, ys, rfl, h3, h4⟩ := dp_lst e3
            obtain ⟨m, zs, rfl, h5, h6⟩ := dp_lst e4
            exact .iff (ext_t e h1) e2 (ext_l e h3) (ddsIn_of e ones h4) (ext_l e h5) (ddsIn_of e others h6)
theorem ddsIn_of (e : Ext G H) : ∀ (ds : List Dd) {vs : List V}, DpAll K G vs (Dd.datas ds) → DdsIn K G H vs ds
  | [], _, h => by
    rw [Dd.datas] at h
    cases h
    exact .nil
  | d :: ds, _, h => by
    rw [Dd.datas] at h
    cases h with
    | cons h1 h2 => exact .cons (ddIn_of e d h1) (ddsIn_of e ds h2)
end
def Dd.tag : Dd → Str
  | .put _ _ => "put" | .push _ _ => "push" | .pull _ _ _ => "pull" | .draw _ _ => "draw" | .send _ _ _ _ _ _ => "send" | .iff _ _ _ => "if" | .fin => "end"
theorem ddIn_head (e : Ext G H) : ∀ {d : Dd} {x : V}, DdIn K G H x d → ∃ t xs, x = .ref t ∧ SqT K H t (.str d.tag :: xs) := by
  have one : ∀ {x : V} {s : Str} {ds : List PyData}, Dp K G x (.tuple (.str s :: ds)) → ∃ t xs, x = .ref t ∧ SqT K H t (.str s :: xs) := fun {x s ds} h => by
    obtain ⟨t, xs, rfl, h1, h2⟩ := dp_tup h
    cases h2 with
    | cons e1 h2 =>
      obtain rfl := dp_str e1
      exact ⟨t, _, rfl, ext_t e h1⟩
  intro d x h
  cases h with
  | put h => rw [Dd.data] at h; exact one h
  | push h => rw [Dd.data] at h; exact one h
  | draw h => rw [Dd.data] at h; exact one h
  | send h => rw [Dd.data] at h; exact one h
  | fin h => rw [Dd.data] at h; exact one h
  | pull h1 h2 h3 => exact ⟨_, _, rfl, h1⟩
  | iff h1 h2 h3 h4 h5 h6 => exact ⟨_, _, rfl, h1⟩
theorem ddIn_plain {d : Dd} {x : V} (h : DdIn K G H x d) (h1 : ¬ d.tag = "if") (h2 : ¬ d.tag = "pull") : Dp K G x d.data := by
  cases h with
  | put h => exact h
  | push h => exact h
  | draw h => exact h
  | send h => exact h
  | fin h => exact h
  | pull _ _ _ => exact absurd rfl h2
  | iff _ _ _ _ _ _ => exact absurd rfl h1
theorem ddIn_if {d : Dd} {x : V} (h : DdIn K G H x d) (ht : d.tag = "if") : ∃ f ones others a l m v vs ws, d = .iff f ones others ∧ x = .ref a ∧ SqT K H a [.str "if", v, .ref l, .ref m] ∧ Dp K G v f.data ∧ SqL K H l vs ∧ DdsIn K G H vs ones ∧ SqL K H m ws ∧ DdsIn K G H ws others := by
  cases h with
  | iff h1 h2 h3 h4 h5 h6 => exact ⟨_, _, _, _, _, _, _, _, _, rfl, rfl, h1, h2, h3, h4, h5, h6⟩
  | _ => dsimp only [Dd.tag] at ht; exact absurd ht (by decide +kernel)
theorem ddIn_pull {d : Dd} {x : V} (h : DdIn K G H x d) (ht : d.tag = "pull") : ∃ q b ds a l vs, d = .pull q b ds ∧ x = .ref a ∧ SqT K H a [.str "pull", .str q, .str b, .ref l] ∧ SqL K H l vs ∧ DdsIn K G H vs ds := by
  cases h with
  | pull h1 h2 h3 => exact ⟨_, _, _, _, _, _, rfl, rfl, h1, h2, h3⟩
  | _ => dsimp only [Dd.tag] at ht; exact absurd ht (by decide +kernel)
end
/-- a machine that stands in a heap: its lists in H -/
def MachIn (K : PySem.W.Frag) (G H : Hp) (x : V) (m : Mach) : Prop := ∃ (a lb lq ld lh : Addr), x = .ref a ∧ SqT K H a [.str m.name, .ref lb, .ref lq, .ref ld, .ref lh] ∧
  (∃ vs, SqL K H lb vs ∧ DpAll K G vs (m.boxes.map boxD)) ∧ SqL K H lq (m.queues.map V.str) ∧ SqL K H ld (m.draws.map V.int) ∧
  ∃ vs : List V, SqL K H lh vs ∧ vs.length = m.hears.length ∧ ∀ (i : Nat) (v : V), vs[i]? = some v → ∃ (t l : Addr) (ws : List V) (p : Str × List Dd), v = .ref t ∧ SqT K H t [.str p.1, .ref l] ∧ SqL K H l ws ∧ DdsIn K G H ws p.2 ∧ m.hears[i]? = some p
/-- its names are unlike -/
structure Mach.Nd (m : Mach) : Prop where
  boxes : (m.boxes.map (·.1)).Nodup
  queues : m.queues.Nodup
/-- its lists are not long -/
structure Mach.Sm (m : Mach) : Prop where
  boxes : m.boxes.length ≤ 1000
  queues : m.queues.length ≤ 1000
  draws : m.draws.length ≤ 1000
  hears : m.hears.length ≤ 1000
  deeds : ∀ p ∈ m.hears, p.2.length ≤ 1000 ∧ Dd.Sms p.2
theorem dpa_strs {K : PySem.W.Frag} {H : Hp} : ∀ ns : List Str, DpAll K H (ns.map V.str) (ns.map PyData.str)
  | [] => .nil
  | n :: ns => .cons (.str n) (dpa_strs ns)
theorem dpa_strs' {K : PySem.W.Frag} {H : Hp} : ∀ {vs : List V} {ns : List Str}, DpAll K H vs (ns.map PyData.str) → vs = ns.map V.str
  | _, [], .nil => rfl
  | _, n :: ns, .cons h r => by rw [dp_str h, dpa_strs' r]; rfl
theorem dpa_ints' {K : PySem.W.Frag} {H : Hp} : ∀ {vs : List V} {ns : List Int}, DpAll K H vs (ns.map PyData.int) → vs = ns.map V.int
  | _, [], .nil => rfl
  | _, n :: ns, .cons h r => by rw [dp_int h, dpa_ints' r]; rfl
theorem machIn_of {K : PySem.W.Frag} {G H : Hp} (e : Ext G H) {x : V} {m : Mach} (h : Dp K G x m.data) : MachIn K G H x m := by
  unfold Mach.data at h
  obtain ⟨a, xs, rfl, h1, h2⟩ := dp_tup h
  cases h2 with
  | cons e1 h2 => cases h2 with
    | cons e2 h2 => cases h2 with
      | cons e3 h2 => cases h2 with
        | cons e4 h2 => cases h2 with
          | cons e5 h2 =>
            cases h2
            obtain rfl := dp_str e1
            obtain ⟨lb, vb, rfl, b1, b2⟩ := dp_lst e2
            obtain ⟨lq, vq, rfl, q1, q2⟩ := dp_lst e3
            obtain ⟨ld, vd, rfl, d1, d2⟩ := dp_lst e4
            obtain ⟨lh, vh, rfl, g1, g2⟩ := dp_lst e5
            obtain rfl := dpa_strs' q2
            obtain rfl := dpa_ints' d2
            refine ⟨a, lb, lq, ld, lh, rfl, ext_t e h1, ⟨vb, ext_l e b1, b2⟩, ext_l e q1, ext_l e d1, vh, ext_l e g1, by rw [dpa_len g2, List.length_map], fun i v hv => ?_⟩
            obtain ⟨d, hd, hp⟩ := dpa_get' g2 hv
            rw [List.getElem?_map] at hd
            cases hq : m.hears[i]? with
            | none => rw [hq] at hd; cases hd
            | some p =>
              rw [hq] at hd
              obtain rfl := Option.some.inj hd
              unfold hearD at hp
              obtain ⟨t, ys, rfl, t1, t2⟩ := dp_tup hp
              cases t2 with
              | cons f1 t2 => cases t2 with
                | cons f2 t2 =>
                  cases t2
                  obtain rfl := dp_str f1
                  obtain ⟨l, ws, rfl, l1, l2⟩ := dp_lst f2
                  exact ⟨t, l, ws, p, rfl, ext_t e t1, ext_l e l1, ddsIn_of e _ l2, rfl⟩
theorem machIn_mono {K : PySem.W.Frag} {G G' H H' : Hp} (e : Ext G G') (e' : Ext H H') {x : V} {m : Mach} (h : MachIn K G H x m) : MachIn K G' H' x m := by
  obtain ⟨a, lb, lq, ld, lh, rfl, ht, ⟨vb, b1, b2⟩, hq, hd, vs, h1, h2, h3⟩ := h
  refine ⟨a, lb, lq, ld, lh, rfl, ext_t e' ht, ⟨vb, ext_l e' b1, dpa_mono e b2⟩, ext_l e' hq, ext_l e' hd, vs, ext_l e' h1, h2, fun i v hv => ?_⟩
  obtain ⟨t, l, ws, p, e1, t1, l1, d1, hp⟩ := h3 i v hv
  exact ⟨t, l, ws, p, e1, ext_t e' t1, ext_l e' l1, ddsIn_mono e e' d1, hp⟩
/-! ### dicts by names -/
theorem val_none : ∀ {kvs : List (Key × V)} {k : Key}, k ∉ kvs.map (·.1) → valV kvs k = none
  | [], _, _ => rfl
  | p :: r, k, h => by
    rw [List.map_cons, List.mem_cons, not_or] at h
    rw [valV_neg (fun e => h.1 e.symm)]
    exact val_none h.2
theorem boxesV_keys (bs : List (Str × Int)) : (boxesV bs).map (·.1) = bs.map fun p => Sum.inr p.1 := by
  unfold boxesV
  rw [List.map_map]
  rfl
theorem boxesV_put {bs : List (Str × Int)} {x : Str} {n : Int} (h : x ∉ bs.map (·.1)) : putK (boxesV bs) (Sum.inr x) (.int n) = boxesV (bs ++ [(x, n)]) := by
  rw [putK_new]
  · unfold boxesV
    rw [List.map_append]
    rfl
  · refine val_none fun m => h ?_
    rw [boxesV_keys] at m
    obtain ⟨p, hp, e⟩ := List.mem_map.mp m
    rw [← Sum.inr.inj e]
    exact List.mem_map_of_mem hp
theorem queuesV_put {qs : List (Str × List Int)} {as : List Addr} {x : Str} {a : Addr} {ns : List Int} (hl : qs.length = as.length) (h : x ∉ qs.map (·.1)) : putK (queuesV qs as) (Sum.inr x) (.ref a) = queuesV (qs ++ [(x, ns)]) (as ++ [a]) := by
  rw [putK_new]
  · unfold queuesV
    rw [List.zip_append hl, List.map_append]
    rfl
  · refine val_none fun m => h ?_
    obtain ⟨p, hp, e⟩ := List.mem_map.mp m
    unfold queuesV at hp
    obtain ⟨q, hq, rfl⟩ := List.mem_map.mp hp
    rw [← Sum.inr.inj e]
    exact List.mem_map_of_mem (List.of_mem_zip hq).1
end Mo
namespace Mo
open PySem PySem.Spec PyProof.Rows L2
/-- a list of two numbers -/
def Purse (o : HO) : Prop := ∃ a b : Int, o = .lst [.int a, .int b]
def spMixed : Sp := fun vs H Q _ => ∃ c k : Int, vs = [.int c, .int k] ∧ Bd 1048576 c ∧ Bd 8 k ∧ ∀ r : Int, Bd 31 r → Q (.int r) H
def spPurse (K : PySem.W.Frag) : Sp := fun vs H Q _ => ∃ (a : Addr) (ns : List Int), vs = [.ref a] ∧ SqL K H a (ns.map V.int) ∧ ns.length ≤ 63 ∧ (∀ z ∈ ns, Bd 1048576 z) ∧
  ∀ p H', Hd H H' [(p, Purse)] → Q (.ref p) H'
def spDraw : Sp := fun vs H Q _ => ∃ (G : Hp) (L : Vo) (p : Addr) (n : Int), vs = [.ref p, .int n] ∧ Hd G H L ∧ (p, Purse) ∈ L ∧ 0 < n ∧ Bd 8000 n ∧
  ∀ d H', 0 ≤ d → d < n → Hd G H' L → Q (.int d) H'
theorem fmod_range {a n : Int} (h : 0 < n) : 0 ≤ a.fmod n ∧ a.fmod n < n := ⟨Int.fmod_nonneg_of_pos a h, Int.fmod_lt_of_pos a h⟩
end Mo
namespace Mo
open PySem PySem.Spec PyProof.Rows L2
/-! ### what stays, as a list of facts; what may change, as a list of segments -/
inductive Fc where
  | dat (v : V) (d : PyData)
  | dats (vs : List V) (ds : List PyData)
  | obj (a : Addr) (o : HO)
  | gen (P : Hp → Prop) (m : ∀ G G', Ext G G' → P G → P G')
def Fc.In (K : PySem.W.Frag) (G : Hp) : Fc → Prop
  | .dat v d => Dp K G v d
  | .dats vs ds => DpAll K G vs ds
  | .obj a o => G a = some o
  | .gen P _ => P G
theorem Fc.mono {K : PySem.W.Frag} {G G' : Hp} (e : Ext G G') : ∀ {f : Fc}, f.In K G → f.In K G'
  | .dat _ _, h => dp_mono e h
  | .dats _ _, h => dpa_mono e h
  | .obj _ _, h => e _ _ h
  | .gen _ m, h => m _ _ e h
def Hg (K : PySem.W.Frag) (Γ : List Fc) (S : List Vo) (H : Hp) : Prop := ∃ G, Hd G H S.flatten ∧ ∀ f ∈ Γ, f.In K G
/-- in every heap in which these facts and segments stand -/
def Wh (K : PySem.W.Frag) (Γ : List Fc) (S : List Vo) (R : Hp → Prop) : Prop := ∀ H, Hg K Γ S H → R H
def own (p : Addr) (o : HO) : Vo := [(p, Eq o)]
def pur (p : Addr) : Vo := [(p, Purse)]
def Take (x : Vo) (S R : List Vo) : Prop := S.flatten.Perm (x ++ R.flatten)
theorem Take.here {x : Vo} {R : List Vo} : Take x (x :: R) R := List.Perm.refl _
theorem Take.there {x y : Vo} {S R : List Vo} (h : Take x S R) : Take x (y :: S) (y :: R) := by
  show (y ++ S.flatten).Perm (x ++ (y ++ R.flatten))
  refine (List.Perm.append_left y h).trans ?_
  rw [← List.append_assoc, ← List.append_assoc]
  exact List.Perm.append_right _ List.perm_append_comm
def Takes' (xs S R : List Vo) : Prop := S.flatten.Perm ((xs ++ R).flatten)
theorem Takes'.nil {S : List Vo} : Takes' [] S S := List.Perm.refl _
theorem Takes'.cons {x : Vo} {xs S S' R : List Vo} (h : Take x S S') (t : Takes' xs S' R) : Takes' (x :: xs) S R := h.trans (List.Perm.append_left x t)
section
variable {K : PySem.W.Frag} {Γ Γ' : List Fc} {S S' R : List Vo} {H : Hp} {p : Addr} {o o' : HO} {φ : HO → Prop} {f : Fc} {x : Vo} {A : Hp → Prop}
theorem Hg.go (z : Hg K Γ S H) (k : Wh K Γ S A) : A H := k H z
theorem Hg.weak (z : Hg K Γ S H) (h : ∀ f ∈ Γ', f ∈ Γ) : Hg K Γ' S H := let ⟨G, a, b⟩ := z; ⟨G, a, fun f m => b f (h f m)⟩
theorem Hg.cong (z : Hg K Γ S H) (h : S'.flatten.Perm S.flatten) : Hg K Γ S' H := let ⟨G, a, b⟩ := z; ⟨G, a.perm h, b⟩
theorem Hg.tk {xs : List Vo} (z : Hg K Γ S H) (h : Takes' xs S R) : Hg K Γ (xs ++ R) H := z.cong h.symm
theorem Hg.tk1 (z : Hg K Γ S H) (h : Take x S R) : Hg K Γ (x :: R) H := z.cong h.symm
theorem Hg.pop (z : Hg K Γ (x :: S) H) : Hg K Γ S H := by
  obtain ⟨G, a, b⟩ := z
  refine ⟨G, ?_, b⟩
  have a' : Hd G H (x ++ S.flatten) := a
  clear a
  induction x with
  | nil => exact a'
  | cons y x ih => exact ih a'.drop
theorem Hg.own (z : Hg K Γ S H) (m : own p o ∈ S) : H p = some o := let ⟨_, a, _⟩ := z; a.eq (List.mem_flatten.mpr ⟨_, m, List.mem_cons_self⟩)
theorem Hg.obj (z : Hg K Γ S H) (m : .obj p o ∈ Γ) : H p = some o := let ⟨_, a, b⟩ := z; a.ex _ _ (b _ m)
theorem Hg.fact (z : Hg K Γ S H) (m : f ∈ Γ) : f.In K H := let ⟨_, a, b⟩ := z; Fc.mono a.ex (b _ m)
theorem Hg.dat {v : V} {d : PyData} (z : Hg K Γ S H) (m : .dat v d ∈ Γ) : Dp K H v d := z.fact m
theorem Wh.weak (h : ∀ f ∈ Γ', f ∈ Γ) (k : Wh K Γ' S A) : Wh K Γ S A := fun _ z => k _ (z.weak h)
theorem Wh.cong (h : S'.flatten.Perm S.flatten) (k : Wh K Γ S' A) : Wh K Γ S A := fun _ z => k _ (z.cong h)
theorem Wh.tk {xs : List Vo} (h : Takes' xs S R) (k : Wh K Γ (xs ++ R) A) : Wh K Γ S A := fun _ z => k _ (z.tk h)
theorem Wh.tk1 (h : Take x S R) (k : Wh K Γ (x :: R) A) : Wh K Γ S A := fun _ z => k _ (z.tk1 h)
theorem Wh.pop (k : Wh K Γ S A) : Wh K Γ (x :: S) A := fun _ z => k _ z.pop
theorem Wh.drop (h : Take x S R) (k : Wh K Γ R A) : Wh K Γ S A := fun _ z => k _ (z.tk1 h).pop
theorem Wh.imp {B : Hp → Prop} (k : Wh K Γ S A) (h : ∀ H, A H → B H) : Wh K Γ S B := fun H z => h H (k H z)
/-- a fact that follows -/
theorem Wh.learn (h : ∀ G, (∀ f ∈ Γ, f.In K G) → f.In K G) (k : Wh K (f :: Γ) S A) : Wh K Γ S A := fun H ⟨G, a, b⟩ => k H ⟨G, a, fun g m => by
  rcases List.mem_cons.mp m with e | m
  · rw [e]
    exact h G b
  · exact b g m⟩
theorem cons_facts {G : Hp} (h : f.In K G) (b : ∀ g ∈ Γ, g.In K G) : ∀ g ∈ f :: Γ, g.In K G := fun g m => by
  rcases List.mem_cons.mp m with e | m
  · rw [e]
    exact h
  · exact b g m
/-- the object at p -/
def AtH (K : PySem.W.Frag) (Γ : List Fc) (S : List Vo) (p : Addr) (o : HO) : Prop := ∀ H, Hg K Γ S H → H p = some o
theorem AtH.own (m : own p o ∈ S) : AtH K Γ S p o := fun _ z => z.own m
theorem AtH.obj (m : .obj p o ∈ Γ) : AtH K Γ S p o := fun _ z => z.obj m
/-- the owned object at p; it may be changed -/
def Chg (K : PySem.W.Frag) (p : Addr) (o : HO) (S : List Vo) (o' : HO) (S' : List Vo) : Prop := ∀ Γ H, Hg K Γ S H → H p = some o ∧ Hg K Γ S' (upd H p o')
theorem chg_here : Chg K p o (own p o :: S) o' (own p o' :: S) := fun Γ H ⟨G, a, b⟩ => ⟨a.eq List.mem_cons_self, G, Hd.set0 a rfl, b⟩
theorem flat_swap {x y : Vo} {S : List Vo} : (x :: y :: S).flatten.Perm (y :: x :: S).flatten := by
  show (x ++ (y ++ S.flatten)).Perm (y ++ (x ++ S.flatten))
  rw [← List.append_assoc, ← List.append_assoc]
  exact List.Perm.append_right _ List.perm_append_comm
theorem Hd.putP {G H : Hp} {A : Vo} {L : Vo} (h : Hd G H (A ++ (p, φ) :: L)) {ψ : HO → Prop} (hψ : ψ o') : Hd G (upd H p o') (A ++ (p, ψ) :: L) := h.setA hψ
theorem Hg.putAt {A B : List Vo} (z : Hg K Γ (A ++ Mo.own p o :: B) H) : Hg K Γ (A ++ Mo.own p o' :: B) (upd H p o') := by
  obtain ⟨G, a, b⟩ := z
  refine ⟨G, ?_, b⟩
  rw [List.flatten_append] at a ⊢
  have a' : Hd G H (A.flatten ++ (p, Eq o) :: B.flatten) := a
  exact a'.putP (ψ := Eq o') rfl
/-- changed in its place -/
inductive Sw (p : Addr) (o o' : HO) : List Vo → List Vo → Prop
  | here {S : List Vo} : Sw p o o' (own p o :: S) (own p o' :: S)
  | there {x : Vo} {S S' : List Vo} (h : Sw p o o' S S') : Sw p o o' (x :: S) (x :: S')
theorem Sw.split : ∀ {S S' : List Vo}, Sw p o o' S S' → ∃ A B, S = A ++ own p o :: B ∧ S' = A ++ own p o' :: B
  | _, _, .here => ⟨[], _, rfl, rfl⟩
  | _, _, .there (x := x) h => let ⟨A, B, e1, e2⟩ := Sw.split h; ⟨x :: A, B, by rw [e1]; rfl, by rw [e2]; rfl⟩
theorem Hg.sw (z : Hg K Γ S H) (h : Sw p o o' S S') : Hg K Γ S' (upd H p o') := by
  obtain ⟨A, B, rfl, rfl⟩ := h.split
  exact z.putAt
theorem Sw.mem : ∀ {S S' : List Vo}, Sw p o o' S S' → own p o ∈ S
  | _, _, .here => List.mem_cons_self
  | _, _, .there h => List.mem_cons_of_mem _ (Sw.mem h)
/-- a new object -/
theorem Hg.new (z : Hg K Γ S H) (hp : H p = none) : Hg K Γ (Mo.own p o :: S) (upd H p o) := let ⟨G, a, b⟩ := z; ⟨G, a.new hp rfl, b⟩
theorem Hg.fix (z : Hg K Γ S H) (hp : H p = none) : Hg K (.obj p o :: Γ) S (upd H p o) := by
  obtain ⟨G, a, b⟩ := z
  exact ⟨_, a.fix hp, cons_facts (show upd G p o p = some o from upd_same) fun f m => Fc.mono (Ext.new (a.gno hp)) (b f m)⟩
theorem Hg.freeze (z : Hg K Γ (Mo.own p o :: S) H) : Hg K (.obj p o :: Γ) S H := by
  obtain ⟨G, a, b⟩ := z
  have a' : Hd G H ((p, Eq o) :: S.flatten) := a
  exact ⟨_, a'.freeze (a'.eq List.mem_cons_self), cons_facts (show upd G p o p = some o from upd_same) fun f m => Fc.mono (Ext.new (a'.no List.mem_cons_self)) (b f m)⟩
theorem Hg.learn (z : Hg K Γ S H) (h : ∀ G, (∀ f ∈ Γ, f.In K G) → f.In K G) : Hg K (f :: Γ) S H := let ⟨G, a, b⟩ := z; ⟨G, a, cons_facts (h G b) b⟩
theorem Hg.skip (z : Hg K (f :: Γ) S H) : Hg K Γ S H := z.weak fun _ m => List.mem_cons_of_mem _ m
end
/-- a segment is changed in its place -/
inductive Rp (x x' : Vo) : List Vo → List Vo → Prop
  | here {S : List Vo} : Rp x x' (x :: S) (x' :: S)
  | there {y : Vo} {S S' : List Vo} (h : Rp x x' S S') : Rp x x' (y :: S) (y :: S')
def Ch (x : Vo) (p : Addr) (o' : HO) (x' : Vo) : Prop := ∀ G H L, Hd G H (x ++ L) → Hd G (upd H p o') (x' ++ L)
section
variable {K : PySem.W.Frag} {Γ : List Fc} {S S' : List Vo} {H : Hp} {p : Addr} {o' : HO} {x x' : Vo}
theorem Rp.split : ∀ {S S' : List Vo}, Rp x x' S S' → ∃ A B, S = A ++ x :: B ∧ S' = A ++ x' :: B
  | _, _, .here => ⟨[], _, rfl, rfl⟩
  | _, _, .there (y := y) h => let ⟨A, B, e1, e2⟩ := Rp.split h; ⟨y :: A, B, by rw [e1]; rfl, by rw [e2]; rfl⟩
theorem Rp.mem : ∀ {S S' : List Vo}, Rp x x' S S' → x ∈ S
  | _, _, .here => List.mem_cons_self
  | _, _, .there h => List.mem_cons_of_mem _ (Rp.mem h)
theorem Rp.take : ∀ {S S' : List Vo}, Rp x x' S S' → ∃ R, Take x S R ∧ Take x' S' R
  | _, _, .here => ⟨_, Take.here, Take.here⟩
  | _, _, .there h => let ⟨R, a, b⟩ := Rp.take h; ⟨_ :: R, a.there, b.there⟩
theorem Hg.rp (z : Hg K Γ S H) (r : Rp x x' S S') (c : Ch x p o' x') : Hg K Γ S' (upd H p o') := by
  obtain ⟨R, a, b⟩ := r.take
  obtain ⟨G, z1, z2⟩ := z
  exact ⟨G, (c G H R.flatten (z1.perm (List.Perm.symm a))).perm b, z2⟩
/-- of a segment -/
theorem Hg.seg (z : Hg K Γ S H) (m : x ∈ S) : ∃ G L, Hd G H (x ++ L) ∧ ∀ f ∈ Γ, f.In K G := by
  obtain ⟨G, z1, z2⟩ := z
  obtain ⟨A, B, rfl⟩ := List.append_of_mem m
  refine ⟨G, A.flatten ++ B.flatten, z1.perm ?_, z2⟩
  rw [List.flatten_append, List.flatten_cons, ← List.append_assoc, ← List.append_assoc]
  exact List.Perm.append_right _ List.perm_append_comm
theorem AtH.seg {o : HO} (m : x ∈ S) (h : ∀ G H L, Hd G H (x ++ L) → H p = some o) : AtH K Γ S p o := fun H z => let ⟨G, L, a, _⟩ := z.seg m; h G H L a
end
/-- some of the segments, in any order -/
def Dr (S0 S : List Vo) : Prop := ∃ J : List Vo, S0.flatten.Perm ((J ++ S).flatten)
theorem Dr.refl {S : List Vo} : Dr S S := ⟨[], List.Perm.refl _⟩
theorem Dr.skip {x : Vo} {S0 S : List Vo} (h : Dr S0 S) : Dr (x :: S0) S := let ⟨J, j⟩ := h; ⟨x :: J, List.Perm.append_left x j⟩
theorem Dr.keep {x : Vo} {S0 R S : List Vo} (t : Take x S0 R) (h : Dr R S) : Dr S0 (x :: S) := by
  obtain ⟨J, j⟩ := h
  refine ⟨J, List.Perm.trans t ((List.Perm.append_left x j).trans ?_)⟩
  rw [List.flatten_append, List.flatten_append, List.flatten_cons, ← List.append_assoc, ← List.append_assoc]
  exact List.Perm.append_right _ List.perm_append_comm
theorem Hg.fit {K : PySem.W.Frag} {Γ Γ' : List Fc} {S0 S : List Vo} {H : Hp} (z : Hg K Γ S0 H) (hΓ : ∀ f ∈ Γ', f ∈ Γ) (hS : Dr S0 S) : Hg K Γ' S H := by
  obtain ⟨J, j⟩ := hS
  have z1 : Hg K Γ' (J ++ S) H := (z.weak hΓ).cong (List.Perm.symm j)
  clear j z
  induction J with
  | nil => exact z1
  | cons x J ih => exact ih z1.pop
/-! #### data of values, by the facts -/
def DV (K : PySem.W.Frag) (Γ : List Fc) (v : V) (d : PyData) : Prop := ∀ G, (∀ f ∈ Γ, f.In K G) → Dp K G v d
def DL (K : PySem.W.Frag) (Γ : List Fc) (vs : List V) (ds : List PyData) : Prop := ∀ G, (∀ f ∈ Γ, f.In K G) → DpAll K G vs ds
section
variable {K : PySem.W.Frag} {Γ Γ' : List Fc} {v : V} {d : PyData} {vs ws : List V} {ds es : List PyData}
theorem DV.int {i : Int} : DV K Γ (.int i) (.int i) := fun _ _ => .int i
theorem DV.str {x : Str} : DV K Γ (.str x) (.str x) := fun _ _ => .str x
theorem DV.bl {b : Bool} : DV K Γ (.bl b) (.bool b) := fun _ _ => .bl b
theorem DV.non : DV K Γ .non .none := fun _ _ => .non
theorem DV.mem (m : .dat v d ∈ Γ) : DV K Γ v d := fun G b => b _ m
theorem DL.nil : DL K Γ [] [] := fun _ _ => .nil
theorem DL.cons (h : DV K Γ v d) (t : DL K Γ vs ds) : DL K Γ (v :: vs) (d :: ds) := fun G b => .cons (h G b) (t G b)
theorem DL.app (h : DL K Γ vs ds) (t : DL K Γ ws es) : DL K Γ (vs ++ ws) (ds ++ es) := fun G b => dpa_app (h G b) (t G b)
theorem DL.snoc (h : DL K Γ vs ds) (t : DV K Γ v d) : DL K Γ (vs ++ [v]) (ds ++ [d]) := h.app (.cons t .nil)
theorem DL.mem (m : .dats vs ds ∈ Γ) : DL K Γ vs ds := fun G b => b _ m
theorem DL.ints {ns : List Int} : DL K Γ (ns.map V.int) (ns.map PyData.int) := fun _ _ => dpa_ints ns
theorem DL.strs {ns : List Str} : DL K Γ (ns.map V.str) (ns.map PyData.str) := fun _ _ => dpa_strs ns
theorem DV.mono (h : DV K Γ v d) (s : ∀ f ∈ Γ, f ∈ Γ') : DV K Γ' v d := fun G b => h G fun f m => b f (s f m)
theorem DL.mono (h : DL K Γ vs ds) (s : ∀ f ∈ Γ, f ∈ Γ') : DL K Γ' vs ds := fun G b => h G fun f m => b f (s f m)
theorem DV.tup {a : Addr} (m : .obj a (.tup vs) ∈ Γ) (h : DL K Γ vs ds) : DV K Γ (.ref a) (.tuple ds) := fun G b => .tup (SqT.of (b _ m)) (h G b)
theorem DV.lst {a : Addr} (m : .obj a (.lst vs) ∈ Γ) (h : DL K Γ vs ds) : DV K Γ (.ref a) (.list ds) := fun G b => .lst (SqL.of (b _ m)) (h G b)
theorem sub_refl : ∀ f ∈ Γ, f ∈ Γ := fun _ m => m
theorem sub_cons {f : Fc} (s : ∀ g ∈ Γ, g ∈ Γ') : ∀ g ∈ Γ, g ∈ f :: Γ' := fun g m => List.mem_cons_of_mem _ (s g m)
theorem sub_both {f : Fc} (s : ∀ g ∈ Γ, g ∈ Γ') : ∀ g ∈ f :: Γ, g ∈ f :: Γ' := fun g m => by
  rcases List.mem_cons.mp m with e | m
  · rw [e]; exact List.mem_cons_self
  · exact List.mem_cons_of_mem _ (s g m)
theorem sub_put {f : Fc} (h : f ∈ Γ') (s : ∀ g ∈ Γ, g ∈ Γ') : ∀ g ∈ f :: Γ, g ∈ Γ' := fun g m => by
  rcases List.mem_cons.mp m with e | m
  · rw [e]; exact h
  · exact s g m
theorem sub_nil : ∀ g ∈ ([] : List Fc), g ∈ Γ' := fun _ m => (nomatch m)
end
end Mo
namespace Mo
open PySem PySem.Spec PyProof.Rows L2
/-! ### steps through a reading, in every heap with these facts and segments -/
section
variable {K : PySem.W.Frag} {Γ : List Fc} {S S' : List Vo} {σ σ' : St} {H : Hp} {Q : VK} {ta tb te tc : TE} {t u c : TT} {tA tB1 : TA} {D : Ends} {s1 s2 : TS} {v x y : V} {i : Nat} {r : R2} {g : TG} {A B : Hp → Prop}
theorem w_start {f : TS} (h : σ = σ') (z : Hg K Γ S H) (k : Wh K Γ S fun H => f D σ' H) : f D σ H := by
  rw [h]
  exact k H z
theorem w_var (h : σ[i]? = some (some v)) (k : Wh K Γ S fun H => Q v H) : Wh K Γ S fun H => tVar i σ H Q := fun H z => ⟨v, h, k H z⟩
theorem w_c (k : Wh K Γ S fun H => Q v H) : Wh K Γ S fun H => tC v σ H Q := k
theorem w_op (k : Wh K Γ S fun H => ta σ H fun x H1 => tb σ H1 fun y H2 => r x y H2 Q) : Wh K Γ S fun H => tOp r ta tb σ H Q := k
theorem w_un {r : V → Hp → VK → Prop} (k : Wh K Γ S fun H => ta σ H fun x H1 => r x H1 Q) : Wh K Γ S fun H => tUn r ta σ H Q := k
theorem w_cb {r : List V → Hp → VK → Prop} (k : Wh K Γ S fun H => tA σ H fun vs H1 => r vs H1 Q) : Wh K Γ S fun H => tCB r tA σ H Q := k
theorem w_nil {Q : List V → Hp → Prop} (k : Wh K Γ S fun H => Q [] H) : Wh K Γ S fun H => tNil σ H Q := k
theorem w_cons {Q : List V → Hp → Prop} (k : Wh K Γ S fun H => ta σ H fun x H1 => tA σ H1 fun xs H2 => Q (x :: xs) H2) : Wh K Γ S fun H => tCons ta tA σ H Q := k
/-- a new tuple, a new list, a new instance: what is wanted of it -/
def mkT (xs : List V) (H : Hp) (Q : VK) : Prop := xs.length ≤ sizeLine ∧ ∀ p, H p = none → Q (.ref p) (upd H p (.tup xs))
def mkL (xs : List V) (H : Hp) (Q : VK) : Prop := xs.length ≤ sizeLine ∧ ∀ p, H p = none → Q (.ref p) (upd H p (.lst xs))
def mkI (C : Addr) (sp : Sp) (vs : List V) (H : Hp) (Q : VK) (E : XK) : Prop := ∀ x dx, H x = none → H dx = none → dx ≠ x → sp (.ref x :: vs) (upd (upd H dx (.own x)) x (.ins C dx [])) (fun v H2 => v = .non ∧ Q (.ref x) H2) E
theorem w_tup (k : Wh K Γ S fun H => tA σ H fun xs H1 => mkT xs H1 Q) : Wh K Γ S fun H => tTup tA σ H Q := k
theorem w_lst (k : Wh K Γ S fun H => tA σ H fun xs H1 => mkL xs H1 Q) : Wh K Γ S fun H => tLst tA σ H Q := k
theorem w_test {Q : Bool → Hp → Prop} (k : Wh K Γ S fun H => te σ H fun x H1 => ∃ b, x = .bl b ∧ Q b H1) : Wh K Γ S fun H => tTest te σ H Q := k
theorem w_tb {Q : Bool → Hp → Prop} (k : Wh K Γ S fun H => te σ H fun x H1 => ∃ b, x = .bl b ∧ Q b H1) : Wh K Γ S fun H => tB te σ H Q := k
theorem w_bl {b : Bool} {Q : Bool → Hp → Prop} (k : Wh K Γ S fun H => Q b H) : Wh K Γ S fun H => ∃ d, V.bl b = V.bl d ∧ Q d H := fun H z => ⟨b, rfl, k H z⟩
theorem w_and {Q : Bool → Hp → Prop} (k : Wh K Γ S fun H => t σ H fun d H1 => if d = true then u σ H1 Q else Q false H1) : Wh K Γ S fun H => tAnd t u σ H Q := k
theorem w_or {Q : Bool → Hp → Prop} (k : Wh K Γ S fun H => t σ H fun d H1 => if d = true then Q true H1 else u σ H1 Q) : Wh K Γ S fun H => tOr t u σ H Q := k
theorem w_not {Q : Bool → Hp → Prop} (k : Wh K Γ S fun H => t σ H fun d H1 => Q (!d) H1) : Wh K Γ S fun H => tNot t σ H Q := k
theorem w_andV (k : Wh K Γ S fun H => ta σ H fun x H1 => ∃ d, x = .bl d ∧ if d = true then tb σ H1 Q else Q (.bl false) H1) : Wh K Γ S fun H => tAndV ta tb σ H Q := k
theorem w_orV (k : Wh K Γ S fun H => ta σ H fun x H1 => ∃ d, x = .bl d ∧ if d = true then Q (.bl true) H1 else tb σ H1 Q) : Wh K Γ S fun H => tOrV ta tb σ H Q := k
theorem w_notV (k : Wh K Γ S fun H => ta σ H fun x H1 => ∃ d, x = .bl d ∧ Q (.bl (!d)) H1) : Wh K Γ S fun H => tNotV ta σ H Q := k
theorem w_ifE (k : Wh K Γ S fun H => c σ H fun d H1 => if d = true then ta σ H1 Q else tb σ H1 Q) : Wh K Γ S fun H => tIf c ta tb σ H Q := k
theorem w_seq (k : Wh K Γ S fun H => s1 { D with nx := s2 D } σ H) : Wh K Γ S fun H => tSeq s1 s2 D σ H := k
theorem w_next (k : Wh K Γ S fun H => D.nx σ H) : Wh K Γ S fun H => tNext D σ H := k
theorem w_brk (k : Wh K Γ S fun H => D.bk σ H) : Wh K Γ S fun H => tBreak D σ H := k
theorem w_cont (k : Wh K Γ S fun H => D.ct σ H) : Wh K Γ S fun H => tCont D σ H := k
theorem w_ifS (k : Wh K Γ S fun H => c σ H fun d H1 => if d = true then s1 D σ H1 else s2 D σ H1) : Wh K Γ S fun H => tIfS c s1 s2 D σ H := k
theorem w_asg (k : Wh K Γ S fun H => te σ H fun x H1 => g x σ H1 D.nx) : Wh K Γ S fun H => tAsg te g D σ H := k
theorem w_gn {Q : St → Hp → Prop} (k : Wh K Γ S fun H => Q (σ.set i (some v)) H) : Wh K Γ S fun H => gName i v σ H Q := k
theorem w_gsub {st : TSet} {Q : St → Hp → Prop} (k : Wh K Γ S fun H => ta σ H fun o H1 => tb σ H1 fun j H2 => st o j v H2 fun H3 => Q σ H3) : Wh K Γ S fun H => gSub ta tb st v σ H Q := k
theorem w_gcons {tg : TG} {tgs : TGs} {vs : List V} {Q : St → Hp → Prop} (k : Wh K Γ S fun H => tg v σ H fun σ1 H1 => tgs vs σ1 H1 Q) : Wh K Γ S fun H => gCons tg tgs (v :: vs) σ H Q := fun H z => ⟨v, vs, rfl, k H z⟩
theorem w_gnil {Q : St → Hp → Prop} (k : Wh K Γ S fun H => Q σ H) : Wh K Γ S fun H => gNil [] σ H Q := fun H z => ⟨rfl, k H z⟩
theorem w_ret (k : Wh K Γ S fun H => te σ H D.rt) : Wh K Γ S fun H => tRet te D σ H := k
theorem w_drop (k : Wh K Γ S fun H => te σ H fun _ H1 => D.nx σ H1) : Wh K Γ S fun H => tDrop te D σ H := k
theorem w_call {sp : Sp} {E : St → XK} (k : Wh K Γ S fun H => tA σ H fun vs H1 => sp vs H1 Q (E σ)) : Wh K Γ S fun H => tCallS sp E tA σ H Q := k
theorem w_bm0 {T : String} {r : V → List V → Hp → VK → Prop} (k : Wh K Γ S fun H => ta σ H fun x H1 => tyV K T x H1 ∧ r x [] H1 Q) : Wh K Γ S fun H => tBM0 K T r ta σ H Q := k
theorem w_bm {T : String} {r : V → List V → Hp → VK → Prop} (k : Wh K Γ S fun H => ta σ H fun x H1 => tyV K T x H1 ∧ tA σ H1 fun xs H2 => r x xs H2 Q) : Wh K Γ S fun H => tBM K T r ta tA σ H Q := k
theorem w_sl {r : V → Option Int → Option Int → Hp → VK → Prop} {tl th : TO} (k : Wh K Γ S fun H => te σ H fun x H1 => tl σ H1 fun l H2 => th σ H2 fun u H3 => r x l u H3 Q) : Wh K Γ S fun H => tSl r te tl th σ H Q := k
theorem w_nopart {Q : Option Int → Hp → Prop} (k : Wh K Γ S fun H => Q none H) : Wh K Γ S fun H => tNoPart σ H Q := k
theorem w_part {Q : Option Int → Hp → Prop} (k : Wh K Γ S fun H => te σ H fun x H1 => ∃ i, x = .int i ∧ Q (some i) H1) : Wh K Γ S fun H => tPart te σ H Q := k
theorem w_int {j : Int} {Q : Int → Hp → Prop} (k : Wh K Γ S fun H => Q j H) : Wh K Γ S fun H => ∃ i, V.int j = .int i ∧ Q i H := fun H z => ⟨j, rfl, k H z⟩
theorem w_aug {ti : TIp} (h : σ[i]? = some (some x)) (k : Wh K Γ S fun H => te σ H fun y H1 => ti x y H1 fun z H2 => D.nx (σ.set i (some z)) H2) : Wh K Γ S fun H => tAug i te ti D σ H := fun H z => ⟨x, h, k H z⟩
theorem w_ipI {f : Int → Int → Int} {a b : Int} (k : Wh K Γ S fun H => Q (.int (f a b)) H) : Wh K Γ S fun H => ipI f (.int a) (.int b) H Q := fun H z => ⟨a, b, rfl, rfl, k H z⟩
theorem w_raise {C : Addr} {E : XK} (k : Wh K Γ S fun H => E (.ref C) none H) : Wh K Γ S fun H => E (.ref C) none H := k
/-! #### operations on values -/
theorem w_I0 {f : Int → Int → V} {a b : Int} (k : Wh K Γ S fun H => Q (f a b) H) : Wh K Γ S fun H => rI0 f (.int a) (.int b) H Q := fun H z => ⟨a, b, rfl, rfl, k H z⟩
theorem w_I {C : Int → Int → Prop} {f : Int → Int → V} {a b : Int} (hc : C a b) (k : Wh K Γ S fun H => Q (f a b) H) : Wh K Γ S fun H => rI C f (.int a) (.int b) H Q := fun H z => ⟨a, b, rfl, rfl, hc, k H z⟩
theorem w_rU {f : Int → V} {a : Int} (k : Wh K Γ S fun H => Q (f a) H) : Wh K Γ S fun H => rU f (.int a) H Q := fun H z => ⟨a, rfl, k H z⟩
theorem w_mod {f : Int → Int → V} {a b : Int} (hb : b ≠ 0) (k : Wh K Γ S fun H => Q (f a b) H) : Wh K Γ S fun H => rI CMod f (.int a) (.int b) H Q := w_I hb k
theorem w_div {f : Int → Int → V} {a b : Int} (n : Nat) (hb : b ≠ 0) (h : Bd n b) (k : Wh K Γ S fun H => Q (f a b) H) (h0 : 0 < n := by decide) (h9 : n ≤ 9000 := by decide) : Wh K Γ S fun H => rI CDivX f (.int a) (.int b) H Q := w_I ⟨hb, Nat.lt_of_lt_of_le (log2_bd h h0) h9⟩ k
theorem w_mul {f : Int → Int → V} {a b : Int} {m n : Nat} (h1 : Bd m a) (h2 : Bd n b) (k : Wh K Γ S fun H => Q (f a b) H) (h3 : 0 < m := by decide) (h4 : 0 < n := by decide) (h5 : m + n ≤ 134000000 := by decide) : Wh K Γ S fun H => rI CMulX f (.int a) (.int b) H Q := w_I (mulX_of m n h1 h2 h3 h4 h5) k
theorem w_eqi {a b : Int} (k : Wh K Γ S fun H => Q (.bl (decide (a = b))) H) : Wh K Γ S fun H => rEqA K (.int a) (.int b) H Q := fun H z => go_eqi (k H z)
theorem w_nei {a b : Int} (k : Wh K Γ S fun H => Q (.bl (!decide (a = b))) H) : Wh K Γ S fun H => rNeA K (.int a) (.int b) H Q := fun H z => go_nei (k H z)
theorem w_eqb {a b : Bool} (k : Wh K Γ S fun H => Q (.bl (decide (a = b))) H) : Wh K Γ S fun H => rEqA K (.bl a) (.bl b) H Q := fun H z => go_eqb (k H z)
theorem w_neb {a b : Bool} (k : Wh K Γ S fun H => Q (.bl (!decide (a = b))) H) : Wh K Γ S fun H => rNeA K (.bl a) (.bl b) H Q := fun H z => go_neb (k H z)
theorem w_eqsT {a : Str} (k : Wh K Γ S fun H => Q (.bl true) H) : Wh K Γ S fun H => rEqA K (.str a) (.str a) H Q := fun H z => go_eqsT rfl (k H z)
theorem w_eqsF {a b : Str} (h : ¬ a = b) (k : Wh K Γ S fun H => Q (.bl false) H) : Wh K Γ S fun H => rEqA K (.str a) (.str b) H Q := fun H z => go_eqsF h (k H z)
theorem w_nesT {a : Str} (k : Wh K Γ S fun H => Q (.bl false) H) : Wh K Γ S fun H => rNeA K (.str a) (.str a) H Q := fun H z => go_nes (by rw [decide_eq_true rfl]; exact k H z)
theorem w_nesF {a b : Str} (h : ¬ a = b) (k : Wh K Γ S fun H => Q (.bl true) H) : Wh K Γ S fun H => rNeA K (.str a) (.str b) H Q := fun H z => go_nes (by rw [decide_eq_false h]; exact k H z)
theorem w_eqs {a b : Str} (k : Wh K Γ S fun H => Q (.bl (decide (a = b))) H) : Wh K Γ S fun H => rEqA K (.str a) (.str b) H Q := fun H z => go_eqs (k H z)
theorem w_nes {a b : Str} (k : Wh K Γ S fun H => Q (.bl (!decide (a = b))) H) : Wh K Γ S fun H => rNeA K (.str a) (.str b) H Q := fun H z => go_nes (k H z)
theorem w_eqD {a b : V} {d e : PyData} (ha : DV K Γ a d) (hb : DV K Γ b e) (sa : SeqAt.shaped d = true) (sb : SeqAt.shaped e = true) (k : Wh K Γ S fun H => Q (.bl (PyData.eqv d e)) H) : Wh K Γ S fun H => rEqA K a b H Q := fun H z => by
  obtain ⟨G, h1, h2⟩ := id z
  exact go_eqD (dp_mono h1.ex (ha G h2)) (dp_mono h1.ex (hb G h2)) sa sb (k H z)
theorem w_neD {a b : V} {d e : PyData} (ha : DV K Γ a d) (hb : DV K Γ b e) (sa : SeqAt.shaped d = true) (sb : SeqAt.shaped e = true) (k : Wh K Γ S fun H => Q (.bl (!PyData.eqv d e)) H) : Wh K Γ S fun H => rNeA K a b H Q := fun H z => by
  obtain ⟨G, h1, h2⟩ := id z
  exact go_neD (dp_mono h1.ex (ha G h2)) (dp_mono h1.ex (hb G h2)) sa sb (k H z)
theorem w_isN (k : Wh K Γ S fun H => Q (.bl (decide (x = .non))) H) : Wh K Γ S fun H => rIsN1 x .non H Q := fun H z => ⟨rfl, k H z⟩
theorem w_notN (k : Wh K Γ S fun H => Q (.bl (!decide (x = .non))) H) : Wh K Γ S fun H => rNotN1 x .non H Q := fun H z => ⟨rfl, k H z⟩
theorem w_isN_t (k : Wh K Γ S fun H => Q (.bl true) H) : Wh K Γ S fun H => rIsN1 .non .non H Q := fun H z => ⟨rfl, k H z⟩
theorem w_notN_t (k : Wh K Γ S fun H => Q (.bl false) H) : Wh K Γ S fun H => rNotN1 .non .non H Q := fun H z => ⟨rfl, k H z⟩
theorem w_isN_r {a : Addr} (k : Wh K Γ S fun H => Q (.bl false) H) : Wh K Γ S fun H => rIsN1 (.ref a) .non H Q := fun H z => ⟨rfl, k H z⟩
theorem w_notN_r {a : Addr} (k : Wh K Γ S fun H => Q (.bl true) H) : Wh K Γ S fun H => rNotN1 (.ref a) .non H Q := fun H z => ⟨rfl, k H z⟩
theorem w_isN_i {a : Int} (k : Wh K Γ S fun H => Q (.bl false) H) : Wh K Γ S fun H => rIsN1 (.int a) .non H Q := fun H z => ⟨rfl, k H z⟩
theorem w_notN_i {a : Int} (k : Wh K Γ S fun H => Q (.bl true) H) : Wh K Γ S fun H => rNotN1 (.int a) .non H Q := fun H z => ⟨rfl, k H z⟩
theorem w_addI {a b : Int} (k : Wh K Γ S fun H => Q (.int (a + b)) H) : Wh K Γ S fun H => rAddA K (.int a) (.int b) H Q := fun H z => go_addI (k H z)
theorem w_addS {a b : Str} (h : a.length + b.length ≤ sizeLine) (k : Wh K Γ S fun H => Q (.str (a ++ b)) H) : Wh K Γ S fun H => rAddA K (.str a) (.str b) H Q := fun H z => go_addS h (k H z)
theorem w_addR {a b : Int} (k : Wh K Γ S fun H => Q (.int (a + b)) H) : Wh K Γ S fun H => rAdd (.int a) (.int b) H Q := fun H z => go_addR (k H z)
theorem w_subR {a b : Int} (k : Wh K Γ S fun H => Q (.int (a - b)) H) : Wh K Γ S fun H => L2.rSub (.int a) (.int b) H Q := fun H z => go_subR (k H z)
theorem w_ltI {a b : Int} (k : Wh K Γ S fun H => Q (.bl (decide (a < b))) H) : Wh K Γ S fun H => rLtA K (.int a) (.int b) H Q := fun H z => go_ltI (k H z)
theorem w_ltT {v w : V} {ns ms : List Int} (ha : DV K Γ v (.tuple (ns.map PyData.int))) (hb : DV K Γ w (.tuple (ms.map PyData.int))) (k : Wh K Γ S fun H => Q (.bl (HT.lexLt ns ms)) H) : Wh K Γ S fun H => rLtA K v w H Q := fun H z => by
  obtain ⟨G, h1, h2⟩ := id z
  obtain ⟨a, xs, rfl, a1, a2⟩ := dp_tup (dp_mono h1.ex (ha G h2))
  obtain ⟨b, ys, rfl, b1, b2⟩ := dp_tup (dp_mono h1.ex (hb G h2))
  obtain rfl := dpa_ints' a2
  obtain rfl := dpa_ints' b2
  exact go_ltT a1 b1 (k H z)
theorem w_leI {a b : Int} (k : Wh K Γ S fun H => Q (.bl (decide (a ≤ b))) H) : Wh K Γ S fun H => rLeA K (.int a) (.int b) H Q := fun H z => .inl ⟨a, b, rfl, rfl, k H z⟩
theorem w_geI {a b : Int} (k : Wh K Γ S fun H => Q (.bl (decide (b ≤ a))) H) : Wh K Γ S fun H => rGeA K (.int a) (.int b) H Q := fun H z => .inl ⟨a, b, rfl, rfl, k H z⟩
theorem w_leT {v w : V} {ns ms : List Int} (ha : DV K Γ v (.tuple (ns.map PyData.int))) (hb : DV K Γ w (.tuple (ms.map PyData.int))) (k : Wh K Γ S fun H => Q (.bl (!HT.lexLt ms ns)) H) : Wh K Γ S fun H => rLeA K v w H Q := fun H z => by
  obtain ⟨G, h1, h2⟩ := id z
  obtain ⟨a, xs, rfl, a1, a2⟩ := dp_tup (dp_mono h1.ex (ha G h2))
  obtain ⟨b, ys, rfl, b1, b2⟩ := dp_tup (dp_mono h1.ex (hb G h2))
  obtain rfl := dpa_ints' a2
  obtain rfl := dpa_ints' b2
  exact .inr ⟨a, b, ns, ms, rfl, rfl, a1, b1, by rw [lexAt_le]; exact k H z⟩
theorem w_geT {v w : V} {ns ms : List Int} (ha : DV K Γ v (.tuple (ns.map PyData.int))) (hb : DV K Γ w (.tuple (ms.map PyData.int))) (k : Wh K Γ S fun H => Q (.bl (!HT.lexLt ns ms)) H) : Wh K Γ S fun H => rGeA K v w H Q := fun H z => by
  obtain ⟨G, h1, h2⟩ := id z
  obtain ⟨a, xs, rfl, a1, a2⟩ := dp_tup (dp_mono h1.ex (ha G h2))
  obtain ⟨b, ys, rfl, b1, b2⟩ := dp_tup (dp_mono h1.ex (hb G h2))
  obtain rfl := dpa_ints' a2
  obtain rfl := dpa_ints' b2
  exact .inr ⟨a, b, ns, ms, rfl, rfl, a1, b1, k H z⟩
theorem w_truB {K' : PySem.W.Frag} {b : Bool} {Q : Bool → Hp → Prop} (k : Wh K Γ S fun H => Q b H) : Wh K Γ S fun H => ∃ d, TruV K' (.bl b) H d ∧ Q d H := fun H z => ⟨b, rfl, k H z⟩
theorem w_truN {K' : PySem.W.Frag} {Q : Bool → Hp → Prop} (k : Wh K Γ S fun H => Q false H) : Wh K Γ S fun H => ∃ d, TruV K' .non H d ∧ Q d H := fun H z => ⟨false, rfl, k H z⟩
theorem w_isi {x c : V} {t u : Value} {b : Bool} (hc : ClsV c u) (ht : ∀ H, Hg K Γ S H → TyX K H x t) (hk : PySem.W.kitOne K t u = some b) (k : Wh K Γ S fun H => Q (.bl b) H) : Wh K Γ S fun H => rIsi K [x, c] H Q := fun H z => go_isi hc (ht H z) hk (k H z)
theorem w_pow15 (k : Wh K Γ S fun H => Q (.int 1000000000000000) H) : Wh K Γ S fun H => rI CPow (fun i j => .int (i ^ j.toNat)) (.int 10) (.int 15) H Q := fun H z => go_pow15 (k H z)
theorem w_pow12 (k : Wh K Γ S fun H => Q (.int 1000000000000) H) : Wh K Γ S fun H => rI CPow (fun i j => .int (i ^ j.toNat)) (.int 10) (.int 12) H Q := fun H z => go_pow12 (k H z)
theorem w_pow6 (k : Wh K Γ S fun H => Q (.int 1000000) H) : Wh K Γ S fun H => rI CPow (fun i j => .int (i ^ j.toNat)) (.int 10) (.int 6) H Q := fun H z => go_pow6 (k H z)
theorem w_ite {p : Prop} [Decidable p] (h1 : p → Wh K Γ S A) (h2 : ¬ p → Wh K Γ S B) : Wh K Γ S fun H => if decide p = true then A H else B H := fun H z => go_ite (fun h => h1 h H z) fun h => h2 h H z
theorem w_iteN {p : Prop} [Decidable p] (h1 : ¬ p → Wh K Γ S A) (h2 : p → Wh K Γ S B) : Wh K Γ S fun H => if (!decide p) = true then A H else B H := fun H z => go_iteN (fun h => h1 h H z) fun h => h2 h H z
theorem w_iteB {b : Bool} (h1 : b = true → Wh K Γ S A) (h2 : b = false → Wh K Γ S B) : Wh K Γ S fun H => if b = true then A H else B H := fun H z => by
  cases b with
  | true => exact iteT (h1 rfl H z)
  | false => exact iteF (h2 rfl H z)
theorem w_iteBN {b : Bool} (h1 : b = false → Wh K Γ S A) (h2 : b = true → Wh K Γ S B) : Wh K Γ S fun H => if (!b) = true then A H else B H := fun H z => by
  cases b with
  | true => exact iteF (h2 rfl H z)
  | false => exact iteT (h1 rfl H z)
theorem w_iteT (h : Wh K Γ S A) : Wh K Γ S fun H => if true = true then A H else B H := fun H z => iteT (h H z)
theorem w_iteF (h : Wh K Γ S B) : Wh K Γ S fun H => if false = true then A H else B H := fun H z => iteF (h H z)
theorem w_iteFn (h : Wh K Γ S A) : Wh K Γ S fun H => if (!false) = true then A H else B H := fun H z => iteT (h H z)
theorem w_iteTn (h : Wh K Γ S B) : Wh K Γ S fun H => if (!true) = true then A H else B H := fun H z => iteF (h H z)
/-! #### new objects -/
theorem w_tupD {xs : List V} {ds : List PyData} (hl : Nat.ble xs.length 100000 = true) (h : DL K Γ xs ds) (k : ∀ p, Wh K (.dat (.ref p) (.tuple ds) :: Γ) S fun H => Q (.ref p) H) : Wh K Γ S fun H => mkT xs H Q := fun H z =>
  ⟨by rw [sizeLine_eq]; have := Nat.le_of_ble_eq_true hl; omega, fun p hp => k p _ ((z.fix hp).learn (f := .dat (.ref p) (.tuple ds)) (fun G b => .tup (SqT.of (b _ List.mem_cons_self)) (h G fun f m => b f (List.mem_cons_of_mem _ m))) |>.weak fun f m => by
    rcases List.mem_cons.mp m with e | m
    · rw [e]; exact List.mem_cons_self
    · exact List.mem_cons_of_mem _ (List.mem_cons_of_mem _ m))⟩
theorem w_tupO {xs : List V} (hl : Nat.ble xs.length 100000 = true) (k : ∀ p, Wh K (.obj p (.tup xs) :: Γ) S fun H => Q (.ref p) H) : Wh K Γ S fun H => mkT xs H Q := fun H z =>
  ⟨by rw [sizeLine_eq]; have := Nat.le_of_ble_eq_true hl; omega, fun p hp => k p _ (z.fix hp)⟩
theorem w_lstO {xs : List V} (k : ∀ p, Wh K Γ (own p (.lst xs) :: S) fun H => Q (.ref p) H) (hl : Nat.ble xs.length 100000 = true := by rfl) : Wh K Γ S fun H => mkL xs H Q := fun H z =>
  ⟨by rw [sizeLine_eq]; have := Nat.le_of_ble_eq_true hl; omega, fun p hp => k p _ (z.new hp)⟩
theorem w_lenv {vs : List V} {ds : List PyData} (m : .dats vs ds ∈ Γ) (k : vs.length = ds.length → Wh K Γ S A) : Wh K Γ S A := fun H z => k (dpa_len (z.fact m : DpAll K H vs ds)) H z
theorem w_new {o : HO} (k : ∀ p, Wh K Γ (own p o :: S) fun H => Q (.ref p) H) : Wh K Γ S fun H => ∀ p, H p = none → Q (.ref p) (upd H p o) := fun H z p hp => k p _ (z.new hp)
theorem w_dK (k : ∀ p, Wh K Γ (own p (.dK []) :: S) fun H => Q (.ref p) H) : Wh K Γ S fun H => tDNew σ H Q := fun H z => go_dK fun p hp => k p _ (z.new hp)
theorem w_dT (k : ∀ p, Wh K Γ (own p (.dT []) :: S) fun H => Q (.ref p) H) : Wh K Γ S fun H => tDNew σ H Q := fun H z => go_dT fun p hp => k p _ (z.new hp)
/-- a list that is to stay -/
theorem w_freeze {p : Addr} {xs : List V} {ds : List PyData} (m : Take (own p (.lst xs)) S S') (h : DL K Γ xs ds) (k : Wh K (.dat (.ref p) (.list ds) :: Γ) S' A) : Wh K Γ S A := fun H z =>
  k H ((((z.tk1 m).freeze).learn (f := .dat (.ref p) (.list ds)) (fun G b => .lst (SqL.of (b _ List.mem_cons_self)) (h G fun f m => b f (List.mem_cons_of_mem _ m)))).weak fun f m => by
    rcases List.mem_cons.mp m with e | m
    · rw [e]; exact List.mem_cons_self
    · exact List.mem_cons_of_mem _ (List.mem_cons_of_mem _ m))
theorem w_freezeO {p : Addr} {o : HO} (m : Take (own p o) S S') (k : Wh K (.obj p o :: Γ) S' A) : Wh K Γ S A := fun H z => k H ((z.tk1 m).freeze)
theorem Hg.freezeD {p : Addr} {xs : List V} {ds : List PyData} (z : Hg K Γ S H) (m : Take (Mo.own p (.lst xs)) S S') (h : DL K Γ xs ds) : Hg K (.dat (.ref p) (.list ds) :: Γ) S' H := w_freeze (A := fun H => Hg K (.dat (.ref p) (.list ds) :: Γ) S' H) m h (fun _ z => z) H z
/-- data that follows from the facts is a fact -/
theorem w_dat {v : V} {d : PyData} (h : DV K Γ v d) (k : Wh K (.dat v d :: Γ) S A) : Wh K Γ S A := Wh.learn (f := .dat v d) h k
theorem w_dats {vs : List V} {ds : List PyData} (h : DL K Γ vs ds) (k : Wh K (.dats vs ds :: Γ) S A) : Wh K Γ S A := Wh.learn (f := .dats vs ds) h k
/-- a number drawn -/
theorem w_draw {pu : Addr} {n : Int} {E : XK} (m : pur pu ∈ S) (h0 : 0 < n) (hb : n ≤ 1000000000000000000) (k : ∀ d : Nat, (d : Int) < n → Wh K Γ S fun H => Q (.int (d : Int)) H) : Wh K Γ S fun H => spDraw [.ref pu, .int n] H Q E := fun H ⟨G, z1, z2⟩ =>
  ⟨G, S.flatten, pu, n, rfl, z1, List.mem_flatten.mpr ⟨_, m, List.mem_cons_self⟩, h0, Bd.mono (a := 60) (by show n.natAbs < 1152921504606846976; omega) (by decide), fun d H' d0 d1 z3 => by
    obtain ⟨e, rfl⟩ : ∃ e : Nat, d = (e : Int) := ⟨d.toNat, by omega⟩
    exact k e d1 H' ⟨G, z3, z2⟩⟩
/-! #### what stands there -/
theorem w_sub {p : Addr} {xs : List V} {j : Int} (m : AtH K Γ S p (.lst xs)) (e : atI xs j = some v) (k : Wh K Γ S fun H => Q v H) : Wh K Γ S fun H => rSub K (.ref p) (.int j) H Q := fun H z => go_subL (SqL.of (m H z)) e (k H z)
theorem w_subO {p : Addr} {xs : List V} {j : Int} (m : .obj p (.tup xs) ∈ Γ) (e : atI xs j = some v) (k : Wh K Γ S fun H => Q v H) : Wh K Γ S fun H => rSub K (.ref p) (.int j) H Q := fun H z => go_subT (SqT.of (z.obj m)) e (k H z)
theorem dpa_atI {G : Hp} {vs : List V} {ds : List PyData} {j : Int} {d : PyData} (h : DpAll K G vs ds) (e : atI ds j = some d) : ∃ v, atI vs j = some v ∧ Dp K G v d := by
  have hl := dpa_len h
  unfold atI at e ⊢
  rw [hl]
  cases q : ixN ds.length j with
  | none => rw [q] at e; cases e
  | some n =>
    rw [q] at e
    exact dpa_get h e
theorem gT {x : V} {ds : List PyData} {j : Int} {d : PyData} (m : .dat x (.tuple ds) ∈ Γ) (e : atI ds j = some d) (z : Hg K Γ S H) : ∃ a xs v, x = .ref a ∧ SqT K H a xs ∧ atI xs j = some v ∧ Hg K (.dat v d :: Γ) S H := by
  obtain ⟨G, h1, h2⟩ := z
  obtain ⟨a, xs, rfl, t1, t2⟩ := dp_tup (h2 _ m : Dp K G x (.tuple ds))
  obtain ⟨v, e1, e2⟩ := dpa_atI t2 e
  exact ⟨a, xs, v, rfl, ext_t h1.ex t1, e1, G, h1, cons_facts e2 h2⟩
theorem gL {x : V} {ds : List PyData} {j : Int} {d : PyData} (m : .dat x (.list ds) ∈ Γ) (e : atI ds j = some d) (z : Hg K Γ S H) : ∃ a xs v, x = .ref a ∧ SqL K H a xs ∧ atI xs j = some v ∧ Hg K (.dat v d :: Γ) S H := by
  obtain ⟨G, h1, h2⟩ := z
  obtain ⟨a, xs, rfl, t1, t2⟩ := dp_lst (h2 _ m : Dp K G x (.list ds))
  obtain ⟨v, e1, e2⟩ := dpa_atI t2 e
  exact ⟨a, xs, v, rfl, ext_l h1.ex t1, e1, G, h1, cons_facts e2 h2⟩
/-- the value of data: its address, if it has one -/
def valOf (d : PyData) (a : Addr) : V := match d with
  | .none => .non
  | .bool b => .bl b
  | .int i => .int i
  | .str x => .str x
  | .list _ => .ref a
  | .tuple _ => .ref a
  | .dict _ => .ref a
theorem valOf_n {a : Addr} : valOf .none a = .non := rfl
theorem valOf_b {a : Addr} {b : Bool} : valOf (.bool b) a = .bl b := rfl
theorem valOf_i {a : Addr} {i : Int} : valOf (.int i) a = .int i := rfl
theorem valOf_s {a : Addr} {x : Str} : valOf (.str x) a = .str x := rfl
theorem valOf_l {a : Addr} {ds : List PyData} : valOf (.list ds) a = .ref a := rfl
theorem valOf_t {a : Addr} {ds : List PyData} : valOf (.tuple ds) a = .ref a := rfl
theorem dp_val {G : Hp} {v : V} {d : PyData} (h : Dp K G v d) : ∃ a, v = valOf d a := by
  cases h with
  | non => exact ⟨0, rfl⟩
  | bl b => exact ⟨0, rfl⟩
  | int i => exact ⟨0, rfl⟩
  | str x => exact ⟨0, rfl⟩
  | lst h r => exact ⟨_, rfl⟩
  | tup h r => exact ⟨_, rfl⟩
theorem w_subD {x : V} {ds : List PyData} {j : Int} {d : PyData} (m : .dat x (.tuple ds) ∈ Γ) (e : atI ds j = some d) (k : ∀ a, Wh K (.dat (valOf d a) d :: Γ) S fun H => Q (valOf d a) H) : Wh K Γ S fun H => rSub K x (.int j) H Q := fun H z => by
  obtain ⟨a, xs, v, rfl, t1, e1, z1⟩ := gT m e z
  obtain ⟨b, rfl⟩ := dp_val (z1.dat List.mem_cons_self)
  exact go_subT t1 e1 (k b H z1)
theorem w_subL {x : V} {ds : List PyData} {j : Int} {d : PyData} (m : .dat x (.list ds) ∈ Γ) (e : atI ds j = some d) (k : ∀ a, Wh K (.dat (valOf d a) d :: Γ) S fun H => Q (valOf d a) H) : Wh K Γ S fun H => rSub K x (.int j) H Q := fun H z => by
  obtain ⟨a, xs, v, rfl, t1, e1, z1⟩ := gL m e z
  obtain ⟨b, rfl⟩ := dp_val (z1.dat List.mem_cons_self)
  exact go_subL t1 e1 (k b H z1)
theorem w_subDi {x : V} {ds : List PyData} {j : Int} {i : Int} (m : .dat x (.tuple ds) ∈ Γ) (e : atI ds j = some (.int i)) (k : Wh K Γ S fun H => Q (.int i) H) : Wh K Γ S fun H => rSub K x (.int j) H Q := fun H z => by
  obtain ⟨a, xs, v, rfl, t1, e1, z1⟩ := gT m e z
  obtain rfl := dp_int (z1.dat List.mem_cons_self)
  exact go_subT t1 e1 (k H z)
theorem w_subDs {x : V} {ds : List PyData} {j : Int} {i : Str} (m : .dat x (.tuple ds) ∈ Γ) (e : atI ds j = some (.str i)) (k : Wh K Γ S fun H => Q (.str i) H) : Wh K Γ S fun H => rSub K x (.int j) H Q := fun H z => by
  obtain ⟨a, xs, v, rfl, t1, e1, z1⟩ := gT m e z
  obtain rfl := dp_str (z1.dat List.mem_cons_self)
  exact go_subT t1 e1 (k H z)
theorem w_subLi {x : V} {ds : List PyData} {j : Int} {i : Int} (m : .dat x (.list ds) ∈ Γ) (e : atI ds j = some (.int i)) (k : Wh K Γ S fun H => Q (.int i) H) : Wh K Γ S fun H => rSub K x (.int j) H Q := fun H z => by
  obtain ⟨a, xs, v, rfl, t1, e1, z1⟩ := gL m e z
  obtain rfl := dp_int (z1.dat List.mem_cons_self)
  exact go_subL t1 e1 (k H z)
theorem w_subLs {x : V} {ds : List PyData} {j : Int} {i : Str} (m : .dat x (.list ds) ∈ Γ) (e : atI ds j = some (.str i)) (k : Wh K Γ S fun H => Q (.str i) H) : Wh K Γ S fun H => rSub K x (.int j) H Q := fun H z => by
  obtain ⟨a, xs, v, rfl, t1, e1, z1⟩ := gL m e z
  obtain rfl := dp_str (z1.dat List.mem_cons_self)
  exact go_subL t1 e1 (k H z)
theorem w_subK {p : Addr} {kvs : List (Key × V)} {z : Str} (m : AtH K Γ S p (.dK kvs)) (e : valV kvs (Sum.inr z) = some v) (k : Wh K Γ S fun H => Q v H) : Wh K Γ S fun H => rSub K (.ref p) (.str z) H Q := fun H w => go_subK (m H w) e (k H w)
theorem w_setK {p : Addr} {kvs : List (Key × V)} {z : Str} (m : Sw p (.dK kvs) (.dK (putK kvs (Sum.inr z) v)) S S') (hl : kvs.length ≤ 100000) (k : Wh K Γ S' A) : Wh K Γ S fun H => rSet (.ref p) (.str z) v H A := fun H w => go_setK (w.own m.mem) (by rw [sizeLine_eq]; omega) (k _ (w.sw m))
theorem w_setL {p : Addr} {xs : List V} {j : Int} {n : Nat} (m : Sw p (.lst xs) (.lst (xs.set n v)) S S') (hj : j = (n : Int)) (hn : n < xs.length) (k : Wh K Γ S' A) : Wh K Γ S fun H => rSet (.ref p) (.int j) v H A := fun H w => go_setL (w.own m.mem) (ixN_nat hj hn) (k _ (w.sw m))
theorem w_fldL {a C dx : Addr} {fs : List (Str × V)} {f : Str} {A : V → Hp → Prop} (m : AtH K Γ S a (.ins C dx fs)) (hl : fs.lookup f = some v) (hc : Cls K C) (hn : NoAttr K C f) (k : Wh K Γ S fun H => A v H) :
    Wh K Γ S fun H => ∃ b C' dx' fs' v', V.ref a = .ref b ∧ H b = some (.ins C' dx' fs') ∧ Cls K C' ∧ NoAttr K C' f ∧ fs'.lookup f = some v' ∧ A v' H := fun H z => ⟨a, C, dx, fs, v, rfl, m H z, hc, hn, hl, k H z⟩
theorem w_fld {f : Str} (k : Wh K Γ S fun H => ta σ H fun x H1 => ∃ a C dx fs v, x = .ref a ∧ H1 a = some (.ins C dx fs) ∧ Cls K C ∧ NoAttr K C f ∧ fs.lookup f = some v ∧ Q v H1) : Wh K Γ S fun H => tFld K ta f σ H Q := k
theorem w_sfld {f : Str} (k : Wh K Γ S fun H => tb σ H fun y H1 => ta σ H1 fun x H2 => ∃ a C dx fs, x = .ref a ∧ H2 a = some (.ins C dx fs) ∧ Cls K C ∧ NoAttr K C f ∧ fs.length < 1000 ∧ D.nx σ (upd H2 a (.ins C dx (putF f y fs)))) : Wh K Γ S fun H => sFld K ta tb f D σ H := k
theorem w_sfldL {a C dx : Addr} {fs fs' : List (Str × V)} {f : Str} {y : V} (m : Sw a (.ins C dx fs) (.ins C dx fs') S S') (hp : putF f y fs = fs') (hc : Cls K C) (hn : NoAttr K C f) (hl : Nat.blt fs.length 1000 = true) (k : Wh K Γ S' A) :
    Wh K Γ S fun H => ∃ b C' dx' fs', V.ref a = .ref b ∧ H b = some (.ins C' dx' fs') ∧ Cls K C' ∧ NoAttr K C' f ∧ fs'.length < 1000 ∧ A (upd H b (.ins C' dx' (putF f y fs'))) := fun H z => ⟨a, C, dx, fs, rfl, z.own m.mem, hc, hn, Nat.blt_eq.mp hl, by rw [hp]; exact k _ (z.sw m)⟩
theorem w_fldaug {rd : V → V → Hp → VK → Prop} {f : Str} (k : Wh K Γ S fun H => ta σ H fun x H1 => ∃ a C dx fs v, x = .ref a ∧ H1 a = some (.ins C dx fs) ∧ Cls K C ∧ NoAttr K C f ∧ fs.lookup f = some v ∧ tb σ H1 fun y H2 => rd v y H2 fun z H3 => ∃ dx' fs', H3 a = some (.ins C dx' fs') ∧ fs'.length < 1000 ∧ D.nx σ (upd H3 a (.ins C dx' (putF f z fs')))) : Wh K Γ S fun H => sFldAug K ta tb rd f D σ H := k
theorem w_fldaugL {a C dx : Addr} {fs : List (Str × V)} {f : Str} {A : Addr → Addr → V → Hp → Prop} (m : AtH K Γ S a (.ins C dx fs)) (hl : fs.lookup f = some v) (hc : Cls K C) (hn : NoAttr K C f) (k : Wh K Γ S fun H => A a C v H) :
    Wh K Γ S fun H => ∃ b C' dx' fs' v', V.ref a = .ref b ∧ H b = some (.ins C' dx' fs') ∧ Cls K C' ∧ NoAttr K C' f ∧ fs'.lookup f = some v' ∧ A b C' v' H := fun H z => ⟨a, C, dx, fs, v, rfl, m H z, hc, hn, hl, k H z⟩
theorem w_putL {a C dx : Addr} {fs fs' : List (Str × V)} {f : Str} {y : V} (m : Sw a (.ins C dx fs) (.ins C dx fs') S S') (hp : putF f y fs = fs') (hl : Nat.blt fs.length 1000 = true) (k : Wh K Γ S' A) :
    Wh K Γ S fun H => ∃ dx' fs', H a = some (.ins C dx' fs') ∧ fs'.length < 1000 ∧ A (upd H a (.ins C dx' (putF f y fs'))) := fun H z => ⟨dx, fs, z.own m.mem, Nat.blt_eq.mp hl, by rw [hp]; exact k _ (z.sw m)⟩
theorem w_meth {C : Addr} {m : Str} {sp : Sp} {E : St → XK} (k : Wh K Γ S fun H => ta σ H fun x H1 => ∃ a dx fs, x = .ref a ∧ H1 a = some (.ins C dx fs) ∧ fs.lookup m = none ∧ tA σ H1 fun vs H2 => sp (x :: vs) H2 Q (E σ)) : Wh K Γ S fun H => tMethS C m sp E ta tA σ H Q := k
theorem w_methL {a C dx : Addr} {fs : List (Str × V)} {f : Str} (m : AtH K Γ S a (.ins C dx fs)) (hl : fs.lookup f = none) (k : Wh K Γ S A) :
    Wh K Γ S fun H => ∃ b dx' fs', V.ref a = .ref b ∧ H b = some (.ins C dx' fs') ∧ fs'.lookup f = none ∧ A H := fun H z => ⟨a, dx, fs, rfl, m H z, hl, k H z⟩
theorem w_make {C : Addr} {sp : Sp} {E : St → XK} (k : Wh K Γ S fun H => tA σ H fun vs H1 => mkI C sp vs H1 Q (E σ)) : Wh K Γ S fun H => tMakeS C sp E tA σ H Q := k
theorem Hg.made {x dx C : Addr} {fs : List (Str × V)} (z : Hg K Γ S H) (nx : H x = none) (nd : H dx = none) (ne : dx ≠ x) : Hg K Γ (Mo.own x (.ins C dx fs) :: S) (upd (upd H dx (.own x)) x (.ins C dx fs)) := let ⟨G, a, b⟩ := z; ⟨G, a.made nx nd ne rfl, b⟩
theorem w_made {C : Addr} {sp : Sp} {vs : List V} {E : XK} (k : ∀ x dx, Wh K Γ (own x (.ins C dx []) :: S) fun H => sp (.ref x :: vs) H (fun v H2 => v = .non ∧ Q (.ref x) H2) E) : Wh K Γ S fun H => mkI C sp vs H Q E := fun H z x dx nx nd ne => k x dx _ (z.made nx nd ne)
theorem w_noned {A : V → Hp → Prop} (k : Wh K Γ S fun H => A .non H) : Wh K Γ S fun H => V.non = .non ∧ A .non H := fun H z => ⟨rfl, k H z⟩
/-! #### lists -/
theorem w_tyL {p : Addr} {xs : List V} (m : AtH K Γ S p (.lst xs)) (k : Wh K Γ S A) : Wh K Γ S fun H => tyV K "list" (.ref p) H ∧ A H := fun H z => go_tyL (SqL.of (m H z)) (k H z)
theorem w_tyD {v : V} {ds : List PyData} (m : .dat v (.list ds) ∈ Γ) (k : Wh K Γ S A) : Wh K Γ S fun H => tyV K "list" v H ∧ A H := fun H z => by
  obtain ⟨a, xs, rfl, h1, h2⟩ := dp_lst (z.dat m)
  exact go_tyL h1 (k H z)
theorem w_app {p : Addr} {xs : List V} (m : Sw p (.lst xs) (.lst (xs ++ [y])) S S') (hl : xs.length ≤ 100000) (k : Wh K Γ S' fun H => Q .non H) : Wh K Γ S fun H => rAppend (.ref p) [y] H Q := fun H z => go_app (z.own m.mem) (by rw [sizeLine_eq]; omega) (k _ (z.sw m))
theorem w_lenL {p : Addr} {xs : List V} (m : AtH K Γ S p (.lst xs)) (k : Wh K Γ S fun H => Q (.int (xs.length : Int)) H) : Wh K Γ S fun H => rLenA K [.ref p] H Q := fun H z => go_lenL (SqL.of (m H z)) (k H z)
theorem w_lenD {v : V} {ds : List PyData} (m : .dat v (.list ds) ∈ Γ) (k : Wh K Γ S fun H => Q (.int (ds.length : Int)) H) : Wh K Γ S fun H => rLenA K [v] H Q := fun H z => by
  obtain ⟨a, xs, rfl, h1, h2⟩ := dp_lst (z.dat m)
  have e := dpa_len h2
  refine go_lenL h1 ?_
  rw [e]
  exact k H z
theorem w_lenDT {v : V} {ds : List PyData} (m : .dat v (.tuple ds) ∈ Γ) (k : Wh K Γ S fun H => Q (.int (ds.length : Int)) H) : Wh K Γ S fun H => rLenA K [v] H Q := fun H z => by
  obtain ⟨a, xs, rfl, h1, h2⟩ := dp_tup (z.dat m)
  have e := dpa_len h2
  refine go_lenT h1 ?_
  rw [e]
  exact k H z
theorem w_lenS {z : Str} (h : z.length ≤ 100000) (k : Wh K Γ S fun H => Q (.int (z.length : Int)) H) : Wh K Γ S fun H => rLenA K [.str z] H Q := fun H w => go_lenS (by rw [sizeLine_eq]; omega) (k H w)
theorem w_lenK {p : Addr} {kvs : List (Key × V)} (m : AtH K Γ S p (.dK kvs)) (k : Wh K Γ S fun H => Q (.int (kvs.length : Int)) H) : Wh K Γ S fun H => rLenA K [.ref p] H Q := fun H z => go_lenK (m H z) (k H z)
theorem w_listL {p : Addr} {xs : List V} (m : AtH K Γ S p (.lst xs)) (k : ∀ l, Wh K Γ (own l (.lst xs) :: S) fun H => Q (.ref l) H) : Wh K Γ S fun H => rListOf K [.ref p] H Q := fun H z => go_listL (SqL.of (m H z)) fun l hl => k l _ (z.new hl)
theorem w_str {v : V} {x : Str} (m : .dat v (.str x) ∈ Γ) (k : v = .str x → Wh K Γ S A) : Wh K Γ S A := fun H z => k (dp_str (z.dat m)) H z
theorem w_intv {v : V} {x : Int} (m : .dat v (.int x) ∈ Γ) (k : v = .int x → Wh K Γ S A) : Wh K Γ S A := fun H z => k (dp_int (z.dat m)) H z
/-! #### targets -/
theorem w_gtO {n : Nat} {tgs : TGs} {a : Addr} {xs : List V} {Q : St → Hp → Prop} (m : .obj a (.tup xs) ∈ Γ) (hn : xs.length = n) (k : Wh K Γ S fun H => tgs xs σ H Q) : Wh K Γ S fun H => gTup K n tgs (.ref a) σ H Q := fun H z => go_gtup (SqT.of (z.obj m)) hn (k H z)
def zipF (vs : List V) (ds : List PyData) : List Fc := (vs.zip ds).map fun e => .dat e.1 e.2
theorem zipF_ok {G : Hp} : ∀ {vs : List V} {ds : List PyData}, DpAll K G vs ds → ∀ f ∈ zipF vs ds, f.In K G
  | _, _, .nil, f, m => by cases m
  | _, _, .cons h r, f, m => by
    rcases List.mem_cons.mp m with e | m
    · rw [e]; exact h
    · exact zipF_ok r f m
def valsOf : List PyData → List Addr → List V
  | d :: ds, a :: as => valOf d a :: valsOf ds as
  | _, _ => []
theorem dpa_vals {G : Hp} : ∀ {vs : List V} {ds : List PyData}, DpAll K G vs ds → ∃ as, as.length = ds.length ∧ vs = valsOf ds as
  | _, _, .nil => ⟨[], rfl, rfl⟩
  | _, _, .cons h r => by
    obtain ⟨a, rfl⟩ := dp_val h
    obtain ⟨as, h1, rfl⟩ := dpa_vals r
    exact ⟨a :: as, by rw [List.length_cons, List.length_cons, h1], rfl⟩
theorem w_gtD {n : Nat} {tgs : TGs} {v : V} {ds : List PyData} {Q : St → Hp → Prop} (m : .dat v (.tuple ds) ∈ Γ) (hn : ds.length = n) (k : ∀ as : List Addr, as.length = ds.length → Wh K (zipF (valsOf ds as) ds ++ Γ) S fun H => tgs (valsOf ds as) σ H Q) : Wh K Γ S fun H => gTup K n tgs v σ H Q := fun H z => by
  obtain ⟨G, h1, h2⟩ := z
  obtain ⟨a, xs, rfl, t1, t2⟩ := dp_tup (h2 _ m : Dp K G v (.tuple ds))
  obtain ⟨as, l1, rfl⟩ := dpa_vals t2
  have hl := dpa_len t2
  refine go_gtup (ext_t h1.ex t1) (hl.trans hn) (k as l1 H ⟨G, h1, fun f m => ?_⟩)
  rcases List.mem_append.mp m with m | m
  · exact zipF_ok t2 f m
  · exact h2 f m
theorem len2 {as : List Addr} {P : List Addr → Prop} (k : ∀ a b, P [a, b]) (h : as.length = 2) : P as := match as, h with | [a, b], _ => k a b
theorem len3 {as : List Addr} {P : List Addr → Prop} (k : ∀ a b c, P [a, b, c]) (h : as.length = 3) : P as := match as, h with | [a, b, c], _ => k a b c
theorem len4 {as : List Addr} {P : List Addr → Prop} (k : ∀ a b c d, P [a, b, c, d]) (h : as.length = 4) : P as := match as, h with | [a, b, c, d], _ => k a b c d
theorem len5 {as : List Addr} {P : List Addr → Prop} (k : ∀ a b c d e, P [a, b, c, d, e]) (h : as.length = 5) : P as := match as, h with | [a, b, c, d, e], _ => k a b c d e
theorem len6 {as : List Addr} {P : List Addr → Prop} (k : ∀ a b c d e f, P [a, b, c, d, e, f]) (h : as.length = 6) : P as := match as, h with | [a, b, c, d, e, f], _ => k a b c d e f
theorem len7 {as : List Addr} {P : List Addr → Prop} (k : ∀ a b c d e f g, P [a, b, c, d, e, f, g]) (h : as.length = 7) : P as := match as, h with | [a, b, c, d, e, f, g], _ => k a b c d e f g
section
variable {tgs : TGs} {Q : St → Hp → Prop} {d1 d2 d3 d4 d5 d6 d7 : PyData}
theorem w_gt2 (m : .dat v (.tuple [d1, d2]) ∈ Γ) (k : ∀ a b, Wh K (.dat (valOf d1 a) d1 :: .dat (valOf d2 b) d2 :: Γ) S fun H => tgs [valOf d1 a, valOf d2 b] σ H Q) : Wh K Γ S fun H => gTup K 2 tgs v σ H Q := w_gtD m rfl fun _ h => len2 (P := fun as => Wh K (zipF (valsOf [d1, d2] as) [d1, d2] ++ Γ) S fun H => tgs (valsOf [d1, d2] as) σ H Q) k h
theorem w_gt3 (m : .dat v (.tuple [d1, d2, d3]) ∈ Γ) (k : ∀ a b c, Wh K (.dat (valOf d1 a) d1 :: .dat (valOf d2 b) d2 :: .dat (valOf d3 c) d3 :: Γ) S fun H => tgs [valOf d1 a, valOf d2 b, valOf d3 c] σ H Q) : Wh K Γ S fun H => gTup K 3 tgs v σ H Q := w_gtD m rfl fun _ h => len3 (P := fun as => Wh K (zipF (valsOf [d1, d2, d3] as) [d1, d2, d3] ++ Γ) S fun H => tgs (valsOf [d1, d2, d3] as) σ H Q) k h
theorem w_gt4 (m : .dat v (.tuple [d1, d2, d3, d4]) ∈ Γ) (k : ∀ a b c d, Wh K (.dat (valOf d1 a) d1 :: .dat (valOf d2 b) d2 :: .dat (valOf d3 c) d3 :: .dat (valOf d4 d) d4 :: Γ) S fun H => tgs [valOf d1 a, valOf d2 b, valOf d3 c, valOf d4 d] σ H Q) : Wh K Γ S fun H => gTup K 4 tgs v σ H Q := w_gtD m rfl fun _ h => len4 (P := fun as => Wh K (zipF (valsOf [d1, d2, d3, d4] as) [d1, d2, d3, d4] ++ Γ) S fun H => tgs (valsOf [d1, d2, d3, d4] as) σ H Q) k h
theorem w_gt5 (m : .dat v (.tuple [d1, d2, d3, d4, d5]) ∈ Γ) (k : ∀ a b c d e, Wh K (.dat (valOf d1 a) d1 :: .dat (valOf d2 b) d2 :: .dat (valOf d3 c) d3 :: .dat (valOf d4 d) d4 :: .dat (valOf d5 e) d5 :: Γ) S fun H => tgs [valOf d1 a, valOf d2 b, valOf d3 c, valOf d4 d, valOf d5 e] σ H Q) : Wh K Γ S fun H => gTup K 5 tgs v σ H Q := w_gtD m rfl fun _ h => len5 (P := fun as => Wh K (zipF (valsOf [d1, d2, d3, d4, d5] as) [d1, d2, d3, d4, d5] ++ Γ) S fun H => tgs (valsOf [d1, d2, d3, d4, d5] as) σ H Q) k h
theorem w_gt6 (m : .dat v (.tuple [d1, d2, d3, d4, d5, d6]) ∈ Γ) (k : ∀ a b c d e f, Wh K (.dat (valOf d1 a) d1 :: .dat (valOf d2 b) d2 :: .dat (valOf d3 c) d3 :: .dat (valOf d4 d) d4 :: .dat (valOf d5 e) d5 :: .dat (valOf d6 f) d6 :: Γ) S fun H => tgs [valOf d1 a, valOf d2 b, valOf d3 c, valOf d4 d, valOf d5 e, valOf d6 f] σ H Q) : Wh K Γ S fun H => gTup K 6 tgs v σ H Q := w_gtD m rfl fun _ h => len6 (P := fun as => Wh K (zipF (valsOf [d1, d2, d3, d4, d5, d6] as) [d1, d2, d3, d4, d5, d6] ++ Γ) S fun H => tgs (valsOf [d1, d2, d3, d4, d5, d6] as) σ H Q) k h
theorem w_gt7 (m : .dat v (.tuple [d1, d2, d3, d4, d5, d6, d7]) ∈ Γ) (k : ∀ a b c d e f g, Wh K (.dat (valOf d1 a) d1 :: .dat (valOf d2 b) d2 :: .dat (valOf d3 c) d3 :: .dat (valOf d4 d) d4 :: .dat (valOf d5 e) d5 :: .dat (valOf d6 f) d6 :: .dat (valOf d7 g) d7 :: Γ) S fun H => tgs [valOf d1 a, valOf d2 b, valOf d3 c, valOf d4 d, valOf d5 e, valOf d6 f, valOf d7 g] σ H Q) : Wh K Γ S fun H => gTup K 7 tgs v σ H Q := w_gtD m rfl fun _ h => len7 (P := fun as => Wh K (zipF (valsOf [d1, d2, d3, d4, d5, d6, d7] as) [d1, d2, d3, d4, d5, d6, d7] ++ Γ) S fun H => tgs (valsOf [d1, d2, d3, d4, d5, d6, d7] as) σ H Q) k h
end
/-! #### loops: what holds at each turn, by what is carried -/
def NX {ι : Type} (K : PySem.W.Frag) (C : ι → Prop) (sg : ι → St) (Γf : ι → List Fc) (Sf : ι → List Vo) : St → Hp → Prop := fun σ H => ∃ a, C a ∧ σ = sg a ∧ Hg K (Γf a) (Sf a) H
def NH {ι : Type} (K : PySem.W.Frag) (C : ι → Prop) (Γf : ι → List Fc) (Sf : ι → List Vo) : Hp → Prop := fun H => ∃ a, C a ∧ Hg K (Γf a) (Sf a) H
def PrmS (S' S : List Vo) : Prop := S'.flatten.Perm S.flatten
theorem prm_refl : PrmS S S := List.Perm.refl _
theorem prm_cons {x : Vo} {R : List Vo} (h : Take x S R) (k : PrmS S' R) : PrmS (x :: S') S := (List.Perm.append_left x k).trans h.symm
section
variable {ι : Type} {tl : TE} {tw : TS}
theorem w_again {C : ι → Prop} {sg : ι → St} {Γf : ι → List Fc} {Sf : ι → List Vo} (a : ι) (hC : C a) (hσ : σ = sg a) (hΓ : ∀ f ∈ Γf a, f ∈ Γ) (hS : Dr S (Sf a)) : Wh K Γ S fun H => NX K C sg Γf Sf σ H := fun _ z => ⟨a, hC, hσ, z.fit hΓ hS⟩
theorem w_againH {C : ι → Prop} {Γf : ι → List Fc} {Sf : ι → List Vo} (a : ι) (hC : C a) (hΓ : ∀ f ∈ Γf a, f ∈ Γ) (hS : Dr S (Sf a)) : Wh K Γ S fun H => NH K C Γf Sf H := fun _ z => ⟨a, hC, z.fit hΓ hS⟩
def forSeq (K : PySem.W.Frag) (g : TG) (tw : TS) (D : Ends) (σ : St) (x : V) (H : Hp) : Prop := ∃ a, x = .ref a ∧ (((∃ xs, SqL K H a xs) ∧ LoopX g tw D σ H (Itl K a)) ∨ ((∃ xs, SqT K H a xs) ∧ LoopX g tw D σ H (Itt K a)))
def forRng (g : TG) (tw : TS) (D : Ends) (σ : St) (vs : List V) (H : Hp) : Prop := ∃ j : Int, vs = [.int j] ∧ -(2 ^ 62) ≤ j ∧ j < 2 ^ 62 ∧ LoopX g tw D σ H (Itr 0 j.toNat)
theorem w_forSeq (k : Wh K Γ S fun H => tl σ H fun x H1 => forSeq K g tw D σ x H1) : Wh K Γ S fun H => tFor (iSeq K tl) g tw D σ H := k
theorem w_forRng (k : Wh K Γ S fun H => tA σ H fun vs H1 => forRng g tw D σ vs H1) : Wh K Γ S fun H => tFor (iRng1 tA) g tw D σ H := k
theorem w_forR {j : Int} (n : Nat) (hj : j = (n : Int)) (hn : n ≤ 1000000) (k : Wh K Γ S fun H => LoopX g tw D σ H (Itr 0 n)) : Wh K Γ S fun H => forRng g tw D σ [.int j] H := fun H z => by
  subst hj
  exact ⟨(n : Int), rfl, by omega, by omega, by rw [Int.toNat_natCast]; exact k H z⟩
theorem w_forL {p : Addr} {xs : List V} (m : AtH K Γ S p (.lst xs)) (k : Wh K Γ S fun H => LoopX g tw D σ H (Itl K p)) : Wh K Γ S fun H => forSeq K g tw D σ (.ref p) H := fun H z => ⟨p, rfl, .inl ⟨⟨xs, SqL.of (m H z)⟩, k H z⟩⟩
theorem w_forD {p : Addr} {ds : List PyData} (m : .dat (.ref p) (.list ds) ∈ Γ) (k : Wh K Γ S fun H => LoopX g tw D σ H (Itl K p)) : Wh K Γ S fun H => forSeq K g tw D σ (.ref p) H := fun H z => by
  obtain ⟨a, xs, ea, h1, h2⟩ := dp_lst (z.dat m)
  cases ea
  exact ⟨p, rfl, .inl ⟨⟨xs, h1⟩, k H z⟩⟩
theorem w_loop_r (n : Nat) (C : Nat → ι → Prop) (sg : Nat → ι → St) (Γf : Nat → ι → List Fc) (Sf : Nat → ι → List Vo) (a0 : ι) (h0 : C 0 a0) (hσ : σ = sg 0 a0) (hΓ : ∀ f ∈ Γf 0 a0, f ∈ Γ) (hS : Dr S (Sf 0 a0))
    (hs : ∀ (i : Nat) a, i < n → C i a → Wh K (Γf i a) (Sf i a) fun H => g (.int (i : Int)) (sg i a) H fun σ2 H2 => tw { D with nx := NX K (C (i + 1)) (sg (i + 1)) (Γf (i + 1)) (Sf (i + 1)), ct := NX K (C (i + 1)) (sg (i + 1)) (Γf (i + 1)) (Sf (i + 1)), bk := D.nx } σ2 H2)
    (hd : ∀ a, C n a → Wh K (Γf n a) (Sf n a) fun H => D.nx (sg n a) H) : Wh K Γ S fun H => LoopX g tw D σ H (Itr 0 n) := fun H z =>
  loop_r n (fun i => NX K (C i) (sg i) (Γf i) (Sf i)) (w_again a0 h0 hσ hΓ hS H z) (fun i σ' H' hi ⟨a, hC, hσ, z⟩ => by subst hσ; exact hs i a hi hC H' z) fun σ' H' ⟨a, hC, hσ, z⟩ => by subst hσ; exact hd a hC H' z
/-- over a list that stands (and stays) in the heap -/
theorem w_loop_l {p : Addr} (xs : List V) (C : Nat → ι → Prop) (sg : Nat → ι → St) (Γf : Nat → ι → List Fc) (Sf : Nat → ι → List Vo) (a0 : ι) (h0 : C 0 a0) (hσ : σ = sg 0 a0) (hΓ : ∀ f ∈ Γf 0 a0, f ∈ Γ) (hS : Dr S (Sf 0 a0))
    (hl : ∀ i a, AtH K (Γf i a) (Sf i a) p (.lst xs))
    (hs : ∀ (i : Nat) x a, xs[i]? = some x → C i a → Wh K (Γf i a) (Sf i a) fun H => g x (sg i a) H fun σ2 H2 => tw { D with nx := NX K (C (i + 1)) (sg (i + 1)) (Γf (i + 1)) (Sf (i + 1)), ct := NX K (C (i + 1)) (sg (i + 1)) (Γf (i + 1)) (Sf (i + 1)), bk := D.nx } σ2 H2)
    (hd : ∀ a, C xs.length a → Wh K (Γf xs.length a) (Sf xs.length a) fun H => D.nx (sg xs.length a) H) : Wh K Γ S fun H => LoopX g tw D σ H (Itl K p) := fun H z =>
  loop_l (xs := xs) (fun i => NX K (C i) (sg i) (Γf i) (Sf i)) (w_again a0 h0 hσ hΓ hS H z) (fun i σ' H' _ ⟨a, hC, hσ, z⟩ => SqL.of (hl i a H' z)) (fun i x σ' H' hi ⟨a, hC, hσ, z⟩ => by subst hσ; exact hs i x a hi hC H' z) fun σ' H' ⟨a, hC, hσ, z⟩ => by subst hσ; exact hd a hC H' z
theorem go_Q {p : Addr} {ds : List PyData} {xs : List V} {G : Hp} (h : Dp K G (.ref p) (.list ds)) (e : Ext G H) (q : ∀ xs, SqL K H p xs → xs[i]? = some v) {d : PyData} (hd : ds[i]? = some d) : Dp K G v d := by
  obtain ⟨a, ys, ea, h1, h2⟩ := dp_lst h
  cases ea
  obtain ⟨w, e1, e2⟩ := dpa_get h2 hd
  have := (q ys (ext_l e h1)).symm.trans e1
  cases this
  exact e2
/-- over a list that is data -/
theorem w_loop_D {p : Addr} (ds : List PyData) (C : Nat → ι → Prop) (sg : Nat → ι → St) (Γf : Nat → ι → List Fc) (Sf : Nat → ι → List Vo) (a0 : ι) (h0 : C 0 a0) (hσ : σ = sg 0 a0) (hΓ : ∀ f ∈ Γf 0 a0, f ∈ Γ) (hS : Dr S (Sf 0 a0))
    (hl : ∀ i a, .dat (.ref p) (.list ds) ∈ Γf i a)
    (hs : ∀ (i : Nat) d v a, ds[i]? = some d → C i a → Wh K (.dat v d :: Γf i a) (Sf i a) fun H => g v (sg i a) H fun σ2 H2 => tw { D with nx := NX K (C (i + 1)) (sg (i + 1)) (Γf (i + 1)) (Sf (i + 1)), ct := NX K (C (i + 1)) (sg (i + 1)) (Γf (i + 1)) (Sf (i + 1)), bk := D.nx } σ2 H2)
    (hd : ∀ a, C ds.length a → Wh K (Γf ds.length a) (Sf ds.length a) fun H => D.nx (sg ds.length a) H) : Wh K Γ S fun H => LoopX g tw D σ H (Itl K p) := fun H z => by
  refine ⟨fun i m σ H => m = ds.length - i ∧ i ≤ ds.length ∧ NX K (C i) (sg i) (Γf i) (Sf i) σ H, ⟨ds.length, by simp, Nat.zero_le _, w_again a0 h0 hσ hΓ hS H z⟩, ?_⟩
  rintro i m σ' H' ⟨rfl, hi, a, hC, hσ, z'⟩
  subst hσ
  obtain ⟨G, z1, z2⟩ := id z'
  obtain ⟨b, ys, ea, t1, t2⟩ := dp_lst (z2 _ (hl i a) : Dp K G (.ref p) (.list ds))
  cases ea
  have hlen := dpa_len t2
  by_cases hlt : i < ds.length
  · obtain ⟨v, e1, e2⟩ := dpa_get t2 (List.getElem?_eq_getElem hlt)
    refine .inr ⟨⟨ys, v, ext_l z1.ex t1, e1⟩, NX K (C (i + 1)) (sg (i + 1)) (Γf (i + 1)) (Sf (i + 1)), fun σ'' H'' p' => ⟨ds.length - (i + 1), by omega, rfl, hlt, p'⟩, fun x H'' y => ?_⟩
    obtain ⟨rfl, y2⟩ := y
    exact hs i _ x a (List.getElem?_eq_getElem hlt) hC H'' ⟨G, z1, cons_facts (f := .dat x _) (go_Q (xs := ys) (z2 _ (hl i a)) z1.ex y2 (List.getElem?_eq_getElem hlt)) z2⟩
  · have e : i = ds.length := by omega
    subst e
    exact .inl ⟨⟨ys, ext_l z1.ex t1, by omega⟩, hd a hC H' z'⟩
theorem w_while {ω : Type} (C : Nat → ι → Prop) (sg : ι → St) (Γf : ι → List Fc) (Sf : ι → List Vo) (m0 : Nat) (a0 : ι) (h0 : C m0 a0) (hσ : σ = sg a0) (hΓ : ∀ f ∈ Γf a0, f ∈ Γ) (hS : Dr S (Sf a0))
    (hs : ∀ m a, C m a → Wh K (Γf a) (Sf a) fun H => c (sg a) H fun b H1 => if b = true then ∃ N : St → Hp → Prop, (∀ σ2 H2, N σ2 H2 → ∃ m', m' < m ∧ NX K (C m') sg Γf Sf σ2 H2) ∧ tw { D with nx := N, ct := N, bk := D.nx } (sg a) H1 else D.nx (sg a) H1) : Wh K Γ S fun H => tWhile c tw D σ H := fun H z =>
  go_while (fun m => NX K (C m) sg Γf Sf) m0 (w_again a0 h0 hσ hΓ hS H z) fun m σ' H' ⟨a, hC, hσ, z⟩ => by subst hσ; exact hs m a hC H' z
theorem w_turn {C : Nat → ι → Prop} {sg : ι → St} {Γf : ι → List Fc} {Sf : ι → List Vo} {m : Nat} {A : (St → Hp → Prop) → Hp → Prop} (k : Wh K Γ S fun H => A (fun σ2 H2 => ∃ m', m' < m ∧ NX K (C m') sg Γf Sf σ2 H2) H) :
    Wh K Γ S fun H => ∃ N : St → Hp → Prop, (∀ σ2 H2, N σ2 H2 → ∃ m', m' < m ∧ NX K (C m') sg Γf Sf σ2 H2) ∧ A N H := fun H z => ⟨_, fun _ _ h => h, k H z⟩
theorem w_less {C : Nat → ι → Prop} {sg : ι → St} {Γf : ι → List Fc} {Sf : ι → List Vo} {m : Nat} (m' : Nat) (hm : m' < m) (k : Wh K Γ S fun H => NX K (C m') sg Γf Sf σ H) : Wh K Γ S fun H => ∃ m', m' < m ∧ NX K (C m') sg Γf Sf σ H := fun H z => ⟨m', hm, k H z⟩
/-- an assertion between two parts -/
theorem w_cut {t u : TS} (C : ι → Prop) (sg : ι → St) (Γf : ι → List Fc) (Sf : ι → List Vo) (h1 : Wh K Γ S fun H => t { D with nx := NX K C sg Γf Sf } σ H) (h2 : ∀ a, C a → Wh K (Γf a) (Sf a) fun H => u D (sg a) H) : Wh K Γ S fun H => Evl.tCut t u D σ H := fun H z =>
  ⟨NX K C sg Γf Sf, h1 H z, fun σ' H' ⟨a, hC, hσ, z⟩ => by subst hσ; exact h2 a hC H' z⟩
/-! #### list comprehensions -/
variable {tt : TT} {te : TE} {vs : List Nat}
def lcSeq (K : PySem.W.Frag) (g : TG) (tt : TT) (te : TE) (vs : List Nat) (σ : St) (Q : VK) (x : V) (H : Hp) : Prop := ∃ a, x = .ref a ∧ (((∃ xs, SqL K H a xs) ∧ LcA g tt te vs σ Q H (Itl K a)) ∨ ((∃ xs, SqT K H a xs) ∧ LcA g tt te vs σ Q H (Itt K a)))
def lcRng (g : TG) (tt : TT) (te : TE) (vs : List Nat) (σ : St) (Q : VK) (xs : List V) (H : Hp) : Prop := ∃ j : Int, xs = [.int j] ∧ -(2 ^ 62) ≤ j ∧ j < 2 ^ 62 ∧ LcA g tt te vs σ Q H (Itr 0 j.toNat)
theorem w_lcSeq (k : Wh K Γ S fun H => tl σ H fun x H1 => lcSeq K g tt te vs σ Q x H1) : Wh K Γ S fun H => tLc (iSeq K tl) g tt te vs σ H Q := k
theorem w_lcRng (k : Wh K Γ S fun H => tA σ H fun xs H1 => lcRng g tt te vs σ Q xs H1) : Wh K Γ S fun H => tLc (iRng1 tA) g tt te vs σ H Q := k
theorem w_lcR {j : Int} (n : Nat) (hj : j = (n : Int)) (hn : n ≤ 1000000) (k : Wh K Γ S fun H => LcA g tt te vs σ Q H (Itr 0 n)) : Wh K Γ S fun H => lcRng g tt te vs σ Q [.int j] H := fun H z => by
  subst hj
  exact ⟨(n : Int), rfl, by omega, by omega, by rw [Int.toNat_natCast]; exact k H z⟩
theorem w_lcL {p : Addr} {xs : List V} (m : AtH K Γ S p (.lst xs)) (k : Wh K Γ S fun H => LcA g tt te vs σ Q H (Itl K p)) : Wh K Γ S fun H => lcSeq K g tt te vs σ Q (.ref p) H := fun H z => ⟨p, rfl, .inl ⟨⟨xs, SqL.of (m H z)⟩, k H z⟩⟩
theorem w_lcD {p : Addr} {ds : List PyData} (m : .dat (.ref p) (.list ds) ∈ Γ) (k : Wh K Γ S fun H => LcA g tt te vs σ Q H (Itl K p)) : Wh K Γ S fun H => lcSeq K g tt te vs σ Q (.ref p) H := fun H z => by
  obtain ⟨a, xs, ea, h1, h2⟩ := dp_lst (z.dat m)
  cases ea
  exact ⟨p, rfl, .inl ⟨⟨xs, h1⟩, k H z⟩⟩
theorem w_yes {Q : Bool → Hp → Prop} (k : Wh K Γ S fun H => Q true H) : Wh K Γ S fun H => tYes σ H Q := k
theorem w_same {P : Prop} (h : P) (k : Wh K Γ S A) : Wh K Γ S fun H => P ∧ A H := fun H z => ⟨h, k H z⟩
def NL {ι : Type} (K : PySem.W.Frag) (Dl : Addr) (C : ι → Prop) (ac : ι → List V) (Γf : ι → List Fc) (Sf : ι → List Vo) : Hp → Prop := fun H => ∃ a, C a ∧ Hg K (Γf a) (own Dl (.lst (ac a)) :: Sf a) H
theorem w_lcn {Dl : Addr} {C : ι → Prop} {ac : ι → List V} {Γf : ι → List Fc} {Sf : ι → List Vo} (a : ι) (hC : C a) (hΓ : ∀ f ∈ Γf a, f ∈ Γ) (hS : Dr S (own Dl (.lst (ac a)) :: Sf a)) : Wh K Γ S fun H => NL K Dl C ac Γf Sf H := fun _ z => ⟨a, hC, z.fit hΓ hS⟩
theorem w_lcp {Dl : Addr} {C : ι → Prop} {ac : ι → List V} {Γf : ι → List Fc} {Sf : ι → List Vo} {xs : List V} {R : List Vo} (a : ι) (hC : C a) (ea : ac a = xs ++ [y]) (m : Take (own Dl (.lst xs)) S R) (hl : xs.length ≤ 100000) (hΓ : ∀ f ∈ Γf a, f ∈ Γ) (hS : Dr R (Sf a)) :
    Wh K Γ S fun H => ∃ acc, H Dl = some (.lst acc) ∧ acc.length < sizeLine ∧ NL K Dl C ac Γf Sf (upd H Dl (.lst (acc ++ [y]))) := fun H z => by
  have z1 := z.tk1 m
  refine ⟨xs, z1.own List.mem_cons_self, by rw [sizeLine_eq]; omega, a, hC, ?_⟩
  have z2 := z1.sw (o' := .lst (xs ++ [y])) Sw.here
  rw [ea]
  exact z2.fit hΓ (Dr.keep Take.here hS)
theorem w_lc_r (n : Nat) (C : Nat → ι → Prop) (ac : Nat → ι → List V) (Γf : Nat → ι → List Fc) (Sf : Nat → ι → List Vo) (a0 : ι) (h0 : C 0 a0) (ha : ac 0 a0 = []) (hΓ : ∀ f ∈ Γf 0 a0, f ∈ Γ) (hS : Dr S (Sf 0 a0))
    (hs : ∀ Dl (i : Nat) a, i < n → C i a → Wh K (Γf i a) (own Dl (.lst (ac i a)) :: Sf i a) fun H => g (.int (i : Int)) (wipe σ vs) H fun σ2 H2 => wipe σ2 vs = wipe σ vs ∧ tt σ2 H2 fun b H3 =>
      if b = true then te σ2 H3 fun y H4 => ∃ acc, H4 Dl = some (.lst acc) ∧ acc.length < sizeLine ∧ NL K Dl (C (i + 1)) (ac (i + 1)) (Γf (i + 1)) (Sf (i + 1)) (upd H4 Dl (.lst (acc ++ [y]))) else NL K Dl (C (i + 1)) (ac (i + 1)) (Γf (i + 1)) (Sf (i + 1)) H3)
    (hd : ∀ Dl a, C n a → Wh K (Γf n a) (own Dl (.lst (ac n a)) :: Sf n a) fun H => Q (.ref Dl) H) : Wh K Γ S fun H => LcA g tt te vs σ Q H (Itr 0 n) := fun H z Dl hD =>
  lcx_r n (fun i => NL K Dl (C i) (ac i) (Γf i) (Sf i)) ⟨a0, h0, by rw [ha]; exact (z.fit hΓ hS).new hD⟩ (fun i H' hi ⟨a, hC, z⟩ => hs Dl i a hi hC H' z) fun H' ⟨a, hC, z⟩ => hd Dl a hC H' z
theorem w_lc_l {p : Addr} (xs : List V) (C : Nat → ι → Prop) (ac : Nat → ι → List V) (Γf : Nat → ι → List Fc) (Sf : Nat → ι → List Vo) (a0 : ι) (h0 : C 0 a0) (ha : ac 0 a0 = []) (hΓ : ∀ f ∈ Γf 0 a0, f ∈ Γ) (hS : Dr S (Sf 0 a0))
    (hl : ∀ i a, AtH K (Γf i a) (Sf i a) p (.lst xs))
    (hs : ∀ Dl (i : Nat) x a, xs[i]? = some x → C i a → Wh K (Γf i a) (own Dl (.lst (ac i a)) :: Sf i a) fun H => g x (wipe σ vs) H fun σ2 H2 => wipe σ2 vs = wipe σ vs ∧ tt σ2 H2 fun b H3 =>
      if b = true then te σ2 H3 fun y H4 => ∃ acc, H4 Dl = some (.lst acc) ∧ acc.length < sizeLine ∧ NL K Dl (C (i + 1)) (ac (i + 1)) (Γf (i + 1)) (Sf (i + 1)) (upd H4 Dl (.lst (acc ++ [y]))) else NL K Dl (C (i + 1)) (ac (i + 1)) (Γf (i + 1)) (Sf (i + 1)) H3)
    (hd : ∀ Dl a, C xs.length a → Wh K (Γf xs.length a) (own Dl (.lst (ac xs.length a)) :: Sf xs.length a) fun H => Q (.ref Dl) H) : Wh K Γ S fun H => LcA g tt te vs σ Q H (Itl K p) := fun H z Dl hD =>
  lcx_l (xs := xs) (fun i => NL K Dl (C i) (ac i) (Γf i) (Sf i)) ⟨a0, h0, by rw [ha]; exact (z.fit hΓ hS).new hD⟩ (fun i H' _ ⟨a, hC, z⟩ => SqL.of (hl i a H' z.pop)) (fun i x H' hi ⟨a, hC, z⟩ => hs Dl i x a hi hC H' z) fun H' ⟨a, hC, z⟩ => hd Dl a hC H' z
theorem w_lc_D {p : Addr} (ds : List PyData) (C : Nat → ι → Prop) (ac : Nat → ι → List V) (Γf : Nat → ι → List Fc) (Sf : Nat → ι → List Vo) (a0 : ι) (h0 : C 0 a0) (ha : ac 0 a0 = []) (hΓ : ∀ f ∈ Γf 0 a0, f ∈ Γ) (hS : Dr S (Sf 0 a0))
    (hl : ∀ i a, .dat (.ref p) (.list ds) ∈ Γf i a)
    (hs : ∀ Dl (i : Nat) d v a, ds[i]? = some d → C i a → Wh K (.dat v d :: Γf i a) (own Dl (.lst (ac i a)) :: Sf i a) fun H => g v (wipe σ vs) H fun σ2 H2 => wipe σ2 vs = wipe σ vs ∧ tt σ2 H2 fun b H3 =>
      if b = true then te σ2 H3 fun y H4 => ∃ acc, H4 Dl = some (.lst acc) ∧ acc.length < sizeLine ∧ NL K Dl (C (i + 1)) (ac (i + 1)) (Γf (i + 1)) (Sf (i + 1)) (upd H4 Dl (.lst (acc ++ [y]))) else NL K Dl (C (i + 1)) (ac (i + 1)) (Γf (i + 1)) (Sf (i + 1)) H3)
    (hd : ∀ Dl a, C ds.length a → Wh K (Γf ds.length a) (own Dl (.lst (ac ds.length a)) :: Sf ds.length a) fun H => Q (.ref Dl) H) : Wh K Γ S fun H => LcA g tt te vs σ Q H (Itl K p) := fun H z Dl hD => by
  refine ⟨fun i m H => m = ds.length - i ∧ i ≤ ds.length ∧ NL K Dl (C i) (ac i) (Γf i) (Sf i) H, ⟨ds.length, by simp, Nat.zero_le _, a0, h0, by rw [ha]; exact (z.fit hΓ hS).new hD⟩, ?_⟩
  rintro i m H' ⟨rfl, hi, a, hC, z'⟩
  obtain ⟨G, z1, z2⟩ := id z'
  obtain ⟨b, ys, ea, t1, t2⟩ := dp_lst (z2 _ (hl i a) : Dp K G (.ref p) (.list ds))
  cases ea
  have hlen := dpa_len t2
  by_cases hlt : i < ds.length
  · obtain ⟨v, e1, e2⟩ := dpa_get t2 (List.getElem?_eq_getElem hlt)
    refine .inr ⟨⟨ys, v, ext_l z1.ex t1, e1⟩, NL K Dl (C (i + 1)) (ac (i + 1)) (Γf (i + 1)) (Sf (i + 1)), fun H'' p' => ⟨ds.length - (i + 1), by omega, rfl, hlt, p'⟩, fun x H'' y => ?_⟩
    obtain ⟨rfl, y2⟩ := y
    exact hs Dl i _ x a (List.getElem?_eq_getElem hlt) hC H'' ⟨G, z1, cons_facts (f := .dat x _) (go_Q (xs := ys) (z2 _ (hl i a)) z1.ex y2 (List.getElem?_eq_getElem hlt)) z2⟩
  · have e : i = ds.length := by omega
    subst e
    exact .inl ⟨⟨ys, ext_l z1.ex t1, by omega⟩, hd Dl a hC H' z'⟩
end
end
/-! ### promises of one shape -/
def SpF {ι : Type} (K : PySem.W.Frag) (A : ι → List V) (Pr : ι → List Fc → Prop) (O : ι → List Vo) (Po : ι → V → List Fc → List Vo → Prop) (Ex : ι → Value → List Fc → List Vo → Prop) : Sp := fun vs H Q E => ∃ (i : ι) (Γ : List Fc) (S : List Vo), vs = A i ∧ Hg K Γ (O i ++ S) H ∧ Pr i Γ ∧
  (∀ v Γ' S' H', Po i v Γ' S' → Hg K (Γ' ++ Γ) (S' ++ S) H' → Q v H') ∧ ∀ e Γ' S' H', Ex i e Γ' S' → Hg K (Γ' ++ Γ) (S' ++ S) H' → E e none H'
def noEx {ι : Type} : ι → Value → List Fc → List Vo → Prop := fun _ _ _ _ => False
section
variable {ι : Type} {K : PySem.W.Frag} {Γ : List Fc} {S R : List Vo} {A : ι → List V} {Pr : ι → List Fc → Prop} {O : ι → List Vo} {Po : ι → V → List Fc → List Vo → Prop} {Ex : ι → Value → List Fc → List Vo → Prop} {Q : VK} {E : XK} {vs : List V}
theorem w_do (i : ι) (t : Takes' (O i) S R) (hp : Pr i Γ) (k : ∀ v Γ' S', Po i v Γ' S' → Wh K (Γ' ++ Γ) (S' ++ R) fun H => Q v H) (x : ∀ e Γ' S', Ex i e Γ' S' → Wh K (Γ' ++ Γ) (S' ++ R) fun H => E e none H) (hA : vs = A i := by rfl) :
    Wh K Γ S fun H => SpF K A Pr O Po Ex vs H Q E := fun _ z => ⟨i, Γ, R, hA, z.tk t, hp, fun v Γ' S' H' h z' => k v Γ' S' h H' z', fun e Γ' S' H' h z' => x e Γ' S' h H' z'⟩
theorem w_don {Q : VK} (i : ι) (t : Takes' (O i) S R) (hp : Pr i Γ) (k : ∀ v Γ' S', Po i v Γ' S' → Wh K (Γ' ++ Γ) (S' ++ R) fun H => Q v H) (hA : vs = A i := by rfl) : Wh K Γ S fun H => SpF K A Pr O Po noEx vs H Q E := w_do i t hp k (fun _ _ _ h => h.elim) hA
end
section
variable {P : Program} {w : World} {K : PySem.W.Frag} {mg : Str → Option Value} {base : Heap} {CX : CXT} {k : Nat} {f : Addr} {fd : FuncData} {ps : List Str} {a b : Sp}
theorem fn_imp (F : FnOk P w K mg base CX k f fd ps a) (h : ∀ vs H Q E, b vs H Q E → a vs H Q E) : FnOk P w K mg base CX k f fd ps b :=
  ⟨fun vs H Q E z => F.len vs H Q E (h _ _ _ _ z), fun A outer s H args us vs Q E hr he hb hv hs => F.run A outer s H args us vs Q E hr he hb hv (h _ _ _ _ hs)⟩
theorem fn_up {j : Nat} (F : FnOk P w K mg base CX k f fd ps a) (h : k ≤ j) : FnOk P w K mg base CX j f fd ps a :=
  ⟨F.len, fun A outer s H args us vs Q E hr he hb hv hs => F.run A outer s H args us vs Q E (hr.mono h) he hb hv hs⟩
end
end Mo
namespace Mo
open PySem PySem.Spec PyProof.Rows L2
/-! ### exceptions as values, lists joined, data looked at: by facts and segments -/
def exF (K : PySem.W.Frag) (c : Str) (a : Addr) : Fc := .gen (fun G => ∃ o, G a = some o ∧ IsEx (He.ga K c) a o) fun _ _ e ⟨o, h, x⟩ => ⟨o, e _ _ h, x⟩
section
variable {K : PySem.W.Frag} {Γ : List Fc} {S : List Vo} {σ : St} {Q : VK} {a : Addr} {c : Str} {A : Hp → Prop}
theorem Hg.exc {H : Hp} (z : Hg K Γ S H) (m : exF K c a ∈ Γ) : ∃ o, H a = some o ∧ IsEx (He.ga K c) a o := z.fact m
theorem isEx_O {D a : Addr} : IsEx D a (ExO (.ref D) a) := ⟨_, rfl, fun _ ⟨oe, vs, h1, h2, h3, _⟩ => ⟨oe, vs, h1, h2, h3⟩⟩
def mkX (D : Addr) (H : Hp) (Q : VK) : Prop := ∀ p, H p = none → Q (.ref p) (upd H p (ExO (.ref D) p))
theorem w_exc (k : ∀ p, Wh K (exF K c p :: Γ) S fun H => Q (.ref p) H) : Wh K Γ S fun H => mkX (He.ga K c) H Q := fun H z p hp =>
  k p _ (((z.fix (o := ExO (.ref (He.ga K c)) p) hp).learn (f := exF K c p) fun G b => ⟨_, b (.obj p _) List.mem_cons_self, isEx_O⟩).weak fun f m => by
    rcases List.mem_cons.mp m with e | m
    · rw [e]; exact List.mem_cons_self
    · exact List.mem_cons_of_mem _ (List.mem_cons_of_mem _ m))
theorem w_texc {D : Addr} {ta : TE} (k : Wh K Γ S fun H => ta σ H fun _ H1 => mkX D H1 Q) : Wh K Γ S fun H => tExc D ta σ H Q := k
theorem w_notInDt {x y : V} {d : PyData} {ds : List PyData} {b : Bool} (hx : DV K Γ x d) (m : .dat y (.list ds) ∈ Γ) (sd : SeqAt.shaped d = true) (sl : SeqAt.shaped (.list ds) = true) (e : (ds.any fun z => PyData.eqv z d) = b) (k : Wh K Γ S fun H => Q (.bl (!b)) H) : Wh K Γ S fun H => rNotInA K x y H Q := fun H z => by
  subst e
  obtain ⟨G, a, b⟩ := id z
  exact .inr (.inr ⟨d, ds, dp_mono a.ex (hx G b), z.dat m, sd, sl, k H z⟩)
theorem w_inDt {x y : V} {d : PyData} {ds : List PyData} {b : Bool} (hx : DV K Γ x d) (m : .dat y (.list ds) ∈ Γ) (sd : SeqAt.shaped d = true) (sl : SeqAt.shaped (.list ds) = true) (e : (ds.any fun z => PyData.eqv z d) = b) (k : Wh K Γ S fun H => Q (.bl b) H) : Wh K Γ S fun H => rInA K x y H Q := fun H z => by
  subst e
  obtain ⟨G, a, b⟩ := id z
  exact .inr (.inr ⟨d, ds, dp_mono a.ex (hx G b), z.dat m, sd, sl, k H z⟩)
/-- behind a suite: the exception is kept -/
theorem w_kept (k : Wh K (exF K c a :: Γ) S A) : Wh K Γ S fun H => H a = none → A (upd H a (ExV (He.ga K c) a)) := fun H z hp =>
  k _ (((z.fix (o := ExV (He.ga K c) a) hp).learn (f := exF K c a) fun G b => ⟨_, b (.obj a _) List.mem_cons_self, isEx_V⟩).weak fun f m => by
    rcases List.mem_cons.mp m with e | m
    · rw [e]; exact List.mem_cons_self
    · exact List.mem_cons_of_mem _ (List.mem_cons_of_mem _ m))
theorem w_keep {cv : Value} {i : Nat} {ts : Addr → Value → Option Addr → TS} {Wout : WX} {D : Ends} (hb : PySem.W.exmOne K (.ref (He.ga K c)) cv = some true)
    (k : ∀ a, Wh K Γ S fun H => ts a (.ref (He.ga K c)) none { nx := fun σ' H' => H' a = none → D.nx (σ'.set i none) (upd H' a (ExV (He.ga K c) a)), rt := fun v H' => H' a = none → D.rt v (upd H' a (ExV (He.ga K c) a)), bk := fun σ' H' => H' a = none → D.bk (σ'.set i none) (upd H' a (ExV (He.ga K c) a)), ct := fun σ' H' => H' a = none → D.ct (σ'.set i none) (upd H' a (ExV (He.ga K c) a)) } (σ.set i (some (.ref a))) H) :
    Wh K Γ S fun H => wKeep K cv i ts Wout D (.ref (He.ga K c)) none σ H := fun H z => ⟨true, hb, fun _ => ⟨_, rfl, fun a _ => k a H z⟩, fun h => nomatch h⟩
theorem w_isX {d : V} {cv : Value} {b : Bool} (m : exF K c a ∈ Γ) (C : ExcC K (He.ga K c)) (hc : ClsV d cv) (hk : PySem.W.kitOne K (.ref (He.ga K c)) cv = some b) (k : Wh K Γ S fun H => Q (.bl b) H) : Wh K Γ S fun H => rIsiX K [.ref a, d] H Q := fun H z => by
  obtain ⟨o, h, x⟩ := z.exc m
  exact .inr ⟨a, _, o, d, cv, b, rfl, h, x, C, hc, hk, k H z⟩
def wordQ (K : PySem.W.Frag) (ws : List (Str × Str)) (R : Addr → Addr → Hp → Prop) (x : V) (H : Hp) (Q : VK) : Prop := ∃ a p, x = .ref a ∧ p ∈ ws ∧ R a (He.ga K p.1) H ∧ Q (.str p.2) H
theorem w_word {ws : List (Str × Str)} {z : Str} (m : exF K c a ∈ Γ) (hp : (c, z) ∈ ws) (k : Wh K Γ S fun H => Q (.str z) H) : Wh K Γ S fun H => wordQ K ws keptEx (.ref a) H Q := fun H w => ⟨a, (c, z), rfl, hp, w.exc m, k H w⟩
theorem w_wordS {ws : List (Str × Str)} {z : Str} (hp : (c, z) ∈ ws) (k : Wh K Γ S fun H => Q (.str z) H) : Wh K Γ S fun H => wordQ K ws (suiteEx a (.ref (He.ga K c)) none) (.ref a) H Q := fun H w => ⟨a, (c, z), rfl, hp, ⟨rfl, rfl, rfl⟩, k H w⟩
theorem w_tword {ws : List (Str × Str)} {R : Addr → Addr → Hp → Prop} {ta : TE} (k : Wh K Γ S fun H => ta σ H fun x H1 => wordQ K ws R x H1 Q) : Wh K Γ S fun H => tWord K ws R ta σ H Q := k
/-! #### lists -/
theorem w_addL {p q : Addr} {xs ys : List V} (m : AtH K Γ S p (.lst xs)) (n : AtH K Γ S q (.lst ys)) (hl : xs.length + ys.length ≤ 100000) (k : ∀ r, Wh K Γ (own r (.lst (xs ++ ys)) :: S) fun H => Q (.ref r) H) : Wh K Γ S fun H => rAddA K (.ref p) (.ref q) H Q := fun H z =>
  go_addL (m H z) (n H z) (by rw [sizeLine_eq]; omega) fun r hr => k r _ (z.new hr)
theorem w_inL {p : Addr} {x : V} {xs : List V} {b : Bool} (m : AtH K Γ S p (.lst xs)) (fx : flatV x = true) (fs : xs.all flatV = true) (e : inV x xs = b) (k : Wh K Γ S fun H => Q (.bl b) H) : Wh K Γ S fun H => rInA K x (.ref p) H Q := fun H z => .inr (.inl ⟨p, xs, rfl, .inl (SqL.of (m H z)), fx, fs, by rw [e]; exact k H z⟩)
theorem w_eqH {x y : V} {d e : PyData} (ha : ∀ H, Hg K Γ S H → Dp K H x d) (hb : ∀ H, Hg K Γ S H → Dp K H y e) (sa : SeqAt.shaped d = true) (sb : SeqAt.shaped e = true) (k : Wh K Γ S fun H => Q (.bl (PyData.eqv d e)) H) : Wh K Γ S fun H => rEqA K x y H Q := fun H z => go_eqD (ha H z) (hb H z) sa sb (k H z)
theorem w_neH {x y : V} {d e : PyData} (ha : ∀ H, Hg K Γ S H → Dp K H x d) (hb : ∀ H, Hg K Γ S H → Dp K H y e) (sa : SeqAt.shaped d = true) (sb : SeqAt.shaped e = true) (k : Wh K Γ S fun H => Q (.bl (!PyData.eqv d e)) H) : Wh K Γ S fun H => rNeA K x y H Q := fun H z => go_neD (ha H z) (hb H z) sa sb (k H z)
theorem dpH_own {p : Addr} {xs : List V} {ds : List PyData} (m : AtH K Γ S p (.lst xs)) (h : DL K Γ xs ds) : ∀ H, Hg K Γ S H → Dp K H (.ref p) (.list ds) := fun H z => by
  have hp := m H z
  obtain ⟨G, a, b⟩ := z
  exact .lst (SqL.of hp) (dpa_mono a.ex (h G b))
theorem dpH_dv {v : V} {d : PyData} (h : DV K Γ v d) : ∀ H, Hg K Γ S H → Dp K H v d := fun H ⟨G, a, b⟩ => dp_mono a.ex (h G b)
theorem w_rng0 {j : Int} (n : Nat) (hj : j = (n : Int)) (hn : n ≤ 1000000) {g : TG} {tt : TT} {te : TE} {vs : List Nat} (k : Wh K Γ S fun H => LcA g tt te vs σ Q H (Itr 0 n)) : Wh K Γ S fun H => lcRng g tt te vs σ Q [.int j] H := w_lcR n hj hn k
end
end Mo
namespace Mo
open PySem PySem.Spec PyProof.Rows L2
/-- a state's objects: itself, its two dicts, its queues -/
def StC (K : PySem.W.Frag) (p dx b q : Addr) (as : List Addr) (s : MSt) : Ck :=
  (p, .ins (He.ga K "State") dx (fl_State (.ref b) (.ref q) (.int s.drawn) (.int s.sent))) :: (b, .dK (boxesV s.boxes)) :: (q, .dK (queuesV s.queues as)) :: (s.queues.zip as).map fun e => (e.2, .lst (e.1.2.map V.int))
structure StAt (K : PySem.W.Frag) (H : Hp) (p : Addr) (s : MSt) : Prop where
  there : ∃ dx b q as, s.queues.length = as.length ∧ InH H (StC K p dx b q as s)
theorem StAt.ext {K : PySem.W.Frag} {H H' : Hp} {p : Addr} {s : MSt} (h : StAt K H p s) (e : Ext H H') : StAt K H' p s :=
  let ⟨dx, b, q, as, h1, h2⟩ := h.there
  ⟨dx, b, q, as, h1, h2.ext e⟩
end Mo
namespace Mo
open PySem PySem.Spec PyProof.Rows L2
/-! ### a state that changes -/
def setA {α : Type} (x : Str) (v : α) (l : List (Str × α)) : List (Str × α) := l.map fun p => if p.1 = x then (x, v) else p
theorem setA_keys {α : Type} (x : Str) (v : α) (l : List (Str × α)) : (setA x v l).map (·.1) = l.map (·.1) := by
  unfold setA
  rw [List.map_map]
  refine List.map_congr_left fun p _ => ?_
  show (if p.1 = x then (x, v) else p).1 = p.1
  split
  · rename_i h; exact h.symm
  · rfl
theorem setA_len {α : Type} (x : Str) (v : α) (l : List (Str × α)) : (setA x v l).length = l.length := List.length_map ..
theorem lookD_set {α : Type} {d v : α} {x y : Str} : ∀ {l : List (Str × α)}, x ∈ l.map (·.1) → lookD d y (setA x v l) = if y = x then v else lookD d y l
  | [], h => by simp at h
  | p :: r, h => by
    by_cases e : p.1 = x
    · have e1 : setA x v (p :: r) = (x, v) :: setA x v r := by unfold setA; rw [List.map_cons, if_pos e]
      rw [e1]
      show (if x = y then v else lookD d y (setA x v r)) = if y = x then v else (if p.1 = y then p.2 else lookD d y r)
      by_cases f : y = x
      · rw [if_pos f.symm, if_pos f]
      · rw [if_neg (fun z => f z.symm), if_neg f, if_neg (fun z => f (by rw [← z, e]))]
        by_cases g : x ∈ r.map (·.1)
        · rw [lookD_set g, if_neg f]
        · have : setA x v r = r := by
            unfold setA
            conv => rhs; rw [← List.map_id r]
            refine List.map_congr_left fun q hq => ?_
            rw [if_neg]
            · rfl
            · intro z
              exact g (by rw [← z]; exact List.mem_map_of_mem hq)
          rw [this]
    · have e1 : setA x v (p :: r) = p :: setA x v r := by unfold setA; rw [List.map_cons, if_neg e]
      rw [List.map_cons, List.mem_cons] at h
      have h2 := h.resolve_left fun z => e z.symm
      rw [e1]
      show (if p.1 = y then p.2 else lookD d y (setA x v r)) = if y = x then v else (if p.1 = y then p.2 else lookD d y r)
      rw [lookD_set h2]
      by_cases f : p.1 = y
      · rw [if_pos f, if_pos f, if_neg (fun z => e (by rw [f, z]))]
      · rw [if_neg f, if_neg f]
theorem boxesV_set {bs : List (Str × Int)} {x : Str} {n : Int} (h : x ∈ bs.map (·.1)) : putK (boxesV bs) (Sum.inr x) (.int n) = boxesV (setA x n bs) := by
  unfold putK
  rw [valV_any, val_boxes h, Option.isSome_some, if_pos rfl]
  unfold boxesV setA
  rw [List.map_map, List.map_map]
  refine List.map_congr_left fun p _ => ?_
  show (if (Sum.inr p.1 : Key) = Sum.inr x then ((Sum.inr p.1 : Key), V.int n) else (Sum.inr p.1, V.int p.2)) = ((Sum.inr (if p.1 = x then (x, n) else p).1 : Key), V.int (if p.1 = x then (x, n) else p).2)
  by_cases e : p.1 = x
  · rw [if_pos e, if_pos (by rw [e]), e]
  · rw [if_neg e, if_neg (fun z => e (Sum.inr.inj z))]
theorem queuesV_set {qs : List (Str × List Int)} {as : List Addr} {x : Str} {ns : List Int} : queuesV (setA x ns qs) as = queuesV qs as := by
  unfold queuesV setA
  rw [List.zip_map_left, List.map_map]
  refine List.map_congr_left fun p _ => ?_
  show ((Sum.inr (if p.1.1 = x then (x, ns) else p.1).1 : Key), V.ref p.2) = (Sum.inr p.1.1, V.ref p.2)
  split
  · rename_i h; rw [h]
  · rfl
def MSt.setB (s : MSt) (x : Str) (n : Int) : MSt := { s with boxes := setA x n s.boxes }
def MSt.setQ (s : MSt) (x : Str) (ns : List Int) : MSt := { s with queues := setA x ns s.queues }
theorem MSt.setB_bs (s : MSt) (x : Str) (n : Int) : (s.setB x n).bs = s.bs := setA_keys ..
theorem MSt.setB_qs (s : MSt) (x : Str) (n : Int) : (s.setB x n).qs = s.qs := rfl
theorem MSt.setQ_bs (s : MSt) (x : Str) (n : List Int) : (s.setQ x n).bs = s.bs := rfl
theorem MSt.setQ_qs (s : MSt) (x : Str) (n : List Int) : (s.setQ x n).qs = s.qs := setA_keys ..
abbrev stV (K : PySem.W.Frag) (p dx b q : Addr) (as : List Addr) (s : MSt) : Vo := vo (StC K p dx b q as s)
theorem stV_eq (K : PySem.W.Frag) (p dx b q : Addr) (as : List Addr) (s : MSt) : stV K p dx b q as s = (p, Eq (.ins (He.ga K "State") dx (fl_State (.ref b) (.ref q) (.int s.drawn) (.int s.sent)))) :: (b, Eq (.dK (boxesV s.boxes))) :: (q, Eq (.dK (queuesV s.queues as))) :: (s.queues.zip as).map fun e => (e.2, Eq (.lst (e.1.2.map V.int))) := by
  unfold stV StC vo
  simp only [List.map_cons, List.map_map]
  rfl
section
variable {K : PySem.W.Frag} {G H : Hp} {L : Vo} {p dx b q : Addr} {as : List Addr} {s : MSt} {x : Str}
theorem st_obj (z : Hd G H (stV K p dx b q as s ++ L)) : H p = some (.ins (He.ga K "State") dx (fl_State (.ref b) (.ref q) (.int s.drawn) (.int s.sent))) := by
  rw [stV_eq] at z
  exact z.eq List.mem_cons_self
theorem st_box (z : Hd G H (stV K p dx b q as s ++ L)) : H b = some (.dK (boxesV s.boxes)) := by
  rw [stV_eq] at z
  exact z.eq (List.mem_cons_of_mem _ List.mem_cons_self)
theorem st_que (z : Hd G H (stV K p dx b q as s ++ L)) : H q = some (.dK (queuesV s.queues as)) := by
  rw [stV_eq] at z
  exact z.eq (List.mem_cons_of_mem _ (List.mem_cons_of_mem _ List.mem_cons_self))
theorem st_at (z : Hd G H (stV K p dx b q as s ++ L)) (hl : s.queues.length = as.length) : StAt K H p s := ⟨dx, b, q, as, hl, z.inH fun e he => List.mem_append_left _ he⟩
theorem st_setB (z : Hd G H (stV K p dx b q as s ++ L)) (h : x ∈ s.bs) (n : Int) : Hd G (upd H b (.dK (putK (boxesV s.boxes) (Sum.inr x) (.int n)))) (stV K p dx b q as (s.setB x n) ++ L) := by
  rw [stV_eq] at z ⊢
  rw [boxesV_set h]
  exact z.set1 rfl
theorem st_setN (z : Hd G H (stV K p dx b q as s ++ L)) (d e : Int) : Hd G (upd H p (.ins (He.ga K "State") dx (fl_State (.ref b) (.ref q) (.int d) (.int e)))) (stV K p dx b q as { s with drawn := d, sent := e } ++ L) := by
  rw [stV_eq] at z ⊢
  exact z.set0 rfl
theorem nodup_at {α : Type} {l : List (Str × α)} {i : Nat} {y : Str × α} (h : (l.map (·.1)).Nodup) (hi : l[i]? = some y) : ∀ j z, l[j]? = some z → z.1 = y.1 → j = i := fun j z hj e => by
  have h1 : (l.map (·.1))[i]? = some y.1 := by rw [List.getElem?_map, hi]; rfl
  have h2 : (l.map (·.1))[j]? = some y.1 := by rw [List.getElem?_map, hj, ← e]; rfl
  have hl : i < (l.map (·.1)).length := (List.getElem?_eq_some_iff.mp h1).1
  exact (List.getElem?_inj hl h).mp (h1.trans h2.symm) |>.symm
theorem setA_at {α : Type} {l : List (Str × α)} {i : Nat} {x : Str} {v w : α} (h : (l.map (·.1)).Nodup) (hi : l[i]? = some (x, w)) : setA x v l = l.set i (x, v) := by
  apply List.ext_getElem?
  intro j
  unfold setA
  rw [List.getElem?_map, List.getElem?_set]
  by_cases e : i = j
  · subst e
    rw [hi, if_pos rfl, if_pos (List.getElem?_eq_some_iff.mp hi).1]
    show some (if x = x then (x, v) else (x, w)) = _
    rw [if_pos rfl]
  · rw [if_neg e]
    cases hj : l[j]? with
    | none => rfl
    | some y =>
      show some (if y.1 = x then (x, v) else y) = some y
      rw [if_neg]
      intro z
      exact e (nodup_at h hi j y hj z).symm
theorem st_setQ (z : Hd G H (stV K p dx b q as s ++ L)) (hl : s.queues.length = as.length) (nd : s.qs.Nodup) (h : x ∈ s.qs) : ∃ a, valV (queuesV s.queues as) (Sum.inr x) = some (.ref a) ∧ H a = some (.lst ((lookD [] x s.queues).map V.int)) ∧
    ∀ ns : List Int, Hd G (upd H a (.lst (ns.map V.int))) (stV K p dx b q as (s.setQ x ns) ++ L) := by
  obtain ⟨i, a, h1, h2, h3⟩ := val_queues hl h
  rw [stV_eq] at z
  have hz : (s.queues.zip as)[i]? = some ((x, lookD [] x s.queues), a) := by rw [List.getElem?_zip_eq_some]; exact ⟨h1, h2⟩
  have hz2 : ((s.queues.zip as).map fun e => (e.2, Eq (HO.lst (e.1.2.map V.int))))[i]? = some (a, Eq (HO.lst ((lookD [] x s.queues).map V.int))) := by rw [List.getElem?_map, hz]; rfl
  have hil := (List.getElem?_eq_some_iff.mp hz2).1
  have hi3 : ((p, Eq (HO.ins (He.ga K "State") dx (fl_State (.ref b) (.ref q) (.int s.drawn) (.int s.sent)))) :: (b, Eq (HO.dK (boxesV s.boxes))) :: (q, Eq (HO.dK (queuesV s.queues as))) :: ((s.queues.zip as).map fun e => (e.2, Eq (HO.lst (e.1.2.map V.int)))) ++ L)[i + 3]? = some (a, Eq (HO.lst ((lookD [] x s.queues).map V.int))) := by
    simp only [List.cons_append, List.getElem?_cons_succ]
    rw [List.getElem?_append_left hil]
    exact hz2
  refine ⟨a, h3, z.eq (List.mem_of_getElem? hi3), fun ns => ?_⟩
  have z2 := z.set (o' := .lst (ns.map V.int)) (ψ := Eq (.lst (ns.map V.int))) (i + 3) hi3 rfl
  rw [stV_eq]
  have e1 : (s.setQ x ns).queues = s.queues.set i (x, ns) := setA_at nd h1
  have e2 : ((s.setQ x ns).queues.zip as).map (fun e => (e.2, Eq (HO.lst (e.1.2.map V.int)))) = ((s.queues.zip as).map fun e => (e.2, Eq (HO.lst (e.1.2.map V.int)))).set i (a, Eq (.lst (ns.map V.int))) := by
    rw [e1]
    apply List.ext_getElem?
    intro j
    rw [List.getElem?_set, List.getElem?_map, List.getElem?_map]
    by_cases e : i = j
    · subst e
      rw [if_pos rfl, if_pos hil]
      have : ((s.queues.set i (x, ns)).zip as)[i]? = some ((x, ns), a) := by
        rw [List.getElem?_zip_eq_some]
        refine ⟨?_, h2⟩
        rw [List.getElem?_set, if_pos rfl, if_pos (List.getElem?_eq_some_iff.mp h1).1]
      rw [this]
      rfl
    · rw [if_neg e]
      have : ((s.queues.set i (x, ns)).zip as)[j]? = (s.queues.zip as)[j]? := by
        rw [List.zip, List.getElem?_zipWith, List.getElem?_zipWith, List.getElem?_set, if_neg e]
      rw [this]
  have e3 : queuesV (s.setQ x ns).queues as = queuesV s.queues as := queuesV_set
  rw [e2, e3]
  simp only [List.cons_append, List.set_cons_succ] at z2
  rw [List.set_append_left _ _ hil] at z2
  exact z2
end
theorem lookD_mem {bs : List (Str × Int)} (h : ∀ p ∈ bs, Worth p.2) (x : Str) : Worth (lookD 0 x bs) := by
  induction bs with
  | nil =>
    show Worth 0
    exact ⟨by decide, by decide⟩
  | cons p r ih =>
    show Worth (if p.1 = x then p.2 else lookD 0 x r)
    split
    · exact h p List.mem_cons_self
    · exact ih fun q hq => h q (List.mem_cons_of_mem _ hq)
theorem lookQ_len {qs : List (Str × List Int)} {n : Nat} (h : ∀ p ∈ qs, p.2.length ≤ n) (x : Str) : (lookD [] x qs).length ≤ n := by
  induction qs with
  | nil => exact Nat.zero_le _
  | cons p r ih =>
    show (if p.1 = x then p.2 else lookD [] x r).length ≤ n
    split
    · exact h p List.mem_cons_self
    · exact ih fun q hq => h q (List.mem_cons_of_mem _ hq)
theorem setQ_all {s : MSt} {x : Str} {ns : List Int} {φ : List Int → Prop} (h : ∀ p ∈ s.queues, φ p.2) (hn : φ ns) : ∀ p ∈ (s.setQ x ns).queues, φ p.2 := fun p hp => by
  obtain ⟨q, hq, rfl⟩ := List.mem_map.mp hp
  show φ (if q.1 = x then (x, ns) else q).2
  split
  · exact hn
  · exact h q hq
end Mo
namespace Mo
open PySem PySem.Spec PyProof.Rows L2
/-! ### formulas.py -/
/-- a fault's exception -/
def fltE (K : PySem.W.Frag) (x : Flt) : Value := .ref (He.ga K x.cls)
def spKept (K : PySem.W.Frag) : Sp := fun vs H Q E => ∃ n : Int, vs = [.int n] ∧ (∀ m, keptIn n = .ok m → Q (.int m) H) ∧ (∀ x, keptIn n = .error x → E (fltE K x) none H)
def spOfTwo (K : PySem.W.Frag) : Sp := fun vs H Q E => ∃ (o : Op) (a b : Int), vs = [.str o.name, .int a, .int b] ∧ Worth a ∧ Worth b ∧ (∀ m, o.raw a b = .ok m → Q (.int m) H) ∧ (∀ x, o.raw a b = .error x → E (fltE K x) none H)
def spWorthOf (n : Nat) (K : PySem.W.Frag) : Sp := fun vs H Q E => ∃ (x : V) (f : Fm) (p g : Addr) (s : MSt) (now g0 g1 : Int), vs = [x, .ref p, .int now, .ref g] ∧ Dp K H x f.data ∧ f.depth < n ∧ StAt K H p s ∧
  SqL K H g [.int g0, .int g1] ∧ f.Ok s.bs s.qs ∧ (s.env now g0 g1).Ok s.bs s.qs ∧
  (∀ m, f.ev (s.env now g0 g1) = .ok m → Q (.int m) H) ∧ (∀ x, f.ev (s.env now g0 g1) = .error x → E (fltE K x) none H)
section
variable {P : Program} {w : World} {K : PySem.W.Frag} {mg : Str → Option Value} {base : Heap}
theorem ok_kept_in (T : Tx K mg) : OkG P w K mg base 1 "kept_in" ["number"] (spKept K) := by
  refine T.f_kept_in.okX sc_kept_in (fun vs H Q E h => ?_) (fun cdv A outer s H vs Q E hr h => ?_)
  · obtain ⟨n, rfl, _⟩ := h
    rfl
  · have hu1 := hu_of hr; have hu0 := hr.units0; have hu64 := hr.units; have hu65 := hu65_of hr; have nd := sc_kept_in.nd
    obtain ⟨n, rfl, q1, q2⟩ := h
    refine ⟨_, (pss_cons (ps_if (PW.pt (pw_or (pt_cmpR (op_ltK (K := K) rfl hu0) (pv 0) (pe_un un_neg (T.v_MOST)) (nomark _)) (pw_or1 (pt_cmpR (op_gt) (pv 0) (T.v_MOST) (nomark _))))) (pss_one (ps_raise rfl (takes_of rfl rfl rfl rfl) (mk_Great T rfl rfl)))
      pss_nil)
      (pss_one (ps_ret (pv 0)))), ?_⟩
    refine go_start (σ' := [some (.int n)]) rfl ?_
    k_extra "w"
    refine go_ite (fun h => ?_) (fun h => ?_)
    · exact q2 .great (by unfold keptIn; rw [if_pos (.inl h)])
    · k_extra "w"
      refine go_ite (fun h2 => ?_) (fun h2 => ?_)
      · exact q2 .great (by unfold keptIn; rw [if_pos (.inr h2)])
      · k_extra "w"
        exact q1 _ (by unfold keptIn; rw [if_neg (by intro z; rcases z with z | z; exact h z; exact h2 z)])
theorem ok_of_two (T : Tx K mg) : OkG P w K mg base 1 "of_two" ["word", "one", "other"] (spOfTwo K) := by
  refine T.f_of_two.okX sc_of_two (fun vs H Q E h => ?_) (fun cdv A outer s H vs Q E hr h => ?_)
  · obtain ⟨o, a, b, rfl, _⟩ := h
    rfl
  · have hu1 := hu_of hr; have hu0 := hr.units0; have hu64 := hr.units; have hu65 := hu65_of hr; have nd := sc_of_two.nd
    obtain ⟨o, a, b, rfl, wa, wb, q1, q2⟩ := h
    refine ⟨_, (pss_cons (ps_if (pt_cmpR (op_eqK (K := K) rfl hu64) (pv 0) pe_str (nomark _)) (pss_one (ps_ret (pe_op (op_addK (K := K) rfl) (pv 1) (pv 2))))
      pss_nil)
      (pss_cons (ps_if (pt_cmpR (op_eqK (K := K) rfl hu64) (pv 0) pe_str (nomark _)) (pss_one (ps_ret (pe_op op_sub (pv 1) (pv 2))))
      pss_nil)
      (pss_cons (ps_if (pt_cmpR (op_eqK (K := K) rfl hu64) (pv 0) pe_str (nomark _)) (pss_one (ps_ret (pe_op op_mulX (pv 1) (pv 2))))
      pss_nil)
      (pss_cons (ps_if (pt_cmpR (op_eqK (K := K) rfl hu64) (pv 0) pe_str (nomark _)) (pss_one (ps_ret (pe_callTy call_int1 (by rfl) T.b_int (by decide +kernel) (pa_cons (pe_cmpR (op_ltK (K := K) rfl hu0) (pv 1) (pv 2) (nomark _)) pa_nil))))
      pss_nil)
      (pss_cons (ps_if (pt_cmpR (op_eqK (K := K) rfl hu64) (pv 0) pe_str (nomark _)) (pss_one (ps_ret (pe_callTy call_int1 (by rfl) T.b_int (by decide +kernel) (pa_cons (pe_cmpR (op_eqK (K := K) rfl hu64) (pv 1) (pv 2) (nomark _)) pa_nil))))
      pss_nil)
      (pss_cons (ps_if (pt_cmpR (op_eqK (K := K) rfl hu64) (pv 2) pe_int (nomark _)) (pss_one (ps_raise rfl (takes_of rfl rfl rfl rfl) (mk_Nought T rfl rfl)))
      pss_nil)
      (pss_cons (ps_if (pt_cmpR (op_eqK (K := K) rfl hu64) (pv 0) pe_str (nomark _)) (pss_one (ps_ret (pe_op op_fdivX (pv 1) (pv 2))))
      pss_nil)
      (pss_one (ps_ret (pe_op op_modX (pv 1) (pv 2))))))))))), ?_⟩
    refine go_start (σ' := [some (.str o.name), some (.int a), some (.int b)]) rfl ?_
    have ei : ∀ (p : Prop) [Decidable p], (if decide p = true then (1 : Int) else 0) = if p then 1 else 0 := fun p _ => by by_cases h : p <;> simp [h]
    cases o <;> dsimp only [Op.name] <;> k_extra "we"
    · exact q1 _ rfl
    · exact q1 _ rfl
    · exact go_I ((worth_bd wa).cmul (worth_bd wb)) (q1 _ rfl)
    · refine go_ite (fun h => ?_) (fun h => ?_)
      · exact q2 .nought (if_pos h)
      · k_extra "we"
        exact go_div 50 h (worth_bd wb) (q1 _ (if_neg h))
    · refine go_ite (fun h => ?_) (fun h => ?_)
      · exact q2 .nought (if_pos h)
      · k_extra "we"
        exact go_mod h (q1 _ (if_neg h))
    · rw [ei]
      exact q1 _ rfl
    · rw [ei]
      exact q1 _ rfl
theorem stAt_env {H : Hp} {p : Addr} {s : MSt} (h : StAt K H p s) : ∃ dx b q, H p = some (.ins (He.ga K "State") dx (fl_State (.ref b) (.ref q) (.int s.drawn) (.int s.sent))) ∧ H b = some (.dK (boxesV s.boxes)) ∧
    ∃ as, H q = some (.dK (queuesV s.queues as)) ∧ ∀ x ∈ s.qs, ∃ a, valV (queuesV s.queues as) (Sum.inr x) = some (.ref a) ∧ H a = some (.lst ((lookD [] x s.queues).map V.int)) := by
  obtain ⟨dx, b, q, as, hl, hi⟩ := h.there
  refine ⟨dx, b, q, hi _ (List.mem_cons_self), hi _ (List.mem_cons_of_mem _ List.mem_cons_self), as, hi _ (List.mem_cons_of_mem _ (List.mem_cons_of_mem _ List.mem_cons_self)), fun x hx => ?_⟩
  obtain ⟨i, a, h1, h2, h3⟩ := val_queues hl hx
  refine ⟨a, h3, hi (a, _) (List.mem_cons_of_mem _ (List.mem_cons_of_mem _ (List.mem_cons_of_mem _ ?_)))⟩
  refine List.mem_map.mpr ⟨((x, lookD [] x s.queues), a), ?_, rfl⟩
  have e : (s.queues.zip as)[i]? = some ((x, lookD [] x s.queues), a) := by rw [List.getElem?_zip_eq_some]; exact ⟨h1, h2⟩
  exact List.mem_of_getElem? e
theorem ok_worth_of (T : Tx K mg) : ∀ n, OkG P w K mg base (n + 2) "worth_of" ["formula", "state", "now", "got"] (spWorthOf n K) := by
  have G_kept_in := ok_kept_in (P := P) (w := w) (base := base) T
  have G_of_two := ok_of_two (P := P) (w := w) (base := base) T
  intro n
  induction n with
  | zero =>
    refine T.f_worth_of.okX sc_worth_of (fun vs H Q E h => ?_) (fun cdv A outer s H vs Q E hr h => ?_)
    · obtain ⟨x, f, p, g, s, now, g0, g1, rfl, _⟩ := h
      rfl
    · obtain ⟨x, f, p, g, s, now, g0, g1, rfl, hx, hd, _⟩ := h
      exact absurd hd (Nat.not_lt_zero _)
  | succ n G_worth_of =>
    refine T.f_worth_of.okX sc_worth_of (fun vs H Q E h => ?_) (fun cdv A outer s H vs Q E hr h => ?_)
    · obtain ⟨x, f, p, g, s, now, g0, g1, rfl, _⟩ := h
      rfl
    · have hu1 := hu_of hr; have hu0 := hr.units0; have hu64 := hr.units; have hu65 := hu65_of hr; have nd := sc_worth_of.nd
      obtain ⟨x, f, p, g, s, now, g0, g1, rfl, hx, hd, hs, hg, hf, he, q1, q2⟩ := h
      refine ⟨_, (pss_cons (ps_set (i := 4) nd rfl (Or.inl rfl) (pe_ix (ix_anyK (K := K) rfl hu1) (pv 0) pe_int (fun _ _ => rfl)))
      (pss_cons (ps_if (pt_cmpR (op_eqK (K := K) rfl hu64) (pv 4) pe_str (nomark _)) (pss_one (ps_ret (pe_ix (ix_anyK (K := K) rfl hu1) (pv 0) pe_int (fun _ _ => rfl))))
      pss_nil)
      (pss_cons (ps_if (pt_cmpR (op_eqK (K := K) rfl hu64) (pv 4) pe_str (nomark _)) (pss_one (ps_ret (pe_ix (ix_anyK (K := K) rfl hu1) (pe_fldK (K := K) rfl (pv 1) rfl) (pe_ix (ix_anyK (K := K) rfl hu1) (pv 0) pe_int (fun _ _ => rfl)) (fun _ _ => rfl))))
      pss_nil)
      (pss_cons (ps_if (pt_cmpR (op_eqK (K := K) rfl hu64) (pv 4) pe_str (nomark _)) (pss_one (ps_ret (pe_callB (call_lenK (K := K) rfl) (by rfl) T.b_len (by decide +kernel) (pa_cons (pe_ix (ix_anyK (K := K) rfl hu1) (pe_fldK (K := K) rfl (pv 1) rfl) (pe_ix (ix_anyK (K := K) rfl hu1) (pv 0) pe_int (fun _ _ => rfl)) (fun _ _ => rfl)) pa_nil))))
      pss_nil)
      (pss_cons (ps_if (pt_cmpR (op_eqK (K := K) rfl hu64) (pv 4) pe_str (nomark _)) (pss_one (ps_ret (pe_ix (ix_anyK (K := K) rfl hu1) (pv 3) (pe_ix (ix_anyK (K := K) rfl hu1) (pv 0) pe_int (fun _ _ => rfl)) (fun _ _ => rfl))))
      pss_nil)
      (pss_cons (ps_if (pt_cmpR (op_eqK (K := K) rfl hu64) (pv 4) pe_str (nomark _)) (pss_one (ps_ret (pv 2)))
      pss_nil)
      (pss_cons (ps_set (i := 5) nd rfl (Or.inl rfl) (pcl T.g_worth_of G_worth_of hr (takes_of rfl rfl rfl rfl) (pa_cons (pe_ix (ix_anyK (K := K) rfl hu1) (pv 0) pe_int (fun _ _ => rfl)) (pa_cons (pv 1) (pa_cons (pv 2) (pa_cons (pv 3) pa_nil))))))
      (pss_one (ps_ret (pcl T.g_kept_in G_kept_in hr (takes_of rfl rfl rfl rfl) (pa_cons (pcl T.g_of_two G_of_two hr (takes_of rfl rfl rfl rfl) (pa_cons (pv 4) (pa_cons (pv 5) (pa_cons (pcl T.g_worth_of G_worth_of hr (takes_of rfl rfl rfl rfl) (pa_cons (pe_ix (ix_anyK (K := K) rfl hu1) (pv 0) pe_int (fun _ _ => rfl)) (pa_cons (pv 1) (pa_cons (pv 2) (pa_cons (pv 3) pa_nil))))) pa_nil)))) pa_nil))))))))))), ?_⟩
      refine go_start (σ' := [some x, some (.ref p), some (.int now), some (.ref g), none, none]) rfl ?_
      obtain ⟨dx, b, q, hp, hb, as, hq, hqs⟩ := stAt_env hs
      cases f with
      | num m =>
        k_extra "we"
        refine go_subDT hx (n := 0) rfl rfl fun v hv => ?_
        obtain rfl := dp_str hv
        k_extra "we"
        refine go_subDT hx (n := 1) rfl rfl fun v hv => ?_
        obtain rfl := dp_int hv
        k_extra "we"
        exact q1 _ rfl
      | box y =>
        k_extra "we"
        refine go_subDT hx (n := 0) rfl rfl fun v hv => ?_
        obtain rfl := dp_str hv
        k_extra "we"
        refine go_fldL hp T.c_State T.n_State_boxes lk_State_boxes ?_
        k_extra "we"
        refine go_subDT hx (n := 1) rfl rfl fun v hv => ?_
        obtain rfl := dp_str hv
        k_extra "we"
        refine go_subK hb (val_boxes hf) ?_
        exact q1 _ rfl
      | long y =>
        k_extra "we"
        refine go_subDT hx (n := 0) rfl rfl fun v hv => ?_
        obtain rfl := dp_str hv
        k_extra "we"
        refine go_fldL hp T.c_State T.n_State_queues lk_State_queues ?_
        k_extra "we"
        refine go_subDT hx (n := 1) rfl rfl fun v hv => ?_
        obtain rfl := dp_str hv
        k_extra "we"
        obtain ⟨a, h1, h2⟩ := hqs y hf
        refine go_subK hq h1 ?_
        k_extra "we"
        refine go_lenL (SqL.of h2) ?_
        rw [List.length_map]
        exact q1 _ rfl
      | got j =>
        k_extra "we"
        refine go_subDT hx (n := 0) rfl rfl fun v hv => ?_
        obtain rfl := dp_str hv
        k_extra "we"
        refine go_subDT hx (n := 1) rfl rfl fun v hv => ?_
        obtain rfl := dp_int hv
        k_extra "we"
        have hj : j < 2 := hf
        refine go_subL hg (v := .int ((s.env now g0 g1).got j)) (atI_nat ?_) ?_
        · match j, hj with
          | 0, _ => rfl
          | 1, _ => rfl
        · exact q1 _ rfl
      | now =>
        k_extra "we"
        refine go_subDT hx (n := 0) rfl rfl fun v hv => ?_
        obtain rfl := dp_str hv
        k_extra "we"
        exact q1 _ rfl
      | two o f1 f2 =>
        have hd2 : max f1.depth f2.depth + 1 < n + 1 := hd
        have hf1 : f1.Ok s.bs s.qs := hf.1
        have hf2 : f2.Ok s.bs s.qs := hf.2
        have eE : ∀ r, (Fm.two o f1 f2).ev (s.env now g0 g1) = r ↔ (match f1.ev (s.env now g0 g1) with
          | .error x => .error x
          | .ok a => match f2.ev (s.env now g0 g1) with
            | .error x => .error x
            | .ok b => o.ev a b) = r := fun r => Iff.rfl
        have on : ∀ z ∈ (["number", "box", "long", "got", "now"] : List Str), o.name ≠ z := by cases o <;> decide +kernel
        k_extra "we"
        refine go_subDT hx (n := 0) rfl rfl fun v hv => ?_
        obtain rfl := dp_str hv
        k_extra "we"
        refine go_eqsF (on _ (by simp)) ?_
        k_extra "we"
        refine go_eqsF (on _ (by simp)) ?_
        k_extra "we"
        refine go_eqsF (on _ (by simp)) ?_
        k_extra "we"
        refine go_eqsF (on _ (by simp)) ?_
        k_extra "we"
        refine go_eqsF (on _ (by simp)) ?_
        k_extra "we"
        refine go_subDT hx (n := 1) rfl rfl fun v1 hv1 => ?_
        k_extra "we"
        refine ⟨v1, f1, p, g, s, now, g0, g1, rfl, hv1, by omega, hs, hg, hf1, he, fun a e1 => ?_, fun x e1 => ?_⟩
        · k_extra "we"
          refine go_subDT hx (n := 2) rfl rfl fun v2 hv2 => ?_
          k_extra "we"
          refine ⟨v2, f2, p, g, s, now, g0, g1, rfl, hv2, by omega, hs, hg, hf2, he, fun b e2 => ?_, fun x e2 => ?_⟩
          · k_extra "we"
            refine ⟨o, a, b, rfl, Fm.ev_worth he hf1 e1, Fm.ev_worth he hf2 e2, fun c e3 => ?_, fun x e3 => ?_⟩
            · k_extra "we"
              have eo : o.ev a b = keptIn c := by unfold Op.ev; rw [e3]
              refine ⟨c, rfl, fun d e4 => ?_, fun x e4 => ?_⟩
              · exact q1 _ ((eE _).mpr (by rw [e1, e2]; exact eo.trans e4))
              · exact q2 _ ((eE _).mpr (by rw [e1, e2]; exact eo.trans e4))
            · exact q2 _ ((eE _).mpr (by rw [e1, e2]; show o.ev a b = _; unfold Op.ev; rw [e3]))
          · exact q2 _ ((eE _).mpr (by rw [e1, e2]))
        · exact q2 _ ((eE _).mpr (by rw [e1]))
end
end Mo
namespace Mo
open PySem PySem.Spec PyProof.Rows L2
/-! ### a state, by facts and segments -/
def quV (qs : List (Str × List Int)) (as : List Addr) : Vo := (qs.zip as).map fun e => (e.2, Eq (HO.lst (e.1.2.map V.int)))
theorem quV_app {qs rs : List (Str × List Int)} {as bs : List Addr} (h : qs.length = as.length) : quV (qs ++ rs) (as ++ bs) = quV qs as ++ quV rs bs := by
  unfold quV
  rw [List.zip_append h, List.map_append]
theorem stV_qu (K : PySem.W.Frag) (p dx b q : Addr) (as : List Addr) (s : MSt) : stV K p dx b q as s = (p, Eq (.ins (He.ga K "State") dx (fl_State (.ref b) (.ref q) (.int s.drawn) (.int s.sent)))) :: (b, Eq (.dK (boxesV s.boxes))) :: (q, Eq (.dK (queuesV s.queues as))) :: quV s.queues as := stV_eq ..
section
variable {K : PySem.W.Frag} {Γ : List Fc} {S S' : List Vo} {Q : VK} {E : XK} {p dx b q : Addr} {as : List Addr} {s : MSt} {x : Str}
theorem at_st (m : stV K p dx b q as s ∈ S) : AtH K Γ S p (.ins (He.ga K "State") dx (fl_State (.ref b) (.ref q) (.int s.drawn) (.int s.sent))) := AtH.seg m fun _ _ _ z => st_obj z
theorem at_bx (m : stV K p dx b q as s ∈ S) : AtH K Γ S b (.dK (boxesV s.boxes)) := AtH.seg m fun _ _ _ z => st_box z
theorem at_qu (m : stV K p dx b q as s ∈ S) : AtH K Γ S q (.dK (queuesV s.queues as)) := AtH.seg m fun _ _ _ z => st_que z
theorem at_q {a : Addr} (m : stV K p dx b q as s ∈ S) (hl : s.queues.length = as.length) (nd : s.qs.Nodup) (hx : x ∈ s.qs) (e : valV (queuesV s.queues as) (Sum.inr x) = some (.ref a)) : AtH K Γ S a (.lst ((lookD [] x s.queues).map V.int)) := AtH.seg m fun G H L z => by
  obtain ⟨a', h1, h2, _⟩ := st_setQ z hl nd hx
  rw [e] at h1
  cases h1
  exact h2
theorem ch_setB (hx : x ∈ s.bs) (n : Int) : Ch (stV K p dx b q as s) b (.dK (putK (boxesV s.boxes) (Sum.inr x) (.int n))) (stV K p dx b q as (s.setB x n)) := fun _ _ _ z => st_setB z hx n
theorem ch_setN (d e : Int) : Ch (stV K p dx b q as s) p (.ins (He.ga K "State") dx (fl_State (.ref b) (.ref q) (.int d) (.int e))) (stV K p dx b q as { s with drawn := d, sent := e }) := fun _ _ _ z => st_setN z d e
theorem ch_setQ {a : Addr} (hl : s.queues.length = as.length) (nd : s.qs.Nodup) (hx : x ∈ s.qs) (e : valV (queuesV s.queues as) (Sum.inr x) = some (.ref a)) (ns : List Int) : Ch (stV K p dx b q as s) a (.lst (ns.map V.int)) (stV K p dx b q as (s.setQ x ns)) := fun G H L z => by
  obtain ⟨a', h1, _, h3⟩ := st_setQ z hl nd hx
  rw [e] at h1
  cases h1
  exact h3 ns
theorem q_addr (hl : s.queues.length = as.length) (hx : x ∈ s.qs) : ∃ a, valV (queuesV s.queues as) (Sum.inr x) = some (.ref a) := by
  obtain ⟨i, a, _, _, h⟩ := val_queues hl hx
  exact ⟨a, h⟩
theorem boxesV_len (bs : List (Str × Int)) : (boxesV bs).length = bs.length := List.length_map ..
/-- the state's boxes are written -/
theorem w_setSt {n : Int} {A : Hp → Prop} (m : Rp (stV K p dx b q as s) (stV K p dx b q as (s.setB x n)) S S') (hx : x ∈ s.bs) (hl : s.boxes.length ≤ 1000) (k : Wh K Γ S' A) : Wh K Γ S fun H => rSet (.ref b) (.str x) (.int n) H A := fun H z =>
  go_setK (at_bx m.mem H z) (by rw [boxesV_len, sizeLine_eq]; omega) (k _ (z.rp m (ch_setB hx n)))
theorem w_appQ {n : Int} {a : Addr} (m : Rp (stV K p dx b q as s) (stV K p dx b q as (s.setQ x (lookD [] x s.queues ++ [n]))) S S') (hl : s.queues.length = as.length) (nd : s.qs.Nodup) (hx : x ∈ s.qs) (e : valV (queuesV s.queues as) (Sum.inr x) = some (.ref a)) (hn : (lookD [] x s.queues).length ≤ 1000) (k : Wh K Γ S' fun H => Q .non H) :
    Wh K Γ S fun H => rAppend (.ref a) [.int n] H Q := fun H z => go_app (at_q m.mem hl nd hx e H z) (by rw [List.length_map, sizeLine_eq]; omega) (by
  have z1 := z.rp m (ch_setQ hl nd hx e (lookD [] x s.queues ++ [n]))
  rw [List.map_append] at z1
  exact k _ z1)
theorem w_putDrawn {d : Int} {A : Hp → Prop} (m : Rp (stV K p dx b q as s) (stV K p dx b q as { s with drawn := d }) S S') (k : Wh K Γ S' A) :
    Wh K Γ S fun H => ∃ dx' fs', H p = some (.ins (He.ga K "State") dx' fs') ∧ fs'.length < 1000 ∧ A (upd H p (.ins (He.ga K "State") dx' (putF "drawn" (.int d) fs'))) := fun H z => go_putL (at_st m.mem H z) rfl (by
  rw [pt_State_drawn]
  exact k _ (z.rp m (ch_setN d s.sent)))
theorem w_putSent {d : Int} {A : Hp → Prop} (m : Rp (stV K p dx b q as s) (stV K p dx b q as { s with sent := d }) S S') (k : Wh K Γ S' A) :
    Wh K Γ S fun H => ∃ dx' fs', H p = some (.ins (He.ga K "State") dx' fs') ∧ fs'.length < 1000 ∧ A (upd H p (.ins (He.ga K "State") dx' (putF "sent" (.int d) fs'))) := fun H z => go_putL (at_st m.mem H z) rfl (by
  rw [pt_State_sent]
  exact k _ (z.rp m (ch_setN s.drawn d)))
theorem w_inK {p : Addr} {kvs : List (Key × V)} {z : Str} {d : Bool} (m : AtH K Γ S p (.dK kvs)) (e : (valV kvs (Sum.inr z)).isSome = d) (k : Wh K Γ S fun H => Q (.bl d) H) : Wh K Γ S fun H => rInA K (.str z) (.ref p) H Q := fun H w => by
  subst e
  exact .inl ⟨p, _, rfl, DGet.k (k := Sum.inr z) (m H w), k H w⟩
theorem w_ninK {p : Addr} {kvs : List (Key × V)} {z : Str} {d : Bool} (m : AtH K Γ S p (.dK kvs)) (e : (valV kvs (Sum.inr z)).isSome = d) (k : Wh K Γ S fun H => Q (.bl (!d)) H) : Wh K Γ S fun H => rNotInA K (.str z) (.ref p) H Q := fun H w => by
  subst e
  exact .inl ⟨p, _, rfl, DGet.k (k := Sum.inr z) (m H w), k H w⟩
/-- a formula's worth -/
theorem w_worth {n : Nat} {v : V} {f : Fm} {gt : Addr} {now g0 g1 : Int} (hv : .dat v f.data ∈ Γ) (hd : f.depth < n) (m : stV K p dx b q as s ∈ S) (hl : s.queues.length = as.length) (hg : .dat (.ref gt) (.list [.int g0, .int g1]) ∈ Γ) (hf : f.Ok s.bs s.qs) (he : (s.env now g0 g1).Ok s.bs s.qs)
    (k1 : ∀ r, f.ev (s.env now g0 g1) = .ok r → Wh K Γ S fun H => Q (.int r) H) (k2 : ∀ r, f.ev (s.env now g0 g1) = .error r → Wh K Γ S fun H => E (fltE K r) none H) : Wh K Γ S fun H => spWorthOf n K [v, .ref p, .int now, .ref gt] H Q E := fun H z => by
  obtain ⟨G, L, h1, h2⟩ := z.seg m
  obtain ⟨ga, xs, ea, h3, h4⟩ := dp_lst (z.dat hg)
  cases ea
  have e4 : xs = [.int g0, .int g1] := by
    cases h4 with
    | cons a r => cases r with
      | cons b r => cases r; rw [dp_int a, dp_int b]
  subst e4
  exact ⟨v, f, p, gt, s, now, g0, g1, rfl, z.dat hv, hd, st_at h1 hl, h3, hf, he, fun r e => k1 r e H z, fun r e => k2 r e H z⟩
theorem w_popQ {n : Int} {r : List Int} {a : Addr} (m : Rp (stV K p dx b q as s) (stV K p dx b q as (s.setQ x r)) S S') (hl : s.queues.length = as.length) (nd : s.qs.Nodup) (hx : x ∈ s.qs) (e : valV (queuesV s.queues as) (Sum.inr x) = some (.ref a)) (hn : lookD [] x s.queues = n :: r) (k : Wh K Γ S' fun H => Q (.int n) H) :
    Wh K Γ S fun H => rPopAt (.ref a) [.int 0] H Q := fun H z => by
  refine ⟨a, _, 0, 0, .int n, rfl, rfl, at_q m.mem hl nd hx e H z, by decide, by decide, ?_, by rw [hn]; rfl, ?_⟩
  · rw [hn]
    unfold seqIndex?
    simp
  · have z1 := z.rp m (ch_setQ hl nd hx e r)
    rw [hn]
    exact k _ z1
theorem w_intB {c : Bool} {A : Int → Hp → Prop} {B : Bool → Hp → Prop} (k : Wh K Γ S fun H => B c H) : Wh K Γ S fun H => (∃ i, [V.bl c] = [V.int i] ∧ A i H) ∨ (∃ d, [V.bl c] = [V.bl d] ∧ B d H) := fun H z => .inr ⟨c, rfl, k H z⟩
theorem w_intI {i : Int} {A : Int → Hp → Prop} {B : Bool → Hp → Prop} (k : Wh K Γ S fun H => A i H) : Wh K Γ S fun H => (∃ j, [V.int i] = [V.int j] ∧ A j H) ∨ (∃ d, [V.int i] = [V.bl d] ∧ B d H) := fun H z => .inl ⟨i, rfl, k H z⟩
end
end Mo
namespace Mo
open PySem PySem.Spec PyProof.Rows L2
/-! ### the order of tuples of ints -/
theorem lex_irr : ∀ a : List Int, HT.lexLt a a = false
  | [] => rfl
  | x :: r => by rw [HT.lexLt_cons, if_pos rfl]; exact lex_irr r
theorem lex_tri : ∀ {a b : List Int}, HT.lexLt a b = false → HT.lexLt b a = false → a = b
  | [], [], _, _ => rfl
  | [], y :: s, h, _ => by rw [HT.lexLt_nil_cons] at h; cases h
  | x :: r, [], _, h => by rw [HT.lexLt_nil_cons] at h; cases h
  | x :: r, y :: s, h, k => by
    rw [HT.lexLt_cons] at h k
    by_cases e : x = y
    · subst e
      rw [if_pos rfl] at h k
      rw [lex_tri h k]
    · rw [if_neg e] at h
      rw [if_neg (fun z => e z.symm)] at k
      have h1 := of_decide_eq_false h
      have h2 := of_decide_eq_false k
      omega
theorem lex_trans : ∀ {a b c : List Int}, HT.lexLt a b = true → HT.lexLt b c = true → HT.lexLt a c = true
  | [], [], _, h, _ => by rw [HT.lexLt_nil_nil] at h; cases h
  | _ :: _, [], _, h, _ => by rw [HT.lexLt_cons_nil] at h; cases h
  | _, _ :: _, [], _, k => by rw [HT.lexLt_cons_nil] at k; cases k
  | [], _ :: _, _ :: _, _, _ => HT.lexLt_nil_cons _ _
  | x :: r, y :: s, z :: t, h, k => by
    rw [HT.lexLt_cons] at h k ⊢
    by_cases e : x = y
    · subst e
      rw [if_pos rfl] at h
      by_cases f : x = z
      · subst f
        rw [if_pos rfl] at k ⊢
        exact lex_trans h k
      · rw [if_neg f] at k ⊢
        exact k
    · rw [if_neg e] at h
      have h1 := of_decide_eq_true h
      by_cases f : y = z
      · subst f
        rw [if_neg e]
        exact h
      · rw [if_neg f] at k
        have h2 := of_decide_eq_true k
        rw [if_neg (by omega)]
        exact decide_eq_true (by omega)
theorem lex_asym {a b : List Int} (h : HT.lexLt a b = true) : HT.lexLt b a = false := by
  cases e : HT.lexLt b a with
  | false => rfl
  | true =>
    have := lex_trans h e
    rw [lex_irr] at this
    cases this
theorem lex_ne {a b : List Int} (h : HT.lexLt a b = true) : a ≠ b := fun e => by
  rw [e, lex_irr] at h
  cases h
/-- a ≤ b < c -/
theorem lex_le_lt {a b c : List Int} (h : HT.lexLt b a = false) (k : HT.lexLt b c = true) : HT.lexLt a c = true := by
  cases e : HT.lexLt a b with
  | true => exact lex_trans e k
  | false => rw [lex_tri e h]; exact k
theorem lex_lt_le {a b c : List Int} (h : HT.lexLt a b = true) (k : HT.lexLt c b = false) : HT.lexLt a c = true := by
  cases e : HT.lexLt b c with
  | true => exact lex_trans h e
  | false => rw [← lex_tri e k]; exact h
/-- the least, found from the left -/
theorem best_least (f : Nat → List Int) : ∀ n, argBest (fun i j => HT.lexLt (f i) (f j)) n ≤ n ∧ ∀ j, j ≤ n → HT.lexLt (f j) (f (argBest (fun i j => HT.lexLt (f i) (f j)) n)) = false
  | 0 => ⟨Nat.le_refl _, fun j hj => by
    obtain rfl := Nat.le_zero.mp hj
    exact lex_irr _⟩
  | n + 1 => by
    obtain ⟨h1, h2⟩ := best_least f n
    have e : argBest (fun i j => HT.lexLt (f i) (f j)) (n + 1) = if HT.lexLt (f (n + 1)) (f (argBest (fun i j => HT.lexLt (f i) (f j)) n)) = true then n + 1 else argBest (fun i j => HT.lexLt (f i) (f j)) n := rfl
    rw [e]
    cases hb : HT.lexLt (f (n + 1)) (f (argBest (fun i j => HT.lexLt (f i) (f j)) n)) with
    | true =>
      rw [if_pos rfl]
      refine ⟨Nat.le_refl _, fun j hj => ?_⟩
      rcases Nat.lt_or_ge j (n + 1) with hj | hj
      · cases hc : HT.lexLt (f j) (f (n + 1)) with
        | false => rfl
        | true =>
          have := lex_trans hc hb
          rw [h2 j (by omega)] at this
          cases this
      · have : j = n + 1 := by omega
        subst this
        exact lex_irr _
    | false =>
      rw [if_neg Bool.false_ne_true]
      refine ⟨by omega, fun j hj => ?_⟩
      rcases Nat.lt_or_ge j (n + 1) with hj | hj
      · exact h2 j (by omega)
      · have : j = n + 1 := by omega
        subst this
        exact hb
/-! ### dicts: pop of what is there -/
/-- d.pop(y): v leaves, H' is left -/
def DPop (H : Hp) (a : Addr) (y v : V) (H' : Hp) : Prop :=
  (∃ kvs k, H a = some (.dK kvs) ∧ y = kV k ∧ valV kvs k = some v ∧ H' = upd H a (.dK (dropK kvs k))) ∨
  ∃ kvs k b, H a = some (.dT kvs) ∧ y = .ref b ∧ H b = some (.tup (k.map kV)) ∧ valV kvs k = some v ∧ H' = upd H a (.dT (dropK kvs k))
def rDPop1 : V → List V → Hp → VK → Prop := fun x xs H Q => ∃ a y v H', x = .ref a ∧ xs = [y] ∧ DPop H a y v H' ∧ Q v H'
theorem paired_get {α β : Type} {F : α → β → Prop} : ∀ {l : List α} {r : List β} {i : Nat} {b : β}, Paired F l r → r[i]? = some b → ∃ a, l[i]? = some a ∧ F a b
  | _, _, i, b, .nil, e => by simp at e
  | _, _, 0, b, .cons h _, e => by
    simp only [List.getElem?_cons_zero, Option.some.injEq] at e
    subst e
    exact ⟨_, rfl, h⟩
  | _, _, i + 1, b, .cons _ t, e => by
    rw [List.getElem?_cons_succ] at e
    obtain ⟨a, h1, h2⟩ := paired_get t e
    exact ⟨a, by rw [List.getElem?_cons_succ]; exact h1, h2⟩
theorem moved_eq {wr : List Addr} {s s' : Shared} (h : Moved wr (fun a b => b = a) s s') : s' = { s with heap := s'.heap, toks := s'.toks } := by
  obtain ⟨hp, g, d, tk, os⟩ := s
  obtain ⟨hp', g', d', tk', os'⟩ := s'
  obtain ⟨_, h2, h3, h4, _⟩ := h
  cases h2
  cases h3
  cases h4
  rfl
theorem withoutH_eq {K : Type} [DecidableEq K] (xs : List (K × Addr × Value)) (k : K) : withoutH xs k = DT.dropH xs k := rfl
section
variable {X : Cx}
theorem mt_dpop1 (hu : X.A.units + 1 < cLine) : MtR X "dict.pop" rDPop1 := by
  intro pins s σ H x xs v us Q I rx rxs h
  obtain ⟨a, y, w', H', rfl, rfl, g, q⟩ := h
  cases rx
  obtain ⟨u, rfl, ry⟩ := rxs.one
  rcases g with ⟨kvs, k, ea, rfl, l, rfl⟩ | ⟨kvs, k, b, ea, rfl, eb, l, rfl⟩
  · exact d_pop (more := []) I ea ry l (.inl rfl) fun w2 s3 I3 rw' => ⟨w', _, I3, rw', q⟩
  · cases ry
    obtain ⟨z, hd, xs', rel, dd⟩ := dt_of I.hok ea
    have hz : xs'.length ≤ sizeLine := by rw [← Paired.length rel]; exact z
    have r := rel.val k
    rw [l] at r
    obtain ⟨p, hp, rp⟩ : ∃ p, atKey xs' k = some p ∧ RelV w' p.2 := by
      cases e : atKey xs' k with
      | none =>
        rw [e] at r
        exact (show False from r).elim
      | some p =>
        rw [e] at r
        exact ⟨p, rfl, r⟩
    refine call_pop_heap (knd := tupleKind (mixKind X.prog X.w)) (more := []) (.inl rfl) (PySem.F.args_dict_pop_2 _ _) (tupleKind_room_in1 hu) (key_of I.hok eb) hd dd hp (fun h' dd' hs => ?_) hz
    obtain ⟨o, es, ep, hq, h2, h3, h4, _, h5⟩ := dd'
    have I2 : Inv X pins σ (upd H a (.dT (dropK kvs k))) { s with heap := h', toks := s.toks + (tupleKind (mixKind X.prog X.w)).draws k } :=
      d_write I (by rw [ea]; exact True.intro) hs ⟨o, hq⟩ ⟨Nat.le_trans (dropK_le kvs k) z, hd, _, (DX.KT_drop k rel).keeps (fun c ys ec => (by rw [upd_ne (ne_of ec ea (fun z => nomatch z))]; exact ec)), o, es, ep, hq, h2, h3, h4, h5⟩
    exact ⟨w', _, I2, rp, q⟩
/-! ### min of a dict whose keys are tuples of ints -/
def rMinT : List V → Hp → VK → Prop := fun vs H Q => ∃ (a : Addr) (kvs : List (List Key × V)) (F : List (List Int)), vs = [V.ref a] ∧ H a = some (.dT kvs) ∧ kvs.map (·.1) = F.map (fun ns => ns.map Sum.inl) ∧ F ≠ [] ∧
  ∀ (b : Addr) (ns : List Int), ns ∈ F → (∀ ms ∈ F, HT.lexLt ms ns = false) → H b = some (.tup (ns.map V.int)) → Q (.ref b) H
theorem map_kV_inl (ns : List Int) : (ns.map (Sum.inl : Int → Key)).map kV = ns.map V.int := by
  rw [List.map_map]
  rfl
theorem cr_minT (hc : X.calm = true) (hu : X.A.units + 1 < cLine) : CallR X (.builtin "min") rMinT := by
  intro pins s σ H vs us Q I r h
  obtain ⟨a, kvs, F, rfl, ha, hF, hne, q⟩ := h
  rw [Vals.ref1 r]
  obtain ⟨z, hs, ks, pr, o, es, ep, ho, hx, hdt, he, hn⟩ := (show ObjOk X.prog X.w H s.heap a (.dT kvs) from I.hok a _ ha)
  have l1 : es.size = ks.length := size_of_entries he
  have l2 : kvs.length = ks.length := Paired.length pr
  have l3 : kvs.length = F.length := by
    have e := congrArg List.length hF
    rw [List.length_map, List.length_map] at e
    exact e
  have hlt : a < s.heap.objs.size := Heap.lt_size ho
  have hpos : 0 < es.size := by
    have := List.length_pos_iff.mpr hne
    omega
  -- the key at a place
  have key : ∀ (i : Nat) (v : Value), (∃ en : DictEntry, es[i]? = some en ∧ v = en.key) → ∃ (b : Addr) (ns : List Int), v = .ref b ∧ F[i]? = some ns ∧ H b = some (.tup (ns.map V.int)) := fun i v ⟨en, hen, hv⟩ => by
    have qe := entry_at he i
    rw [hen] at qe
    cases hb : ks[i]? with
    | none => rw [hb] at qe; exact nomatch (show some en = none from qe)
    | some x =>
      rw [hb] at qe
      have e2 : en = entryOfKey (tupleKind (mixKind X.prog X.w)) x := Option.some.inj qe
      obtain ⟨p, hp, e3, e4, _⟩ : ∃ p, kvs[i]? = some p ∧ p.1 = x.1 ∧ H x.2.1 = some (.tup (p.1.map kV)) ∧ True := by
        obtain ⟨p, hp, h1, h2, _⟩ := paired_get pr hb
        exact ⟨p, hp, h1, h2, True.intro⟩
      have e5 : (kvs.map (·.1))[i]? = some p.1 := by rw [List.getElem?_map, hp] <;> rfl
      rw [hF, List.getElem?_map] at e5
      obtain ⟨ns, hns, e6⟩ := Option.map_eq_some_iff.mp e5
      refine ⟨x.2.1, ns, by rw [hv, e2] <;> rfl, hns, ?_⟩
      rw [e4, ← e6, map_kV_inl]
  have key2 : ∀ (b : Addr) (ns : List Int), H b = some (.tup (ns.map V.int)) → ∃ its : Array Value, IsTup s.heap b its ∧ IntsAre its.toList ns := fun b ns e => by
    obtain ⟨its, rv, hT, _⟩ := I.tuple (SqT.of e)
    exact ⟨its.toArray, hT, by simpa using rv.ints⟩
  refine call_min_walkH (iter_keys hs ho hx hdt ?_)
  refine ⟨_, _, _, _, _, _, _, s.heap, fun i j => HT.lexLt (F.getD i []) (F.getD j []), rfl, (walks_raw (A := X.A.in1) (I.ok.hd hc) s.heap.objs.size a (Nat.ne_of_lt hlt) hdt).toS,
    ⟨⟨_, Heap.get?_push_size _ rfl, rfl, rfl⟩, Heap.get?_push_of_some _ ho⟩, fun b hb => ?_, hpos, fun b u e hm => ?_, fun b u e => Heap.get?_push_of_some _ e, ?_, fun v s' hP hk => ?_⟩
  · show b < (s.heap.push _).objs.size
    rw [Heap.size_push]
    rcases List.mem_cons.mp hb with e | hb
    · rw [e]
      exact Nat.lt_succ_self _
    · rw [List.mem_singleton.mp hb]
      exact Nat.lt_succ_of_lt hlt
  · have e1 := List.mem_singleton.mp hm
    have e2 := Heap.lt_size e
    rw [e1] at e2
    exact absurd e2 (Nat.lt_irrefl _)
  · intro i j vi vj s2 Q2 E2 hkeep hi hj hq
    obtain ⟨b1, n1, rfl, f1, t1⟩ := key i vi hi
    obtain ⟨b2, n2, rfl, f2, t2⟩ := key j vj hj
    obtain ⟨its1, T1, a1⟩ := key2 b1 n1 t1
    obtain ⟨its2, T2, a2⟩ := key2 b2 n2 t2
    refine HT.lt_tupInts (let ⟨o, e, z⟩ := T1; ⟨o, hkeep _ o e, z⟩) (let ⟨o, e, z⟩ := T2; ⟨o, hkeep _ o e, z⟩) a1 a2 (show X.A.in1.units < cLine from by show X.A.units + 1 < cLine; exact hu) ?_
    have g1 : F.getD i [] = n1 := by rw [List.getD_eq_getElem?_getD, f1] <;> rfl
    have g2 : F.getD j [] = n2 := by rw [List.getD_eq_getElem?_getD, f2] <;> rfl
    have hq' : Q2 (Value.bool (HT.lexLt (F.getD i []) (F.getD j []))) s2 := hq
    rw [g1, g2] at hq'
    exact hq'
  · obtain ⟨b, ns, rfl, hf, hb⟩ := key _ v hP
    obtain ⟨b1, b2⟩ := best_least (fun i => F.getD i []) (es.size - 1)
    have g1 : F.getD (argBest (fun i j => HT.lexLt (F.getD i []) (F.getD j [])) (es.size - 1)) [] = ns := by rw [List.getD_eq_getElem?_getD, hf] <;> rfl
    rw [g1] at b2
    have I2 : Inv X pins σ H s' := by
      rw [moved_eq hk]
      exact I.kept (t' := s'.toks) fun b u e => hk.heap b u (fun hmem => by
        have e1 := List.mem_singleton.mp hmem
        have e2 := Heap.lt_size e
        rw [e1] at e2
        exact absurd e2 (Nat.lt_irrefl _)) (Heap.get?_push_of_some _ e)
    refine ⟨.ref b, H, I2, rfl, q b ns (List.mem_of_getElem? hf) (fun ms hm => ?_) hb⟩
    obtain ⟨j, hj, e⟩ := List.mem_iff_getElem.mp hm
    have := b2 j (by omega)
    rw [List.getD_eq_getElem?_getD, List.getElem?_eq_getElem hj] at this
    rw [← e]
    exact this
end
/-! ### d.copy() -/
def rDCopy : V → List V → Hp → VK → Prop := fun x xs H Q => ∃ a kvs, x = .ref a ∧ xs = [] ∧ H a = some (.dK kvs) ∧ ∀ p, H p = none → Q (.ref p) (upd H p (.dK kvs))
section
variable {X : Cx}
theorem mt_dcopy : MtR X "dict.copy" rDCopy := by
  intro pins s σ H x xs v us Q I rx rxs h
  obtain ⟨a, kvs, rfl, rfl, ha, q⟩ := h
  cases rx
  cases rxs
  obtain ⟨z, hd, vs, rel, dd⟩ := dk_of I.hok ha
  refine call_meetsIn PySem.F.slot_dict_copy dd.typeIs PySem.F.entry_dict_copy (PySem.F.args_dict_copy_1 _) (meets_dict_copy (mixKind X.prog X.w) a hd) ?_
  refine ⟨vs, dd, by rw [← rel.length]; exact z, fun h' d1 _ k => ?_⟩
  refine ⟨.ref s.heap.objs.size, upd H s.heap.objs.size (.dK kvs), I.laid (t' := s.toks) k (Nat.le_refl _) ?_, rfl, q _ (I.hok.fresh (Nat.le_refl _))⟩
  exact dk_new z (beq_eq_false_iff_ne.mpr (Nat.ne_of_gt I.big)) rel d1
end
theorem go_dcopy {H : Hp} {Q : VK} {a : Addr} {kvs : List (Key × V)} (h : H a = some (.dK kvs)) (k : ∀ p, H p = none → Q (.ref p) (upd H p (.dK kvs))) : rDCopy (.ref a) [] H Q := ⟨a, kvs, rfl, rfl, h, k⟩
end Mo
namespace Mo
open PySem PySem.Spec PyProof.Rows L2
/-! ### what a calendar keeps: plain Lean -/
structure Ent where
  k : List Int
  v : V
  t : V
abbrev Asc (es : List Ent) : Prop := es.Pairwise fun x y => HT.lexLt x.k y.k = true
def insE (e : Ent) : List Ent → List Ent
  | [] => [e]
  | x :: r => if HT.lexLt x.k e.k = true then x :: insE e r else e :: x :: r
def remE (k : List Int) (es : List Ent) : List Ent := es.filter fun e => decide (e.k ≠ k)
def getE (k : List Int) : List Ent → Option V
  | [] => none
  | x :: r => if x.k = k then some x.t else getE k r
theorem mem_insE {e x : Ent} : ∀ {es : List Ent}, x ∈ insE e es ↔ x = e ∨ x ∈ es
  | [] => by simp [insE]
  | y :: r => by
    unfold insE
    split
    · rw [List.mem_cons, mem_insE (es := r), List.mem_cons]
      constructor
      · rintro (h | h | h)
        · exact .inr (.inl h)
        · exact .inl h
        · exact .inr (.inr h)
      · rintro (h | h | h)
        · exact .inr (.inl h)
        · exact .inl h
        · exact .inr (.inr h)
    · rw [List.mem_cons]
theorem insE_perm (e : Ent) : ∀ es : List Ent, (insE e es).Perm (e :: es)
  | [] => .refl _
  | y :: r => by
    unfold insE
    split
    · exact ((insE_perm e r).cons y).trans (.swap _ _ _)
    · exact .refl _
theorem insE_len (e : Ent) (es : List Ent) : (insE e es).length = es.length + 1 := by rw [(insE_perm e es).length_eq]; rfl
theorem insE_asc {e : Ent} : ∀ {es : List Ent}, Asc es → e.k ∉ es.map (·.k) → Asc (insE e es)
  | [], _, _ => List.pairwise_singleton _ _
  | x :: r, h, n => by
    rw [List.map_cons, List.mem_cons, not_or] at n
    have h2 := List.pairwise_cons.mp h
    unfold insE
    split
    · rename_i hl
      refine List.pairwise_cons.mpr ⟨fun y hy => ?_, insE_asc h2.2 n.2⟩
      rcases mem_insE.mp hy with rfl | hy
      · exact hl
      · exact h2.1 y hy
    · rename_i hl
      have hl2 : HT.lexLt x.k e.k = false := by simpa using hl
      have h3 : HT.lexLt e.k x.k = true := by
        cases q : HT.lexLt e.k x.k with
        | true => rfl
        | false => exact absurd (lex_tri q hl2) n.1
      refine List.pairwise_cons.mpr ⟨fun y hy => ?_, h⟩
      rcases List.mem_cons.mp hy with rfl | hy
      · exact h3
      · exact lex_trans h3 (h2.1 y hy)
theorem insE_at {e : Ent} : ∀ {es : List Ent} {n : Nat}, n ≤ es.length → (∀ i x, i < n → es[i]? = some x → HT.lexLt x.k e.k = true) → (∀ i x, n ≤ i → es[i]? = some x → HT.lexLt x.k e.k = false) → insE e es = es.take n ++ e :: es.drop n
  | [], n, hn, _, _ => by
    obtain rfl : n = 0 := by simpa using hn
    rfl
  | x :: r, 0, _, _, h => by
    have := h 0 x (Nat.le_refl _) rfl
    unfold insE
    rw [this, if_neg Bool.false_ne_true]
    rfl
  | x :: r, n + 1, hn, h1, h2 => by
    have := h1 0 x (Nat.succ_pos _) rfl
    unfold insE
    rw [this, if_pos rfl, insE_at (n := n) (by simpa using hn) (fun i y hi hy => h1 (i + 1) y (by omega) (by simpa using hy)) (fun i y hi hy => h2 (i + 1) y (by omega) (by simpa using hy))]
    rfl
theorem asc_nodup {es : List Ent} (h : Asc es) : (es.map (·.k)).Nodup := by
  rw [List.nodup_iff_pairwise_ne, List.pairwise_map]
  exact h.imp fun q => lex_ne q
theorem remE_asc {k : List Int} {es : List Ent} (h : Asc es) : Asc (remE k es) := h.filter _
theorem mem_remE {k : List Int} {x : Ent} {es : List Ent} : x ∈ remE k es ↔ x ∈ es ∧ x.k ≠ k := by
  unfold remE
  rw [List.mem_filter, decide_eq_true_iff]
theorem getE_none {k : List Int} : ∀ {es : List Ent}, getE k es = none ↔ k ∉ es.map (·.k)
  | [] => by simp [getE]
  | x :: r => by
    unfold getE
    rw [List.map_cons, List.mem_cons, not_or]
    by_cases e : x.k = k
    · rw [if_pos e]
      constructor
      · intro z; cases z
      · intro z; exact absurd e.symm z.1
    · rw [if_neg e, getE_none (es := r)]
      exact ⟨fun z => ⟨fun q => e q.symm, z⟩, fun z => z.2⟩
theorem getE_mem {k : List Int} {t : V} : ∀ {es : List Ent}, getE k es = some t → ∃ x ∈ es, x.k = k ∧ x.t = t
  | [], h => by simp [getE] at h
  | x :: r, h => by
    unfold getE at h
    by_cases e : x.k = k
    · rw [if_pos e] at h
      exact ⟨x, List.mem_cons_self, e, Option.some.inj h⟩
    · rw [if_neg e] at h
      obtain ⟨y, h1, h2⟩ := getE_mem h
      exact ⟨y, List.mem_cons_of_mem _ h1, h2⟩
theorem getE_of {es : List Ent} {x : Ent} (h : (es.map (·.k)).Nodup) (m : x ∈ es) : getE x.k es = some x.t := by
  induction es with
  | nil => cases m
  | cons y r ih =>
    rw [List.map_cons, List.nodup_cons] at h
    unfold getE
    rcases List.mem_cons.mp m with rfl | m
    · rw [if_pos rfl]
    · rw [if_neg (fun e => h.1 (by rw [e]; exact List.mem_map_of_mem m))]
      exact ih h.2 m
theorem remE_none {k : List Int} {es : List Ent} (h : k ∉ es.map (·.k)) : remE k es = es := by
  unfold remE
  refine List.filter_eq_self.mpr fun y hy => ?_
  exact decide_eq_true fun z => h (by rw [← z]; exact List.mem_map_of_mem hy)
/-- the key at n leaves -/
theorem remE_at : ∀ {es : List Ent} {n : Nat} {x : Ent}, (es.map (·.k)).Nodup → es[n]? = some x → es.eraseIdx n = remE x.k es
  | [], n, x, _, h => by simp at h
  | y :: r, 0, x, hn, h => by
    obtain rfl : y = x := by simpa using h
    rw [List.map_cons, List.nodup_cons] at hn
    rw [List.eraseIdx_cons_zero]
    unfold remE
    rw [List.filter_cons_of_neg (by simp)]
    exact (remE_none hn.1).symm
  | y :: r, n + 1, x, hn, h => by
    have h2 : r[n]? = some x := by simpa using h
    rw [List.map_cons, List.nodup_cons] at hn
    have ne : y.k ≠ x.k := fun z => hn.1 (by rw [z]; exact List.mem_map_of_mem (List.mem_of_getElem? h2))
    rw [List.eraseIdx_cons_succ, remE_at hn.2 h2]
    unfold remE
    rw [List.filter_cons_of_pos (by simpa using ne)]
theorem remE_head {e : Ent} {r : List Ent} (h : Asc (e :: r)) : remE e.k (e :: r) = r := by
  have := remE_at (n := 0) (asc_nodup h) (x := e) rfl
  rw [← this]
  rfl
/-- where a key that is there stands -/
theorem place_at {es : List Ent} {k : List Int} {n : Nat} (h : Asc es) (h1 : ∀ i x, i < n → es[i]? = some x → HT.lexLt x.k k = true) (h2 : ∀ i x, n ≤ i → es[i]? = some x → HT.lexLt x.k k = false) {x : Ent} (m : x ∈ es) (hk : x.k = k) : es[n]? = some x := by
  obtain ⟨i, hi⟩ := List.mem_iff_getElem?.mp m
  rcases Nat.lt_trichotomy i n with z | z | z
  · have := h1 i x z hi
    rw [hk, lex_irr] at this
    cases this
  · rw [← z]; exact hi
  · have hil := (List.getElem?_eq_some_iff.mp hi).1
    have hn : es[n]? = some es[n] := List.getElem?_eq_getElem (by omega)
    have q := h2 n _ (Nat.le_refl _) hn
    have p := List.pairwise_iff_getElem.mp h n i (by omega) hil z
    rw [(List.getElem?_eq_some_iff.mp hi).2, hk, q] at p
    cases p
/-! #### dicts of them -/
section
variable {κ : Type} [DecidableEq κ]
theorem val_mem : ∀ {kvs : List (κ × V)} {k : κ} {v : V}, (kvs.map (·.1)).Nodup → ((k, v) ∈ kvs ↔ valV kvs k = some v)
  | [], k, v, _ => by
    constructor
    · intro z; cases z
    · intro z; cases (show (none : Option V) = some v from z)
  | (q, u) :: r, k, v, h => by
    rw [List.map_cons, List.nodup_cons] at h
    by_cases e : q = k
    · rw [valV_pos e]
      constructor
      · intro m
        rcases List.mem_cons.mp m with m | m
        · cases m; rfl
        · exact absurd (List.mem_map_of_mem (f := (·.1)) m) (by rw [← e]; exact h.1)
      · intro z
        cases z
        rw [← e]
        exact List.mem_cons_self
    · rw [valV_neg e, ← val_mem h.2]
      constructor
      · intro m
        rcases List.mem_cons.mp m with m | m
        · cases m; exact absurd rfl e
        · exact m
      · exact fun m => List.mem_cons_of_mem _ m
theorem val_perm {a b : List (κ × V)} {k : κ} (p : a.Perm b) (h : (b.map (·.1)).Nodup) : valV a k = valV b k := by
  have h2 : (a.map (·.1)).Nodup := (List.Perm.nodup_iff (p.map _)).mpr h
  apply Option.ext
  intro v
  rw [← val_mem h2, ← val_mem h]
  exact p.mem_iff
variable (f : Ent → κ)
theorem g_val {es : List Ent} {q : κ} {k : List Int} (hi : ∀ e ∈ es, f e = q ↔ e.k = k) : valV (es.map fun e => (f e, e.t)) q = getE k es := by
  induction es with
  | nil => rfl
  | cons x r ih =>
    have h := hi x List.mem_cons_self
    unfold getE
    rw [List.map_cons]
    by_cases e : x.k = k
    · rw [if_pos e]
      exact valV_pos (h.mpr e)
    · rw [if_neg e, valV_neg (fun z => e (h.mp z))]
      exact ih fun y hy => hi y (List.mem_cons_of_mem _ hy)
theorem g_put {kvs : List (κ × V)} {es : List Ent} {e : Ent} (p : kvs.Perm (es.map fun e => (f e, e.t))) (n : valV kvs (f e) = none) : (putK kvs (f e) e.t).Perm ((insE e es).map fun e => (f e, e.t)) := by
  rw [putK_new _ n]
  exact (List.perm_append_comm.trans (p.cons _)).trans ((insE_perm e es).map _).symm
theorem g_drop {kvs : List (κ × V)} {es : List Ent} {q : κ} {k : List Int} (hi : ∀ e ∈ es, f e = q ↔ e.k = k) (p : kvs.Perm (es.map fun e => (f e, e.t))) : (dropK kvs q).Perm ((remE k es).map fun e => (f e, e.t)) := by
  refine (p.filter _).trans (List.Perm.of_eq ?_)
  unfold remE
  rw [List.filter_map]
  congr 1
  refine List.filter_congr fun e he => ?_
  show decide (f e ≠ q) = decide (e.k ≠ k)
  exact decide_eq_decide.mpr (not_congr (hi e he))
end
/-! #### keys as values -/
def GoodK (b : Bool) (G : Hp) (e : Ent) : Prop := match b with
  | true => ∃ a, e.v = .ref a ∧ G a = some (.tup (e.k.map V.int))
  | false => ∃ i, e.v = .int i ∧ e.k = [i]
theorem GoodK.mono {b : Bool} {G G' : Hp} {e : Ent} (h : GoodK b G e) (x : Ext G G') : GoodK b G' e := by
  cases b with
  | true => obtain ⟨a, h1, h2⟩ := h; exact ⟨a, h1, x _ _ h2⟩
  | false => exact h
abbrev fT (e : Ent) : List Key := e.k.map Sum.inl
abbrev fK (e : Ent) : Key := Sum.inl (e.k.headD 0)
/-- the dict of things -/
def Thg (b : Bool) (es : List Ent) (o : HO) : Prop := match b with
  | true => ∃ kvs, o = .dT kvs ∧ kvs.Perm (es.map fun e => (fT e, e.t))
  | false => ∃ kvs, o = .dK kvs ∧ kvs.Perm (es.map fun e => (fK e, e.t))
theorem fT_inj {e x : Ent} : fT e = fT x ↔ e.k = x.k := ⟨fun h => (List.map_inj_right (fun _ _ q => Sum.inl.inj q)).mp h, fun h => by unfold fT; rw [h]⟩
theorem fK_inj {G G' : Hp} {e x : Ent} (h : GoodK false G e) (k : GoodK false G' x) : fK e = fK x ↔ e.k = x.k := by
  obtain ⟨i, _, h1⟩ := h
  obtain ⟨j, _, h2⟩ := k
  unfold fK
  rw [h1, h2]
  constructor
  · intro z
    have := Sum.inl.inj z
    simp only [List.headD_cons] at this
    rw [this]
  · intro z
    rw [z]
theorem fT_nodup {es : List Ent} (h : Asc es) : ((es.map fun e => (fT e, e.t)).map (·.1)).Nodup := by
  rw [List.map_map, List.nodup_iff_pairwise_ne, List.pairwise_map]
  exact h.imp fun q z => lex_ne q (fT_inj.mp z)
theorem fK_nodup {G : Hp} {es : List Ent} (h : Asc es) (g : ∀ e ∈ es, GoodK false G e) : ((es.map fun e => (fK e, e.t)).map (·.1)).Nodup := by
  rw [List.map_map, List.nodup_iff_pairwise_ne, List.pairwise_map]
  exact List.Pairwise.imp_of_mem (fun {a b} ha hb q z => lex_ne q ((fK_inj (g a ha) (g b hb)).mp z)) h
section
variable {b : Bool} {K : PySem.W.Frag} {G H : Hp} {x y e : Ent} {es : List Ent} {Q : VK} {th : Addr} {o : HO}
theorem go_ltE (xe : Ext G H) (ha : GoodK b G x) (hb : GoodK b G y) (k : Q (.bl (HT.lexLt x.k y.k)) H) : rLtA K x.v y.v H Q := by
  cases b with
  | true =>
    obtain ⟨a, e1, h1⟩ := ha
    obtain ⟨c, e2, h2⟩ := hb
    rw [e1, e2]
    exact go_ltT (SqT.of (xe _ _ h1)) (SqT.of (xe _ _ h2)) k
  | false =>
    obtain ⟨i, e1, h1⟩ := ha
    obtain ⟨j, e2, h2⟩ := hb
    rw [h1, h2, HT.lexLt_cons, HT.lexLt_nil_nil] at k
    rw [e1, e2]
    refine go_ltI ?_
    by_cases e : i = j
    · rw [if_pos e] at k
      rw [decide_eq_false (by omega)]
      exact k
    · rw [if_neg e] at k
      exact k
theorem thg_get (xe : Ext G H) (ht : H th = some o) (h : Thg b es o) (ha : Asc es) (hg : ∀ e ∈ es, GoodK b G e) (hx : GoodK b G x) : DGet H th x.v (getE x.k es) := by
  cases b with
  | true =>
    obtain ⟨kvs, rfl, p⟩ := h
    obtain ⟨a, e1, h1⟩ := hx
    have q := DGet.t (k := fT x) ht (b := a) (by rw [map_kV_inl]; exact xe _ _ h1)
    rw [e1]
    rw [val_perm p (fT_nodup ha), g_val fT (k := x.k) (fun e _ => fT_inj)] at q
    exact q
  | false =>
    obtain ⟨kvs, rfl, p⟩ := h
    have q := DGet.k (k := fK x) ht
    rw [val_perm p (fK_nodup ha hg), g_val fK (k := x.k) (fun e he => fK_inj (hg e he) hx)] at q
    obtain ⟨i, e1, h1⟩ := hx
    rw [e1]
    have e2 : kV (fK x) = .int i := by unfold fK; rw [h1]; rfl
    rw [e2] at q
    exact q
theorem thg_len {kvs : List (Key × V)} {n : Nat} (h : Thg b es o) : (∃ kvs : List (List Key × V), o = .dT kvs ∧ kvs.length = es.length) ∨ (∃ kvs : List (Key × V), o = .dK kvs ∧ kvs.length = es.length) := by
  cases b with
  | true =>
    obtain ⟨kvs, rfl, p⟩ := h
    exact .inl ⟨kvs, rfl, by rw [p.length_eq, List.length_map]⟩
  | false =>
    obtain ⟨kvs, rfl, p⟩ := h
    exact .inr ⟨kvs, rfl, by rw [p.length_eq, List.length_map]⟩
theorem thg_put (xe : Ext G H) (ht : H th = some o) (h : Thg b es o) (ha : Asc es) (hg : ∀ e ∈ es, GoodK b G e) (hx : GoodK b G x) (hn : x.k ∉ es.map (·.k)) (hl : es.length ≤ 10000) :
    ∃ o', Thg b (insE x es) o' ∧ DPut H th x.v x.t (upd H th o') := by
  have hn2 := getE_none.mpr hn
  cases b with
  | true =>
    obtain ⟨kvs, rfl, p⟩ := h
    obtain ⟨a, e1, h1⟩ := hx
    have hl2 : kvs.length < sizeLine := by rw [p.length_eq, List.length_map, sizeLine_eq]; omega
    have nn : valV kvs (fT x) = none := by rw [val_perm p (fT_nodup ha), g_val fT (k := x.k) (fun e _ => fT_inj)]; exact hn2
    refine ⟨.dT (putK kvs (fT x) x.t), ⟨_, rfl, g_put fT p nn⟩, ?_⟩
    rw [e1]
    exact DPut.t ht (by rw [map_kV_inl]; exact xe _ _ h1) hl2
  | false =>
    obtain ⟨kvs, rfl, p⟩ := h
    have hl2 : kvs.length < sizeLine := by rw [p.length_eq, List.length_map, sizeLine_eq]; omega
    have nn : valV kvs (fK x) = none := by rw [val_perm p (fK_nodup ha hg), g_val fK (k := x.k) (fun e he => fK_inj (hg e he) hx)]; exact hn2
    refine ⟨.dK (putK kvs (fK x) x.t), ⟨_, rfl, g_put fK p nn⟩, ?_⟩
    obtain ⟨i, e1, h1⟩ := hx
    have e2 : kV (fK x) = .int i := by unfold fK; rw [h1]; rfl
    rw [e1, ← e2]
    exact DPut.k ht hl2
theorem thg_pop {t : V} (xe : Ext G H) (ht : H th = some o) (h : Thg b es o) (ha : Asc es) (hg : ∀ e ∈ es, GoodK b G e) (hx : GoodK b G x) (hm : getE x.k es = some t) :
    ∃ o', Thg b (remE x.k es) o' ∧ DPop H th x.v t (upd H th o') := by
  cases b with
  | true =>
    obtain ⟨kvs, rfl, p⟩ := h
    obtain ⟨a, e1, h1⟩ := hx
    have nn : valV kvs (fT x) = some t := by rw [val_perm p (fT_nodup ha), g_val fT (k := x.k) (fun e _ => fT_inj)]; exact hm
    refine ⟨.dT (dropK kvs (fT x)), ⟨_, rfl, g_drop fT (fun e _ => fT_inj) p⟩, ?_⟩
    rw [e1]
    exact .inr ⟨kvs, fT x, a, ht, rfl, by rw [map_kV_inl]; exact xe _ _ h1, nn, rfl⟩
  | false =>
    obtain ⟨kvs, rfl, p⟩ := h
    have nn : valV kvs (fK x) = some t := by rw [val_perm p (fK_nodup ha hg), g_val fK (k := x.k) (fun e he => fK_inj (hg e he) hx)]; exact hm
    refine ⟨.dK (dropK kvs (fK x)), ⟨_, rfl, g_drop fK (fun e he => fK_inj (hg e he) hx) p⟩, ?_⟩
    obtain ⟨i, e1, h1⟩ := hx
    have e2 : kV (fK x) = .int i := by unfold fK; rw [h1]; rfl
    rw [e1, ← e2]
    exact .inl ⟨kvs, fK x, ht, rfl, nn, rfl⟩
end
theorem eqv_self {d : PyData} (h : SeqAt.shaped d = true) : PyData.eqv d d = true := SeqAt.eqv_refl d (SeqAt.canLay_of_shaped h)
end Mo
namespace Mo
open PySem PySem.Spec PyProof.Rows L2
/-! ### orders of the volatile objects -/
section
variable {α : Type} {A B X Y Z : List α} {a b : α}
theorem pm_step (h : Y.Perm (A ++ Z)) (k : X.Perm Z) : (A ++ X).Perm Y := (k.append_left A).trans h.symm
theorem pm_stepC (h : Y.Perm (a :: Z)) (k : X.Perm Z) : (a :: X).Perm Y := (k.cons a).trans h.symm
theorem pm_here : (A ++ Z).Perm (A ++ Z) := .refl _
theorem pm_last : A.Perm (A ++ []) := by rw [List.append_nil]
theorem pm_hereC : (a :: Z).Perm (a :: Z) := .refl _
theorem pm_skip (h : Y.Perm (A ++ Z)) : (B ++ Y).Perm (A ++ (B ++ Z)) := by
  refine (h.append_left B).trans ?_
  rw [← List.append_assoc, ← List.append_assoc]
  exact List.perm_append_comm.append_right Z
theorem pm_skipC (h : Y.Perm (A ++ Z)) : (b :: Y).Perm (A ++ (b :: Z)) := (h.cons b).trans List.perm_middle.symm
theorem pm_Cskip (h : Y.Perm (a :: Z)) : (B ++ Y).Perm (a :: (B ++ Z)) := (h.append_left B).trans List.perm_middle
theorem pm_CskipC (h : Y.Perm (a :: Z)) : (b :: Y).Perm (a :: (b :: Z)) := (h.cons b).trans (.swap _ _ _)
theorem pm_end : ([] : List α).Perm [] := .refl _
end
theorem Hd.dropA {G H : Hp} : ∀ {A L : Vo}, Hd G H (A ++ L) → Hd G H L
  | [], _, h => h
  | _ :: A, L, h => Hd.dropA (A := A) h.drop
/-! ### more steps -/
/-- a test, whatever way it is answered: what follows is shown once -/
theorem go_absT {c : TT} {σ : L2.St} {H : Hp} {F : Bool → Hp → Prop} (Pre : Bool → Hp → Prop) (k : ∀ X : Bool → Hp → Prop, (∀ b H1, Pre b H1 → X b H1) → c σ H X) (f : ∀ b H1, Pre b H1 → F b H1) : c σ H F := k F f
theorem go_absE {c : TE} {σ : L2.St} {H : Hp} {F : VK} (Pre : VK) (k : ∀ X : VK, (∀ v H1, Pre v H1 → X v H1) → c σ H X) (f : ∀ v H1, Pre v H1 → F v H1) : c σ H F := k F f
def rRev (K : PySem.W.Frag) : V → Hp → VK → Prop := fun x H Q => ∃ a xs, x = .ref a ∧ SqL K H a xs ∧ ∀ p, H p = none → Q (.ref p) (upd H p (.lst xs.reverse))
def rInsert : V → List V → Hp → VK → Prop := fun x vs H Q => ∃ (l : Addr) (xs : List V) (i : Int) (y : V), x = .ref l ∧ vs = [.int i, y] ∧ H l = some (.lst xs) ∧ xs.length < sizeLine ∧ 0 ≤ i ∧ i < 2 ^ 63 ∧ Q .non (upd H l (.lst (xs.take i.toNat ++ [y] ++ xs.drop i.toNat)))
theorem mt_insertN {X : Cx} : MtR X "list.insert" rInsert := mt_insert
section
variable {K : PySem.W.Frag} {σ : St} {H : Hp} {Q : VK} {ta te : TE} {v x y : V}
theorem go_insert {l : Addr} {xs : List V} {n : Nat} (h : H l = some (.lst xs)) (hn : n ≤ xs.length) (hl : xs.length ≤ 10000) (k : Q .non (upd H l (.lst (xs.take n ++ [y] ++ xs.drop n)))) : rInsert (.ref l) [.int (n : Int), y] H Q :=
  ⟨l, xs, (n : Int), y, rfl, rfl, h, by rw [sizeLine_eq]; omega, by omega, by omega, by rw [Int.toNat_natCast]; exact k⟩
theorem go_popAt {l : Addr} {xs : List V} {n : Nat} {j : Int} (hj : j = (n : Int)) (h : H l = some (.lst xs)) (hl : xs.length ≤ 10000) (e : xs[n]? = some y) (k : Q y (upd H l (.lst (xs.eraseIdx n)))) : rPopAt (.ref l) [.int j] H Q := by
  have hn := (List.getElem?_eq_some_iff.mp e).1
  subst hj
  refine ⟨l, xs, (n : Int), n, y, rfl, rfl, h, by omega, by omega, ?_, e, k⟩
  have h0 : ¬ ((n : Int) < 0) := by omega
  have h1 : (decide (0 ≤ (n : Int)) && decide ((n : Int) < (xs.length : Int))) = true := by simp; omega
  simp only [seqIndex?, h0, if_false, h1, if_true, Int.toNat_natCast]
theorem go_tyDT {p : Addr} {kvs : List (List Key × V)} {R : Prop} (h : H p = some (.dT kvs)) (k : R) : tyV K "dict" (.ref p) H ∧ R := ⟨.inr (.inr (.inl ⟨rfl, .inr ⟨kvs, h⟩⟩)), k⟩
theorem go_tyDK {p : Addr} {kvs : List (Key × V)} {R : Prop} (h : H p = some (.dK kvs)) (k : R) : tyV K "dict" (.ref p) H ∧ R := ⟨.inr (.inr (.inl ⟨rfl, .inl ⟨kvs, h⟩⟩)), k⟩
theorem go_dpop {p : Addr} {H' : Hp} (g : DPop H p y v H') (k : Q v H') : rDPop1 (.ref p) [y] H Q := ⟨p, y, v, H', rfl, rfl, g, k⟩
theorem go_inD {a : Addr} {o : Option V} (g : DGet H a x o) (k : Q (.bl o.isSome) H) : rInA K x (.ref a) H Q := .inl ⟨a, o, rfl, g, k⟩
theorem go_ninD {a : Addr} {o : Option V} (g : DGet H a x o) (k : Q (.bl (!o.isSome)) H) : rNotInA K x (.ref a) H Q := .inl ⟨a, o, rfl, g, k⟩
theorem go_strI {n : Int} {Q1 : Int → Prop} {A : Prop} (k : A) : A := k
theorem go_revL {a : Addr} {xs : List V} (h : SqL K H a xs) (k : ∀ p, H p = none → Q (.ref p) (upd H p (.lst xs.reverse))) : rRev K (.ref a) H Q := ⟨a, xs, rfl, h, k⟩
end
section
variable {X : Cx} {K : PySem.W.Frag}
theorem pe_revK {e : Expr} {te : TE} {k : Nat} {p1 p2 p3 pos : Pos} (hK : X.K = K) (he : PE X e te) : PE X (.Subscript e (.Slice none none (some (.UnaryOp .USub (.Constant (.int 1) k p1) p2)) p3) pos) (tUn (rRev K) te) := hK ▸ pe_revL he
end
theorem half (lo hi : Nat) : ((lo : Int) + (hi : Int)).fdiv 2 = (((lo + hi) / 2 : Nat) : Int) := by
  rw [Int.fdiv_eq_ediv_of_nonneg _ (by decide)]
  omega
end Mo
local macro_rules | `(tactic| k_extra "p") => `(tactic| ((try simp only [List.append_assoc, List.cons_append, List.nil_append, List.append_nil]); repeat (first
  | with_reducible exact List.Perm.refl _
  | with_reducible exact Mo.pm_last
  | (with_reducible apply Mo.pm_stepC; focus (repeat (first | with_reducible exact Mo.pm_hereC | with_reducible apply Mo.pm_CskipC | with_reducible apply Mo.pm_Cskip)))
  | (with_reducible apply Mo.pm_step; focus (repeat (first | with_reducible exact Mo.pm_here | with_reducible exact Mo.pm_last | with_reducible apply Mo.pm_skipC | with_reducible apply Mo.pm_skip))))))
namespace Mo
open PySem PySem.Spec PyProof.Rows L2
/-! #### dicts displayed; lists the other way about; texts asked for -/
section
variable {K : PySem.W.Frag} {Γ : List Fc} {S S' : List Vo} {σ : St} {Q : VK} {A : Hp → Prop} {te : TE}
theorem dpa_rev {H : Hp} : ∀ {vs : List V} {ds : List PyData}, DpAll K H vs ds → DpAll K H vs.reverse ds.reverse
  | _, _, .nil => .nil
  | _, _, .cons h r => by
    rw [List.reverse_cons, List.reverse_cons]
    exact dpa_app (dpa_rev r) (.cons h .nil)
/-- the list the other way about, as a new list -/
theorem w_revD {p : Addr} {ds : List PyData} (m : .dat (.ref p) (.list ds) ∈ Γ) (k : ∀ r vs, Wh K (.dats vs ds.reverse :: Γ) (own r (.lst vs) :: S) fun H => Q (.ref r) H) : Wh K Γ S fun H => rRev K (.ref p) H Q := fun H z => by
  obtain ⟨G, a, b⟩ := z
  obtain ⟨p', xs, ep, t1, t2⟩ := dp_lst (b _ m : Dp K G (.ref p) (.list ds))
  cases ep
  refine ⟨p, xs, rfl, ext_l a.ex t1, fun r hr => k r xs.reverse _ ?_⟩
  exact (Hg.new (o := .lst xs.reverse) (⟨G, a, cons_facts (f := .dats xs.reverse ds.reverse) (dpa_rev t2) b⟩ : Hg K (.dats xs.reverse ds.reverse :: Γ) S H) hr)
def mkD (p : Addr) (Q : VK) (ps : List (V × V)) (H : Hp) : Prop := H p = some (.dK []) ∧ ∃ kvs : List (Key × V), ps = kvs.map (fun kv => (kV kv.1, kv.2)) ∧ kvs.length ≤ 15 ∧ Q (.ref p) (upd H p (.dK (mergeK [] kvs)))
theorem w_disp {trs : List (TE × TE)} (k : ∀ p, Wh K Γ (own p (.dK []) :: S) fun H => tPairs trs σ H fun ps H2 => mkD p Q ps H2) : Wh K Γ S fun H => tDisp trs σ H Q := fun H z p hp => k p _ (z.new hp)
theorem w_pnil {Q : List (V × V) → Hp → Prop} (k : Wh K Γ S fun H => Q [] H) : Wh K Γ S fun H => tPairs [] σ H Q := k
theorem w_pcons {tk tv : TE} {r : List (TE × TE)} {Q : List (V × V) → Hp → Prop} (k : Wh K Γ S fun H => tk σ H fun x H1 => tv σ H1 fun y H2 => tPairs r σ H2 fun ps H3 => Q ((x, y) :: ps) H3) : Wh K Γ S fun H => tPairs ((tk, tv) :: r) σ H Q := k
theorem w_dispS {p : Addr} {ps : List (V × V)} (kvs : List (Key × V)) (m : Sw p (.dK []) (.dK (mergeK [] kvs)) S S') (e : ps = kvs.map fun kv => (kV kv.1, kv.2)) (hl : kvs.length ≤ 15) (k : Wh K Γ S' fun H => Q (.ref p) H) : Wh K Γ S fun H => mkD p Q ps H := fun H z => ⟨z.own m.mem, kvs, e, hl, k _ (z.sw m)⟩
/-- a list's last leaves -/
theorem w_pop {p : Addr} {xs : List V} {y : V} (m : Sw p (.lst (xs ++ [y])) (.lst xs) S S') (k : Wh K Γ S' fun H => Q y H) : Wh K Γ S fun H => rPop (.ref p) [] H Q := fun H z => by
  refine ⟨p, xs ++ [y], y, rfl, rfl, z.own m.mem, by simp, ?_⟩
  rw [List.dropLast_concat]
  exact k _ (z.sw m)
theorem w_clear {p : Addr} {xs : List V} (m : Sw p (.lst xs) (.lst []) S S') (k : Wh K Γ S' fun H => Q .non H) : Wh K Γ S fun H => rClear (.ref p) [] H Q := fun H z => ⟨p, xs, rfl, rfl, z.own m.mem, k _ (z.sw m)⟩
/-- what kind it is -/
theorem w_isi_ii {a : Int} (k : Wh K Γ S fun H => Q (.bl true) H) : Wh K Γ S fun H => rIsi K [.int a, .ty "int"] H Q := fun H z => go_isi_ii (k H z)
theorem w_isi_ib {a : Int} (k : Wh K Γ S fun H => Q (.bl false) H) : Wh K Γ S fun H => rIsi K [.int a, .ty "bool"] H Q := fun H z => go_isi_ib (k H z)
theorem w_isi_is {a : Int} (k : Wh K Γ S fun H => Q (.bl false) H) : Wh K Γ S fun H => rIsi K [.int a, .ty "str"] H Q := fun H z => go_isi_is (k H z)
theorem w_isi_ss {a : Str} (k : Wh K Γ S fun H => Q (.bl true) H) : Wh K Γ S fun H => rIsi K [.str a, .ty "str"] H Q := fun H z => go_isi_ss (k H z)
theorem w_isi_bb {a : Bool} (k : Wh K Γ S fun H => Q (.bl true) H) : Wh K Γ S fun H => rIsi K [.bl a, .ty "bool"] H Q := fun H z => go_isi_bb (k H z)
theorem w_isi_st {a : Str} (k : Wh K Γ S fun H => Q (.bl false) H) : Wh K Γ S fun H => rIsi K [.str a, .ty "tuple"] H Q := fun H z => go_isi (.ty _) (.base (.str _)) (kit_ty (by decide +kernel)) (k H z)
theorem w_isi_sl {a : Str} (k : Wh K Γ S fun H => Q (.bl false) H) : Wh K Γ S fun H => rIsi K [.str a, .ty "list"] H Q := fun H z => go_isi (.ty _) (.base (.str _)) (kit_ty (by decide +kernel)) (k H z)
theorem w_isi_il {a : Int} (k : Wh K Γ S fun H => Q (.bl false) H) : Wh K Γ S fun H => rIsi K [.int a, .ty "list"] H Q := fun H z => go_isi (.ty _) (.base (.int _)) (kit_ty (by decide +kernel)) (k H z)
theorem w_isi_tt {a : Addr} {xs : List V} (m : .obj a (.tup xs) ∈ Γ) (k : Wh K Γ S fun H => Q (.bl true) H) : Wh K Γ S fun H => rIsi K [.ref a, .ty "tuple"] H Q := fun H z => go_isi (.ty _) (.base (.tup (z.obj m))) (kit_ty (by decide +kernel)) (k H z)
theorem w_isi_ts {a : Addr} {xs : List V} (m : .obj a (.tup xs) ∈ Γ) (k : Wh K Γ S fun H => Q (.bl false) H) : Wh K Γ S fun H => rIsi K [.ref a, .ty "str"] H Q := fun H z => go_isi (.ty _) (.base (.tup (z.obj m))) (kit_ty (by decide +kernel)) (k H z)
theorem w_isi_ll {a : Addr} {xs : List V} (m : AtH K Γ S a (.lst xs)) (k : Wh K Γ S fun H => Q (.bl true) H) : Wh K Γ S fun H => rIsi K [.ref a, .ty "list"] H Q := fun H z => go_isi (.ty _) (.base (.lst (m H z))) (kit_ty (by decide +kernel)) (k H z)
end
section
variable {K : PySem.W.Frag} {Γ : List Fc} {S R S0 : List Vo} {A : Hp → Prop}
theorem Dr.glue {x y : Vo} (h : Dr S0 (x :: y :: R)) : Dr S0 ((x ++ y) :: R) := by
  obtain ⟨J, j⟩ := h
  refine ⟨J, j.trans ?_⟩
  rw [List.flatten_append, List.flatten_append, List.flatten_cons, List.flatten_cons, List.flatten_cons, List.append_assoc]
theorem w_thin {Γ' : List Fc} {S' : List Vo} (hΓ : ∀ f ∈ Γ', f ∈ Γ) (h : Dr S S') (k : Wh K Γ' S' A) : Wh K Γ S A := fun H z => k H (z.fit hΓ h)
end
/-! #### dicts that are walked: locked while the loop runs -/
def lkD (d : Addr) (od : Obj) (u : HO) (D : Ends) : Ends := ⟨fun σ' H' => H' d = some (.frz od u) ∧ D.nx σ' (upd H' d u), fun v H' => H' d = some (.frz od u) ∧ D.rt v (upd H' d u), fun σ' H' => H' d = some (.frz od u) ∧ D.bk σ' (upd H' d u), fun σ' H' => H' d = some (.frz od u) ∧ D.ct σ' (upd H' d u)⟩
def forKeys (g : TG) (tw : TS) (D : Ends) (σ : St) (x : V) (H : Hp) : Prop := ∃ d o, x = .ref d ∧ ((∃ kvs, H d = some (.frz o (.dK kvs)) ∧ LoopX g tw D σ H (Itk d o kvs)) ∨ ∃ kvs, H d = some (.frz o (.dT kvs)) ∧ LoopX g tw D σ H (Itkt d o kvs))
section
variable {K : PySem.W.Frag} {Γ : List Fc} {S R : List Vo} {σ : St} {D : Ends} {t tw : TS} {g : TG} {td : TE} {d : Addr} {od : Obj} {u : HO} {kvs : List (Key × V)} {Q : VK}
theorem w_lock (m : Take (own d u) S R) (mu : Mut (some u)) (k : ∀ od, Wh K Γ (own d (.frz od u) :: R) fun H => t (lkD d od u D) σ H) : Wh K Γ S fun H => tLock t D σ H := fun H z => ⟨d, u, (z.tk1 m).own List.mem_cons_self, mu, fun od => k od _ ((z.tk1 m).sw Sw.here)⟩
theorem w_unlock (m : Take (own d (.frz od u)) S R) (k : Wh K Γ (own d u :: R) fun H => D.nx σ H) : Wh K Γ S fun H => (lkD d od u D).nx σ H := fun H z => ⟨(z.tk1 m).own List.mem_cons_self, k _ ((z.tk1 m).sw Sw.here)⟩
theorem w_forKeys (k : Wh K Γ S fun H => td σ H fun x H1 => forKeys g tw D σ x H1) : Wh K Γ S fun H => tFor (iKeys td) g tw D σ H := k
theorem w_keys (m : own d (.frz od (.dK kvs)) ∈ S) (k : Wh K Γ S fun H => LoopX g tw D σ H (Itk d od kvs)) : Wh K Γ S fun H => forKeys g tw D σ (.ref d) H := fun H z => ⟨d, od, rfl, .inl ⟨kvs, z.own m, k H z⟩⟩
theorem w_loop_k {ι : Type} (C : Nat → ι → Prop) (sg : Nat → ι → St) (Γf : Nat → ι → List Fc) (Sf : Nat → ι → List Vo) (a0 : ι) (h0 : C 0 a0) (hσ : σ = sg 0 a0) (hΓ : ∀ f ∈ Γf 0 a0, f ∈ Γ) (hS : Dr S (Sf 0 a0))
    (hl : ∀ i a, own d (.frz od (.dK kvs)) ∈ Sf i a)
    (hs : ∀ (i : Nat) k v a, kvs[i]? = some (k, v) → C i a → Wh K (Γf i a) (Sf i a) fun H => g (kV k) (sg i a) H fun σ2 H2 => tw { D with nx := NX K (C (i + 1)) (sg (i + 1)) (Γf (i + 1)) (Sf (i + 1)), ct := NX K (C (i + 1)) (sg (i + 1)) (Γf (i + 1)) (Sf (i + 1)), bk := D.nx } σ2 H2)
    (hd : ∀ a, C kvs.length a → Wh K (Γf kvs.length a) (Sf kvs.length a) fun H => D.nx (sg kvs.length a) H) : Wh K Γ S fun H => LoopX g tw D σ H (Itk d od kvs) := fun H z => by
  refine ⟨fun i m σ H => m = kvs.length - i ∧ i ≤ kvs.length ∧ NX K (C i) (sg i) (Γf i) (Sf i) σ H, ⟨kvs.length, by simp, Nat.zero_le _, w_again a0 h0 hσ hΓ hS H z⟩, ?_⟩
  rintro i m σ' H' ⟨rfl, hi, a, hC, hσ, z'⟩
  subst hσ
  by_cases hlt : i < kvs.length
  · refine .inr ⟨⟨z'.own (hl i a), hlt⟩, NX K (C (i + 1)) (sg (i + 1)) (Γf (i + 1)) (Sf (i + 1)), fun σ'' H'' p' => ⟨kvs.length - (i + 1), by omega, rfl, hlt, p'⟩, fun x H'' y => ?_⟩
    obtain ⟨rfl, ky, v, e1, rfl⟩ := y
    exact hs i ky v a e1 hC H'' z'
  · have e : i = kvs.length := by omega
    subst e
    exact .inl ⟨⟨z'.own (hl _ a), Nat.le_refl _⟩, hd a hC H' z'⟩
/-- a dict that is locked is read -/
theorem w_subKf {z : Str} {v : V} (m : own d (.frz od (.dK kvs)) ∈ S) (e : valV kvs (Sum.inr z) = some v) (k : Wh K Γ S fun H => Q v H) : Wh K Γ S fun H => rSub K (.ref d) (.str z) H Q := fun H w => go_subD (y := .str z) (.inl ⟨kvs, Sum.inr z, .inr ⟨od, w.own m⟩, rfl, e.symm⟩) (k H w)
theorem w_dcopy (m : AtH K Γ S d (.dK kvs)) (k : ∀ p, Wh K Γ (own p (.dK kvs) :: S) fun H => Q (.ref p) H) : Wh K Γ S fun H => rDCopy (.ref d) [] H Q := fun H z => ⟨d, kvs, rfl, rfl, m H z, fun p hp => k p _ (z.new hp)⟩
theorem w_tyDK {A : Hp → Prop} (m : AtH K Γ S d (.dK kvs)) (k : Wh K Γ S A) : Wh K Γ S fun H => tyV K "dict" (.ref d) H ∧ A H := fun H z => ⟨.inr (.inr (.inl ⟨rfl, .inl ⟨kvs, m H z⟩⟩)), k H z⟩
theorem w_dclear (m : Sw d (.dK kvs) (.dK []) S R) (k : Wh K Γ R fun H => Q .non H) : Wh K Γ S fun H => rDClear (.ref d) [] H Q := fun H z => ⟨d, kvs, rfl, rfl, z.own m.mem, k _ (z.sw m)⟩
end
end Mo
local macro_rules | `(tactic| k_extra "m") => `(tactic| first
  | exact List.mem_cons_self
  | (with_reducible assumption)
  | (refine List.mem_cons_of_mem _ ?_; k_extra "m"))
local macro_rules | `(tactic| k_extra "mr") => `(tactic| with_reducible first
  | exact List.mem_cons_self
  | assumption
  | (refine List.mem_cons_of_mem _ ?_; k_extra "mr"))
local macro_rules | `(tactic| k_extra "t") => `(tactic| with_reducible first
  | exact Mo.Take.here
  | (apply Mo.Take.there; k_extra "t"))
local macro_rules | `(tactic| k_extra "ts1") => `(tactic| first
  | (with_reducible exact Mo.Takes'.nil)
  | (apply Mo.Takes'.cons; k_extra "t"; k_extra "ts1"))
local macro_rules | `(tactic| k_extra "ts") => `(tactic| ((try dsimp only [Mo.doS]); (try dsimp only); k_extra "ts1"))
local macro_rules | `(tactic| k_extra "sw") => `(tactic| with_reducible first
  | exact Mo.Sw.here
  | (apply Mo.Sw.there; k_extra "sw"))
local macro_rules | `(tactic| k_extra "at") => `(tactic| first
  | exact Mo.AtH.own (by k_extra "mr")
  | exact Mo.at_st (by k_extra "mr")
  | exact Mo.at_bx (by k_extra "mr")
  | exact Mo.at_qu (by k_extra "mr")
  | exact Mo.at_ls (by k_extra "mr")
  | exact Mo.at_lb (by k_extra "mr")
  | exact Mo.at_lq (by k_extra "mr")
  | exact Mo.AtH.obj (by k_extra "m"))
local macro_rules | `(tactic| k_extra "dv") => `(tactic| first
  | exact Mo.DV.int
  | exact Mo.DV.str
  | exact Mo.DV.bl
  | exact Mo.DV.non
  | exact Mo.DV.mem (by k_extra "m")
  | assumption)
local macro_rules | `(tactic| k_extra "dl") => `(tactic| first
  | exact Mo.DL.nil
  | (apply Mo.DL.cons; k_extra "dv"; k_extra "dl")
  | exact Mo.DL.ints
  | exact Mo.DL.strs
  | assumption)
local macro_rules | `(tactic| k_extra "sufx") => `(tactic| with_reducible first
  | exact Mo.sub_refl
  | (refine Mo.sub_cons ?_; k_extra "sufx"))
local macro_rules | `(tactic| k_extra "sub1") => `(tactic| first
  | k_extra "sufx"
  | ((with_reducible refine Mo.sub_put (by k_extra "m") ?_); k_extra "sub1")
  | exact Mo.sub_refl
  | ((with_reducible refine Mo.sub_cons ?_); k_extra "sub1")
  | exact Mo.sub_nil)
local macro_rules | `(tactic| k_extra "pr") => `(tactic| first
  | exact Mo.prm_refl
  | (apply Mo.prm_cons; k_extra "t"; k_extra "pr"))
local macro_rules | `(tactic| k_extra "dr1") => `(tactic| first
  | exact Mo.Dr.refl
  | (apply Mo.Dr.keep; k_extra "t"; k_extra "dr1")
  | ((with_reducible refine Mo.Dr.skip ?_); k_extra "dr1"))
local macro_rules | `(tactic| k_extra "W0") => `(tactic| with_reducible first
  | refine Mo.w_seq ?_
  | refine Mo.w_asg ?_
  | refine Mo.w_op ?_
  | refine Mo.w_c ?_
  | refine Mo.w_gn ?_
  | refine Mo.w_test ?_
  | refine Mo.w_bl ?_
  | refine Mo.w_iteT ?_
  | refine Mo.w_iteF ?_
  | refine Mo.w_I0 ?_
  | refine Mo.w_cons ?_
  | refine Mo.w_nil ?_
  | refine Mo.w_call ?_
  | refine Mo.w_ret ?_
  | refine Mo.w_eqi ?_
  | refine Mo.w_addI ?_
  | refine Mo.w_ltI ?_
  | refine Mo.w_leI ?_
  | refine Mo.w_geI ?_
  | refine Mo.w_truB ?_
  | refine Mo.w_truN ?_
  | refine Mo.w_isN_t ?_
  | refine Mo.w_notN_t ?_
  | refine Mo.w_isN_r ?_
  | refine Mo.w_notN_r ?_
  | refine Mo.w_isN_i ?_
  | refine Mo.w_notN_i ?_
  | refine Mo.w_nei ?_
  | refine Mo.w_cb ?_
  | refine Mo.w_drop ?_
  | refine Mo.w_tup ?_
  | refine Mo.w_lst ?_
  | refine Mo.w_next ?_
  | refine Mo.w_fld ?_
  | refine Mo.w_sfld ?_
  | refine Mo.w_meth ?_
  | refine Mo.w_make ?_
  | refine Mo.w_bm ?_
  | refine Mo.w_bm0 ?_
  | refine Mo.w_gsub ?_
  | refine Mo.w_gcons ?_
  | refine Mo.w_gnil ?_
  | refine Mo.w_and ?_
  | refine Mo.w_or ?_
  | refine Mo.w_not ?_
  | refine Mo.w_andV ?_
  | refine Mo.w_orV ?_
  | refine Mo.w_notV ?_
  | refine Mo.w_un ?_
  | refine Mo.w_rU ?_
  | refine Mo.w_sl ?_
  | refine Mo.w_nopart ?_
  | refine Mo.w_part ?_
  | refine Mo.w_int ?_
  | refine Mo.w_ifE ?_
  | refine Mo.w_tb ?_
  | refine Mo.w_ipI ?_
  | refine Mo.w_iteFn ?_
  | refine Mo.w_iteTn ?_
  | refine Mo.w_eqb ?_
  | refine Mo.w_neb ?_
  | refine Mo.w_brk ?_
  | refine Mo.w_forSeq ?_
  | refine Mo.w_forRng ?_
  | refine Mo.w_lcSeq ?_
  | refine Mo.w_lcRng ?_
  | refine Mo.w_yes ?_
  | refine Mo.w_cont ?_
  | refine Mo.w_pow15 ?_
  | refine Mo.w_pow12 ?_
  | refine Mo.w_pow6 ?_
  | refine Mo.w_fldaug ?_
  | refine Mo.w_addR ?_
  | refine Mo.w_subR ?_
  | refine Mo.w_eqsT ?_
  | refine Mo.w_nesT ?_
  | refine Mo.w_noned ?_
  | refine Mo.w_isi_ii ?_
  | refine Mo.w_isi_ib ?_
  | refine Mo.w_isi_is ?_
  | refine Mo.w_isi_ss ?_
  | refine Mo.w_isi_bb ?_
  | refine Mo.w_isi_st ?_
  | refine Mo.w_isi_sl ?_
  | refine Mo.w_isi_il ?_
  | refine Mo.w_forKeys ?_
  | refine Mo.w_pnil ?_
  | refine Mo.w_pcons ?_
  | refine Mo.w_texc ?_
  | refine Mo.w_tword ?_)
local macro_rules | `(tactic| k_extra "W1") => `(tactic| first
  | ((with_reducible refine' Mo.w_var ?k1 ?_); (case k1 => exact rfl))
  | k_extra "W0"
  | ((with_reducible refine' Mo.w_fldL ?k1 ?k2 ?k3 ?k4 ?_); (case k1 => k_extra "at"); (case k2 => k_extra "lk"); (case k3 => k_extra "cl"); (case k4 => k_extra "na"))
  | ((with_reducible refine' Mo.w_same ?k1 ?_); (case k1 => exact rfl))
  | ((with_reducible refine' Mo.w_eqsF ?k1 ?_); (case k1 => decide +kernel))
  | ((with_reducible refine' Mo.w_nesF ?k1 ?_); (case k1 => decide +kernel))
  | ((with_reducible refine' Mo.w_subDi ?k1 ?k2 ?_); (case k1 => k_extra "m"); (case k2 => exact rfl))
  | ((with_reducible refine' Mo.w_subDs ?k1 ?k2 ?_); (case k1 => k_extra "m"); (case k2 => exact rfl))
  | ((with_reducible refine' Mo.w_subD ?k1 ?k2 ?_); (case k1 => k_extra "m"); (case k2 => exact rfl); intro _; (try dsimp only [Mo.valOf_n, Mo.valOf_b, Mo.valOf_i, Mo.valOf_s, Mo.valOf_l, Mo.valOf_t]))
  | ((with_reducible refine' Mo.w_subO ?k1 ?k2 ?_); (case k1 => k_extra "m"); (case k2 => exact rfl))
  | ((with_reducible refine' Mo.w_subLi ?k1 ?k2 ?_); (case k1 => k_extra "m"); (case k2 => exact rfl))
  | ((with_reducible refine' Mo.w_subLs ?k1 ?k2 ?_); (case k1 => k_extra "m"); (case k2 => exact rfl))
  | ((with_reducible refine' Mo.w_sub ?k1 ?k2 ?_); (case k1 => k_extra "at"); (case k2 => exact rfl))
  | ((with_reducible refine' Mo.w_methL ?k1 ?k2 ?_); (case k1 => k_extra "at"); (case k2 => k_extra "nolk"))
  | ((with_reducible refine' Mo.w_tupD ?k1 ?k2 ?_); (case k1 => exact rfl); (case k2 => k_extra "dl"); intro _)
  | ((with_reducible refine' Mo.w_tupO ?k1 ?_); (case k1 => exact rfl); intro _)
  | ((with_reducible refine' Mo.w_lenD ?k1 ?_); (case k1 => k_extra "m"))
  | ((with_reducible refine' Mo.w_gt2 ?k1 ?_); (case k1 => k_extra "m"); intro _ _; (try dsimp only [Mo.valOf_n, Mo.valOf_b, Mo.valOf_i, Mo.valOf_s, Mo.valOf_l, Mo.valOf_t]))
  | ((with_reducible refine' Mo.w_gt3 ?k1 ?_); (case k1 => k_extra "m"); intro _ _ _; (try dsimp only [Mo.valOf_n, Mo.valOf_b, Mo.valOf_i, Mo.valOf_s, Mo.valOf_l, Mo.valOf_t]))
  | ((with_reducible refine' Mo.w_gt4 ?k1 ?_); (case k1 => k_extra "m"); intro _ _ _ _; (try dsimp only [Mo.valOf_n, Mo.valOf_b, Mo.valOf_i, Mo.valOf_s, Mo.valOf_l, Mo.valOf_t]))
  | ((with_reducible refine' Mo.w_gt5 ?k1 ?_); (case k1 => k_extra "m"); intro _ _ _ _ _; (try dsimp only [Mo.valOf_n, Mo.valOf_b, Mo.valOf_i, Mo.valOf_s, Mo.valOf_l, Mo.valOf_t]))
  | ((with_reducible refine' Mo.w_gt6 ?k1 ?_); (case k1 => k_extra "m"); intro _ _ _ _ _ _; (try dsimp only [Mo.valOf_n, Mo.valOf_b, Mo.valOf_i, Mo.valOf_s, Mo.valOf_l, Mo.valOf_t]))
  | ((with_reducible refine' Mo.w_gt7 ?k1 ?_); (case k1 => k_extra "m"); intro _ _ _ _ _ _ _; (try dsimp only [Mo.valOf_n, Mo.valOf_b, Mo.valOf_i, Mo.valOf_s, Mo.valOf_l, Mo.valOf_t]))
  | ((with_reducible refine' Mo.w_gtO ?k1 ?k2 ?_); (case k1 => k_extra "m"); (case k2 => exact rfl))
  | ((with_reducible refine' Mo.w_tyL ?k1 ?_); (case k1 => k_extra "at"))
  | ((with_reducible refine' Mo.w_draw ?k1 ?k2 ?k3 ?_); (case k1 => k_extra "mr"); (case k2 => (first | decide | omega)); (case k3 => (first | decide | omega)))
  | ((with_reducible refine' Mo.w_forD ?k1 ?_); (case k1 => k_extra "m"))
  | ((with_reducible refine' Mo.w_keys ?k1 ?_); (case k1 => k_extra "mr"))
  | ((with_reducible refine' Mo.w_tyDK ?k1 ?_); (case k1 => k_extra "at"))
  | ((with_reducible refine' Mo.w_dcopy ?k1 ?_); (case k1 => k_extra "at"); intro _)
  | ((with_reducible refine' Mo.w_isi_tt ?k1 ?_); (case k1 => k_extra "m"))
  | ((with_reducible refine' Mo.w_isi_ts ?k1 ?_); (case k1 => k_extra "m"))
  | ((with_reducible refine' Mo.w_isi_ll ?k1 ?_); (case k1 => k_extra "at"))
  | ((with_reducible refine' Mo.w_revD ?k1 ?_); (case k1 => k_extra "m"); intro _ _)
  | ((with_reducible refine' Mo.w_lcD ?k1 ?_); (case k1 => k_extra "m"))
  | ((with_reducible refine' Mo.w_forL ?k1 ?_); (case k1 => k_extra "at"))
  | ((with_reducible refine' Mo.w_lcL ?k1 ?_); (case k1 => k_extra "at"))
  | ((with_reducible refine' Mo.w_exc ?_); intro _)
  | (with_reducible refine Mo.w_intB ?_)
  | (with_reducible refine Mo.w_intI ?_)
  | (with_reducible refine Mo.w_ifS ?_))
local macro_rules | `(tactic| k_extra "W") => `(tactic| repeat k_extra "W1")
local macro_rules | `(tactic| k_extra "rp") => `(tactic| with_reducible first
  | exact Mo.Rp.here
  | (apply Mo.Rp.there; k_extra "rp"))
local macro_rules | `(tactic| k_extra "sub") => `(tactic| ((try dsimp only [List.nil_append, List.cons_append]); k_extra "sub1"))
local macro_rules | `(tactic| k_extra "dr") => `(tactic| ((try dsimp only [List.nil_append, List.cons_append]); k_extra "dr1"))
namespace Mo
open PySem PySem.Spec PyProof.Rows L2
/-! ### happenings and endings: plain Lean -/
structure Hap where
  time : Int
  rank : Int
  frm : Int
  count : Int
  to : Int
  sign : Str
  g : Int
  h : Int
  deriving DecidableEq
def Hap.key (x : Hap) : List Int := [x.time, x.rank, x.frm, x.count]
def keyD (ns : List Int) : PyData := .tuple (ns.map PyData.int)
def Hap.data (x : Hap) : PyData := .tuple [.tuple [.int x.time, .int x.rank, .int x.frm, .int x.count], .int x.to, .str x.sign, .int x.g, .int x.h]
instance : Inhabited Hap := ⟨⟨0, 0, 0, 0, 0, "", 0, 0⟩⟩
def Hap.keyD (x : Hap) : PyData := .tuple [.int x.time, .int x.rank, .int x.frm, .int x.count]
inductive Ending where
  | fin (x : Hap)
  | fault (f : Flt) (x : Hap)
  | empty
  | cut
def Ending.data : Ending → PyData
  | .fin x => .tuple [.str "end", x.keyD]
  | .fault f x => .tuple [.str "fault", .str f.word, x.keyD]
  | .empty => .tuple [.str "empty"]
  | .cut => .tuple [.str "cut"]
/-- an ending, or none -/
def endD : Option Ending → PyData
  | none => .none
  | some e => e.data
end Mo
namespace Mo
open PySem PySem.Spec PyProof.Rows L2
/-! ### deeds done: plain Lean -/
/-- what stays while a happening is done -/
structure DoC where
  draws : List Int
  hap : Hap
structure Do where
  st : MSt
  wr : List Str
  news : List Hap
  ends : Bool
def addW (x : Str) (l : List Str) : List Str := if x ∈ l then l else l ++ [x]
def Do.env (c : DoC) (s : Do) : Env := s.st.env c.hap.time c.hap.g c.hap.h
def Do.put (s : Do) (x : Str) (n : Int) : Do := { s with st := s.st.setB x n, wr := addW x s.wr }
def Do.push (s : Do) (q : Str) (n : Int) : Except Flt Do := if 30 ≤ (lookD [] q s.st.queues).length then .error .full else .ok { s with st := s.st.setQ q (lookD [] q s.st.queues ++ [n]), wr := addW q s.wr }
def Do.draw (c : DoC) (s : Do) (b : Str) (many : Int) : Except Flt Do :=
  if many < 1 then .error .nought else if c.draws.length = 0 then .error .dry else
  .ok { s.put b ((c.draws.getD (s.st.drawn.fmod c.draws.length).toNat 0).fmod many) with st := { (s.st.setB b ((c.draws.getD (s.st.drawn.fmod c.draws.length).toNat 0).fmod many)) with drawn := s.st.drawn + 1 } }
def Do.send (c : DoC) (s : Do) (to : Int) (sign : Str) (span : Fm) (rank : Int) (g h : Fm) : Except Flt Do := match span.ev (s.env c) with
  | .error x => .error x
  | .ok sp => if sp < 1 ∨ 1000000 < sp then .error .span else match g.ev (s.env c) with
    | .error x => .error x
    | .ok a => match h.ev (s.env c) with
      | .error x => .error x
      | .ok b => if 1000000000000 < c.hap.time + sp then .error .late else .ok { s with st := { s.st with sent := s.st.sent + 1 }, news := s.news ++ [⟨c.hap.time + sp, rank, c.hap.to, s.st.sent, to, sign, a, b⟩] }
/-- a worth leaves a queue -/
def Do.pulled (s : Do) (q b : Str) (n : Int) (r : List Int) : Do := { s with st := (s.st.setQ q r).setB b n, wr := addW q (addW b s.wr) }
mutual
def Dd.run (c : DoC) : Dd → Do → Except Flt Do
  | .put b f, s => match f.ev (s.env c) with
    | .error x => .error x
    | .ok n => .ok (s.put b n)
  | .push q f, s => match f.ev (s.env c) with
    | .error x => .error x
    | .ok n => s.push q n
  | .pull q b ds, s => match lookD [] q s.st.queues with
    | [] => Dd.runs c ds s
    | n :: r => .ok (s.pulled q b n r)
  | .draw b f, s => match f.ev (s.env c) with
    | .error x => .error x
    | .ok n => s.draw c b n
  | .send to sign span rank g h, s => s.send c to sign span rank g h
  | .iff f a b, s => match f.ev (s.env c) with
    | .error x => .error x
    | .ok n => if n = 0 then Dd.runs c b s else Dd.runs c a s
  | .fin, s => .ok { s with ends := true }
def Dd.runs (c : DoC) : List Dd → Do → Except Flt Do
  | [], s => .ok s
  | d :: ds, s => match Dd.run c d s with
    | .error x => .error x
    | .ok s' => Dd.runs c ds s'
end
/-! #### what is needed: names that are there, worths -/
mutual
def Dd.Ok (bs qs : List Str) : Dd → Prop
  | .put b f => b ∈ bs ∧ f.Ok bs qs
  | .push q f => q ∈ qs ∧ f.Ok bs qs
  | .pull q b ds => q ∈ qs ∧ b ∈ bs ∧ Dd.Oks bs qs ds
  | .draw b f => b ∈ bs ∧ f.Ok bs qs
  | .send _ _ span _ g h => span.Ok bs qs ∧ g.Ok bs qs ∧ h.Ok bs qs
  | .iff f a b => f.Ok bs qs ∧ Dd.Oks bs qs a ∧ Dd.Oks bs qs b
  | .fin => True
def Dd.Oks (bs qs : List Str) : List Dd → Prop
  | [] => True
  | d :: ds => d.Ok bs qs ∧ Dd.Oks bs qs ds
end
mutual
/-- how deep its formulas are -/
def Dd.fdep : Dd → Nat
  | .put _ f => f.depth
  | .push _ f => f.depth
  | .pull _ _ ds => Dd.fdeps ds
  | .draw _ f => f.depth
  | .send _ _ span _ g h => max span.depth (max g.depth h.depth)
  | .iff f a b => max f.depth (max (Dd.fdeps a) (Dd.fdeps b))
  | .fin => 0
def Dd.fdeps : List Dd → Nat
  | [] => 0
  | d :: ds => max d.fdep (Dd.fdeps ds)
end
theorem oks_get {bs qs : List Str} : ∀ {ds : List Dd} {i : Nat} {d : Dd}, Dd.Oks bs qs ds → ds[i]? = some d → d.Ok bs qs
  | [], _, _, _, h => by simp at h
  | e :: ds, 0, d, k, h => by
    simp only [List.getElem?_cons_zero, Option.some.injEq] at h
    subst h
    rw [Dd.Oks] at k
    exact k.1
  | e :: ds, i + 1, d, k, h => by
    rw [List.getElem?_cons_succ] at h
    rw [Dd.Oks] at k
    exact oks_get k.2 h
theorem fdeps_get : ∀ {ds : List Dd} {i : Nat} {d : Dd}, ds[i]? = some d → d.fdep ≤ Dd.fdeps ds
  | [], _, _, h => by simp at h
  | e :: ds, 0, d, h => by
    simp only [List.getElem?_cons_zero, Option.some.injEq] at h
    subst h
    rw [Dd.fdeps]
    omega
  | e :: ds, i + 1, d, h => by
    rw [List.getElem?_cons_succ] at h
    have := fdeps_get h
    rw [Dd.fdeps]
    omega
theorem oks_take {bs qs : List Str} : ∀ {ds : List Dd}, Dd.Oks bs qs ds → ∀ i, Dd.Oks bs qs (ds.take i)
  | [], _, i => by rw [List.take_nil, Dd.Oks]; exact True.intro
  | d :: ds, h, 0 => by rw [List.take_zero, Dd.Oks]; exact True.intro
  | d :: ds, h, i + 1 => by
    rw [Dd.Oks] at h
    rw [List.take_succ_cons, Dd.Oks]
    exact ⟨h.1, oks_take h.2 i⟩
structure MSt.Wo (s : MSt) : Prop where
  bw : ∀ p ∈ s.boxes, Worth p.2
  ql : ∀ p ∈ s.queues, p.2.length ≤ 300
  qw : ∀ p ∈ s.queues, ∀ n ∈ p.2, Worth n
  nb : s.bs.Nodup
  nq : s.qs.Nodup
  lb : s.boxes.length ≤ 1000
  lq : s.queues.length ≤ 1000
theorem lookD_in {α : Type} {d : α} {x : Str} : ∀ {l : List (Str × α)}, x ∈ l.map (·.1) → (x, lookD d x l) ∈ l
  | [], h => by simp at h
  | p :: r, h => by
    show (x, if p.1 = x then p.2 else lookD d x r) ∈ p :: r
    by_cases e : p.1 = x
    · rw [if_pos e, ← e]
      exact List.mem_cons_self
    · rw [if_neg e]
      rw [List.map_cons] at h
      exact List.mem_cons_of_mem _ (lookD_in ((List.mem_cons.mp h).resolve_left fun z => e z.symm))
theorem MSt.Wo.env {s : MSt} (h : s.Wo) {t g0 g1 : Int} (ht : Worth t) (h0 : Worth g0) (h1 : Worth g1) : (s.env t g0 g1).Ok s.bs s.qs where
  boxes := fun x hx => h.bw _ (lookD_in hx)
  longs := fun x hx => by
    have := h.ql _ (lookD_in (d := []) hx)
    show (lookD [] x s.queues).length ≤ 100000
    have e : (x, lookD [] x s.queues).2 = lookD [] x s.queues := rfl
    rw [e] at this
    omega
  now := ht
  got := fun j _ => by
    show Worth (if j = 0 then g0 else g1)
    split
    · exact h0
    · exact h1
theorem mem_setA {α : Type} {x : Str} {v : α} {l : List (Str × α)} {p : Str × α} (h : p ∈ setA x v l) : p ∈ l ∨ p = (x, v) := by
  unfold setA at h
  obtain ⟨q, hq, e⟩ := List.mem_map.mp h
  split at e
  · exact .inr e.symm
  · rw [← e]; exact .inl hq
theorem MSt.Wo.setB {s : MSt} (h : s.Wo) {x : Str} {n : Int} (hn : Worth n) : (s.setB x n).Wo where
  bw := fun p hp => by
    rcases mem_setA hp with hp | rfl
    · exact h.bw p hp
    · exact hn
  ql := h.ql
  qw := h.qw
  nb := by rw [MSt.setB_bs]; exact h.nb
  nq := h.nq
  lb := by show (setA x n s.boxes).length ≤ 1000; rw [setA_len]; exact h.lb
  lq := h.lq
theorem MSt.Wo.setQ {s : MSt} (h : s.Wo) {x : Str} {ns : List Int} (hl : ns.length ≤ 300) (hn : ∀ n ∈ ns, Worth n) : (s.setQ x ns).Wo where
  bw := h.bw
  ql := fun p hp => by
    rcases mem_setA hp with hp | rfl
    · exact h.ql p hp
    · exact hl
  qw := fun p hp => by
    rcases mem_setA hp with hp | rfl
    · exact h.qw p hp
    · exact hn
  nb := h.nb
  nq := by rw [MSt.setQ_qs]; exact h.nq
  lb := h.lb
  lq := by show (setA x ns s.queues).length ≤ 1000; rw [setA_len]; exact h.lq
theorem MSt.Wo.setN {s : MSt} (h : s.Wo) {a b : Int} : ({ s with drawn := a, sent := b } : MSt).Wo := ⟨h.bw, h.ql, h.qw, h.nb, h.nq, h.lb, h.lq⟩
/-- a happening that may be done -/
structure DoC.Ok (c : DoC) : Prop where
  t0 : 0 ≤ c.hap.time
  t1 : c.hap.time ≤ 1000000000000
  g : Worth c.hap.g
  h : Worth c.hap.h
  ln : c.draws.length ≤ 1000
theorem DoC.Ok.time {c : DoC} (h : c.Ok) : Worth c.hap.time := by
  have := h.t0
  have := h.t1
  constructor <;> omega
structure Do.Ok (B Z : List Str) (s : Do) : Prop where
  wo : s.st.Wo
  bs : s.st.bs = B
  qs : s.st.qs = Z
  wr : ∀ x ∈ s.wr, x ∈ B ∨ x ∈ Z
  nw : s.wr.Nodup
theorem nodup_len {α : Type} [DecidableEq α] : ∀ {l m : List α}, l.Nodup → (∀ x ∈ l, x ∈ m) → l.length ≤ m.length
  | [], _, _, _ => Nat.zero_le _
  | x :: l, m, h, s => by
    have h2 := List.nodup_cons.mp h
    have hx := s x List.mem_cons_self
    have := nodup_len (l := l) (m := m.erase x) h2.2 fun y hy => (List.mem_erase_of_ne (fun e => h2.1 (by rw [← e]; exact hy))).mpr (s y (List.mem_cons_of_mem _ hy))
    rw [List.length_erase_of_mem hx] at this
    have h3 : 0 < m.length := List.length_pos_of_mem hx
    rw [List.length_cons]
    omega
theorem Do.Ok.wrlen {B Z : List Str} {s : Do} (h : s.Ok B Z) : s.wr.length ≤ 100000 := by
  have h1 : s.wr.length ≤ (B ++ Z).length := nodup_len h.nw fun x hx => List.mem_append.mpr (h.wr x hx)
  rw [List.length_append, ← h.bs, ← h.qs] at h1
  have h2 := h.wo.lb
  have h3 := h.wo.lq
  unfold MSt.bs MSt.qs at h1
  rw [List.length_map, List.length_map] at h1
  omega
theorem Do.Ok.env {bs qs : List Str} {c : DoC} {s : Do} (hc : c.Ok) (h : s.Ok bs qs) : (s.env c).Ok bs qs := by
  have z := h.wo.env hc.time hc.g hc.h
  rw [h.bs, h.qs] at z
  exact z
theorem Do.Ok.ev {bs qs : List Str} {c : DoC} {s : Do} (hc : c.Ok) (h : s.Ok bs qs) {f : Fm} {n : Int} (hf : f.Ok bs qs) (e : f.ev (s.env c) = .ok n) : Worth n := Fm.ev_worth (h.env hc) hf e
theorem mem_addW {x y : Str} {l : List Str} : y ∈ addW x l ↔ y = x ∨ y ∈ l := by
  unfold addW
  split
  · rename_i h
    constructor
    · exact Or.inr
    · rintro (rfl | h2)
      · exact h
      · exact h2
  · rw [List.mem_append, List.mem_singleton, or_comm]
theorem nodup_addW {x : Str} {l : List Str} (h : l.Nodup) : (addW x l).Nodup := by
  unfold addW
  split
  · exact h
  · rename_i hx
    rw [List.nodup_append]
    refine ⟨h, by simp, fun a ha b hb => ?_⟩
    rw [List.mem_singleton.mp hb]
    intro e
    exact hx (by rw [← e]; exact ha)
theorem Do.Ok.put {bs qs : List Str} {s : Do} (h : s.Ok bs qs) {x : Str} {n : Int} (hx : x ∈ bs) (hn : Worth n) : (s.put x n).Ok bs qs where
  wo := h.wo.setB hn
  bs := (MSt.setB_bs ..).trans h.bs
  qs := h.qs
  wr := fun y hy => by
    rcases mem_addW.mp hy with rfl | hy
    · exact .inl hx
    · exact h.wr y hy
  nw := nodup_addW h.nw
theorem Do.Ok.push {bs qs : List Str} {s s' : Do} (h : s.Ok bs qs) {x : Str} {n : Int} (hx : x ∈ qs) (hn : Worth n) (e : s.push x n = .ok s') : s'.Ok bs qs := by
  unfold Do.push at e
  split at e
  · cases e
  · rename_i hl
    cases e
    have hm : (x, lookD [] x s.st.queues) ∈ s.st.queues := lookD_in (show x ∈ s.st.qs by rw [h.qs]; exact hx)
    refine ⟨h.wo.setQ (by rw [List.length_append, List.length_singleton]; omega) fun m hm' => ?_, h.bs, (MSt.setQ_qs ..).trans h.qs, fun y hy => ?_, nodup_addW h.nw⟩
    · rcases List.mem_append.mp hm' with h1 | h1
      · exact h.wo.qw _ hm m h1
      · rw [List.mem_singleton.mp h1]; exact hn
    · rcases mem_addW.mp hy with rfl | hy
      · exact .inr hx
      · exact h.wr y hy
theorem fmod_worth {a n : Int} (h0 : 0 < n) (h : Worth n) : Worth (a.fmod n) := by
  have h1 := fmod_range (a := a) h0
  have := h.2
  constructor <;> omega
theorem Do.Ok.draw {bs qs : List Str} {c : DoC} {s s' : Do} (h : s.Ok bs qs) {x : Str} {n : Int} (hx : x ∈ bs) (hn : Worth n) (e : s.draw c x n = .ok s') : s'.Ok bs qs := by
  unfold Do.draw at e
  split at e
  · cases e
  · split at e
    · cases e
    · rename_i h1 h2
      cases e
      have z := h.put (x := x) (n := (c.draws.getD (s.st.drawn.fmod c.draws.length).toNat 0).fmod n) hx (fmod_worth (by omega) hn)
      exact ⟨z.wo.setN, z.bs, z.qs, z.wr, z.nw⟩
theorem Do.Ok.send {bs qs : List Str} {c : DoC} {s s' : Do} (h : s.Ok bs qs) {to : Int} {sign : Str} {span : Fm} {rank : Int} {g k : Fm} (e : s.send c to sign span rank g k = .ok s') : s'.Ok bs qs := by
  unfold Do.send at e
  split at e
  · cases e
  · split at e
    · cases e
    · split at e
      · cases e
      · split at e
        · cases e
        · split at e
          · cases e
          · cases e
            exact ⟨h.wo.setN, h.bs, h.qs, h.wr, h.nw⟩
theorem Do.Ok.pulled {bs qs : List Str} {s : Do} (h : s.Ok bs qs) {q b : Str} {n : Int} {r : List Int} (hq : q ∈ qs) (hb : b ∈ bs) (e : lookD [] q s.st.queues = n :: r) : (s.pulled q b n r).Ok bs qs := by
  have hm : (q, lookD [] q s.st.queues) ∈ s.st.queues := lookD_in (show q ∈ s.st.qs by rw [h.qs]; exact hq)
  rw [e] at hm
  have h1 := h.wo.ql _ hm
  have h2 := h.wo.qw _ hm
  refine ⟨(h.wo.setQ (by simp only [List.length_cons] at h1; omega) fun m hm' => h2 m (List.mem_cons_of_mem _ hm')).setB (h2 n List.mem_cons_self), ?_, ?_, fun y hy => ?_, nodup_addW (nodup_addW h.nw)⟩
  · show (((s.st.setQ q r).setB b n)).bs = bs
    rw [MSt.setB_bs, MSt.setQ_bs, h.bs]
  · show (((s.st.setQ q r).setB b n)).qs = qs
    rw [MSt.setB_qs, MSt.setQ_qs, h.qs]
  · rcases mem_addW.mp hy with rfl | hy
    · exact .inr hq
    · rcases mem_addW.mp hy with rfl | hy
      · exact .inl hb
      · exact h.wr y hy
mutual
theorem run_ok {bs qs : List Str} {c : DoC} (hc : c.Ok) : ∀ (d : Dd) {s s' : Do}, d.Ok bs qs → s.Ok bs qs → d.run c s = .ok s' → s'.Ok bs qs
  | .put b f, s, s', hd, h, e => by
    rw [Dd.Ok] at hd
    rw [Dd.run] at e
    cases h1 : f.ev (s.env c) with
    | error x => rw [h1] at e; cases e
    | ok n => rw [h1] at e; cases e; exact h.put hd.1 (h.ev hc hd.2 h1)
  | .push b f, s, s', hd, h, e => by
    rw [Dd.Ok] at hd
    rw [Dd.run] at e
    cases h1 : f.ev (s.env c) with
    | error x => rw [h1] at e; cases e
    | ok n => rw [h1] at e; exact h.push hd.1 (h.ev hc hd.2 h1) e
  | .pull q b ds, s, s', hd, h, e => by
    rw [Dd.Ok] at hd
    rw [Dd.run] at e
    cases h1 : lookD [] q s.st.queues with
    | nil => rw [h1] at e; exact runs_ok hc ds hd.2.2 h e
    | cons n r => rw [h1] at e; cases e; exact h.pulled hd.1 hd.2.1 h1
  | .draw b f, s, s', hd, h, e => by
    rw [Dd.Ok] at hd
    rw [Dd.run] at e
    cases h1 : f.ev (s.env c) with
    | error x => rw [h1] at e; cases e
    | ok n => rw [h1] at e; exact h.draw hd.1 (h.ev hc hd.2 h1) e
  | .send to sign span rank g k, s, s', hd, h, e => by
    rw [Dd.run] at e
    exact h.send e
  | .iff f a b, s, s', hd, h, e => by
    rw [Dd.Ok] at hd
    rw [Dd.run] at e
    cases h1 : f.ev (s.env c) with
    | error x => rw [h1] at e; cases e
    | ok n =>
      rw [h1] at e
      by_cases hn : n = 0
      · rw [hn] at e; exact runs_ok hc b hd.2.2 h e
      · have e2 : (if n = 0 then Dd.runs c b s else Dd.runs c a s) = .ok s' := e
        rw [if_neg hn] at e2
        exact runs_ok hc a hd.2.1 h e2
  | .fin, s, s', hd, h, e => by
    rw [Dd.run] at e
    cases e
    exact ⟨h.wo, h.bs, h.qs, h.wr, h.nw⟩
theorem runs_ok {bs qs : List Str} {c : DoC} (hc : c.Ok) : ∀ (ds : List Dd) {s s' : Do}, Dd.Oks bs qs ds → s.Ok bs qs → Dd.runs c ds s = .ok s' → s'.Ok bs qs
  | [], s, s', hd, h, e => by rw [Dd.runs] at e; cases e; exact h
  | d :: ds, s, s', hd, h, e => by
    rw [Dd.Oks] at hd
    rw [Dd.runs] at e
    cases h1 : Dd.run c d s with
    | error x => rw [h1] at e; cases e
    | ok s1 => rw [h1] at e; exact runs_ok hc ds hd.2 (run_ok hc d hd.1 h h1) e
end
/-- deeds done one after the other, the first i of them -/
theorem runs_take {c : DoC} {ds : List Dd} {i : Nat} {d : Dd} (h : ds[i]? = some d) (s : Do) : Dd.runs c (ds.take (i + 1)) s = match Dd.runs c (ds.take i) s with
    | .error x => .error x
    | .ok s' => d.run c s' := by
  induction ds generalizing i s with
  | nil => simp at h
  | cons e ds ih =>
    cases i with
    | zero =>
      simp only [List.getElem?_cons_zero, Option.some.injEq] at h
      subst h
      simp only [List.take_succ_cons, List.take_zero, Dd.runs]
      cases Dd.run c e s with
      | error x => rfl
      | ok s1 => rfl
    | succ i =>
      rw [List.getElem?_cons_succ] at h
      rw [List.take_succ_cons, Dd.runs, List.take_succ_cons, Dd.runs]
      cases Dd.run c e s with
      | error x => rfl
      | ok s1 => exact ih h s1
theorem runs_err {c : DoC} {ds : List Dd} {i : Nat} {x : Flt} {s : Do} (h : Dd.runs c (ds.take i) s = .error x) : Dd.runs c ds s = .error x := by
  induction ds generalizing i s with
  | nil => rw [List.take_nil, Dd.runs] at h; cases h
  | cons e ds ih =>
    cases i with
    | zero => rw [List.take_zero, Dd.runs] at h; cases h
    | succ i =>
      rw [List.take_succ_cons, Dd.runs] at h
      rw [Dd.runs]
      cases h1 : Dd.run c e s with
      | error y => rw [h1] at h; exact h
      | ok s1 => rw [h1] at h; exact ih h
mutual
/-- how many deeds -/
def Dd.cnt : Dd → Nat
  | .pull _ _ ds => Dd.cnts ds + 1
  | .iff _ a b => Dd.cnts a + Dd.cnts b + 1
  | _ => 1
def Dd.cnts : List Dd → Nat
  | [] => 0
  | d :: ds => d.cnt + Dd.cnts ds
end
theorem send_news {c : DoC} {s s' : Do} {to : Int} {sign : Str} {span : Fm} {rank : Int} {g k : Fm} (e : s.send c to sign span rank g k = .ok s') : s'.news.length ≤ s.news.length + 1 := by
  unfold Do.send at e
  split at e
  · cases e
  · split at e
    · cases e
    · split at e
      · cases e
      · split at e
        · cases e
        · split at e
          · cases e
          · cases e
            show (s.news ++ [_]).length ≤ _
            rw [List.length_append, List.length_singleton]
            omega
mutual
theorem run_news {c : DoC} : ∀ (d : Dd) {s s' : Do}, d.run c s = .ok s' → s'.news.length ≤ s.news.length + d.cnt
  | .put b f, s, s', e => by
    rw [Dd.run] at e
    split at e
    · cases e
    · cases e; exact Nat.le_add_right _ _
  | .push b f, s, s', e => by
    rw [Dd.run] at e
    split at e
    · cases e
    · unfold Do.push at e
      split at e
      · cases e
      · cases e; exact Nat.le_add_right _ _
  | .pull q b ds, s, s', e => by
    rw [Dd.run] at e
    split at e
    · have := runs_news ds e
      rw [Dd.cnt]
      omega
    · cases e; exact Nat.le_add_right _ _
  | .draw b f, s, s', e => by
    rw [Dd.run] at e
    split at e
    · cases e
    · unfold Do.draw at e
      split at e
      · cases e
      · split at e
        · cases e
        · cases e; exact Nat.le_add_right _ _
  | .send to sign span rank g k, s, s', e => by
    rw [Dd.run] at e
    have := send_news e
    rw [Dd.cnt]
    · exact this
    all_goals intros; contradiction
  | .iff f a b, s, s', e => by
    rw [Dd.run] at e
    rw [Dd.cnt]
    split at e
    · cases e
    · split at e
      · have := runs_news b e
        omega
      · have := runs_news a e
        omega
  | .fin, s, s', e => by
    rw [Dd.run] at e
    cases e
    exact Nat.le_add_right _ _
theorem runs_news {c : DoC} : ∀ (ds : List Dd) {s s' : Do}, Dd.runs c ds s = .ok s' → s'.news.length ≤ s.news.length + Dd.cnts ds
  | [], s, s', e => by rw [Dd.runs] at e; cases e; exact Nat.le_add_right _ _
  | d :: ds, s, s', e => by
    rw [Dd.runs] at e
    rw [Dd.cnts]
    split at e
    · cases e
    · rename_i s1 h1
      have := run_news d h1
      have := runs_news ds e
      omega
end
theorem cnts_take : ∀ (ds : List Dd) {i : Nat} {d : Dd}, ds[i]? = some d → Dd.cnts (ds.take i) + d.cnt ≤ Dd.cnts ds
  | [], i, d, h => by simp at h
  | e :: ds, 0, d, h => by
    simp only [List.getElem?_cons_zero, Option.some.injEq] at h
    subst h
    rw [List.take_zero, Dd.cnts, Dd.cnts]
    omega
  | e :: ds, i + 1, d, h => by
    rw [List.getElem?_cons_succ] at h
    have := cnts_take ds h
    rw [List.take_succ_cons, Dd.cnts, Dd.cnts]
    omega
/-! #### what was written; a record -/
def Do.wB (s : Do) (ns : List Str) : List (Str × Int) := (ns.filter fun x => decide (x ∈ s.wr)).map fun x => (x, lookD 0 x s.st.boxes)
def Do.wQ (s : Do) (ns : List Str) : List (Str × List Int) := (ns.filter fun x => decide (x ∈ s.wr)).map fun x => (x, lookD [] x s.st.queues)
def qD (p : Str × List Int) : PyData := .tuple [.str p.1, .list (p.2.map PyData.int)]
structure Rec where
  hap : Hap
  wb : List (Str × Int)
  wq : List (Str × List Int)
  news : List Hap
def Rec.data (r : Rec) : PyData := .tuple [.tuple [.int r.hap.time, .int r.hap.rank, .int r.hap.frm, .int r.hap.count], .int r.hap.to, .str r.hap.sign, .int r.hap.g, .int r.hap.h, .list (r.wb.map boxD ++ r.wq.map qD), .list (r.news.map Hap.data)]
def Mach.deedsFor (m : Mach) (sign : Str) : List Dd := match m.hears.find? (fun p => decide (p.1 = sign)) with
  | some p => p.2
  | none => []
def Mach.ns (m : Mach) : List Str := m.boxes.map (·.1)
/-- a happening done -/
def Mach.doing (m : Mach) (s : MSt) (x : Hap) : Except Flt Do := Dd.runs ⟨m.draws, x⟩ (m.deedsFor x.sign) ⟨s, [], [], false⟩
def Do.told (m : Mach) (x : Hap) (d : Do) : Rec := ⟨x, d.wB m.ns, d.wQ m.queues, d.news⟩
/-- a machine whose deeds name what is there -/
structure Mach.Ok (n : Nat) (m : Mach) : Prop where
  sm : m.Sm
  nd : m.Nd
  deeds : ∀ p ∈ m.hears, Dd.Oks m.ns m.queues p.2 ∧ Dd.depths p.2 ≤ n ∧ Dd.fdeps p.2 < n ∧ Dd.cnts p.2 ≤ 1000
theorem Mach.Ok.for_ {n : Nat} {m : Mach} (h : m.Ok n) (hn : 0 < n) (sign : Str) : Dd.Oks m.ns m.queues (m.deedsFor sign) ∧ Dd.depths (m.deedsFor sign) ≤ n ∧ Dd.fdeps (m.deedsFor sign) < n ∧ Dd.cnts (m.deedsFor sign) ≤ 1000 := by
  unfold Mach.deedsFor
  cases e : m.hears.find? (fun p => decide (p.1 = sign)) with
  | some p => exact h.deeds p (List.mem_of_find?_eq_some e)
  | none => exact ⟨by rw [Dd.Oks]; exact True.intro, by rw [Dd.depths]; exact Nat.zero_le _, by rw [Dd.fdeps]; exact hn, by rw [Dd.cnts]; exact Nat.zero_le _⟩
end Mo
namespace Mo
open PySem PySem.Spec PyProof.Rows L2
/-! ### names -/
def letters : Str := "abcdefghijklmnopqrstuvwxyz"
theorem letters_eq : ("abcdefghijklmnopqrstuvwxyz" : Str) = letters := rfl
theorem letters_at (i : Nat) (h : i < 26) : letters.cps.toList[i]? = some (97 + i) := by
  have q : ∀ i : Fin 26, letters.cps.toList[i.1]? = some (97 + i.1) := by decide +kernel
  exact q ⟨i, h⟩
theorem letters_len : letters.length = 26 := by decide +kernel
def sign (c : Nat) : Str := ⟨#[c]⟩
structure NameOk (x : Str) : Prop where
  pos : 1 ≤ x.length
  len : x.length ≤ 6
  let_ : ∀ c ∈ x.cps.toList, 97 ≤ c ∧ c < 123
/-- the first sign -/
def fst1 (x : Str) : Nat := x.cps.toList.headD 0
theorem app_list (a b : Str) : (a ++ b).cps.toList = a.cps.toList ++ b.cps.toList := by
  show (a.cps ++ b.cps).toList = _
  rw [Array.toList_append]
theorem app_len (a b : Str) : (a ++ b).length = a.length + b.length := by
  show (a.cps ++ b.cps).size = _
  rw [Array.size_append]
  rfl
theorem len_list (a : Str) : a.length = a.cps.toList.length := by
  show a.cps.size = _
  rw [Array.length_toList]
theorem sign_list (c : Nat) : (sign c).cps.toList = [c] := rfl
theorem sign_len (c : Nat) : (sign c).length = 1 := rfl
theorem fst1_app {a b : Str} (h : 1 ≤ a.length) : fst1 (a ++ b) = fst1 a := by
  unfold fst1
  rw [app_list]
  rw [len_list] at h
  cases e : a.cps.toList with
  | nil => rw [e] at h; cases h
  | cons x r => rfl
theorem go_letter {K : PySem.W.Frag} {H : Hp} {Q : VK} {j : Int} {n : Nat} (hj : j = (n : Int)) (hn : n < 26) (k : Q (.str (sign (97 + n))) H) : rSub K (.str letters) (.int j) H Q := by
  subst hj
  exact go_subS (by rw [letters_len, sizeLine_eq]; decide) (atI_nat (letters_at n hn)) k
/-- names that are apart by their first signs -/
theorem apart {xs : List Str} {f : Nat → Nat} (h : ∀ i x, xs[i]? = some x → fst1 x = f i) (inj : ∀ i j, i < xs.length → j < xs.length → f i = f j → i = j) : xs.Nodup := by
  rw [List.nodup_iff_pairwise_ne, List.pairwise_iff_getElem]
  intro i j hi hj hij e
  have h1 := h i _ (List.getElem?_eq_getElem hi)
  have h2 := h j _ (List.getElem?_eq_getElem hj)
  rw [← e, h1] at h2
  have := inj i j hi hj h2
  omega
def spNames : Sp := fun vs H Q _ => ∃ (G : Hp) (L : Vo) (pu : Addr) (n : Nat), vs = [.ref pu, .int (n : Int)] ∧ Hd G H L ∧ (pu, Purse) ∈ L ∧ n ≤ 9 ∧
  ∀ lp (ns : List Str) G' H', ns.length = n → ns.Nodup → (∀ x ∈ ns, NameOk x) → Ext G G' → Hd G' H' L → G' lp = some (.lst (ns.map V.str)) → Q (.ref lp) H'
/-- of the same list, cut -/
theorem names_take {ns : List Str} (h : ns.Nodup) (i : Nat) : (ns.take i).Nodup := h.sublist (List.take_sublist _ _)
end Mo
namespace Mo
open PySem PySem.Spec PyProof.Rows L2
/-! ### data that may be compared: texts of signs that there are, not deep -/
structure Shp (n : Nat) (d : PyData) : Prop where
  lay : d.canLay0 = true
  dep : d.depth ≤ n
structure Shps (n : Nat) (ds : List PyData) : Prop where
  lay : PyData.canLayAll0 ds = true
  dep : PyData.depthAll ds ≤ n
section
variable {n m : Nat} {d : PyData} {ds es : List PyData}
theorem Shp.shaped (h : Shp n d) (hn : n ≤ 64) : SeqAt.shaped d = true := by
  unfold SeqAt.shaped
  rw [Bool.and_eq_true]
  exact ⟨h.lay, decide_eq_true (Nat.le_trans h.dep hn)⟩
theorem Shp.int {i : Int} : Shp n (.int i) := ⟨rfl, by simp only [PyData.depth]; exact Nat.zero_le _⟩
theorem Shp.bool {i : Bool} : Shp n (.bool i) := ⟨rfl, by simp only [PyData.depth]; exact Nat.zero_le _⟩
theorem Shp.none : Shp n .none := ⟨rfl, by simp only [PyData.depth]; exact Nat.zero_le _⟩
theorem Shp.str {x : Str} (h : PyData.strOk x = true) : Shp n (.str x) := ⟨h, by simp only [PyData.depth]; exact Nat.zero_le _⟩
theorem Shps.nil : Shps n [] := ⟨rfl, by simp only [PyData.depthAll]; exact Nat.zero_le _⟩
theorem Shps.cons (h : Shp n d) (t : Shps n ds) : Shps n (d :: ds) := ⟨by show (PyData.canLay0 d && PyData.canLayAll0 ds) = true; rw [h.lay, t.lay]; rfl, by have h1 := h.dep; have h2 := t.dep; simp only [PyData.depthAll]; omega⟩
theorem Shps.app (h : Shps n ds) (t : Shps n es) : Shps n (ds ++ es) := by
  induction ds with
  | nil => exact t
  | cons d ds ih =>
    have h1 := h.lay
    have h2 := h.dep
    have h1' : (PyData.canLay0 d && PyData.canLayAll0 ds) = true := h1
    rw [Bool.and_eq_true] at h1'
    simp only [PyData.depthAll] at h2
    exact .cons ⟨h1'.1, by omega⟩ (ih ⟨h1'.2, by omega⟩)
theorem Shp.tup (h : Shps n ds) : Shp (n + 1) (.tuple ds) := ⟨h.lay, by have := h.dep; simp only [PyData.depth]; omega⟩
theorem Shp.lst (h : Shps n ds) : Shp (n + 1) (.list ds) := ⟨h.lay, by have := h.dep; simp only [PyData.depth]; omega⟩
theorem Shps.map {α : Type} {f : α → PyData} : ∀ {xs : List α}, (∀ x ∈ xs, Shp n (f x)) → Shps n (xs.map f)
  | [], _ => .nil
  | x :: xs, h => .cons (h x List.mem_cons_self) (Shps.map fun y hy => h y (List.mem_cons_of_mem _ hy))
theorem Shps.ints {ns : List Int} : Shps n (ns.map PyData.int) := .map fun _ _ => .int
end
/-- texts of signs that there are -/
def SOk (x : Str) : Prop := PyData.strOk x = true
theorem NameOk.sok {x : Str} (h : NameOk x) : SOk x := by
  show x.cps.all (· < 0x110000) = true
  rw [Array.all_eq_true_iff_forall_mem]
  intro c hc
  have := h.let_ c (by rw [Array.mem_toList_iff]; exact hc)
  exact decide_eq_true (by omega)
end Mo
namespace Mo
open PySem PySem.Spec PyProof.Rows L2
structure Hap.Nm (x : Hap) : Prop where
  sign : SOk x.sign
theorem Hap.shp {x : Hap} (h : SOk x.sign) : Shp 2 x.data := .tup (.cons (.tup (.cons .int (.cons .int (.cons .int (.cons .int .nil))))) (.cons .int (.cons (.str h) (.cons .int (.cons .int .nil)))))
theorem Rec.shp {r : Rec} (h : SOk r.hap.sign) (hb : ∀ p ∈ r.wb, SOk p.1) (hq : ∀ p ∈ r.wq, SOk p.1) (hn : ∀ x ∈ r.news, SOk x.sign) : Shp 4 r.data :=
  .tup (.cons (.tup (.cons .int (.cons .int (.cons .int (.cons .int .nil))))) (.cons .int (.cons (.str h) (.cons .int (.cons .int (.cons (.lst (.app (.map fun p hp => .tup (.cons (.str (hb p hp)) (.cons .int .nil))) (.map fun p hp => .tup (.cons (.str (hq p hp)) (.cons (.lst .ints) .nil))))) (.cons (.lst (.map fun x hx => (Hap.shp (hn x hx)))) .nil)))))))
end Mo
namespace Mo
open PySem PySem.Spec PyProof.Rows L2
/-! ### deeds as the law makes them: plain Lean -/
theorem oks_all {bs qs : List Str} : ∀ {ds : List Dd}, Dd.Oks bs qs ds ↔ ∀ d ∈ ds, d.Ok bs qs
  | [] => by rw [Dd.Oks]; exact ⟨(fun _ _ h => nomatch h), fun _ => True.intro⟩
  | d :: ds => by rw [Dd.Oks, oks_all, List.forall_mem_cons]
theorem sms_all : ∀ {ds : List Dd}, Dd.Sms ds ↔ ∀ d ∈ ds, d.Sm
  | [] => by rw [Dd.Sms]; exact ⟨(fun _ _ h => nomatch h), fun _ => True.intro⟩
  | d :: ds => by rw [Dd.Sms, sms_all, List.forall_mem_cons]
theorem depths_all {n : Nat} : ∀ {ds : List Dd}, Dd.depths ds ≤ n ↔ ∀ d ∈ ds, d.depth < n
  | [] => by rw [Dd.depths]; exact ⟨(fun _ _ h => nomatch h), fun _ => Nat.zero_le _⟩
  | d :: ds => by
    rw [Dd.depths, List.forall_mem_cons, ← depths_all]
    omega
theorem fdeps_all {n : Nat} : ∀ {ds : List Dd}, Dd.fdeps ds ≤ n ↔ ∀ d ∈ ds, d.fdep ≤ n
  | [] => by rw [Dd.fdeps]; exact ⟨(fun _ _ h => nomatch h), fun _ => Nat.zero_le _⟩
  | d :: ds => by
    rw [Dd.fdeps, List.forall_mem_cons, ← fdeps_all]
    omega
theorem cnts_snoc (d : Dd) : ∀ ds : List Dd, Dd.cnts (ds ++ [d]) = Dd.cnts ds + d.cnt
  | [] => by rw [List.nil_append, Dd.cnts, Dd.cnts, Nat.zero_add]; rfl
  | e :: ds => by rw [List.cons_append, Dd.cnts, Dd.cnts, cnts_snoc d ds]; omega
mutual
/-- what is sent goes to machines that are there, with signs of these and ranks -/
def Dd.To (many : Nat) (ss : List Str) : Dd → Prop
  | .pull _ _ ds => Dd.Tos many ss ds
  | .send to sign _ rank _ _ => 0 ≤ to ∧ to < (many : Int) ∧ sign ∈ ss ∧ 0 ≤ rank ∧ rank ≤ 9
  | .iff _ a b => Dd.Tos many ss a ∧ Dd.Tos many ss b
  | _ => True
def Dd.Tos (many : Nat) (ss : List Str) : List Dd → Prop
  | [] => True
  | d :: ds => d.To many ss ∧ Dd.Tos many ss ds
end
theorem tos_all {many : Nat} {ss : List Str} : ∀ {ds : List Dd}, Dd.Tos many ss ds ↔ ∀ d ∈ ds, d.To many ss
  | [] => by rw [Dd.Tos]; exact ⟨(fun _ _ h => nomatch h), fun _ => True.intro⟩
  | d :: ds => by rw [Dd.Tos, tos_all, List.forall_mem_cons]
/-- a deed, at most so deep, by these names -/
structure DdG (deep many : Nat) (bs qs ss : List Str) (d : Dd) : Prop where
  ok : d.Ok bs qs
  dep : d.depth ≤ 2 * deep
  fd : d.fdep ≤ 3
  sm : d.Sm
  to : d.To many ss
structure DsG (deep many : Nat) (bs qs ss : List Str) (ds : List Dd) : Prop where
  all : ∀ d ∈ ds, DdG deep many bs qs ss d
  len : ds.length ≤ 4
section
variable {deep many : Nat} {bs qs ss : List Str} {ds : List Dd} {d : Dd}
theorem DsG.ok (h : DsG deep many bs qs ss ds) : Dd.Oks bs qs ds := oks_all.mpr fun d m => (h.all d m).ok
theorem DsG.dep (h : DsG deep many bs qs ss ds) : Dd.depths ds ≤ 2 * deep + 1 := depths_all.mpr fun d m => Nat.lt_succ_of_le (h.all d m).dep
theorem DsG.fd (h : DsG deep many bs qs ss ds) : Dd.fdeps ds ≤ 3 := fdeps_all.mpr fun d m => (h.all d m).fd
theorem DsG.sm (h : DsG deep many bs qs ss ds) : Dd.Sms ds := sms_all.mpr fun d m => (h.all d m).sm
theorem DsG.to (h : DsG deep many bs qs ss ds) : Dd.Tos many ss ds := tos_all.mpr fun d m => (h.all d m).to
theorem DdG.iff {f : Fm} {a b : List Dd} (hf : f.Ok bs qs) (hd : f.depth ≤ 3) (h : DsG deep many bs qs ss a) (k : DsG deep many bs qs ss b) : DdG (deep + 1) many bs qs ss (.iff f a b) where
  ok := by rw [Dd.Ok]; exact ⟨hf, h.ok, k.ok⟩
  dep := by rw [Dd.depth]; have := h.dep; have := k.dep; omega
  fd := by rw [Dd.fdep]; have := h.fd; have := k.fd; omega
  sm := by rw [Dd.Sm]; have := h.len; have := k.len; exact ⟨⟨by omega, h.sm⟩, by omega, k.sm⟩
  to := by rw [Dd.To]; exact ⟨h.to, k.to⟩
theorem DdG.pull {q b : Str} (hq : q ∈ qs) (hb : b ∈ bs) (h : DsG deep many bs qs ss ds) : DdG (deep + 1) many bs qs ss (.pull q b ds) where
  ok := by rw [Dd.Ok]; exact ⟨hq, hb, h.ok⟩
  dep := by rw [Dd.depth]; have := h.dep; omega
  fd := by rw [Dd.fdep]; exact h.fd
  sm := by rw [Dd.Sm]; have := h.len; exact ⟨by omega, h.sm⟩
  to := by rw [Dd.To]; exact h.to
theorem DdG.put {b : Str} {f : Fm} (hb : b ∈ bs) (hf : f.Ok bs qs) (hd : f.depth ≤ 3) : DdG deep many bs qs ss (.put b f) := ⟨by rw [Dd.Ok]; exact ⟨hb, hf⟩, Nat.zero_le _, hd, by rw [Dd.Sm] <;> simp, by rw [Dd.To] <;> simp⟩
theorem DdG.push {b : Str} {f : Fm} (hb : b ∈ qs) (hf : f.Ok bs qs) (hd : f.depth ≤ 3) : DdG deep many bs qs ss (.push b f) := ⟨by rw [Dd.Ok]; exact ⟨hb, hf⟩, Nat.zero_le _, hd, by rw [Dd.Sm] <;> simp, by rw [Dd.To] <;> simp⟩
theorem DdG.draw {b : Str} {f : Fm} (hb : b ∈ bs) (hf : f.Ok bs qs) (hd : f.depth ≤ 3) : DdG deep many bs qs ss (.draw b f) := ⟨by rw [Dd.Ok]; exact ⟨hb, hf⟩, Nat.zero_le _, hd, by rw [Dd.Sm] <;> simp, by rw [Dd.To] <;> simp⟩
theorem DdG.fin : DdG deep many bs qs ss .fin := ⟨by rw [Dd.Ok]; exact True.intro, Nat.zero_le _, Nat.zero_le _, by rw [Dd.Sm] <;> simp, by rw [Dd.To] <;> simp⟩
theorem DdG.send {to : Int} {sign : Str} {sp g h : Fm} {rank : Int} (h1 : 0 ≤ to) (h2 : to < (many : Int)) (h3 : sign ∈ ss) (h4 : 0 ≤ rank) (h5 : rank ≤ 9) (o1 : sp.Ok bs qs) (o2 : g.Ok bs qs) (o3 : h.Ok bs qs) (d1 : sp.depth ≤ 3) (d2 : g.depth ≤ 3) (d3 : h.depth ≤ 3) :
    DdG deep many bs qs ss (.send to sign sp rank g h) := ⟨by rw [Dd.Ok]; exact ⟨o1, o2, o3⟩, Nat.zero_le _, by show max sp.depth (max g.depth h.depth) ≤ 3; omega, by rw [Dd.Sm] <;> simp, by rw [Dd.To]; exact ⟨h1, h2, h3, h4, h5⟩⟩
theorem DsG.snoc (h : DsG deep many bs qs ss ds) (k : DdG deep many bs qs ss d) (l : ds.length < 4) : DsG deep many bs qs ss (ds ++ [d]) where
  all := fun e m => by
    rcases List.mem_append.mp m with m | m
    · exact h.all e m
    · rw [List.mem_singleton.mp m]; exact k
  len := by rw [List.length_append, List.length_singleton]; omega
end
/-- a machine as the law makes it: at most four boxes and so on; five deep, by its own names -/
structure MchG (many : Nat) (ss : List Str) (m : Mach) : Prop where
  bl : m.boxes.length ≤ 6
  ql : m.queues.length ≤ 3
  dl : m.draws.length ≤ 20
  hl : m.hears.length ≤ 4
  nd : (m.boxes.map (·.1) ++ m.queues).Nodup
  nm : ∀ x ∈ m.boxes.map (·.1) ++ m.queues, NameOk x
  bw : ∀ p ∈ m.boxes, Worth p.2
  dw : ∀ n ∈ m.draws, 0 ≤ n ∧ n ≤ 1000000000000000
  ds : ∀ p ∈ m.hears, DsG 4 many (m.boxes.map (·.1)) m.queues ss p.2 ∧ Dd.cnts p.2 ≤ 20 ∧ p.1 ∈ ss
  hn : (m.hears.map (·.1)).Nodup
  name : NameOk m.name
end Mo
namespace Mo
open PySem PySem.Spec PyProof.Rows L2
/-! ### deeds done by a stack of what is left: plain Lean -/
theorem runs_app {c : DoC} : ∀ (a b : List Dd) (s : Do), Dd.runs c (a ++ b) s = match Dd.runs c a s with
    | .error x => .error x
    | .ok s' => Dd.runs c b s'
  | [], b, s => by rw [List.nil_append, Dd.runs]
  | d :: a, b, s => by
    rw [List.cons_append, Dd.runs, Dd.runs]
    cases Dd.run c d s with
    | error x => rfl
    | ok s1 => exact runs_app a b s1
/-- no queue is longer than thirty -/
def Q30 (s : MSt) : Prop := ∀ p ∈ s.queues, p.2.length ≤ 30
theorem Q30.look {s : MSt} (h : Q30 s) {x : Str} (hx : x ∈ s.qs) : (lookD [] x s.queues).length ≤ 30 := h (x, lookD [] x s.queues) (lookD_in hx)
theorem Q30.setQ {s : MSt} (h : Q30 s) {x : Str} {ns : List Int} (hn : ns.length ≤ 30) : Q30 (s.setQ x ns) := fun p hp => by
  rcases mem_setA hp with hp | rfl
  · exact h p hp
  · exact hn
/-- what was touched: names, and the end -/
def theEnd : Str := "the end"
structure Tch (t : List Str) (s : Do) : Prop where
  nm : ∀ x, x ≠ theEnd → (x ∈ t ↔ x ∈ s.wr)
  en : theEnd ∈ t ↔ s.ends = true
theorem Tch.add {t : List Str} {s s' : Do} (h : Tch t s) {x : Str} (hx : x ≠ theEnd) (hw : s'.wr = addW x s.wr) (he : s'.ends = s.ends) : Tch (t ++ [x]) s' where
  nm := fun y hy => by rw [hw, mem_addW, List.mem_append, List.mem_singleton, h.nm y hy, or_comm]
  en := by
    rw [he, List.mem_append, List.mem_singleton]
    constructor
    · rintro (z | z)
      · exact h.en.mp z
      · exact absurd z.symm hx
    · exact fun z => .inl (h.en.mpr z)
theorem Tch.add2 {t : List Str} {s s' : Do} (h : Tch t s) {x y : Str} (hx : x ≠ theEnd) (hy : y ≠ theEnd) (hw : s'.wr = addW x (addW y s.wr)) (he : s'.ends = s.ends) : Tch (t ++ [x] ++ [y]) s' where
  nm := fun z hz => by
    rw [hw, mem_addW, mem_addW, List.mem_append, List.mem_append, List.mem_singleton, List.mem_singleton, h.nm z hz]
    constructor
    · rintro ((a | a) | a)
      · exact .inr (.inr a)
      · exact .inl a
      · exact .inr (.inl a)
    · rintro (a | a | a)
      · exact .inl (.inr a)
      · exact .inr a
      · exact .inl (.inl a)
  en := by
    rw [he, List.mem_append, List.mem_append, List.mem_singleton, List.mem_singleton]
    constructor
    · rintro ((z | z) | z)
      · exact h.en.mp z
      · exact absurd z.symm hx
      · exact absurd z.symm hy
    · exact fun z => .inl (.inl (h.en.mpr z))
theorem Tch.same {t : List Str} {s s' : Do} (h : Tch t s) (hw : s'.wr = s.wr) (he : s'.ends = s.ends) : Tch t s' := ⟨fun x hx => by rw [hw]; exact h.nm x hx, by rw [he]; exact h.en⟩
theorem Tch.end {t : List Str} {s s' : Do} (h : Tch t s) (hw : s'.wr = s.wr) (he : s'.ends = true) : Tch (t ++ [theEnd]) s' where
  nm := fun y hy => by
    rw [hw, List.mem_append, List.mem_singleton, h.nm y hy]
    exact ⟨fun z => z.elim id fun e => absurd e hy, .inl⟩
  en := by rw [he, List.mem_append, List.mem_singleton]; exact ⟨fun _ => rfl, fun _ => .inr rfl⟩
/-- a deed's step: a fault, or what is left to be done and the new state -/
structure Stp (c : DoC) (B Z : List Str) (d : Dd) (s s' : Do) (sub : List Dd) : Prop where
  run : ∀ r, Dd.runs c (d :: r) s = Dd.runs c (sub ++ r) s'
  ok : s'.Ok B Z
  q30 : Q30 s'.st
  oks : Dd.Oks B Z sub
  cnt : Dd.cnts sub < d.cnt
  fd : Dd.fdeps sub ≤ d.fdep
  nl : s'.news.length ≤ s.news.length + 1
def Bad (c : DoC) (d : Dd) (s : Do) (x : Flt) : Prop := ∀ r, Dd.runs c (d :: r) s = .error x
section
variable {c : DoC} {B Z : List Str} {s s' : Do} {x : Flt}
theorem bad_of {d : Dd} (h : d.run c s = .error x) : Bad c d s x := fun r => by rw [Dd.runs, h]
theorem Stp.of {d : Dd} (hc : c.Ok) (hd : d.Ok B Z) (hs : s.Ok B Z) (h : d.run c s = .ok s') (q : Q30 s'.st) (hn : s'.news.length ≤ s.news.length + 1) : Stp c B Z d s s' [] where
  run := fun r => by rw [Dd.runs, h, List.nil_append]
  ok := run_ok hc d hd hs h
  q30 := q
  oks := by rw [Dd.Oks]; exact True.intro
  cnt := by
    rw [Dd.cnts]
    cases d <;> rw [Dd.cnt] <;> first | omega | (intros; contradiction)
  fd := by rw [Dd.fdeps]; exact Nat.zero_le _
  nl := hn
theorem Stp.pull {q b : Str} {ds : List Dd} (hd : (Dd.pull q b ds).Ok B Z) (hs : s.Ok B Z) (h30 : Q30 s.st) (e : lookD [] q s.st.queues = []) : Stp c B Z (.pull q b ds) s s ds where
  run := fun r => by
    rw [Dd.runs, Dd.run, e, runs_app]
    try (cases Dd.runs c ds s <;> rfl)
  ok := hs
  q30 := h30
  oks := by rw [Dd.Ok] at hd; exact hd.2.2
  cnt := by rw [Dd.cnt]; omega
  fd := by rw [Dd.fdep]; exact Nat.le_refl _
  nl := Nat.le_add_right _ _
theorem Stp.iff {f : Fm} {a b : List Dd} {n : Int} (hd : (Dd.iff f a b).Ok B Z) (hs : s.Ok B Z) (h30 : Q30 s.st) (e : f.ev (s.env c) = .ok n) : Stp c B Z (.iff f a b) s s (if n = 0 then b else a) where
  run := fun r => by
    rw [Dd.runs, Dd.run, e, runs_app]
    by_cases h : n = 0
    · subst h; rfl
    · rw [if_neg h]
      show (match (if n = 0 then Dd.runs c b s else Dd.runs c a s) with | .error x => _ | .ok s' => _) = _
      rw [if_neg h]
  ok := hs
  q30 := h30
  oks := by
    rw [Dd.Ok] at hd
    split
    · exact hd.2.2
    · exact hd.2.1
  cnt := by rw [Dd.cnt]; split <;> omega
  fd := by rw [Dd.fdep]; split <;> omega
  nl := Nat.le_add_right _ _
theorem Stp.fin (hs : s.Ok B Z) (h30 : Q30 s.st) : Stp c B Z .fin s { s with ends := true } [] where
  run := fun r => by rw [Dd.runs, Dd.run, List.nil_append]
  ok := ⟨hs.wo, hs.bs, hs.qs, hs.wr, hs.nw⟩
  q30 := h30
  oks := by rw [Dd.Oks]; exact True.intro
  cnt := by rw [Dd.cnts, Dd.cnt] <;> first | omega | (intros; contradiction)
  fd := by rw [Dd.fdeps]; exact Nat.zero_le _
  nl := Nat.le_add_right _ _
end
/-! #### what is sent: its three worths, one after the other -/
structure SentC (e : Env) (fs : List Fm) (i : Nat) (ns : List Int) : Prop where
  len : ns.length = i
  ev : ∀ (j : Nat) (n : Int) (f : Fm), ns[j]? = some n → fs[j]? = some f → f.ev e = .ok n
  rg : ∀ n, ns[0]? = some n → 1 ≤ n ∧ n ≤ 1000000
theorem SentC.nil {e : Env} {fs : List Fm} : SentC e fs 0 [] := ⟨rfl, (fun _ _ _ h => nomatch h), (fun _ h => nomatch h)⟩
theorem SentC.snoc {e : Env} {fs : List Fm} {i : Nat} {ns : List Int} {f : Fm} {n : Int} (h : SentC e fs i ns) (hf : fs[i]? = some f) (hn : f.ev e = .ok n) (hr : i = 0 → 1 ≤ n ∧ n ≤ 1000000) : SentC e fs (i + 1) (ns ++ [n]) where
  len := by rw [List.length_append, h.len]; rfl
  ev := fun j m g hj hg => by
    rw [List.getElem?_append] at hj
    split at hj
    · exact h.ev j m g hj hg
    · rename_i hl
      rw [h.len] at hj hl
      have e0 : j - i = 0 := by
        rcases Nat.eq_zero_or_pos (j - i) with z | z
        · exact z
        · rw [List.getElem?_eq_none (by simp; omega)] at hj; cases hj
      have e1 : j = i := by omega
      subst e1
      rw [Nat.sub_self] at hj
      simp only [List.getElem?_cons_zero, Option.some.injEq] at hj
      rw [hf] at hg
      cases hg
      rw [← hj]
      exact hn
  rg := fun m hm => by
    rcases Nat.eq_zero_or_pos i with z | z
    · have : ns = [] := List.eq_nil_of_length_eq_zero (by rw [h.len, z])
      subst this
      simp only [List.nil_append, List.getElem?_cons_zero, Option.some.injEq] at hm
      rw [← hm]
      exact hr z
    · rw [List.getElem?_append_left (by rw [h.len]; exact z)] at hm
      exact h.rg m hm
section
variable {c : DoC} {s : Do} {to rank : Int} {sign : Str} {sp g k : Fm} {i : Nat} {ns : List Int} {f : Fm} {x : Flt} {n : Int}
theorem SentC.get {e : Env} {fs : List Fm} (h : SentC e fs i ns) {j : Nat} {f : Fm} (hj : j < i) (hf : fs[j]? = some f) : ∃ n, f.ev e = .ok n ∧ ns[j]? = some n := by
  have hl : j < ns.length := by rw [h.len]; exact hj
  exact ⟨ns[j], h.ev j _ f (List.getElem?_eq_getElem hl) hf, List.getElem?_eq_getElem hl⟩
theorem rg_not {n : Int} (h : 1 ≤ n ∧ n ≤ 1000000) : ¬ (n < 1 ∨ 1000000 < n) := by omega
theorem send_err (h : SentC (s.env c) [sp, g, k] i ns) (hf : [sp, g, k][i]? = some f) (he : f.ev (s.env c) = .error x) : s.send c to sign sp rank g k = .error x := by
  unfold Do.send
  match i, h, hf with
  | 0, h, hf =>
    simp only [List.getElem?_cons_zero, Option.some.injEq] at hf
    subst hf
    rw [he]
  | 1, h, hf =>
    simp only [List.getElem?_cons_succ, List.getElem?_cons_zero, Option.some.injEq] at hf
    subst hf
    obtain ⟨a, h1, h2⟩ := h.get (j := 0) (by omega) rfl
    rw [h1]
    dsimp only
    rw [if_neg (rg_not (h.rg a h2)), he]
  | 2, h, hf =>
    simp only [List.getElem?_cons_succ, List.getElem?_cons_zero, Option.some.injEq] at hf
    subst hf
    obtain ⟨a, h1, h2⟩ := h.get (j := 0) (by omega) rfl
    obtain ⟨b, h3, _⟩ := h.get (j := 1) (by omega) rfl
    rw [h1]
    dsimp only
    rw [if_neg (rg_not (h.rg a h2)), h3]
    dsimp only
    rw [he]
  | i + 3, h, hf => simp at hf
theorem send_span (h : sp.ev (s.env c) = .ok n) (hn : n < 1 ∨ 1000000 < n) : s.send c to sign sp rank g k = .error .span := by
  unfold Do.send
  rw [h]
  dsimp only
  rw [if_pos hn]
theorem sent3 (h : SentC (s.env c) [sp, g, k] 3 ns) : ∃ a b d, ns = [a, b, d] ∧ sp.ev (s.env c) = .ok a ∧ g.ev (s.env c) = .ok b ∧ k.ev (s.env c) = .ok d ∧ 1 ≤ a ∧ a ≤ 1000000 := by
  have hl := h.len
  match ns, hl with
  | [a, b, d], _ => exact ⟨a, b, d, rfl, h.ev 0 a sp rfl rfl, h.ev 1 b g rfl rfl, h.ev 2 d k rfl rfl, h.rg a rfl⟩
theorem send_late {a b d : Int} (h1 : sp.ev (s.env c) = .ok a) (h2 : g.ev (s.env c) = .ok b) (h3 : k.ev (s.env c) = .ok d) (h4 : 1 ≤ a ∧ a ≤ 1000000) (h5 : 1000000000000 < c.hap.time + a) : s.send c to sign sp rank g k = .error .late := by
  unfold Do.send
  rw [h1]
  dsimp only
  rw [if_neg (rg_not h4), h2]
  dsimp only
  rw [h3]
  dsimp only
  rw [if_pos h5]
def sentHap (c : DoC) (s : Do) (to : Int) (sign : Str) (rank a b d : Int) : Hap := ⟨c.hap.time + a, rank, c.hap.to, s.st.sent, to, sign, b, d⟩
def Do.sentOne (s : Do) (x : Hap) : Do := { s with st := { s.st with sent := s.st.sent + 1 }, news := s.news ++ [x] }
theorem send_ok {a b d : Int} (h1 : sp.ev (s.env c) = .ok a) (h2 : g.ev (s.env c) = .ok b) (h3 : k.ev (s.env c) = .ok d) (h4 : 1 ≤ a ∧ a ≤ 1000000) (h5 : ¬ 1000000000000 < c.hap.time + a) : s.send c to sign sp rank g k = .ok (s.sentOne (sentHap c s to sign rank a b d)) := by
  unfold Do.send
  rw [h1]
  dsimp only
  rw [if_neg (rg_not h4), h2]
  dsimp only
  rw [h3]
  dsimp only
  rw [if_neg h5]
  rfl
end
end Mo
namespace Mo
open PySem PySem.Spec PyProof.Rows L2
/-! ### what is sent: to machines that are there, later -/
theorem NameOk.ne {x : Str} (h : NameOk x) : x ≠ theEnd := fun e => by
  have h1 := h.len
  rw [e] at h1
  exact absurd h1 (by decide +kernel)
structure SentOk (many : Nat) (ss : List Str) (c : DoC) (x : Hap) : Prop where
  to0 : 0 ≤ x.to
  to1 : x.to < (many : Int)
  sign : x.sign ∈ ss
  r0 : 0 ≤ x.rank
  r1 : x.rank ≤ 9
  t0 : c.hap.time < x.time
  t1 : x.time ≤ 1000000000000
  frm : x.frm = c.hap.to
  g : Worth x.g
  h : Worth x.h
section
variable {many : Nat} {ss : List Str} {c : DoC} {B Z : List Str}
theorem put_news {s : Do} {x : Str} {n : Int} : (s.put x n).news = s.news := rfl
theorem send_sent (hc : c.Ok) {s s' : Do} {to : Int} {sign : Str} {sp : Fm} {rank : Int} {g k : Fm} (ht : (Dd.send to sign sp rank g k).To many ss) (ho : (Dd.send to sign sp rank g k).Ok B Z) (hs : s.Ok B Z) (e : s.send c to sign sp rank g k = .ok s') : ∀ x ∈ s'.news, x ∈ s.news ∨ SentOk many ss c x := by
  rw [Dd.To] at ht
  rw [Dd.Ok] at ho
  obtain ⟨h1, h2, h3, h4, h5⟩ := ht
  unfold Do.send at e
  split at e
  · cases e
  · rename_i a e1
    split at e
    · cases e
    · rename_i hr
      split at e
      · cases e
      · rename_i b e2
        split at e
        · cases e
        · rename_i d e3
          split at e
          · cases e
          · rename_i hl
            cases e
            intro x hx
            rcases List.mem_append.mp hx with hx | hx
            · exact .inl hx
            · rw [List.mem_singleton.mp hx]
              exact .inr ⟨h1, h2, h3, h4, h5, (by show c.hap.time < c.hap.time + a; omega), (by show c.hap.time + a ≤ _; omega), rfl, hs.ev hc ho.2.1 e2, hs.ev hc ho.2.2 e3⟩
mutual
theorem run_sent (hc : c.Ok) : ∀ (d : Dd) {s s' : Do}, d.To many ss → d.Ok B Z → s.Ok B Z → d.run c s = .ok s' → ∀ x ∈ s'.news, x ∈ s.news ∨ SentOk many ss c x
  | .put b f, s, s', ht, ho, hs, e => by
    rw [Dd.run] at e
    split at e
    · cases e
    · cases e; exact fun x hx => .inl hx
  | .push b f, s, s', ht, ho, hs, e => by
    rw [Dd.run] at e
    split at e
    · cases e
    · unfold Do.push at e
      split at e
      · cases e
      · cases e; exact fun x hx => .inl hx
  | .pull q b ds, s, s', ht, ho, hs, e => by
    rw [Dd.To] at ht
    rw [Dd.Ok] at ho
    rw [Dd.run] at e
    split at e
    · exact runs_sent hc ds ht ho.2.2 hs e
    · cases e; exact fun x hx => .inl hx
  | .draw b f, s, s', ht, ho, hs, e => by
    rw [Dd.run] at e
    split at e
    · cases e
    · unfold Do.draw at e
      split at e
      · cases e
      · split at e
        · cases e
        · cases e; exact fun x hx => .inl hx
  | .send to sign span rank g k, s, s', ht, ho, hs, e => by
    rw [Dd.run] at e
    exact send_sent hc ht ho hs e
  | .iff f a b, s, s', ht, ho, hs, e => by
    rw [Dd.To] at ht
    rw [Dd.Ok] at ho
    rw [Dd.run] at e
    split at e
    · cases e
    · split at e
      · exact runs_sent hc b ht.2 ho.2.2 hs e
      · exact runs_sent hc a ht.1 ho.2.1 hs e
  | .fin, s, s', ht, ho, hs, e => by
    rw [Dd.run] at e
    cases e
    exact fun x hx => .inl hx
theorem runs_sent (hc : c.Ok) : ∀ (ds : List Dd) {s s' : Do}, Dd.Tos many ss ds → Dd.Oks B Z ds → s.Ok B Z → Dd.runs c ds s = .ok s' → ∀ x ∈ s'.news, x ∈ s.news ∨ SentOk many ss c x
  | [], s, s', ht, ho, hs, e => by rw [Dd.runs] at e; cases e; exact fun x hx => .inl hx
  | d :: ds, s, s', ht, ho, hs, e => by
    rw [Dd.Tos] at ht
    rw [Dd.Oks] at ho
    rw [Dd.runs] at e
    split at e
    · cases e
    · rename_i s1 h1
      intro x hx
      rcases runs_sent hc ds ht.2 ho.2 (run_ok hc d ho.1 hs h1) e x hx with h | h
      · exact run_sent hc d ht.1 ho.1 hs h1 x h
      · exact .inr h
end
end
/-- queues stay within thirty -/
theorem push_q30 {s s' : Do} {x : Str} {n : Int} (h : Q30 s.st) (hl : (lookD [] x s.st.queues).length ≤ 30) (e : s.push x n = .ok s') : Q30 s'.st := by
  unfold Do.push at e
  split at e
  · cases e
  · cases e
    exact h.setQ (by rw [List.length_append, List.length_singleton]; omega)
mutual
theorem run_q30 {c : DoC} (hc : c.Ok) {B Z : List Str} : ∀ (d : Dd) {s s' : Do}, d.Ok B Z → s.Ok B Z → Q30 s.st → d.run c s = .ok s' → Q30 s'.st
  | .put b f, s, s', ho, hs, h, e => by
    rw [Dd.run] at e
    split at e
    · cases e
    · cases e; exact h
  | .push b f, s, s', ho, hs, h, e => by
    rw [Dd.Ok] at ho
    rw [Dd.run] at e
    split at e
    · cases e
    · exact push_q30 h (h.look (by rw [hs.qs]; exact ho.1)) e
  | .pull q b ds, s, s', ho, hs, h, e => by
    rw [Dd.Ok] at ho
    rw [Dd.run] at e
    split at e
    · exact runs_q30 hc ds ho.2.2 hs h e
    · rename_i n r hq
      cases e
      have := h.look (x := q) (by rw [hs.qs]; exact ho.1)
      rw [hq, List.length_cons] at this
      exact h.setQ (by omega)
  | .draw b f, s, s', ho, hs, h, e => by
    rw [Dd.run] at e
    split at e
    · cases e
    · unfold Do.draw at e
      split at e
      · cases e
      · split at e
        · cases e
        · cases e; exact h
  | .send to sign span rank g k, s, s', ho, hs, h, e => by
    rw [Dd.run] at e
    unfold Do.send at e
    split at e
    · cases e
    · split at e
      · cases e
      · split at e
        · cases e
        · split at e
          · cases e
          · split at e
            · cases e
            · cases e; exact h
  | .iff f a b, s, s', ho, hs, h, e => by
    rw [Dd.Ok] at ho
    rw [Dd.run] at e
    split at e
    · cases e
    · split at e
      · exact runs_q30 hc b ho.2.2 hs h e
      · exact runs_q30 hc a ho.2.1 hs h e
  | .fin, s, s', ho, hs, h, e => by
    rw [Dd.run] at e
    cases e
    exact h
theorem runs_q30 {c : DoC} (hc : c.Ok) {B Z : List Str} : ∀ (ds : List Dd) {s s' : Do}, Dd.Oks B Z ds → s.Ok B Z → Q30 s.st → Dd.runs c ds s = .ok s' → Q30 s'.st
  | [], s, s', ho, hs, h, e => by rw [Dd.runs] at e; cases e; exact h
  | d :: ds, s, s', ho, hs, h, e => by
    rw [Dd.Oks] at ho
    rw [Dd.runs] at e
    split at e
    · cases e
    · rename_i s1 h1
      exact runs_q30 hc ds ho.2 (run_ok hc d ho.1 hs h1) (run_q30 hc d ho.1 hs h h1) e
end
end Mo
namespace Mo
open PySem PySem.Spec PyProof.Rows L2
/-! ### states compared; slices -/
section
variable {K : PySem.W.Frag} {H : Hp} {Q : VK} {a b : Addr}
theorem go_eqV {x y : V} (h : EqR K H (EqV K H 2) x y) (k : Q (.bl true) H) : rEqA K x y H Q := .inr (.inr ⟨2, by decide, h, k⟩)
theorem go_eqVn {x y : V} (n : Nat) (hn : n ≤ 60) (h : EqR K H (EqV K H n) x y) (k : Q (.bl true) H) : rEqA K x y H Q := .inr (.inr ⟨n, hn, h, k⟩)
theorem eqr_boxes {bs : List (Str × Int)} (h1 : H a = some (.dK (boxesV bs))) (h2 : H b = some (.dK (boxesV bs))) (nd : (bs.map (·.1)).Nodup) {n : Nat} : EqR K H (EqV K H (n + 1)) (.ref a) (.ref b) := by
  refine .inr ⟨a, b, _, _, rfl, rfl, h1, h2, rfl, fun p hp => ⟨p.2, ?_, ?_⟩⟩
  · refine (val_mem ?_).mp hp
    rw [boxesV_keys]
    have : (bs.map fun p => (Sum.inr p.1 : Key)) = (bs.map (·.1)).map Sum.inr := by rw [List.map_map]; rfl
    rw [this]
    rw [List.nodup_iff_pairwise_ne] at nd ⊢
    rw [List.pairwise_map]
    exact nd.imp fun h z => h (Sum.inr.inj z)
  · unfold boxesV at hp
    obtain ⟨q, _, rfl⟩ := List.mem_map.mp hp
    exact .inl ⟨rfl, rfl⟩
theorem paired_ints (ns : List Int) {n : Nat} : Paired (EqV K H (n + 1)) (ns.map V.int) (ns.map V.int) := by
  induction ns with
  | nil => exact .nil
  | cons i r ih => exact .cons (.inl ⟨rfl, rfl⟩) ih
theorem eqr_queues {qs : List (Str × List Int)} {as cs : List Addr} (h1 : H a = some (.dK (queuesV qs as))) (h2 : H b = some (.dK (queuesV qs cs))) (nd : (qs.map (·.1)).Nodup) (l1 : qs.length = as.length) (l2 : qs.length = cs.length)
    (ha : ∀ (i : Nat) (x : Addr) (y : Str × List Int), qs[i]? = some y → as[i]? = some x → H x = some (.lst (y.2.map V.int))) (hc : ∀ (i : Nat) (x : Addr) (y : Str × List Int), qs[i]? = some y → cs[i]? = some x → H x = some (.lst (y.2.map V.int))) {n : Nat} : EqR K H (EqV K H (n + 2)) (.ref a) (.ref b) := by
  refine .inr ⟨a, b, _, _, rfl, rfl, h1, h2, ?_, fun p hp => ?_⟩
  · unfold queuesV
    rw [List.length_map, List.length_map, List.length_zip, List.length_zip]
    omega
  · unfold queuesV at hp
    obtain ⟨e, he, rfl⟩ := List.mem_map.mp hp
    obtain ⟨i, hi⟩ := List.mem_iff_getElem?.mp he
    obtain ⟨e1, e2⟩ := List.getElem?_zip_eq_some.mp hi
    have hil := (List.getElem?_eq_some_iff.mp e1).1
    obtain ⟨c, hc1⟩ : ∃ c, cs[i]? = some c := ⟨_, List.getElem?_eq_getElem (by omega)⟩
    refine ⟨.ref c, ?_, ?_⟩
    · refine (val_mem ?_).mp ?_
      · unfold queuesV
        rw [List.map_map]
        have : ((·.1) ∘ fun p : (Str × List Int) × Addr => ((Sum.inr p.1.1 : Key), V.ref p.2)) = fun p => (Sum.inr p.1.1 : Key) := rfl
        rw [this]
        have e3 : (qs.zip cs).map (fun p => (Sum.inr p.1.1 : Key)) = (qs.map (·.1)).map Sum.inr := by
          have : (qs.zip cs).map (fun p => (Sum.inr p.1.1 : Key)) = ((qs.zip cs).map (·.1)).map fun p => Sum.inr p.1 := by rw [List.map_map]; rfl
          rw [this, List.map_fst_zip (by omega), List.map_map]
          rfl
        rw [e3, List.nodup_iff_pairwise_ne, List.pairwise_map]
        rw [List.nodup_iff_pairwise_ne] at nd
        exact nd.imp fun h z => h (Sum.inr.inj z)
      · unfold queuesV
        exact List.mem_map.mpr ⟨(e.1, c), List.mem_of_getElem? (i := i) (List.getElem?_zip_eq_some.mpr ⟨e1, hc1⟩), rfl⟩
    · exact .inr (.inr (.inl ⟨_, _, _, _, rfl, rfl, SqL.of (ha i _ _ e1 e2), SqL.of (hc i _ _ e1 hc1), paired_ints _⟩))
/-! #### slices of lists -/
theorem go_slL {xs : List V} {lo hi : Option Int} (h : SqL K H a xs) (k : ∀ p, H p = none → Q (.ref p) (upd H p (.lst (cutV xs lo hi)))) : rSli K (.ref a) lo hi H Q := .inl ⟨a, xs, rfl, h, k⟩
theorem cut_take (xs : List V) (n : Nat) : cutV xs none (some (n : Int)) = xs.take n := by
  unfold cutV
  have e1 : HT.sIx xs.length 0 none = 0 := rfl
  rw [e1, HT.sIx_nat, List.drop_zero, Nat.sub_zero, ← List.take_take, List.take_of_length_le (Nat.le_refl _)] <;> rfl
theorem cut_mid (xs : List V) (m n : Nat) (h : m ≤ xs.length) : cutV xs (some (m : Int)) (some ((m + n : Nat) : Int)) = (xs.drop m).take n := by
  unfold cutV
  rw [HT.sIx_nat, HT.sIx_nat, Nat.min_eq_left h]
  rcases Nat.le_total (m + n) xs.length with z | z
  · rw [Nat.min_eq_left z, Nat.add_sub_cancel_left]
  · rw [Nat.min_eq_right z, List.take_of_length_le (by rw [List.length_drop]; exact Nat.le_refl _), List.take_of_length_le (by rw [List.length_drop]; omega)]
end
end Mo
namespace Mo
open PySem PySem.Spec PyProof.Rows L2
/-! ### the plain run: plain Lean -/
def kAt (l : List Hap) (i : Nat) : List Int := (l.getD i default).key
/-- the place of the least key among the first n + 1 -/
def placeN (l : List Hap) (n : Nat) : Nat := argBest (fun i j => HT.lexLt (kAt l i) (kAt l j)) n
def place (l : List Hap) : Nat := placeN l (l.length - 1)
theorem placeN_succ (l : List Hap) (n : Nat) : placeN l (n + 1) = if HT.lexLt (kAt l (n + 1)) (kAt l (placeN l n)) = true then n + 1 else placeN l n := rfl
theorem placeN_le (l : List Hap) (n : Nat) : placeN l n ≤ n := (best_least (kAt l) n).1
theorem place_lt {l : List Hap} (h : 0 < l.length) : place l < l.length := by
  have := placeN_le l (l.length - 1)
  unfold place
  omega
theorem place_least {l : List Hap} {x : Hap} (h : l[place l]? = some x) : ∀ y ∈ l, HT.lexLt y.key x.key = false := fun y hy => by
  obtain ⟨j, hj, rfl⟩ := List.getElem_of_mem hy
  have h1 := (best_least (kAt l) (l.length - 1)).2 j (by omega)
  have e1 : kAt l j = (l[j]).key := by unfold kAt; rw [List.getD_eq_getElem?_getD, List.getElem?_eq_getElem hj]; rfl
  have e2 : kAt l (place l) = x.key := by unfold kAt; rw [List.getD_eq_getElem?_getD, h]; rfl
  have h2 : HT.lexLt (kAt l j) (kAt l (place l)) = false := h1
  rw [e1, e2] at h2
  exact h2
structure Run where
  sts : List MSt
  pend : List Hap
  ended : Option Ending
/-- the least pending happening is done -/
def Run.act (ms : List Mach) (r : Run) : Run × Option Rec :=
  match r.pend[place r.pend]? with
  | none => (r, none)
  | some x => match ms[x.to.toNat]?, r.sts[x.to.toNat]? with
    | some m, some s => match m.doing s x with
      | .error f => ({ r with pend := r.pend.eraseIdx (place r.pend), ended := some (.fault f x) }, none)
      | .ok d => (⟨r.sts.set x.to.toNat d.st, r.pend.eraseIdx (place r.pend) ++ d.news, if d.ends then some (.fin x) else none⟩, some (d.told m x))
    | _, _ => (r, none)
/-- the next records, at most so many -/
def Run.go (ms : List Mach) : Nat → Run → Run × List Rec
  | 0, r => (r, [])
  | n + 1, r => if r.ended.isSome = true ∨ r.pend = [] then (r, []) else match r.act ms with
    | (r1, none) => (r1, [])
    | (r1, some c) => ((Run.go ms n r1).1, c :: (Run.go ms n r1).2)
def Run.ending (r : Run) : Ending := match r.ended with
  | some e => e
  | none => if r.pend = [] then .empty else .cut
theorem go_over {ms : List Mach} {n : Nat} {r : Run} (h : r.ended.isSome = true ∨ r.pend = []) : r.go ms n = (r, []) := by
  cases n with
  | zero => rfl
  | succ n => rw [Run.go, if_pos h]
/-! #### what holds of runs -/
/-- machines as the walks need them: their deeds name what is there; what is sent goes to machines that are there -/
structure MdR (n : Nat) (ss : List Str) (ms : List Mach) : Prop where
  ok : ∀ m ∈ ms, m.Ok n
  to : ∀ m ∈ ms, ∀ sign, Dd.Tos ms.length ss (m.deedsFor sign)
  cn : ∀ m ∈ ms, ∀ sign, Dd.cnts (m.deedsFor sign) ≤ 20
  np : 0 < n
  ln : ms.length ≤ 1000
structure HapR (many : Nat) (sok : Str → Prop) (x : Hap) : Prop where
  to0 : 0 ≤ x.to
  to1 : x.to < (many : Int)
  t0 : 0 ≤ x.time
  t1 : x.time ≤ 1000000000000
  r0 : 0 ≤ x.rank
  r1 : x.rank ≤ 9
  g : Worth x.g
  h : Worth x.h
  sign : sok x.sign
structure StR (m : Mach) (s : MSt) : Prop where
  wo : s.Wo
  bs : s.bs = m.ns
  qs : s.qs = m.queues
  q30 : Q30 s
structure RunR (ms : List Mach) (sok : Str → Prop) (r : Run) : Prop where
  len : r.sts.length = ms.length
  st : ∀ (i : Nat) (m : Mach) (s : MSt), ms[i]? = some m → r.sts[i]? = some s → StR m s
  pd : ∀ x ∈ r.pend, HapR ms.length sok x
theorem StR.first {m : Mach} (h1 : m.Nd) (h2 : m.Sm) (h3 : ∀ p ∈ m.boxes, Worth p.2) : StR m m.first where
  wo := {
    bw := h3
    ql := fun p hp => Nat.le_trans (by
      obtain ⟨x, _, rfl⟩ := List.mem_map.mp hp
      exact Nat.zero_le 0) (Nat.zero_le 300)
    qw := fun p hp => by
      obtain ⟨x, _, rfl⟩ := List.mem_map.mp hp
      exact fun _ z => nomatch z
    nb := h1.boxes
    nq := by
      have e : m.first.qs = m.queues := by
        show (m.queues.map fun q => (q, ([] : List Int))).map (·.1) = _
        rw [List.map_map]
        exact List.map_id _
      rw [e]
      exact h1.queues
    lb := h2.boxes
    lq := by show (m.queues.map _).length ≤ _; rw [List.length_map]; exact h2.queues }
  bs := rfl
  qs := by
    show (m.queues.map fun q => (q, ([] : List Int))).map (·.1) = _
    rw [List.map_map]
    exact List.map_id _
  q30 := fun p hp => by
    obtain ⟨x, _, rfl⟩ := List.mem_map.mp hp
    exact Nat.zero_le _
section
variable {n : Nat} {ss : List Str} {ms : List Mach} {sok : Str → Prop} {r : Run}
theorem HapR.doC {many : Nat} {x : Hap} {m : Mach} (h : HapR many sok x) (hm : m.Sm) : (DoC.mk m.draws x).Ok := ⟨h.t0, h.t1, h.g, h.h, hm.draws⟩
/-- behind a happening: the state, what was sent -/
theorem doing_ok (hm : MdR n ss ms) (hss : ∀ x ∈ ss, sok x) {m : Mach} {s : MSt} {x : Hap} {d : Do} (h1 : m ∈ ms) (h2 : StR m s) (h3 : HapR ms.length sok x) (e : m.doing s x = .ok d) : StR m d.st ∧ (∀ y ∈ d.news, HapR ms.length sok y ∧ x.time < y.time ∧ y.frm = x.to) ∧ d.Ok m.ns m.queues := by
  have hc := h3.doC (hm.ok m h1).sm
  have hf := (hm.ok m h1).for_ hm.np x.sign
  have h0 : (Do.mk s [] [] false).Ok m.ns m.queues := ⟨h2.wo, h2.bs, h2.qs, (fun _ z => nomatch z), List.nodup_nil⟩
  have hd := runs_ok hc _ hf.1 h0 e
  refine ⟨⟨hd.wo, hd.bs, hd.qs, runs_q30 hc _ hf.1 h0 h2.q30 e⟩, fun y hy => ?_, hd⟩
  rcases runs_sent hc _ (hm.to m h1 x.sign) hf.1 h0 e y hy with z | z
  · exact absurd z List.not_mem_nil
  · exact ⟨⟨z.to0, z.to1, by have := z.t0; have := h3.t0; dsimp only at *; omega, z.t1, z.r0, z.r1, z.g, z.h, hss _ z.sign⟩, z.t0, z.frm⟩
theorem to_nat {many : Nat} {x : Hap} (h : HapR many sok x) : x.to = ((x.to.toNat : Nat) : Int) ∧ x.to.toNat < many := by
  have := h.to0
  have := h.to1
  omega
/-- what stands there for the least pending happening -/
theorem act_at (hr : RunR ms sok r) (hp : r.pend ≠ []) : ∃ x m s, r.pend[place r.pend]? = some x ∧ ms[x.to.toNat]? = some m ∧ r.sts[x.to.toNat]? = some s ∧ HapR ms.length sok x ∧ StR m s := by
  have h1 := place_lt (l := r.pend) (List.length_pos_iff.mpr hp)
  have hx := List.getElem?_eq_getElem h1
  have h2 := hr.pd _ (List.getElem_mem h1)
  have h3 := (to_nat h2).2
  have hm := List.getElem?_eq_getElem h3
  have hs := List.getElem?_eq_getElem (show (r.pend[place r.pend]).to.toNat < r.sts.length by rw [hr.len]; exact h3)
  exact ⟨_, _, _, hx, hm, hs, h2, hr.st _ _ _ hm hs⟩
theorem act_err {x : Hap} {m : Mach} {s : MSt} {f : Flt} (h1 : r.pend[place r.pend]? = some x) (h2 : ms[x.to.toNat]? = some m) (h3 : r.sts[x.to.toNat]? = some s) (e : m.doing s x = .error f) : r.act ms = ({ r with pend := r.pend.eraseIdx (place r.pend), ended := some (.fault f x) }, none) := by
  unfold Run.act
  simp only [h1, h2, h3, e]
theorem act_ok {x : Hap} {m : Mach} {s : MSt} {d : Do} (h1 : r.pend[place r.pend]? = some x) (h2 : ms[x.to.toNat]? = some m) (h3 : r.sts[x.to.toNat]? = some s) (e : m.doing s x = .ok d) : r.act ms = (⟨r.sts.set x.to.toNat d.st, r.pend.eraseIdx (place r.pend) ++ d.news, if d.ends then some (.fin x) else none⟩, some (d.told m x)) := by
  unfold Run.act
  simp only [h1, h2, h3, e]
theorem mem_erase {α : Type} {l : List α} {i : Nat} {x : α} (h : x ∈ l.eraseIdx i) : x ∈ l := List.mem_of_mem_eraseIdx h
theorem RunR.act_err (hr : RunR ms sok r) {e : Option Ending} : RunR ms sok { r with pend := r.pend.eraseIdx (place r.pend), ended := e } := ⟨hr.len, hr.st, fun x hx => hr.pd x (mem_erase hx)⟩
theorem RunR.act_ok (hm : MdR n ss ms) (hss : ∀ x ∈ ss, sok x) (hr : RunR ms sok r) {x : Hap} {m : Mach} {s : MSt} {d : Do} {en : Option Ending} (h1 : r.pend[place r.pend]? = some x) (h2 : ms[x.to.toNat]? = some m) (h3 : r.sts[x.to.toNat]? = some s) (e : m.doing s x = .ok d) :
    RunR ms sok ⟨r.sts.set x.to.toNat d.st, r.pend.eraseIdx (place r.pend) ++ d.news, en⟩ := by
  have hx := hr.pd x (List.mem_of_getElem? h1)
  obtain ⟨k1, k2, _⟩ := doing_ok hm hss (List.mem_of_getElem? h2) (hr.st _ _ _ h2 h3) hx e
  refine ⟨by show (r.sts.set _ _).length = _; rw [List.length_set]; exact hr.len, fun i m' s' e1 e2 => ?_, fun y hy => ?_⟩
  · have e2 : (r.sts.set x.to.toNat d.st)[i]? = some s' := e2
    rw [List.getElem?_set] at e2
    by_cases hi : x.to.toNat = i
    · subst hi
      rw [if_pos rfl, if_pos (by rw [hr.len]; exact (to_nat hx).2)] at e2
      cases e2
      rw [h2] at e1
      cases e1
      exact k1
    · rw [if_neg hi] at e2
      exact hr.st _ _ _ e1 e2
  · rcases List.mem_append.mp hy with hy | hy
    · exact hr.pd y (mem_erase hy)
    · exact (k2 y hy).1
theorem news_len (hm : MdR n ss ms) {m : Mach} {s : MSt} {x : Hap} {d : Do} (h1 : m ∈ ms) (e : m.doing s x = .ok d) : d.news.length ≤ 20 := by
  have h2 := runs_news _ e
  have h3 := hm.cn m h1 x.sign
  simp only [List.length_nil] at h2
  omega
theorem RunR.act (hm : MdR n ss ms) (hss : ∀ x ∈ ss, sok x) (hr : RunR ms sok r) (hp : r.pend ≠ []) : RunR ms sok (r.act ms).1 := by
  obtain ⟨x, m, s, h1, h2, h3, h4, h5⟩ := act_at hr hp
  cases e : m.doing s x with
  | error f => rw [Mo.act_err h1 h2 h3 e]; exact hr.act_err
  | ok d => rw [Mo.act_ok h1 h2 h3 e]; exact hr.act_ok hm hss h1 h2 h3 e
theorem act_len (hm : MdR n ss ms) (hr : RunR ms sok r) (hp : r.pend ≠ []) : (r.act ms).1.pend.length ≤ r.pend.length + 20 := by
  obtain ⟨x, m, s, h1, h2, h3, h4, h5⟩ := act_at hr hp
  have hl := List.length_eraseIdx_le r.pend (place r.pend)
  cases e : m.doing s x with
  | error f => rw [Mo.act_err h1 h2 h3 e]; dsimp only; omega
  | ok d =>
    have := news_len hm (List.mem_of_getElem? h2) e
    rw [Mo.act_ok h1 h2 h3 e]
    dsimp only
    rw [List.length_append]
    omega
theorem act_none (hr : RunR ms sok r) (hp : r.pend ≠ []) (h : (r.act ms).2 = none) : (r.act ms).1.ended.isSome = true := by
  obtain ⟨x, m, s, h1, h2, h3, h4, h5⟩ := act_at hr hp
  cases e : m.doing s x with
  | error f => rw [Mo.act_err h1 h2 h3 e]; rfl
  | ok d => rw [Mo.act_ok h1 h2 h3 e] at h; cases h
theorem act_len_none (hr : RunR ms sok r) (hp : r.pend ≠ []) (h : (r.act ms).2 = none) : (r.act ms).1.pend.length ≤ r.pend.length := by
  obtain ⟨x, m, s, h1, h2, h3, h4, h5⟩ := act_at hr hp
  have hl := List.length_eraseIdx_le r.pend (place r.pend)
  cases e : m.doing s x with
  | error f => rw [Mo.act_err h1 h2 h3 e]; exact hl
  | ok d => rw [Mo.act_ok h1 h2 h3 e] at h; cases h
theorem go_none {k : Nat} (h1 : r.ended = none) (h2 : r.pend ≠ []) (h : (r.act ms).2 = none) : r.go ms (k + 1) = ((r.act ms).1, []) := by
  rw [Run.go, if_neg (by rw [h1]; simp [h2])]
  generalize r.act ms = y at h
  obtain ⟨r1, o⟩ := y
  dsimp only at h
  subst h
  rfl
theorem go_some {k : Nat} {c : Rec} (h1 : r.ended = none) (h2 : r.pend ≠ []) (h : (r.act ms).2 = some c) : r.go ms (k + 1) = (((r.act ms).1.go ms k).1, c :: ((r.act ms).1.go ms k).2) := by
  rw [Run.go, if_neg (by rw [h1]; simp [h2])]
  generalize r.act ms = y at h
  obtain ⟨r1, o⟩ := y
  dsimp only at h
  subst h
  rfl
theorem ending_some {e : Ending} (h : r.ended = some e) : r.ending = e := by unfold Run.ending; rw [h]
theorem ending_empty (h : r.ended = none) (h2 : r.pend = []) : r.ending = .empty := by unfold Run.ending; rw [h]; exact if_pos h2
theorem ending_cut (h : r.ended = none) (h2 : r.pend ≠ []) : r.ending = .cut := by unfold Run.ending; rw [h]; exact if_neg h2
end
/-! #### outside signs -/
structure Sg where
  time : Int
  rank : Int
  to : Int
  sign : Str
  g : Int
  h : Int
def Sg.data (s : Sg) : PyData := .tuple [.int s.time, .int s.rank, .int s.to, .str s.sign, .int s.g, .int s.h]
def Sg.hap (s : Sg) (i : Nat) : Hap := ⟨s.time, s.rank, -1, (i : Int), s.to, s.sign, s.g, s.h⟩
def hapsFrom (n : Nat) : List Sg → List Hap
  | [] => []
  | s :: r => s.hap n :: hapsFrom (n + 1) r
theorem haps_snoc (s : Sg) : ∀ (l : List Sg) (n : Nat), hapsFrom n (l ++ [s]) = hapsFrom n l ++ [s.hap (n + l.length)]
  | [], n => rfl
  | x :: l, n => by
    rw [List.cons_append, hapsFrom, hapsFrom, haps_snoc s l (n + 1), List.cons_append, List.length_cons, Nat.add_assoc, Nat.add_comm 1]
theorem haps_len : ∀ (l : List Sg) (n : Nat), (hapsFrom n l).length = l.length
  | [], _ => rfl
  | _ :: l, n => by rw [hapsFrom, List.length_cons, List.length_cons, haps_len l (n + 1)]
theorem haps_mem : ∀ {l : List Sg} {n : Nat} {x : Hap}, x ∈ hapsFrom n l → ∃ (s : Sg) (i : Nat), l[i]? = some s ∧ x = s.hap (n + i)
  | s :: l, n, x, h => by
    rw [hapsFrom] at h
    rcases List.mem_cons.mp h with h | h
    · exact ⟨s, 0, rfl, h⟩
    · obtain ⟨s', i, h1, h2⟩ := haps_mem h
      exact ⟨s', i + 1, h1, by rw [h2, Nat.add_assoc, Nat.add_comm 1]⟩
structure SgR (many : Nat) (sok : Str → Prop) (s : Sg) : Prop where
  to0 : 0 ≤ s.to
  to1 : s.to < (many : Int)
  t0 : 0 ≤ s.time
  t1 : s.time ≤ 1000000000000
  r0 : 0 ≤ s.rank
  r1 : s.rank ≤ 9
  g : Worth s.g
  h : Worth s.h
  sign : sok s.sign
def firstRun (ms : List Mach) (sgs : List Sg) : Run := ⟨ms.map Mach.first, hapsFrom 0 sgs, none⟩
theorem firstRun_ok {n : Nat} {ss : List Str} {sok : Str → Prop} {ms : List Mach} {sgs : List Sg} (hm : MdR n ss ms) (hb : ∀ m ∈ ms, ∀ p ∈ m.boxes, Worth p.2) (hs : ∀ s ∈ sgs, SgR ms.length sok s) : RunR ms sok (firstRun ms sgs) where
  len := List.length_map ..
  st := fun i m s h1 h2 => by
    have h2 : (ms.map Mach.first)[i]? = some s := h2
    rw [List.getElem?_map, h1] at h2
    cases h2
    have hmm := List.mem_of_getElem? h1
    exact StR.first (hm.ok m hmm).nd (hm.ok m hmm).sm (hb m hmm)
  pd := fun x hx => by
    obtain ⟨s, i, h1, rfl⟩ := haps_mem (show x ∈ hapsFrom 0 sgs from hx)
    have h := hs s (List.mem_of_getElem? h1)
    exact ⟨h.to0, h.to1, h.t0, h.t1, h.r0, h.r1, h.g, h.h, h.sign⟩
end Mo
namespace Mo
open PySem PySem.Spec PyProof.Rows L2
/-! ### more steps by facts and segments -/
section
variable {K : PySem.W.Frag} {Γ : List Fc} {S S' R : List Vo} {σ σ' : St} {H : Hp} {Q : VK} {D : Ends} {t tw : TS} {g : TG} {tA : TA} {A : Hp → Prop} {v y : V} {c : Str}
/-- what a clause 'except .. as x' catches -/
theorem w_as {cv : Value} {i : Nat} {ts : Addr → Value → Option Addr → TS} {Wout : WX} (hb : PySem.W.exmOne K (.ref (He.ga K c)) cv = some true)
    (k : ∀ a, Wh K Γ S fun H => ts a (.ref (He.ga K c)) none { nx := fun σ' H' => D.nx (σ'.set i none) H', rt := D.rt, bk := fun σ' H' => D.bk (σ'.set i none) H', ct := fun σ' H' => D.ct (σ'.set i none) H' } (σ.set i (some (.ref a))) H) :
    Wh K Γ S fun H => wAs K cv i ts Wout D (.ref (He.ga K c)) none σ H := fun H z => ⟨true, hb, fun _ a _ => k a H z, fun h => nomatch h⟩
theorem w_only {cv : Value} {ts : Addr → Value → Option Addr → TS} {Wout : WX} (hb : PySem.W.exmOne K (.ref (He.ga K c)) cv = some true)
    (k : ∀ a, Wh K Γ S fun H => ts a (.ref (He.ga K c)) none D σ H) :
    Wh K Γ S fun H => wOnly K cv ts Wout D (.ref (He.ga K c)) none σ H := fun H z => ⟨true, hb, fun _ a _ => k a H z, fun h => nomatch h⟩
/-- one leaves from its place -/
theorem w_popAt {p : Addr} {xs : List V} {j : Int} {n : Nat} (m : Sw p (.lst xs) (.lst (xs.eraseIdx n)) S S') (hj : j = (n : Int)) (hy : xs[n]? = some y) (hl : xs.length ≤ 1000000) (k : Wh K Γ S' fun H => Q y H) : Wh K Γ S fun H => rPopAt (.ref p) [.int j] H Q := fun H z => by
  subst hj
  have hn := (List.getElem?_eq_some_iff.mp hy).1
  refine ⟨p, xs, (n : Int), n, y, rfl, rfl, z.own m.mem, by omega, by omega, ?_, hy, k _ (z.sw m)⟩
  unfold seqIndex?
  simp
  omega
theorem dpa_erase {H : Hp} : ∀ {vs : List V} {ds : List PyData} (i : Nat), DpAll K H vs ds → DpAll K H (vs.eraseIdx i) (ds.eraseIdx i)
  | _, _, _, .nil => .nil
  | _, _, 0, .cons _ r => r
  | _, _, i + 1, .cons h r => .cons h (dpa_erase i r)
theorem DL.erase {vs : List V} {ds : List PyData} (i : Nat) (h : DL K Γ vs ds) : DL K Γ (vs.eraseIdx i) (ds.eraseIdx i) := fun G b => dpa_erase i (h G b)
theorem dpa_take' {H : Hp} : ∀ {vs : List V} {ds : List PyData} (n : Nat), DpAll K H vs ds → DpAll K H (vs.take n) (ds.take n)
  | _, _, 0, _ => .nil
  | _, _, _ + 1, .nil => .nil
  | _, _, n + 1, .cons h r => .cons h (dpa_take' n r)
theorem DL.take {vs : List V} {ds : List PyData} (i : Nat) (h : DL K Γ vs ds) : DL K Γ (vs.take i) (ds.take i) := fun G b => dpa_take' i (h G b)
/-- the data of one of them -/
theorem w_datsAt {vs : List V} {ds : List PyData} {j : Nat} {d : PyData} (m : .dats vs ds ∈ Γ) (h : ds[j]? = some d) (k : ∀ y, vs[j]? = some y → Wh K (.dat y d :: Γ) S A) : Wh K Γ S A := fun H z => by
  obtain ⟨G, a, b⟩ := z
  have t : DpAll K G vs ds := b _ m
  obtain ⟨y, e1, e2⟩ := dpa_get t h
  exact k y e1 H ⟨G, a, cons_facts (f := .dat y _) e2 b⟩
theorem w_datsGet {vs : List V} {ds : List PyData} {j : Nat} {y : V} {A : Hp → Prop} (m : .dats vs ds ∈ Γ) (h : vs[j]? = some y) (k : ∀ d, ds[j]? = some d → Wh K (.dat y d :: Γ) S A) : Wh K Γ S A := fun H z => by
  obtain ⟨G, a, b⟩ := z
  have t : DpAll K G vs ds := b _ m
  have hl := dpa_len t
  have hj := (List.getElem?_eq_some_iff.mp h).1
  obtain ⟨v, e1, e2⟩ := dpa_get t (List.getElem?_eq_getElem (show j < ds.length by omega))
  rw [h] at e1
  cases e1
  exact k _ (List.getElem?_eq_getElem (by omega)) H ⟨G, a, cons_facts (f := .dat y _) e2 b⟩
theorem w_lenO {K : PySem.W.Frag} {Γ : List Fc} {S : List Vo} {Q : VK} {a : Addr} {xs : List V} (m : .obj a (.tup xs) ∈ Γ) (k : Wh K Γ S fun H => Q (.int (xs.length : Int)) H) : Wh K Γ S fun H => rLenA K [.ref a] H Q := fun H z => go_lenT (SqT.of (z.obj m)) (k H z)
/-- slices of tuples, not the whole -/
theorem dpa_drop' {H : Hp} : ∀ {vs : List V} {ds : List PyData} (n : Nat), DpAll K H vs ds → DpAll K H (vs.drop n) (ds.drop n)
  | _, _, 0, h => h
  | _, _, _ + 1, .nil => .nil
  | _, _, n + 1, .cons _ r => dpa_drop' n r
theorem w_slTD {x : V} {ds es : List PyData} {lo hi : Option Int} (m : .dat x (.tuple ds) ∈ Γ) (hn : ¬ (HT.sIx ds.length 0 lo = 0 ∧ HT.sIx ds.length ds.length hi = ds.length)) (he : (ds.drop (HT.sIx ds.length 0 lo)).take (HT.sIx ds.length ds.length hi - HT.sIx ds.length 0 lo) = es) (k : ∀ p, Wh K (.dat (.ref p) (.tuple es) :: Γ) S fun H => Q (.ref p) H) : Wh K Γ S fun H => rSli K x lo hi H Q := fun H z => by
  obtain ⟨G, a, b⟩ := z
  obtain ⟨p, xs, rfl, t1, t2⟩ := dp_tup (b _ m : Dp K G x (.tuple ds))
  have hl := dpa_len t2
  refine .inr (.inl ⟨p, xs, rfl, ext_t a.ex t1, by rw [hl]; exact hn, fun q hq => k q _ ⟨_, a.fix hq, fun g mg => ?_⟩⟩)
  rcases List.mem_cons.mp mg with e | mg
  · rw [e, ← he]
    refine .tup (SqT.of upd_same) (dpa_mono (Ext.new (a.gno hq)) ?_)
    unfold cutV
    rw [hl]
    exact dpa_take' _ (dpa_drop' _ t2)
  · exact Fc.mono (Ext.new (a.gno hq)) (b g mg)
theorem w_slTO {a : Addr} {xs ys : List V} {lo hi : Option Int} (m : .obj a (.tup xs) ∈ Γ) (hn : ¬ (HT.sIx xs.length 0 lo = 0 ∧ HT.sIx xs.length xs.length hi = xs.length)) (he : cutV xs lo hi = ys) (k : ∀ p, Wh K (.obj p (.tup ys) :: Γ) S fun H => Q (.ref p) H) : Wh K Γ S fun H => rSli K (.ref a) lo hi H Q := fun H z =>
  .inr (.inl ⟨a, xs, rfl, SqT.of (z.obj m), hn, fun q hq => by rw [he]; exact k q _ (z.fix hq)⟩)
/-- a list cut, as a new list -/
theorem cut_drop {xs : List V} {n : Nat} : cutV xs (some (n : Int)) none = xs.drop n := by
  unfold cutV
  rw [HT.sIx_nat, show HT.sIx xs.length xs.length none = xs.length from rfl, List.take_of_length_le (by rw [List.length_drop]; omega)]
  rcases Nat.le_total n xs.length with h | h
  · rw [Nat.min_eq_left h]
  · rw [Nat.min_eq_right h, List.drop_of_length_le (Nat.le_refl _), List.drop_of_length_le h]
theorem w_slLD {p : Addr} {xs : List V} {j : Int} (n : Nat) (hj : j = (n : Int)) (m : AtH K Γ S p (.lst xs)) (k : ∀ l, Wh K Γ (own l (.lst (xs.drop n)) :: S) fun H => Q (.ref l) H) : Wh K Γ S fun H => rSli K (.ref p) (some j) none H Q := fun H z => by
  subst hj
  refine go_slL (SqL.of (m H z)) fun l hl => ?_
  rw [cut_drop]
  exact k l _ (z.new hl)
theorem w_slLT {p : Addr} {xs : List V} {j : Int} (n : Nat) (hj : j = (n : Int)) (m : AtH K Γ S p (.lst xs)) (k : ∀ l, Wh K Γ (own l (.lst (xs.take n)) :: S) fun H => Q (.ref l) H) : Wh K Γ S fun H => rSli K (.ref p) none (some j) H Q := fun H z => by
  subst hj
  refine go_slL (SqL.of (m H z)) fun l hl => ?_
  rw [cut_take]
  exact k l _ (z.new hl)
/-- a tuple, by its data -/
theorem tyx_t {H : Hp} {a : Addr} {xs : List V} (h : SqT K H a xs) : TyX K H (.ref a) (.type "tuple") := by
  rcases h with (h | ⟨o, h⟩) | ⟨o, its, n, h1, h2, _⟩
  · exact .base (.tup h)
  · exact .fTuple h
  · exact .kTuple h1 h2
theorem w_isi_tD {a : Addr} {ds : List PyData} (m : .dat (.ref a) (.tuple ds) ∈ Γ) (k : Wh K Γ S fun H => Q (.bl true) H) : Wh K Γ S fun H => rIsi K [.ref a, .ty "tuple"] H Q := fun H z => by
  obtain ⟨b, xs, e, h1, _⟩ := dp_tup (z.dat m)
  cases e
  exact go_isi (.ty _) (tyx_t h1) (kit_ty (by decide +kernel)) (k H z)
theorem w_nonv (m : .dat v .none ∈ Γ) (k : v = .non → Wh K Γ S A) : Wh K Γ S A := fun H z => k (dp_non (z.dat m)) H z
theorem w_tupv {ds : List PyData} (m : .dat v (.tuple ds) ∈ Γ) (k : ∀ a, v = .ref a → Wh K Γ S A) : Wh K Γ S A := fun H z => by
  obtain ⟨a, xs, e, _⟩ := dp_tup (z.dat m)
  exact k a e H z
theorem w_lstv {ds : List PyData} (m : .dat v (.list ds) ∈ Γ) (k : ∀ a, v = .ref a → Wh K Γ S A) : Wh K Γ S A := fun H z => by
  obtain ⟨a, xs, e, _⟩ := dp_lst (z.dat m)
  exact k a e H z
theorem erase_map {α β : Type} (f : α → β) : ∀ (l : List α) (i : Nat), (l.map f).eraseIdx i = (l.eraseIdx i).map f
  | [], _ => rfl
  | _ :: _, 0 => rfl
  | _ :: r, i + 1 => by
    rw [List.map_cons, List.eraseIdx_cons_succ, List.eraseIdx_cons_succ, List.map_cons, erase_map f r i]
/-! #### enumerate -/
def forEnum (K : PySem.W.Frag) (g : TG) (tw : TS) (D : Ends) (σ : St) (vs : List V) (H : Hp) : Prop := ∃ a xs, vs = [.ref a] ∧ SqL K H a xs ∧ LoopX g tw D σ H (Ite K a)
theorem w_forEnum (k : Wh K Γ S fun H => tA σ H fun vs H1 => forEnum K g tw D σ vs H1) : Wh K Γ S fun H => tFor (iEnum K tA) g tw D σ H := k
theorem w_enumD {p : Addr} {ds : List PyData} (m : .dat (.ref p) (.list ds) ∈ Γ) (k : Wh K Γ S fun H => LoopX g tw D σ H (Ite K p)) : Wh K Γ S fun H => forEnum K g tw D σ [.ref p] H := fun H z => by
  obtain ⟨a, xs, ea, h1, h2⟩ := dp_lst (z.dat m)
  cases ea
  exact ⟨p, xs, rfl, h1, k H z⟩
theorem w_enumL {p : Addr} {xs : List V} (m : AtH K Γ S p (.lst xs)) (k : Wh K Γ S fun H => LoopX g tw D σ H (Ite K p)) : Wh K Γ S fun H => forEnum K g tw D σ [.ref p] H := fun H z => ⟨p, xs, rfl, SqL.of (m H z), k H z⟩
theorem fixT {T : Addr} {xs : List V} (z : Hg K Γ S H) (hT : H T = none) : Hg K (.obj T (.tup xs) :: Γ) S (upd H T (.tup xs)) := z.fix hT
theorem w_loop_eD {ι : Type} {p : Addr} (ds : List PyData) (C : Nat → ι → Prop) (sg : Nat → ι → St) (Γf : Nat → ι → List Fc) (Sf : Nat → ι → List Vo) (a0 : ι) (h0 : C 0 a0) (hσ : σ = sg 0 a0) (hΓ : ∀ f ∈ Γf 0 a0, f ∈ Γ) (hS : Dr S (Sf 0 a0))
    (hl : ∀ i a, .dat (.ref p) (.list ds) ∈ Γf i a)
    (hs : ∀ (i : Nat) d v T a, ds[i]? = some d → C i a → Wh K (.obj T (.tup [.int (i : Int), v]) :: .dat v d :: Γf i a) (Sf i a) fun H => g (.ref T) (sg i a) H fun σ2 H2 => tw { D with nx := NX K (C (i + 1)) (sg (i + 1)) (Γf (i + 1)) (Sf (i + 1)), ct := NX K (C (i + 1)) (sg (i + 1)) (Γf (i + 1)) (Sf (i + 1)), bk := D.nx } σ2 H2)
    (hd : ∀ a, C ds.length a → Wh K (Γf ds.length a) (Sf ds.length a) fun H => D.nx (sg ds.length a) H) : Wh K Γ S fun H => LoopX g tw D σ H (Ite K p) := fun H z => by
  refine ⟨fun i m σ H => m = ds.length - i ∧ i ≤ ds.length ∧ NX K (C i) (sg i) (Γf i) (Sf i) σ H, ⟨ds.length, by simp, Nat.zero_le _, w_again a0 h0 hσ hΓ hS H z⟩, ?_⟩
  rintro i m σ' H' ⟨rfl, hi, a, hC, hσ, z'⟩
  subst hσ
  obtain ⟨G, z1, z2⟩ := id z'
  obtain ⟨b, ys, ea, t1, t2⟩ := dp_lst (z2 _ (hl i a) : Dp K G (.ref p) (.list ds))
  cases ea
  have hlen := dpa_len t2
  by_cases hlt : i < ds.length
  · obtain ⟨v, e1, e2⟩ := dpa_get t2 (List.getElem?_eq_getElem hlt)
    refine .inr ⟨⟨ys, v, ext_l z1.ex t1, e1⟩, NX K (C (i + 1)) (sg (i + 1)) (Γf (i + 1)) (Sf (i + 1)), fun σ'' H'' p' => ⟨ds.length - (i + 1), by omega, rfl, hlt, p'⟩, fun x H'' y => ?_⟩
    obtain ⟨T, w, rfl, hT, rfl, y2⟩ := y
    have zz : Hg K (.dat w (ds[i]) :: Γf i a) (Sf i a) H' := ⟨G, z1, cons_facts (f := .dat w _) (go_Q (xs := ys) (z2 _ (hl i a)) z1.ex y2 (List.getElem?_eq_getElem hlt)) z2⟩
    exact hs i _ w T a (List.getElem?_eq_getElem hlt) hC _ (fixT zz hT)
  · have e : i = ds.length := by omega
    subst e
    exact .inl ⟨⟨ys, ext_l z1.ex t1, by omega⟩, hd a hC H' z'⟩
theorem w_loop_eL {ι : Type} {p : Addr} (xs : List V) (C : Nat → ι → Prop) (sg : Nat → ι → St) (Γf : Nat → ι → List Fc) (Sf : Nat → ι → List Vo) (a0 : ι) (h0 : C 0 a0) (hσ : σ = sg 0 a0) (hΓ : ∀ f ∈ Γf 0 a0, f ∈ Γ) (hS : Dr S (Sf 0 a0))
    (hl : ∀ i a, AtH K (Γf i a) (Sf i a) p (.lst xs))
    (hs : ∀ (i : Nat) v T a, xs[i]? = some v → C i a → Wh K (.obj T (.tup [.int (i : Int), v]) :: Γf i a) (Sf i a) fun H => g (.ref T) (sg i a) H fun σ2 H2 => tw { D with nx := NX K (C (i + 1)) (sg (i + 1)) (Γf (i + 1)) (Sf (i + 1)), ct := NX K (C (i + 1)) (sg (i + 1)) (Γf (i + 1)) (Sf (i + 1)), bk := D.nx } σ2 H2)
    (hd : ∀ a, C xs.length a → Wh K (Γf xs.length a) (Sf xs.length a) fun H => D.nx (sg xs.length a) H) : Wh K Γ S fun H => LoopX g tw D σ H (Ite K p) := fun H z => by
  refine ⟨fun i m σ H => m = xs.length - i ∧ i ≤ xs.length ∧ NX K (C i) (sg i) (Γf i) (Sf i) σ H, ⟨xs.length, by simp, Nat.zero_le _, w_again a0 h0 hσ hΓ hS H z⟩, ?_⟩
  rintro i m σ' H' ⟨rfl, hi, a, hC, hσ, z'⟩
  subst hσ
  have hx := SqL.of (K := K) (hl i a H' z')
  by_cases hlt : i < xs.length
  · refine .inr ⟨⟨xs, xs[i], hx, List.getElem?_eq_getElem hlt⟩, NX K (C (i + 1)) (sg (i + 1)) (Γf (i + 1)) (Sf (i + 1)), fun σ'' H'' p' => ⟨xs.length - (i + 1), by omega, rfl, hlt, p'⟩, fun x H'' y => ?_⟩
    obtain ⟨T, w, rfl, hT, rfl, y2⟩ := y
    exact hs i w T a (y2 xs hx) hC _ (fixT z' hT)
  · have e : i = xs.length := by omega
    subst e
    exact .inl ⟨⟨xs, hx, Nat.le_refl _⟩, hd a hC H' z'⟩
/-! #### comprehensions over enumerate -/
variable {tt : TT} {te : TE} {wv : List Nat}
def lcEnum (K : PySem.W.Frag) (g : TG) (tt : TT) (te : TE) (wv : List Nat) (σ : St) (Q : VK) (vs : List V) (H : Hp) : Prop := ∃ a xs, vs = [.ref a] ∧ SqL K H a xs ∧ LcA g tt te wv σ Q H (Ite K a)
theorem w_lcEnum (k : Wh K Γ S fun H => tA σ H fun vs H1 => lcEnum K g tt te wv σ Q vs H1) : Wh K Γ S fun H => tLc (iEnum K tA) g tt te wv σ H Q := k
theorem w_lcEnumL {p : Addr} {xs : List V} (m : AtH K Γ S p (.lst xs)) (k : Wh K Γ S fun H => LcA g tt te wv σ Q H (Ite K p)) : Wh K Γ S fun H => lcEnum K g tt te wv σ Q [.ref p] H := fun H z => ⟨p, xs, rfl, SqL.of (m H z), k H z⟩
theorem w_lc_eL {ι : Type} {p : Addr} (xs : List V) (C : Nat → ι → Prop) (ac : Nat → ι → List V) (Γf : Nat → ι → List Fc) (Sf : Nat → ι → List Vo) (a0 : ι) (h0 : C 0 a0) (ha : ac 0 a0 = []) (hΓ : ∀ f ∈ Γf 0 a0, f ∈ Γ) (hS : Dr S (Sf 0 a0))
    (hl : ∀ i a, AtH K (Γf i a) (Sf i a) p (.lst xs))
    (hs : ∀ Dl (i : Nat) v T a, xs[i]? = some v → C i a → Wh K (.obj T (.tup [.int (i : Int), v]) :: Γf i a) (own Dl (.lst (ac i a)) :: Sf i a) fun H => g (.ref T) (wipe σ wv) H fun σ2 H2 => wipe σ2 wv = wipe σ wv ∧ tt σ2 H2 fun b H3 =>
      if b = true then te σ2 H3 fun y H4 => ∃ acc, H4 Dl = some (.lst acc) ∧ acc.length < sizeLine ∧ NL K Dl (C (i + 1)) (ac (i + 1)) (Γf (i + 1)) (Sf (i + 1)) (upd H4 Dl (.lst (acc ++ [y]))) else NL K Dl (C (i + 1)) (ac (i + 1)) (Γf (i + 1)) (Sf (i + 1)) H3)
    (hd : ∀ Dl a, C xs.length a → Wh K (Γf xs.length a) (own Dl (.lst (ac xs.length a)) :: Sf xs.length a) fun H => Q (.ref Dl) H) : Wh K Γ S fun H => LcA g tt te wv σ Q H (Ite K p) := fun H z Dl hD => by
  refine ⟨fun i m H => m = xs.length - i ∧ i ≤ xs.length ∧ NL K Dl (C i) (ac i) (Γf i) (Sf i) H, ⟨xs.length, by simp, Nat.zero_le _, a0, h0, by rw [ha]; exact (z.fit hΓ hS).new hD⟩, ?_⟩
  rintro i m H' ⟨rfl, hi, a, hC, z'⟩
  have hx := SqL.of (K := K) (hl i a H' z'.pop)
  by_cases hlt : i < xs.length
  · refine .inr ⟨⟨xs, xs[i], hx, List.getElem?_eq_getElem hlt⟩, NL K Dl (C (i + 1)) (ac (i + 1)) (Γf (i + 1)) (Sf (i + 1)), fun H'' p' => ⟨xs.length - (i + 1), by omega, rfl, hlt, p'⟩, fun x H'' y => ?_⟩
    obtain ⟨T, w, rfl, hT, rfl, y2⟩ := y
    exact hs Dl i w T a (y2 xs hx) hC _ (fixT z' hT)
  · have e : i = xs.length := by omega
    subst e
    exact .inl ⟨⟨xs, hx, Nat.le_refl _⟩, hd Dl a hC H' z'⟩
end
section
variable {K : PySem.W.Frag} {Γ : List Fc} {S : List Vo} {σ : St} {D : Ends} {t u : TS}
/-- a part behind which all is as ahead of it, but for the slots -/
theorem w_cutS (σ1 : St) (h1 : Wh K Γ S fun H => t { D with nx := NX K (fun _ : Unit => True) (fun _ => σ1) (fun _ => Γ) (fun _ => S) } σ H) (h2 : Wh K Γ S fun H => u D σ1 H) : Wh K Γ S fun H => Evl.tCut t u D σ H :=
  w_cut (ι := Unit) (fun _ => True) (fun _ => σ1) (fun _ => Γ) (fun _ => S) h1 fun _ _ => h2
end
section
variable {K : PySem.W.Frag} {Γ : List Fc} {S : List Vo} {σ : St} {D : Ends} {t u : TS} {Q : VK}
theorem w_cutD (d : PyData) (sg : V → St) (h1 : Wh K Γ S fun H => t { D with nx := NX K (fun _ : V => True) sg (fun v => .dat v d :: Γ) (fun _ => S) } σ H) (h2 : ∀ v, Wh K (.dat v d :: Γ) S fun H => u D (sg v) H) : Wh K Γ S fun H => Evl.tCut t u D σ H :=
  w_cut (ι := V) (fun _ => True) sg (fun v => .dat v d :: Γ) (fun _ => S) h1 fun v _ => h2 v
theorem w_ij {a b : Int} {A : Int → Int → Hp → Prop} (k : Wh K Γ S fun H => A a b H) : Wh K Γ S fun H => ∃ i j, [V.int a, V.int b] = [V.int i, V.int j] ∧ A i j H := fun H z => ⟨a, b, rfl, k H z⟩
/-- one of a list, by what it is -/
theorem w_pick {p : Addr} {xs : List V} {j : Int} {d : PyData} (m : AtH K Γ S p (.lst xs)) (h : ∃ v, atI xs j = some v ∧ DV K Γ v d) (k : ∀ v, Wh K (.dat v d :: Γ) S fun H => Q v H) : Wh K Γ S fun H => rSub K (.ref p) (.int j) H Q := by
  obtain ⟨v, e, hd⟩ := h
  exact w_sub m e (w_dat hd (k v))
end
/-! #### promises for any of a kind -/
def spEx {α : Type} (f : α → Sp) : Sp := fun vs H Q E => ∃ a, f a vs H Q E
theorem fn_ex {α : Type} {f : α → Sp} {P : Program} {w : World} {K : PySem.W.Frag} {mg : Str → Option Value} {base : Heap} {CX : CXT} {k : Nat} {fa : Addr} {fd : FuncData} {ps : List Str} (F : ∀ a, FnOk P w K mg base CX k fa fd ps (f a)) : FnOk P w K mg base CX k fa fd ps (spEx f) :=
  ⟨fun vs H Q E ⟨a, h⟩ => (F a).len vs H Q E h, fun A outer s H args us vs Q E hr he hb hv ⟨a, hs⟩ => (F a).run A outer s H args us vs Q E hr he hb hv hs⟩
theorem w_ex {α : Type} {f : α → Sp} {K : PySem.W.Frag} {Γ : List Fc} {S : List Vo} {vs : List V} {Q : VK} {E : XK} (a : α) (k : Wh K Γ S fun H => f a vs H Q E) : Wh K Γ S fun H => spEx f vs H Q E := fun H z => ⟨a, k H z⟩
end Mo
namespace Mo
open PySem PySem.Spec PyProof.Rows L2
/-! ### the least happening by its data; keys are unlike -/
theorem eqvk_ints : ∀ ns ms : List Int, PyData.eqvAll (ns.map PyData.int) (ms.map PyData.int) = decide (ns = ms)
  | [], [] => rfl
  | [], _ :: _ => rfl
  | _ :: _, [] => rfl
  | n :: ns, m :: ms => by
    rw [List.map_cons, List.map_cons]
    show (PyData.eqv (.int n) (.int m) && PyData.eqvAll (ns.map PyData.int) (ms.map PyData.int)) = _
    rw [eqvk_ints ns ms]
    show ((n == m) && decide (ns = ms)) = _
    by_cases h : n = m
    · subst h
      simp
    · have h1 : (n == m) = false := beq_eq_false_iff_ne.mpr h
      rw [h1, decide_eq_false (fun z => h (List.cons.inj z).1)]
      rfl
theorem keyD_eqv (x y : Hap) : PyData.eqv x.keyD y.keyD = decide (x.key = y.key) := eqvk_ints x.key y.key
theorem hap_eqv_no {x y : Hap} (h : x.key ≠ y.key) : PyData.eqv x.data y.data = false := by
  have e : PyData.eqv x.data y.data = (PyData.eqv x.keyD y.keyD && PyData.eqvAll [.int x.to, .str x.sign, .int x.g, .int x.h] [.int y.to, .str y.sign, .int y.g, .int y.h]) := rfl
  rw [e, keyD_eqv, decide_eq_false h]
  rfl
theorem alike_ints : ∀ {ns ms : List Int}, ns.length = ms.length → PySem.W.alikeAll (ns.map PyData.int) (ms.map PyData.int) = true
  | [], _, _ => by simp [PySem.W.alikeAll]
  | _ :: _, [], h => by cases h
  | n :: ns, m :: ms, h => by
    rw [List.map_cons, List.map_cons, PySem.W.alikeAll, alike_ints (Nat.succ.inj h)]
    rfl
theorem lt_ints : ∀ {ns ms : List Int}, ns.length = ms.length → PyProof.Rows.lexLt PyProof.Rows.itemOrd (PySem.W.keyToksAll (ns.map PyData.int)) (PySem.W.keyToksAll (ms.map PyData.int)) = HT.lexLt ns ms
  | [], [], _ => by
    rw [HT.lexLt_nil_nil]
    rfl
  | [], _ :: _, h => by cases h
  | _ :: _, [], h => by cases h
  | n :: ns, m :: ms, h => by
    rw [List.map_cons, List.map_cons, HT.lexLt_cons]
    by_cases e : n = m
    · subst e
      rw [if_pos rfl, PySem.W.dataLt_all_yes rfl (by show (n == n) = true; exact beq_self_eq_true n)]
      exact lt_ints (Nat.succ.inj h)
    · rw [if_neg e, PySem.W.dataLt_all_no rfl (by show (n == m) = false; exact beq_eq_false_iff_ne.mpr e), PySem.W.dataLt_int]
theorem hap_lt {x y : Hap} (h : x.key ≠ y.key) : PySem.W.dataLt x.data y.data = HT.lexLt x.key y.key := by
  have e1 : x.data = .tuple (x.keyD :: [.int x.to, .str x.sign, .int x.g, .int x.h]) := rfl
  have e2 : y.data = .tuple (y.keyD :: [.int y.to, .str y.sign, .int y.g, .int y.h]) := rfl
  rw [e1, e2, PySem.W.dataLt_tuple, PySem.W.dataLt_all_no (by show PySem.W.alikeAll (x.key.map PyData.int) (y.key.map PyData.int) = true; exact alike_ints rfl) (by rw [keyD_eqv]; exact decide_eq_false h)]
  show PySem.W.dataLt (.tuple (x.key.map PyData.int)) (.tuple (y.key.map PyData.int)) = _
  rw [PySem.W.dataLt_tuple]
  exact lt_ints rfl
theorem hap_alike (x y : Hap) : PySem.W.alike x.data y.data = true := rfl
theorem haps_alike (l : List Hap) : PySem.W.AlikeAll (l.map Hap.data) := by
  refine ⟨fun x hx y hy => ?_, fun x hx => ?_⟩
  · obtain ⟨a, _, rfl⟩ := List.mem_map.mp hx
    obtain ⟨b, _, rfl⟩ := List.mem_map.mp hy
    rfl
  · obtain ⟨a, _, rfl⟩ := List.mem_map.mp hx
    exact fun z => nomatch z
theorem hap_depth (x : Hap) : x.data.depth ≤ 4 := by
  simp only [Hap.data, PyData.depth, PyData.depthAll]
  omega
theorem haps_depth : ∀ l : List Hap, PyData.depthAll (l.map Hap.data) ≤ 4
  | [] => by simp only [List.map_nil, PyData.depthAll]; omega
  | x :: l => by
    have h1 := hap_depth x
    have h2 := haps_depth l
    simp only [List.map_cons, PyData.depthAll]
    omega
def lessK (a y : Hap) : Hap := if HT.lexLt y.key a.key = true then y else a
theorem minD_haps : ∀ (x : Hap) (l : List Hap), ((x :: l).map Hap.key).Nodup → PySem.W.minD x.data (l.map Hap.data) = (l.foldl lessK x).data
  | x, [], _ => rfl
  | x, y :: l, h => by
    unfold PySem.W.minD
    have h1 := List.nodup_cons.mp h
    have h2 := List.nodup_cons.mp h1.2
    have hxy : y.key ≠ x.key := fun e => h1.1 (by rw [List.map_cons, e]; exact List.mem_cons_self)
    rw [List.map_cons, List.foldl_cons, List.foldl_cons, hap_lt hxy]
    have ih := fun z hz => minD_haps z l hz
    unfold PySem.W.minD at ih
    by_cases e : HT.lexLt y.key x.key = true
    · rw [if_pos e, show lessK x y = y from if_pos e]
      exact ih y h1.2
    · rw [if_neg e, show lessK x y = x from if_neg e]
      refine ih x (List.nodup_cons.mpr ⟨fun m => h1.1 (List.mem_cons_of_mem _ m), h2.2⟩)
theorem place_fold (x : Hap) (l : List Hap) : (x :: l).getD (place (x :: l)) default = l.foldl lessK x := by
  have h := (PySem.W.argBest_fold (fun a b : Hap => HT.lexLt a.key b.key) default x l l.length (Nat.le_refl _)).2
  rw [List.take_length] at h
  exact h
theorem nodup_get {l : List Hap} (h : (l.map Hap.key).Nodup) {i j : Nat} {x y : Hap} (h1 : l[i]? = some x) (h2 : l[j]? = some y) (e : x.key = y.key) : i = j := by
  have g1 : (l.map Hap.key)[i]? = some x.key := by rw [List.getElem?_map, h1]; rfl
  have g2 : (l.map Hap.key)[j]? = some x.key := by rw [List.getElem?_map, h2, e]; rfl
  have l1 := (List.getElem?_eq_some_iff.mp g1).1
  exact (List.getElem?_inj l1 h).mp (g1.trans g2.symm)
theorem data_key {x y : Hap} (h : x.data = y.data) : x.key = y.key := by
  unfold Hap.data at h
  injection h with h
  injection h with h h'
  injection h with h
  injection h with a1 h
  injection a1 with a1
  injection h with a2 h
  injection a2 with a2
  injection h with a3 h
  injection a3 with a3
  injection h with a4 h
  injection a4 with a4
  unfold Hap.key
  rw [a1, a2, a3, a4]
/-- the least by data stands where the least key stands -/
theorem min_place {l : List Hap} {x : Hap} {r : List Hap} (hl : l = x :: r) (h : (l.map Hap.key).Nodup) {i : Nat} (hi : (l.map Hap.data)[i]? = some (PySem.W.minD x.data (r.map Hap.data))) : i = place l := by
  subst hl
  rw [minD_haps x r h, ← place_fold x r] at hi
  have hp := place_lt (l := x :: r) (Nat.succ_pos _)
  rw [List.getElem?_map] at hi
  obtain ⟨y, hy, e⟩ := Option.map_eq_some_iff.mp hi
  have hz : (x :: r)[place (x :: r)]? = some ((x :: r).getD (place (x :: r)) default) := by
    rw [List.getD_eq_getElem?_getD, List.getElem?_eq_getElem hp]
    rfl
  exact nodup_get h hy hz (data_key e)
theorem hap_eqv_self {x : Hap} (h : SOk x.sign) : PyData.eqv x.data x.data = true := eqv_self ((Hap.shp h).shaped (by decide))
/-! #### the counts of what is sent -/
def Snt (c : DoC) (s s' : Do) : Prop := ∃ new : List Hap, s'.news = s.news ++ new ∧ s'.st.sent = s.st.sent + (new.length : Int) ∧ ∀ (i : Nat) (y : Hap), new[i]? = some y → y.count = s.st.sent + (i : Int) ∧ y.frm = c.hap.to
theorem Snt.same {c : DoC} {s s' : Do} (h1 : s'.news = s.news) (h2 : s'.st.sent = s.st.sent) : Snt c s s' := ⟨[], by rw [h1, List.append_nil], by rw [h2]; simp, fun i y h => by simp at h⟩
theorem Snt.trans {c : DoC} {s s1 s2 : Do} (h : Snt c s s1) (k : Snt c s1 s2) : Snt c s s2 := by
  obtain ⟨n1, a1, a2, a3⟩ := h
  obtain ⟨n2, b1, b2, b3⟩ := k
  refine ⟨n1 ++ n2, by rw [b1, a1, List.append_assoc], by rw [b2, a2, List.length_append]; omega, fun i y hy => ?_⟩
  rcases Nat.lt_or_ge i n1.length with hlt | hge
  · rw [List.getElem?_append_left hlt] at hy
    exact a3 i y hy
  · rw [List.getElem?_append_right hge] at hy
    obtain ⟨c1, c2⟩ := b3 _ y hy
    exact ⟨by rw [c1, a2]; omega, c2⟩
mutual
theorem run_snt {c : DoC} : ∀ (d : Dd) {s s' : Do}, d.run c s = .ok s' → Snt c s s'
  | .put b f, s, s', e => by
    rw [Dd.run] at e
    split at e
    · cases e
    · cases e; exact .same rfl rfl
  | .push b f, s, s', e => by
    rw [Dd.run] at e
    split at e
    · cases e
    · unfold Do.push at e
      split at e
      · cases e
      · cases e; exact .same rfl rfl
  | .pull q b ds, s, s', e => by
    rw [Dd.run] at e
    split at e
    · exact runs_snt ds e
    · cases e; exact .same rfl rfl
  | .draw b f, s, s', e => by
    rw [Dd.run] at e
    split at e
    · cases e
    · unfold Do.draw at e
      split at e
      · cases e
      · split at e
        · cases e
        · cases e; exact .same rfl rfl
  | .send to sign span rank g k, s, s', e => by
    rw [Dd.run] at e
    unfold Do.send at e
    split at e
    · cases e
    · split at e
      · cases e
      · split at e
        · cases e
        · split at e
          · cases e
          · split at e
            · cases e
            · cases e
              refine ⟨[_], rfl, rfl, fun i y hy => ?_⟩
              cases i with
              | zero =>
                cases hy
                exact ⟨by simp, rfl⟩
              | succ i => simp at hy
  | .iff f a b, s, s', e => by
    rw [Dd.run] at e
    split at e
    · cases e
    · split at e
      · exact runs_snt b e
      · exact runs_snt a e
  | .fin, s, s', e => by
    rw [Dd.run] at e
    cases e
    exact .same rfl rfl
theorem runs_snt {c : DoC} : ∀ (ds : List Dd) {s s' : Do}, Dd.runs c ds s = .ok s' → Snt c s s'
  | [], s, s', e => by rw [Dd.runs] at e; cases e; exact .same rfl rfl
  | d :: ds, s, s', e => by
    rw [Dd.runs] at e
    split at e
    · cases e
    · rename_i s1 h1
      exact (run_snt d h1).trans (runs_snt ds e)
end
/-- keys of what is pending are unlike, and unlike those to come -/
structure RunK (r : Run) : Prop where
  nd : (r.pend.map Hap.key).Nodup
  src : ∀ x ∈ r.pend, x.frm = -1 ∨ (0 ≤ x.frm ∧ ∃ s, r.sts[x.frm.toNat]? = some s ∧ x.count < s.sent)
theorem key_parts {x y : Hap} (h : x.key = y.key) : x.frm = y.frm ∧ x.count = y.count := by
  unfold Hap.key at h
  injection h with _ h
  injection h with _ h
  injection h with a h
  injection h with b h
  exact ⟨a, b⟩
theorem haps_nodup : ∀ (l : List Sg) (n : Nat), ((hapsFrom n l).map Hap.key).Nodup
  | [], _ => List.nodup_nil
  | s :: l, n => by
    rw [hapsFrom, List.map_cons, List.nodup_cons]
    refine ⟨fun m => ?_, haps_nodup l (n + 1)⟩
    obtain ⟨x, hx, e⟩ := List.mem_map.mp m
    obtain ⟨s', i, _, rfl⟩ := haps_mem hx
    have := (key_parts e).2
    dsimp only [Sg.hap] at this
    omega
theorem firstRun_k {ms : List Mach} {sgs : List Sg} : RunK (firstRun ms sgs) where
  nd := haps_nodup sgs 0
  src := fun x hx => by
    obtain ⟨s, i, _, rfl⟩ := haps_mem (show x ∈ hapsFrom 0 sgs from hx)
    exact .inl rfl
theorem RunK.act_ok {ms : List Mach} {sok : Str → Prop} {r : Run} (hr : RunR ms sok r) (hk : RunK r) {x : Hap} {m : Mach} {s : MSt} {d : Do} {en : Option Ending} (h1 : r.pend[place r.pend]? = some x) (h2 : ms[x.to.toNat]? = some m) (h3 : r.sts[x.to.toNat]? = some s) (e : m.doing s x = .ok d) :
    RunK ⟨r.sts.set x.to.toNat d.st, r.pend.eraseIdx (place r.pend) ++ d.news, en⟩ := by
  obtain ⟨new, n1, n2, n3⟩ := runs_snt _ e
  have n1 : d.news = new := n1
  have n2 : d.st.sent = s.sent + (new.length : Int) := n2
  have n3 : ∀ (i : Nat) (y : Hap), new[i]? = some y → y.count = s.sent + (i : Int) ∧ y.frm = x.to := n3
  have hx := hr.pd x (List.mem_of_getElem? h1)
  have hto := (to_nat hx).1
  have hlt : x.to.toNat < r.sts.length := by rw [hr.len]; exact (to_nat hx).2
  have hset : (r.sts.set x.to.toNat d.st)[x.to.toNat]? = some d.st := by rw [List.getElem?_set, if_pos rfl, if_pos hlt]
  constructor
  · show ((r.pend.eraseIdx (place r.pend) ++ d.news).map Hap.key).Nodup
    rw [n1, List.map_append, List.nodup_append]
    refine ⟨?_, ?_, ?_⟩
    · rw [← erase_map]
      exact hk.nd.sublist (List.eraseIdx_sublist _ _)
    · rw [List.nodup_iff_pairwise_ne, List.pairwise_map, List.pairwise_iff_getElem]
      intro i j hi hj hij eq
      have a1 := (n3 i _ (List.getElem?_eq_getElem hi)).1
      have a2 := (n3 j _ (List.getElem?_eq_getElem hj)).1
      have := (key_parts eq).2
      omega
    · intro a ha b hb eq
      obtain ⟨y, hy, rfl⟩ := List.mem_map.mp ha
      obtain ⟨z, hz, rfl⟩ := List.mem_map.mp hb
      obtain ⟨i, hi⟩ := List.mem_iff_getElem?.mp hz
      obtain ⟨a1, a2⟩ := n3 i z hi
      obtain ⟨b1, b2⟩ := key_parts eq
      rcases hk.src y (mem_erase hy) with h | ⟨h, s', h4, h5⟩
      · have := hx.to0
        omega
      · rw [b1, a2, h3] at h4
        cases h4
        omega
  · intro y hy
    rcases List.mem_append.mp hy with hy | hy
    · rcases hk.src y (mem_erase hy) with h | ⟨h, s', h4, h5⟩
      · exact .inl h
      · refine .inr ⟨h, ?_⟩
        by_cases ee : x.to.toNat = y.frm.toNat
        · rw [← ee, h3] at h4
          cases h4
          exact ⟨d.st, by rw [← ee]; exact hset, by omega⟩
        · exact ⟨s', by rw [List.getElem?_set, if_neg ee]; exact h4, h5⟩
    · rw [n1] at hy
      obtain ⟨i, hi⟩ := List.mem_iff_getElem?.mp hy
      obtain ⟨a1, a2⟩ := n3 i y hi
      have hil := (List.getElem?_eq_some_iff.mp hi).1
      refine .inr ⟨by rw [a2]; exact hx.to0, d.st, by rw [a2]; exact hset, by omega⟩
end Mo
namespace Mo
open PySem PySem.Spec PyProof.Rows L2
/-! ### many segments as one -/
def segsV {α : Type} (f : α → Vo) (es : List α) : Vo := (es.map f).flatten
section
variable {α : Type} {f : α → Vo} {K : PySem.W.Frag} {Γ : List Fc} {S R S0 : List Vo} {A B es : List α} {e : α} {P : Hp → Prop}
theorem segsV_app (A B : List α) : segsV f (A ++ B) = segsV f A ++ segsV f B := by
  unfold segsV
  rw [List.map_append, List.flatten_append]
theorem segsV_mid (A : List α) (e : α) (B : List α) : segsV f (A ++ e :: B) = segsV f A ++ (f e ++ segsV f B) := by
  rw [segsV_app]
  rfl
theorem segsV_snoc (A : List α) (e : α) : segsV f (A ++ [e]) = segsV f A ++ f e := by
  rw [segsV_mid]
  show _ ++ (_ ++ []) = _
  rw [List.append_nil]
theorem w_segOpen (m : Take (segsV f (A ++ e :: B)) S R) (k : Wh K Γ (f e :: segsV f A :: segsV f B :: R) P) : Wh K Γ S P := fun H z =>
  k H ((z.tk1 m).cong (by
    rw [segsV_mid, List.flatten_cons, List.flatten_cons, List.flatten_cons, List.flatten_cons, List.append_assoc, List.append_assoc, ← List.append_assoc, ← List.append_assoc (segsV f A)]
    exact List.Perm.append_right _ List.perm_append_comm))
theorem Dr.seg (h : Dr S0 (f e :: segsV f A :: segsV f B :: R)) : Dr S0 (segsV f (A ++ e :: B) :: R) := by
  obtain ⟨J, j⟩ := h
  refine ⟨J, j.trans ?_⟩
  rw [List.flatten_append, List.flatten_append, segsV_mid, List.flatten_cons, List.flatten_cons, List.flatten_cons, List.flatten_cons, List.append_assoc, List.append_assoc, ← List.append_assoc (f e), ← List.append_assoc (segsV f A)]
  exact List.Perm.append_left _ (List.Perm.append_right _ List.perm_append_comm)
theorem Dr.segNil (h : Dr S0 R) : Dr S0 (segsV f [] :: R) := by
  obtain ⟨J, j⟩ := h
  refine ⟨J, j.trans ?_⟩
  rw [List.flatten_append, List.flatten_append]
  exact List.Perm.refl _
theorem Dr.segSnoc (h : Dr S0 (segsV f A :: f e :: R)) : Dr S0 (segsV f (A ++ [e]) :: R) := by
  obtain ⟨J, j⟩ := h
  refine ⟨J, j.trans ?_⟩
  rw [List.flatten_append, List.flatten_append, segsV_snoc, List.flatten_cons, List.flatten_cons, List.flatten_cons, List.append_assoc]
/-- an item at its place -/
theorem at_split {i : Nat} (h : es[i]? = some e) : es = es.take i ++ e :: es.drop (i + 1) := by
  obtain ⟨hi, rfl⟩ := List.getElem?_eq_some_iff.mp h
  rw [← List.drop_eq_getElem_cons hi, List.take_append_drop]
theorem set_split {i : Nat} {y : α} (h : es[i]? = some e) : es.set i y = es.take i ++ y :: es.drop (i + 1) := by
  have hi := (List.getElem?_eq_some_iff.mp h).1
  rw [List.set_eq_take_append_cons_drop, if_pos hi]
theorem w_segAt {i : Nat} (h : es[i]? = some e) (m : Take (segsV f es) S R) (k : Wh K Γ (f e :: segsV f (es.take i) :: segsV f (es.drop (i + 1)) :: R) P) : Wh K Γ S P := by
  refine w_segOpen (A := es.take i) (B := es.drop (i + 1)) (e := e) ?_ k
  rw [← at_split h]
  exact m
theorem Dr.segBack {i : Nat} (h : es[i]? = some e) (d : Dr S0 (f e :: segsV f (es.take i) :: segsV f (es.drop (i + 1)) :: R)) : Dr S0 (segsV f es :: R) := by
  have z := Dr.seg d
  rw [← at_split h] at z
  exact z
theorem Dr.segSet {i : Nat} {y : α} (h : es[i]? = some e) (d : Dr S0 (f y :: segsV f (es.take i) :: segsV f (es.drop (i + 1)) :: R)) : Dr S0 (segsV f (es.set i y) :: R) := by
  rw [set_split h]
  exact Dr.seg d
end
/-! ### by names: facts of many -/
def allF {α : Type} (K : PySem.W.Frag) (f : α → List Fc) (es : List α) : Fc := .gen (fun G => ∀ e ∈ es, ∀ x ∈ f e, x.In K G) fun _ _ z h e he x hx => Fc.mono z (h e he x hx)
section
variable {α : Type} {f : α → List Fc} {K : PySem.W.Frag} {Γ : List Fc} {S : List Vo} {es : List α} {e : α} {P : Hp → Prop}
/-- the facts of one of them -/
theorem w_allGet (m : allF K f es ∈ Γ) (h : e ∈ es) (k : Wh K (f e ++ Γ) S P) : Wh K Γ S P := fun H ⟨G, a, b⟩ => k H ⟨G, a, fun g hg => by
  rcases List.mem_append.mp hg with hg | hg
  · exact (b _ m : ∀ e ∈ es, ∀ x ∈ f e, x.In K G) e h g hg
  · exact b g hg⟩
theorem w_allNil (k : Wh K (allF K f [] :: Γ) S P) : Wh K Γ S P := Wh.learn (f := allF K f []) (fun _ _ => fun _ h => nomatch h) k
theorem w_allSnoc (m : allF K f es ∈ Γ) (h : ∀ x ∈ f e, x ∈ Γ) (k : Wh K (allF K f (es ++ [e]) :: Γ) S P) : Wh K Γ S P := Wh.learn (f := allF K f (es ++ [e])) (fun G b => by
  show ∀ y ∈ es ++ [e], ∀ x ∈ f y, x.In K G
  intro y hy x hx
  rcases List.mem_append.mp hy with hy | hy
  · exact (b _ m : ∀ e ∈ es, ∀ x ∈ f e, x.In K G) y hy x hx
  · rw [List.mem_singleton.mp hy] at hx
    exact b x (h x hx)) k
end
end Mo
namespace Mo
open PySem PySem.Spec PyProof.Rows L2
/-! ### happenings whose tuples are known exactly -/
def HapX (G : Hp) (v : V) (h : Hap) : Prop := ∃ t k, v = .ref t ∧ G t = some (.tup [.ref k, .int h.to, .str h.sign, .int h.g, .int h.h]) ∧ G k = some (.tup [.int h.time, .int h.rank, .int h.frm, .int h.count])
def HapsX (G : Hp) (vs : List V) (hs : List Hap) : Prop := vs.length = hs.length ∧ ∀ (i : Nat) (v : V) (h : Hap), vs[i]? = some v → hs[i]? = some h → HapX G v h
theorem HapX.mono {G G' : Hp} {v : V} {h : Hap} (x : Ext G G') : HapX G v h → HapX G' v h := fun ⟨t, k, e, h1, h2⟩ => ⟨t, k, e, x _ _ h1, x _ _ h2⟩
theorem HapX.dp {K : PySem.W.Frag} {G : Hp} {v : V} {h : Hap} : HapX G v h → Dp K G v h.data := fun ⟨t, k, e, h1, h2⟩ => by
  subst e
  exact .tup (SqT.of h1) (.cons (.tup (SqT.of h2) (.cons (.int _) (.cons (.int _) (.cons (.int _) (.cons (.int _) .nil))))) (.cons (.int _) (.cons (.str _) (.cons (.int _) (.cons (.int _) .nil)))))
theorem HapsX.dpa {K : PySem.W.Frag} {G : Hp} : ∀ {vs : List V} {hs : List Hap}, HapsX G vs hs → DpAll K G vs (hs.map Hap.data)
  | [], [], _ => .nil
  | [], _ :: _, h => by cases h.1
  | _ :: _, [], h => by cases h.1
  | v :: vs, x :: hs, h => .cons (h.2 0 v x rfl rfl).dp (HapsX.dpa ⟨Nat.succ.inj h.1, fun i v' h' a b => h.2 (i + 1) v' h' (by simpa using a) (by simpa using b)⟩)
def hpF (vs : List V) (hs : List Hap) : Fc := .gen (fun G => HapsX G vs hs) fun _ _ z h => ⟨h.1, fun i v x a b => (h.2 i v x a b).mono z⟩
section
variable {K : PySem.W.Frag} {Γ : List Fc} {S : List Vo} {A : Hp → Prop} {vs : List V} {hs : List Hap}
theorem w_hpD (m : hpF vs hs ∈ Γ) (k : Wh K (.dats vs (hs.map Hap.data) :: Γ) S A) : Wh K Γ S A := Wh.learn (f := .dats vs (hs.map Hap.data)) (fun G b => (b _ m : HapsX G vs hs).dpa) k
theorem w_hpLen (m : hpF vs hs ∈ Γ) (k : vs.length = hs.length → Wh K Γ S A) : Wh K Γ S A := fun H z => by
  obtain ⟨G, a, b⟩ := id z
  exact k (b _ m : HapsX G vs hs).1 H z
theorem w_hpNil (k : Wh K (hpF [] [] :: Γ) S A) : Wh K Γ S A := Wh.learn (f := hpF [] []) (fun G _ => ⟨rfl, fun i v h a _ => by simp at a⟩) k
theorem w_hpSnoc {t p : Addr} {h : Hap} (m : hpF vs hs ∈ Γ) (m1 : .obj t (.tup [.ref p, .int h.to, .str h.sign, .int h.g, .int h.h]) ∈ Γ) (m2 : .obj p (.tup [.int h.time, .int h.rank, .int h.frm, .int h.count]) ∈ Γ) (k : Wh K (hpF (vs ++ [.ref t]) (hs ++ [h]) :: Γ) S A) : Wh K Γ S A :=
  Wh.learn (f := hpF (vs ++ [.ref t]) (hs ++ [h])) (fun G b => by
    have h0 := (b _ m : HapsX G vs hs)
    have hx : HapX G (.ref t) h := ⟨t, p, rfl, b _ m1, b _ m2⟩
    refine ⟨by rw [List.length_append, List.length_append, h0.1]; rfl, fun i v x a c => ?_⟩
    rcases Nat.lt_or_ge i vs.length with hi | hi
    · rw [List.getElem?_append_left hi] at a
      rw [List.getElem?_append_left (by rw [← h0.1]; exact hi)] at c
      exact h0.2 i v x a c
    · rw [List.getElem?_append_right hi] at a
      rw [List.getElem?_append_right (by rw [← h0.1]; exact hi)] at c
      have e : i - vs.length = 0 := by
        have := (List.getElem?_eq_some_iff.mp a).1
        rw [List.length_singleton] at this
        omega
      rw [← h0.1, e] at c
      rw [e] at a
      cases a
      cases c
      exact hx) k
theorem w_hpGet {i : Nat} {v : V} {h : Hap} (m : hpF vs hs ∈ Γ) (e1 : vs[i]? = some v) (e2 : hs[i]? = some h) (k : ∀ t p, v = .ref t → Wh K (.obj t (.tup [.ref p, .int h.to, .str h.sign, .int h.g, .int h.h]) :: .obj p (.tup [.int h.time, .int h.rank, .int h.frm, .int h.count]) :: Γ) S A) : Wh K Γ S A := fun H z => by
  obtain ⟨G, a, b⟩ := id z
  obtain ⟨t, p, e, h1, h2⟩ := (b _ m : HapsX G vs hs).2 i v h e1 e2
  exact k t p e H ⟨G, a, fun f hf => by
    rcases List.mem_cons.mp hf with rfl | hf
    · exact h1
    · rcases List.mem_cons.mp hf with rfl | hf
      · exact h2
      · exact b f hf⟩
end
end Mo
namespace Mo
open PySem PySem.Spec PyProof.Rows L2
/-! ### a happening as it is done: the objects -/
def wrV (ws : List Str) : List (Key × V) := ws.map fun x => (Sum.inr x, V.bl true)
theorem wrV_val : ∀ {ws : List Str} {x : Str}, (valV (wrV ws) (Sum.inr x)).isSome = decide (x ∈ ws)
  | [], x => by simp [wrV, valV_nil]
  | y :: r, x => by
    have e0 : wrV (y :: r) = (Sum.inr y, V.bl true) :: wrV r := rfl
    rw [e0]
    by_cases e : y = x
    · rw [valV_pos (by show (Sum.inr y : Key) = Sum.inr x; rw [e]), e]
      simp
    · rw [valV_neg (by show ¬ (Sum.inr y : Key) = Sum.inr x; exact fun z => e (Sum.inr.inj z)), wrV_val]
      simp [show ¬ x = y from fun z => e z.symm]
theorem wrV_put (ws : List Str) (x : Str) : putK (wrV ws) (Sum.inr x) (.bl true) = wrV (addW x ws) := by
  have h := wrV_val (ws := ws) (x := x)
  unfold addW
  by_cases hx : x ∈ ws
  · rw [if_pos hx]
    rw [decide_eq_true hx] at h
    unfold putK
    rw [valV_any, h, if_pos rfl]
    unfold wrV
    rw [List.map_map]
    refine List.map_congr_left fun y _ => ?_
    show (if (Sum.inr y : Key) = Sum.inr x then ((Sum.inr y : Key), V.bl true) else (Sum.inr y, V.bl true)) = (Sum.inr y, V.bl true)
    split <;> rfl
  · rw [if_neg hx]
    rw [decide_eq_false hx] at h
    rw [putK_new _ (by simpa using h)]
    unfold wrV
    rw [List.map_append]
    rfl
theorem wrV_len (ws : List Str) : (wrV ws).length = ws.length := List.length_map ..
structure DoA where
  self : Addr
  dx : Addr
  p : Addr
  dxp : Addr
  b : Addr
  q : Addr
  w : Addr
  n : Addr
  dr : Addr
  gt : Addr
  key : V
  as : List Addr
  nv : List V
def doS (K : PySem.W.Frag) (a : DoA) (c : DoC) (s : Do) : List Vo :=
  [own a.self (.ins (He.ga K "Doing") a.dx (fl_Doing (.ref a.dr) (.ref a.p) a.key (.int c.hap.to) (.ref a.gt) (.ref a.w) (.ref a.n) (.bl s.ends))), stV K a.p a.dxp a.b a.q a.as s.st, own a.w (.dK (wrV s.wr)), own a.n (.lst a.nv)]
def doF (a : DoA) (c : DoC) (s : Do) : List Fc := [.dat (.ref a.dr) (.list (c.draws.map PyData.int)), .dat a.key (.tuple [.int c.hap.time, .int c.hap.rank, .int c.hap.frm, .int c.hap.count]), .dat (.ref a.gt) (.list [.int c.hap.g, .int c.hap.h]), hpF a.nv s.news]
structure DoI where
  a : DoA
  c : DoC
  s : Do
  B : List Str
  Z : List Str
structure DoI.Pre (i : DoI) (Γ : List Fc) : Prop where
  dr : .dat (.ref i.a.dr) (.list (i.c.draws.map PyData.int)) ∈ Γ
  key : .dat i.a.key (.tuple [.int i.c.hap.time, .int i.c.hap.rank, .int i.c.hap.frm, .int i.c.hap.count]) ∈ Γ
  gt : .dat (.ref i.a.gt) (.list [.int i.c.hap.g, .int i.c.hap.h]) ∈ Γ
  nv : hpF i.a.nv i.s.news ∈ Γ
  as : i.s.st.queues.length = i.a.as.length
  c : i.c.Ok
  s : i.s.Ok i.B i.Z
theorem DoI.Pre.mono {i : DoI} {Γ Γ' : List Fc} (h : i.Pre Γ) (s : ∀ f ∈ Γ, f ∈ Γ') : i.Pre Γ' := ⟨s _ h.dr, s _ h.key, s _ h.gt, s _ h.nv, h.as, h.c, h.s⟩
section
variable {K : PySem.W.Frag} {Γ : List Fc} {S S' : List Vo} {Q : VK} {E : XK} {p dx b q : Addr} {as : List Addr} {s : MSt} {x : Str}
theorem w_wr {w : Addr} {ws : List Str} {A : Hp → Prop} (m : Sw w (.dK (wrV ws)) (.dK (wrV (addW x ws))) S S') (hl : ws.length ≤ 100000) (k : Wh K Γ S' A) : Wh K Γ S fun H => rSet (.ref w) (.str x) (.bl true) H A := fun H z =>
  go_setK (z.own m.mem) (by rw [wrV_len, sizeLine_eq]; omega) (by rw [wrV_put]; exact k _ (z.sw m))
end
end Mo
namespace Mo
open PySem PySem.Spec PyProof.Rows L2
section
variable {K : PySem.W.Frag}
theorem dp_freeze {G H : Hp} {L : Vo} {l : Addr} {xs : List V} {ds : List PyData} {φ : HO → Prop} (h : Hd G H ((l, φ) :: L)) (e : H l = some (.lst xs)) (d : DpAll K G xs ds) : Ext G (upd G l (.lst xs)) ∧ Hd (upd G l (.lst xs)) H L ∧ Dp K (upd G l (.lst xs)) (.ref l) (.list ds) := by
  have x : Ext G (upd G l (.lst xs)) := Ext.new (h.no List.mem_cons_self)
  exact ⟨x, h.freeze e, .lst (SqL.of upd_same) (dpa_mono x d)⟩
theorem dp_fix {G H : Hp} {L : Vo} {t : Addr} {xs : List V} {ds : List PyData} (h : Hd G H L) (e : H t = none) (d : DpAll K G xs ds) : Ext G (upd G t (.tup xs)) ∧ Hd (upd G t (.tup xs)) (upd H t (.tup xs)) L ∧ Dp K (upd G t (.tup xs)) (.ref t) (.tuple ds) := by
  have x : Ext G (upd G t (.tup xs)) := Ext.new (h.gno e)
  exact ⟨x, h.fix e, .tup (SqT.of upd_same) (dpa_mono x d)⟩
theorem dp_fixL {G H : Hp} {L : Vo} {t : Addr} {xs : List V} {ds : List PyData} (h : Hd G H L) (e : H t = none) (d : DpAll K G xs ds) : Ext G (upd G t (.lst xs)) ∧ Hd (upd G t (.lst xs)) (upd H t (.lst xs)) L ∧ Dp K (upd G t (.lst xs)) (.ref t) (.list ds) := by
  have x : Ext G (upd G t (.lst xs)) := Ext.new (h.gno e)
  exact ⟨x, h.fix e, .lst (SqL.of upd_same) (dpa_mono x d)⟩
end
end Mo
namespace Mo
open PySem PySem.Spec PyProof.Rows L2
/-! ### model.py -/
def spCopied (n : Nat) (K : PySem.W.Frag) : Sp := fun vs H Q _ => ∃ (G : Hp) (L : Vo) (a : Addr) (xs : List V) (ds : List Dd), vs = [.ref a] ∧ Hd G H L ∧ SqL K H a xs ∧ DdsIn K G H xs ds ∧ Dd.depths ds < n ∧ ds.length ≤ 1000 ∧ Dd.Sms ds ∧
  ∀ p G' H', Ext G G' → Ext H H' → Hd G' H' L → Dp K G' (.ref p) (.list (Dd.datas ds)) → Q (.ref p) H'
section
variable {P : Program} {w : World} {K : PySem.W.Frag} {mg : Str → Option Value} {base : Heap}
theorem ok_copied (T : Tx K mg) : ∀ n, OkG P w K mg base (n + 1) "copied" ["deeds"] (spCopied n K) := by
  intro n
  induction n with
  | zero =>
    refine T.f_copied.okX sc_copied (fun vs H Q E h => ?_) (fun cdv A outer s H vs Q E hr h => ?_)
    · obtain ⟨G, L, a, xs, ds, rfl, _⟩ := h
      rfl
    · obtain ⟨G, L, a, xs, ds, rfl, _, _, _, hd, _⟩ := h
      exact absurd hd (Nat.not_lt_zero _)
  | succ n G_copied =>
    refine T.f_copied.okX sc_copied (fun vs H Q E h => ?_) (fun cdv A outer s H vs Q E hr h => ?_)
    · obtain ⟨G, L, a, xs, ds, rfl, _⟩ := h
      rfl
    · have hu1 := hu_of hr; have hu0 := hr.units0; have hu64 := hr.units; have hu65 := hu65_of hr; have nd := sc_copied.nd
      obtain ⟨G, L, a, xs, ds, rfl, hH, hS, hD, hd, hl, hsm, q⟩ := h
      refine ⟨_, (pss_cons (ps_set (i := 1) nd rfl (Or.inl rfl) (pe_lst pa_nil))
      (pss_cons (ps_for (passes_of rfl) rfl (pi_seqK (K := K) rfl (pv 0)) (pg_name (i := 2) nd rfl (Or.inl rfl))
      (pss_one (ps_if (pt_cmpR (op_eqK (K := K) rfl hu64) (pe_ix (ix_anyK (K := K) rfl hu1) (pv 2) pe_int (fun _ _ => rfl)) pe_str (nomark _)) (pss_one (ps_expr (pe_bmK (K := K) rfl PySem.F.plainAttrs_list PySem.F.slot_list_append PySem.F.type_list_append mt_append (pv 1) (pa_cons (pe_tup (pa_cons pe_str (pa_cons (pe_ix (ix_anyK (K := K) rfl hu1) (pv 2) pe_int (fun _ _ => rfl)) (pa_cons (pcl T.g_copied G_copied hr (takes_of rfl rfl rfl rfl) (pa_cons (pe_ix (ix_anyK (K := K) rfl hu1) (pv 2) pe_int (fun _ _ => rfl)) pa_nil)) (pa_cons (pcl T.g_copied G_copied hr (takes_of rfl rfl rfl rfl) (pa_cons (pe_ix (ix_anyK (K := K) rfl hu1) (pv 2) pe_int (fun _ _ => rfl)) pa_nil)) pa_nil))))) pa_nil))))
      (pss_one (ps_if (pt_cmpR (op_eqK (K := K) rfl hu64) (pe_ix (ix_anyK (K := K) rfl hu1) (pv 2) pe_int (fun _ _ => rfl)) pe_str (nomark _)) (pss_one (ps_expr (pe_bmK (K := K) rfl PySem.F.plainAttrs_list PySem.F.slot_list_append PySem.F.type_list_append mt_append (pv 1) (pa_cons (pe_tup (pa_cons pe_str (pa_cons (pe_ix (ix_anyK (K := K) rfl hu1) (pv 2) pe_int (fun _ _ => rfl)) (pa_cons (pe_ix (ix_anyK (K := K) rfl hu1) (pv 2) pe_int (fun _ _ => rfl)) (pa_cons (pcl T.g_copied G_copied hr (takes_of rfl rfl rfl rfl) (pa_cons (pe_ix (ix_anyK (K := K) rfl hu1) (pv 2) pe_int (fun _ _ => rfl)) pa_nil)) pa_nil))))) pa_nil))))
      (pss_one (ps_expr (pe_bmK (K := K) rfl PySem.F.plainAttrs_list PySem.F.slot_list_append PySem.F.type_list_append mt_append (pv 1) (pa_cons (pv 2) pa_nil)))))))))
      (pss_one (ps_ret (pv 1))))), ?_⟩
      refine go_start (σ' := [some (.ref a), none, none]) rfl ?_
      have hlen := ddsIn_len hD
      k_extra "we"
      refine go_sz rfl fun l hl0 => ?_
      k_extra "we"
      refine go_sqL (ext_l (Ext.new hl0) hS) ?_
      refine loop_l (fun i σ H' => ∃ G' acc v, σ = [some (.ref a), some (.ref l), v] ∧ Ext G G' ∧ Ext H H' ∧ Hd G' H' ((l, Eq (.lst acc)) :: L) ∧ DpAll K G' acc (Dd.datas (ds.take i)))
        ⟨G, [], none, rfl, Ext.refl G, Ext.new hl0, hH.new hl0 rfl, by rw [List.take_zero, Dd.datas]; exact .nil⟩ (fun i σ' H' _ ⟨G', acc, v, _, _, eH, _⟩ => ext_l eH hS) ?_ ?_
      · rintro i x σ' H' hi ⟨G', acc, v, rfl, eG, eH, hH', hA⟩
        obtain ⟨d, hd1, hd2⟩ := ddsIn_get hD hi
        have hd3 := ddIn_mono eG eH hd2
        have hdep := depths_get hd1
        have hsm1 := sms_get hsm hd1
        have hacc : acc.length < sizeLine := by
          have e1 := dpa_len hA
          rw [datas_map, List.length_map, List.length_take] at e1
          rw [sizeLine_eq]
          omega
        have hlE : H' l = some (.lst acc) := hH'.eq List.mem_cons_self
        have htk : i + 1 ≤ ds.length → True := fun _ => True.intro
        obtain ⟨t, ts, rfl, ht⟩ := ddIn_head hH'.ex hd3
        -- the deed is put behind the others
        have fin : ∀ (G2 H2 : Hp) (y : V), Ext G' G2 → Ext H H2 → Hd G2 H2 ((l, Eq (.lst acc)) :: L) → Dp K G2 y d.data → ∃ G3 acc3 v3, [some (V.ref a), some (V.ref l), some (V.ref t)] = [some (.ref a), some (.ref l), v3] ∧ Ext G G3 ∧ Ext H (upd H2 l (.lst (acc ++ [y]))) ∧ Hd G3 (upd H2 l (.lst (acc ++ [y]))) ((l, Eq (.lst acc3)) :: L) ∧ DpAll K G3 acc3 (Dd.datas (ds.take (i + 1))) := fun G2 H2 y x1 x2 x3 x4 => by
          refine ⟨G2, acc ++ [y], _, rfl, eG.trans x1, x2.put (hl0), x3.set 0 rfl rfl, ?_⟩
          rw [datas_take hd1]
          exact dpa_app (dpa_mono x1 hA) (dpa_one x4)
        k_extra "we"
        refine go_subT ht (atI_nat (j := 0) rfl) ?_
        k_extra "we"
        refine go_eqs ?_
        k_extra "we"
        refine go_ite (fun hif => ?_) (fun nif => ?_)
        · obtain ⟨f, ones, others, a2, m1, m2, v2, vs2, ws2, rfl, e2, k1, k2, k3, k4, k5, k6⟩ := ddIn_if hd3 hif
          cases e2
          rw [Dd.depth] at hdep
          have hdep' : max (Dd.depths ones) (Dd.depths others) + 1 < n + 1 := by omega
          rw [Dd.Sm] at hsm1
          k_extra "we"
          refine go_tyL (SqL.of hlE) ?_
          k_extra "we"
          refine go_subT k1 rfl ?_
          k_extra "we"
          refine go_subT k1 rfl ?_
          k_extra "we"
          refine ⟨G', _, m1, vs2, ones, rfl, hH', k3, k4, by omega, hsm1.1.1, hsm1.1.2, fun p1 G1 H1 x1 y1 z1 w1 => ?_⟩
          k_extra "we"
          refine go_subT (ext_t y1 k1) rfl ?_
          k_extra "we"
          refine ⟨G1, _, m2, ws2, others, rfl, z1, ext_l y1 k5, ddsIn_mono x1 y1 k6, by omega, hsm1.2.1, hsm1.2.2, fun p2 G2 H2 x2 y2 z2 w2 => ?_⟩
          k_extra "we"
          refine go_sz rfl fun t2 ht2 => ?_
          obtain ⟨x3, z3, w3⟩ := dp_fix (K := K) (xs := [.str "if", v2, .ref p1, .ref p2]) (ds := [.str "if", f.data, .list (Dd.datas ones), .list (Dd.datas others)]) z2 ht2 (.cons (.str _) (.cons (dp_mono (x1.trans x2) k2) (.cons (dp_mono x2 w1) (.cons w2 .nil))))
          k_extra "we"
          refine go_app (z3.eq List.mem_cons_self) hacc ?_
          exact fin _ _ _ ((x1.trans x2).trans x3) (((eH.trans y1).trans y2).trans (Ext.new ht2)) z3 w3
        · k_extra "we"
          refine go_subT ht (atI_nat (j := 0) rfl) ?_
          k_extra "we"
          refine go_eqs ?_
          k_extra "we"
          refine go_ite (fun hpu => ?_) (fun npu => ?_)
          · obtain ⟨qq, b2, ds2, a2, m1, vs2, rfl, e2, k1, k3, k4⟩ := ddIn_pull hd3 hpu
            cases e2
            rw [Dd.depth] at hdep
            rw [Dd.Sm] at hsm1
            k_extra "we"
            refine go_tyL (SqL.of hlE) ?_
            k_extra "we"
            refine go_subT k1 rfl ?_
            k_extra "we"
            refine go_subT k1 rfl ?_
            k_extra "we"
            refine go_subT k1 rfl ?_
            k_extra "we"
            refine ⟨G', _, m1, vs2, ds2, rfl, hH', k3, k4, by omega, hsm1.1, hsm1.2, fun p1 G1 H1 x1 y1 z1 w1 => ?_⟩
            k_extra "we"
            refine go_sz rfl fun t2 ht2 => ?_
            obtain ⟨x3, z3, w3⟩ := dp_fix (K := K) (xs := [.str "pull", .str qq, .str b2, .ref p1]) (ds := [.str "pull", .str qq, .str b2, .list (Dd.datas ds2)]) z1 ht2 (.cons (.str _) (.cons (.str _) (.cons (.str _) (.cons w1 .nil))))
            k_extra "we"
            refine go_app (z3.eq List.mem_cons_self) hacc ?_
            exact fin _ _ _ (x1.trans x3) ((eH.trans y1).trans (Ext.new ht2)) z3 w3
          · k_extra "we"
            refine go_tyL (SqL.of hlE) ?_
            k_extra "we"
            refine go_app hlE hacc ?_
            exact fin _ _ _ (Ext.refl _) eH hH' (ddIn_plain hd3 nif npu)
      · rintro σ' H' ⟨G', acc, v, rfl, eG, eH, hH', hA⟩
        k_extra "we"
        rw [List.take_of_length_le (by omega)] at hA
        obtain ⟨x1, x2, x3⟩ := dp_freeze hH' (hH'.eq List.mem_cons_self) hA
        exact q l _ H' (eG.trans x1) eH x2 x3
/-! #### a machine, copied; a model made; first states -/
def spCopiedMachine (n : Nat) (K : PySem.W.Frag) : Sp := fun vs H Q _ => ∃ (G : Hp) (L : Vo) (x : V) (m : Mach), vs = [x] ∧ Hd G H L ∧ MachIn K G H x m ∧ m.depth < n ∧ m.Sm ∧
  ∀ y G' H', Ext G G' → Ext H H' → Hd G' H' L → Dp K G' y m.data → Q y H'
theorem ok_copied_machine (T : Tx K mg) (n : Nat) : OkG P w K mg base (n + 2) "copied_machine" ["machine"] (spCopiedMachine n K) := by
  have G_copied := ok_copied (P := P) (w := w) (base := base) T n
  refine T.f_copied_machine.okX sc_copied_machine (fun vs H Q E h => ?_) (fun cdv A outer s H vs Q E hr h => ?_)
  · obtain ⟨G, L, x, m, rfl, _⟩ := h
    rfl
  · have hu1 := hu_of hr; have hu0 := hr.units0; have hu64 := hr.units; have hu65 := hu65_of hr; have nd := sc_copied_machine.nd
    obtain ⟨G, L, x, m, rfl, hH, hM, hd, hsm, q⟩ := h
    refine ⟨_, (pss_cons (ps_asg (pv 0) (pg_tupK (K := K) (n := 5) rfl rfl (pgs_cons (pg_name (i := 1) nd rfl (Or.inl rfl)) (pgs_cons (pg_name (i := 2) nd rfl (Or.inl rfl)) (pgs_cons (pg_name (i := 3) nd rfl (Or.inl rfl)) (pgs_cons (pg_name (i := 4) nd rfl (Or.inl rfl)) (pgs_cons (pg_name (i := 5) nd rfl (Or.inl rfl)) pgs_nil))))) rfl rfl))
      (pss_one (ps_ret (pe_tup (pa_cons (pv 1) (pa_cons (pe_callTy (call_listK (K := K) rfl) (by rfl) T.b_list (by decide +kernel) (pa_cons (pv 2) pa_nil)) (pa_cons (pe_callTy (call_listK (K := K) rfl) (by rfl) T.b_list (by decide +kernel) (pa_cons (pv 3) pa_nil)) (pa_cons (pe_callTy (call_listK (K := K) rfl) (by rfl) T.b_list (by decide +kernel) (pa_cons (pv 4) pa_nil)) (pa_cons (pe_lc (own := [("sign", 6), ("deeds", 7)]) rfl nd (pi_seqK (K := K) rfl (pv 5)) (blkOk_by (own := [("sign", 6), ("deeds", 7)]) (N := nm_copied_machine) (sc := defScope s_copied_machine) (by decide +kernel)) (fun _ _ _ _ _ => (pg_tupK (K := K) (n := 2) rfl rfl (pgs_cons (pg_name (i := 6) nd rfl (Or.inl rfl) (Or.inr rfl)) (pgs_cons (pg_name (i := 7) nd rfl (Or.inl rfl) (Or.inr rfl)) pgs_nil)) rfl rfl)) (fun _ _ _ _ _ => pts_nil) (fun _ _ _ _ _ => (pe_tup (pa_cons (pv 6) (pa_cons (pcl T.g_copied G_copied hr takes0 (pa_cons (pv 7) pa_nil)) pa_nil))))) pa_nil))))))))), ?_⟩
    refine go_start (σ' := [some x, none, none, none, none, none, none, none]) rfl ?_
    obtain ⟨a, lb, lq, ld, lh, rfl, ht, hb, hq, hdr, vs, hh, hhs⟩ := hM
    k_extra "we"
    refine go_gtup ht rfl ?_
    k_extra "we"
    obtain ⟨vb, hb1, hb2⟩ := hb
    have hlb := dpa_len hb2
    rw [List.length_map] at hlb
    refine go_listL hb1 fun p1 hp1 => ?_
    obtain ⟨x1, z1, w1⟩ := dp_freeze (K := K) (hH.new hp1 (φ := Eq (.lst vb)) rfl) upd_same hb2
    k_extra "we"
    refine go_listL (ext_l (Ext.new hp1) hq) fun p2 hp2 => ?_
    obtain ⟨x2, z2, w2⟩ := dp_freeze (K := K) (z1.new hp2 (φ := Eq (.lst (m.queues.map V.str))) rfl) upd_same (dpa_strs _)
    k_extra "we"
    refine go_listL (ext_l ((Ext.new hp1).trans (Ext.new hp2)) hdr) fun p3 hp3 => ?_
    obtain ⟨x3, z3, w3⟩ := dp_freeze (K := K) (z2.new hp3 (φ := Eq (.lst (m.draws.map V.int))) rfl) upd_same (dpa_ints _)
    have e3 := ((Ext.new (o := .lst vb) hp1).trans (Ext.new (o := .lst (m.queues.map V.str)) hp2)).trans (Ext.new (o := .lst (m.draws.map V.int)) hp3)
    k_extra "we"
    refine go_sqL (ext_l e3 hh) (go_lcA fun Dl hD => ?_)
    obtain ⟨H3, eH3⟩ : ∃ H3, H3 = upd (upd (upd H p1 (.lst vb)) p2 (.lst (m.queues.map V.str))) p3 (.lst (m.draws.map V.int)) := ⟨_, rfl⟩
    obtain ⟨G3, eG3⟩ : ∃ G3, G3 = upd (upd (upd G p1 (.lst vb)) p2 (.lst (m.queues.map V.str))) p3 (.lst (m.draws.map V.int)) := ⟨_, rfl⟩
    rw [← eH3, ← eG3] at z3
    rw [← eG3] at x3 w3
    rw [← eH3] at e3 hD ⊢
    have xG := (x1.trans x2).trans x3
    refine lcx_l (fun i H' => ∃ G' acc, Ext G3 G' ∧ Ext H3 H' ∧ Hd G' H' ((Dl, Eq (.lst acc)) :: L) ∧ acc.length = i ∧ DpAll K G' acc ((m.hears.take i).map hearD))
      ⟨G3, [], Ext.refl _, Ext.new hD, z3.new hD rfl, rfl, .nil⟩ (fun i H' _ ⟨G', acc, _, eH, _⟩ => ext_l (e3.trans eH) hh) ?_ ?_
    · rintro i x H' hi ⟨G', acc, eG, eH, hH', hlen, hA⟩
      obtain ⟨hh2, hh3⟩ := hhs
      obtain ⟨t, l, ws, p, rfl, t1, l1, d1, hp⟩ := hh3 i x hi
      have e4 := e3.trans eH
      have hdp : Dd.depths p.2 < n := Nat.lt_of_le_of_lt (Mach.depth_get hp) hd
      have hsm2 := hsm.deeds p (List.mem_of_getElem? hp)
      have hlt : i < m.hears.length := (List.getElem?_eq_some_iff.mp hp).1
      refine go_gtup (ext_t e4 t1) rfl ?_
      k_extra "we"
      refine ⟨rfl, ?_⟩
      k_extra "we"
      refine ⟨G', _, l, ws, p.2, rfl, hH', ext_l e4 l1, ddsIn_mono (xG.trans eG) e4 d1, hdp, hsm2.1, hsm2.2, fun p4 G4 H4 x4 y4 z4 w4 => ?_⟩
      k_extra "we"
      refine go_sz rfl fun t2 ht2 => ?_
      obtain ⟨x5, z5, w5⟩ := dp_fix (K := K) (xs := [.str p.1, .ref p4]) (ds := [.str p.1, .list (Dd.datas p.2)]) z4 ht2 (.cons (.str _) (.cons w4 .nil))
      refine ⟨acc, z5.eq List.mem_cons_self, by rw [hlen, sizeLine_eq]; have := hsm.hears; omega, _, acc ++ [.ref t2], (eG.trans x4).trans x5, ((eH.trans y4).trans (Ext.new ht2)).put hD, z5.set 0 rfl rfl, by rw [List.length_append, hlen, List.length_singleton], ?_⟩
      rw [List.take_add_one, hp, List.map_append]
      exact dpa_app (dpa_mono (x4.trans x5) hA) (dpa_one w5)
    · rintro H' ⟨G', acc, eG, eH, hH', hlen, hA⟩
      rw [hhs.1, List.take_of_length_le (Nat.le_refl _)] at hA
      obtain ⟨x6, z6, w6⟩ := dp_freeze (K := K) hH' (hH'.eq List.mem_cons_self) hA
      k_extra "we"
      refine go_sz rfl fun t2 ht2 => ?_
      have y1 := (x2.trans x3).trans (eG.trans x6)
      obtain ⟨x7, z7, w7⟩ := dp_fix (K := K) (xs := [.str m.name, .ref p1, .ref p2, .ref p3, .ref Dl]) (ds := [.str m.name, .list (m.boxes.map boxD), .list (m.queues.map PyData.str), .list (m.draws.map PyData.int), .list (m.hears.map hearD)]) z6 ht2
        (.cons (.str _) (.cons (dp_mono y1 w1) (.cons (dp_mono (x3.trans (eG.trans x6)) w2) (.cons (dp_mono (eG.trans x6) w3) (.cons w6 .nil)))))
      exact q _ _ _ (((xG.trans eG).trans x6).trans x7) ((e3.trans eH).trans (Ext.new ht2)) z7 w7
/-- a model's object -/
def ModelAt (K : PySem.W.Frag) (H : Hp) (p dx l : Addr) : Prop := H p = some (.ins (He.ga K "Model") dx (fl_Model (.ref l)))
def spModelInit (n : Nat) (K : PySem.W.Frag) : Sp := fun vs H Q _ => ∃ (G : Hp) (L : Vo) (p dx a : Addr) (xs : List V) (ms : List Mach), vs = [.ref p, .ref a] ∧ Hd G H ((p, Eq (.ins (He.ga K "Model") dx [])) :: L) ∧ SqL K H a xs ∧ xs.length = ms.length ∧
  (∀ (i : Nat) (x : V) (m : Mach), xs[i]? = some x → ms[i]? = some m → MachIn K G H x m) ∧ (∀ m ∈ ms, m.depth < n ∧ m.Sm) ∧ ms.length ≤ 1000 ∧
  ∀ l G' H', Ext G G' → (∀ b o, H b = some o → b ≠ p → H' b = some o) → Hd G' H' ((p, Eq (.ins (He.ga K "Model") dx (fl_Model (.ref l)))) :: L) → Dp K G' (.ref l) (.list (ms.map Mach.data)) → Q .non H'
theorem ok_Model_init (T : Tx K mg) (n : Nat) : OkM P w K mg base (n + 3) "Model" "__init__" ["self", "machines"] (spModelInit n K) := by
  have G_copied_machine := ok_copied_machine (P := P) (w := w) (base := base) T n
  refine T.f_Model_init.okX sc_Model_init (fun vs H Q E h => ?_) (fun cdv A outer s H vs Q E hr h => ?_)
  · obtain ⟨G, L, p, dx, a, xs, ms, rfl, _⟩ := h
    rfl
  · have hu1 := hu_of hr; have hu0 := hr.units0; have hu64 := hr.units; have hu65 := hu65_of hr; have nd := sc_Model_init.nd
    obtain ⟨G, L, p, dx, a, xs, ms, rfl, hH, hS, hxl, hM, hd, hml, q⟩ := h
    refine ⟨_, (pss_one (ps_fldK (K := K) rfl (pv 0) (pe_lc (own := [("machine", 2)]) rfl nd (pi_seqK (K := K) rfl (pv 1)) (blkOk_by (own := [("machine", 2)]) (N := nm_Model_init) (sc := defScope s_Model_init) (by decide +kernel)) (fun _ _ _ _ _ => (pg_name (i := 2) nd rfl (Or.inl rfl) (Or.inr rfl))) (fun _ _ _ _ _ => pts_nil) (fun _ _ _ _ _ => (pcl T.g_copied_machine G_copied_machine hr takes0 (pa_cons (pv 2) pa_nil)))) rfl)), ?_⟩
    refine go_start (σ' := [some (.ref p), some (.ref a), none]) rfl ?_
    k_extra "we"
    refine go_sqL hS (go_lcA fun Dl hD => ?_)
    refine lcx_l (fun i H' => ∃ G' acc, Ext G G' ∧ Ext H H' ∧ Hd G' H' ((Dl, Eq (.lst acc)) :: (p, Eq (.ins (He.ga K "Model") dx [])) :: L) ∧ acc.length = i ∧ DpAll K G' acc ((ms.take i).map Mach.data))
      ⟨G, [], Ext.refl _, Ext.new hD, hH.new hD rfl, rfl, .nil⟩ (fun i H' _ ⟨G', acc, _, eH, _⟩ => ext_l eH hS) ?_ ?_
    · rintro i x H' hi ⟨G', acc, eG, eH, hH', hlen, hA⟩
      have hlt : i < ms.length := by rw [← hxl]; exact (List.getElem?_eq_some_iff.mp hi).1
      have hm : ms[i]? = some ms[i] := List.getElem?_eq_getElem hlt
      obtain ⟨h1, h2⟩ := hd _ (List.getElem_mem hlt)
      k_extra "we"
      refine ⟨rfl, ?_⟩
      k_extra "we"
      refine ⟨G', _, x, ms[i], rfl, hH', machIn_mono eG eH (hM i x _ hi hm), h1, h2, fun y G4 H4 x4 y4 z4 w4 => ?_⟩
      k_extra "we"
      refine ⟨acc, z4.eq List.mem_cons_self, by rw [hlen, sizeLine_eq]; omega, _, acc ++ [y], eG.trans x4, (eH.trans y4).put hD, z4.set 0 rfl rfl, by rw [List.length_append, hlen, List.length_singleton], ?_⟩
      rw [List.take_add_one, hm, List.map_append]
      exact dpa_app (dpa_mono x4 hA) (dpa_one w4)
    · rintro H' ⟨G', acc, eG, eH, hH', hlen, hA⟩
      rw [hxl, List.take_of_length_le (Nat.le_refl _)] at hA
      obtain ⟨x6, z6, w6⟩ := dp_freeze (K := K) hH' (hH'.eq List.mem_cons_self) hA
      k_extra "we"
      refine go_sfldL (z6.eq List.mem_cons_self) T.c_Model T.n_Model_machines rfl ?_
      refine q Dl _ _ (eG.trans x6) (fun b o hb hn => by rw [upd_ne hn]; exact eH b o hb) ?_ w6
      have z7 := z6.set (o' := .ins (He.ga K "Model") dx (putF "machines" (.ref Dl) [])) (ψ := Eq (.ins (He.ga K "Model") dx (fl_Model (.ref Dl)))) 0 rfl (by rw [in_Model_0]; rfl)
      exact z7
def spStateInit (K : PySem.W.Frag) : Sp := fun vs H Q _ => ∃ (p dx : Addr) (a b c d : V), vs = [.ref p, a, b, c, d] ∧ H p = some (.ins (He.ga K "State") dx []) ∧ Q .non (upd H p (.ins (He.ga K "State") dx (fl_State a b c d)))
theorem ok_State_init (T : Tx K mg) : OkM P w K mg base 1 "State" "__init__" ["self", "boxes", "queues", "drawn", "sent"] (spStateInit K) := by
  refine T.f_State_init.okX sc_State_init (fun vs H Q E h => ?_) (fun cdv A outer s H vs Q E hr h => ?_)
  · obtain ⟨p, dx, a, b, c, d, rfl, _⟩ := h
    rfl
  · have hu1 := hu_of hr; have hu0 := hr.units0; have hu64 := hr.units; have hu65 := hu65_of hr; have nd := sc_State_init.nd
    obtain ⟨p, dx, a, b, c, d, rfl, hp, q⟩ := h
    refine ⟨_, (pss_cons (ps_fldK (K := K) rfl (pv 0) (pv 1) rfl)
      (pss_cons (ps_fldK (K := K) rfl (pv 0) (pv 2) rfl)
      (pss_cons (ps_fldK (K := K) rfl (pv 0) (pv 3) rfl)
      (pss_one (ps_fldK (K := K) rfl (pv 0) (pv 4) rfl))))), ?_⟩
    refine go_start (σ' := [some (.ref p), some a, some b, some c, some d]) rfl ?_
    k_extra "we"
    refine go_sfldL hp T.c_State T.n_State_boxes rfl ?_
    rw [in_State_0]
    k_extra "we"
    refine go_sfldL upd_same T.c_State T.n_State_queues rfl ?_
    rw [upd_upd, in_State_1]
    k_extra "we"
    refine go_sfldL upd_same T.c_State T.n_State_drawn rfl ?_
    rw [upd_upd, in_State_2]
    k_extra "we"
    refine go_sfldL upd_same T.c_State T.n_State_sent rfl ?_
    rw [upd_upd, in_State_3]
    exact q
/-- a model that stays: its object, its machines -/
structure ModelG (K : PySem.W.Frag) (G : Hp) (p : Addr) (ms : List Mach) : Prop where
  there : ∃ dx l, G p = some (.ins (He.ga K "Model") dx (fl_Model (.ref l))) ∧ Dp K G (.ref l) (.list (ms.map Mach.data))
theorem ModelG.mono {G G' : Hp} {p : Addr} {ms : List Mach} (h : ModelG K G p ms) (e : Ext G G') : ModelG K G' p ms :=
  let ⟨dx, l, h1, h2⟩ := h.there
  ⟨dx, l, e _ _ h1, dp_mono e h2⟩
theorem perm_back {α : Type} (z c b : α) (E L : List α) : (z :: c :: b :: (E ++ L)).Perm (c :: b :: (E ++ (z :: L))) :=
  (List.perm_middle (a := z) (l₁ := c :: b :: E) (l₂ := L)).symm
end
end Mo
namespace Mo
open PySem PySem.Spec PyProof.Rows L2
/-! ### deeds.py -/
def spReckon (n : Nat) (K : PySem.W.Frag) : Sp := SpF K (fun i : DoI × V × Fm => [.ref i.1.a.self, i.2.1]) (fun i Γ => i.1.Pre Γ ∧ .dat i.2.1 i.2.2.data ∈ Γ ∧ i.2.2.Ok i.1.B i.1.Z ∧ i.2.2.depth < n) (fun i => doS K i.1.a i.1.c i.1.s)
  (fun i v Γ' S' => ∃ m, i.2.2.ev (i.1.s.env i.1.c) = .ok m ∧ v = .int m ∧ Γ' = [] ∧ S' = doS K i.1.a i.1.c i.1.s) (fun i e Γ' S' => ∃ x, i.2.2.ev (i.1.s.env i.1.c) = .error x ∧ e = fltE K x ∧ Γ' = [] ∧ S' = [])
def spPut (K : PySem.W.Frag) : Sp := SpF K (fun i : DoI × Str × Int => [.ref i.1.a.self, .str i.2.1, .int i.2.2]) (fun i Γ => i.1.Pre Γ ∧ i.2.1 ∈ i.1.B) (fun i => doS K i.1.a i.1.c i.1.s)
  (fun i v Γ' S' => v = .non ∧ Γ' = [] ∧ S' = doS K i.1.a i.1.c (i.1.s.put i.2.1 i.2.2)) noEx
def spPush (K : PySem.W.Frag) : Sp := SpF K (fun i : DoI × Str × Int => [.ref i.1.a.self, .str i.2.1, .int i.2.2]) (fun i Γ => i.1.Pre Γ ∧ i.2.1 ∈ i.1.Z) (fun i => doS K i.1.a i.1.c i.1.s)
  (fun i v Γ' S' => ∃ s', i.1.s.push i.2.1 i.2.2 = .ok s' ∧ v = .non ∧ Γ' = [] ∧ S' = doS K i.1.a i.1.c s') (fun i e Γ' S' => ∃ x, i.1.s.push i.2.1 i.2.2 = .error x ∧ e = fltE K x ∧ Γ' = [] ∧ S' = [])
def spDrawD (K : PySem.W.Frag) : Sp := SpF K (fun i : DoI × Str × Int => [.ref i.1.a.self, .str i.2.1, .int i.2.2]) (fun i Γ => i.1.Pre Γ ∧ i.2.1 ∈ i.1.B) (fun i => doS K i.1.a i.1.c i.1.s)
  (fun i v Γ' S' => ∃ s', i.1.s.draw i.1.c i.2.1 i.2.2 = .ok s' ∧ v = .non ∧ Γ' = [] ∧ S' = doS K i.1.a i.1.c s') (fun i e Γ' S' => ∃ x, i.1.s.draw i.1.c i.2.1 i.2.2 = .error x ∧ e = fltE K x ∧ Γ' = [] ∧ S' = [])
/-- a deed done: what was sent stands in another list of values -/
def doPo (K : PySem.W.Frag) (i : DoI) (r : Except Flt Do) (v : V) (Γ' : List Fc) (S' : List Vo) : Prop := ∃ s' nv, r = .ok s' ∧ v = .non ∧ Γ' = [hpF nv s'.news] ∧ S' = doS K { i.a with nv := nv } i.c s'
def doEx (K : PySem.W.Frag) (r : Except Flt Do) (e : Value) (Γ' : List Fc) (S' : List Vo) : Prop := ∃ x, r = .error x ∧ e = fltE K x ∧ Γ' = [] ∧ S' = []
def spSend (n : Nat) (K : PySem.W.Frag) : Sp := SpF K (fun i : DoI × V × (Int × Str × Fm × Int × Fm × Fm) => [.ref i.1.a.self, i.2.1]) (fun i Γ => i.1.Pre Γ ∧ .dat i.2.1 (Dd.data (.send i.2.2.1 i.2.2.2.1 i.2.2.2.2.1 i.2.2.2.2.2.1 i.2.2.2.2.2.2.1 i.2.2.2.2.2.2.2)) ∈ Γ ∧ (i.2.2.2.2.1.Ok i.1.B i.1.Z ∧ i.2.2.2.2.2.2.1.Ok i.1.B i.1.Z ∧ i.2.2.2.2.2.2.2.Ok i.1.B i.1.Z) ∧ i.2.2.2.2.1.depth < n ∧ i.2.2.2.2.2.2.1.depth < n ∧ i.2.2.2.2.2.2.2.depth < n ∧ i.1.s.news.length < 10000) (fun i => doS K i.1.a i.1.c i.1.s)
  (fun i v Γ' S' => doPo K i.1 (i.1.s.send i.1.c i.2.2.1 i.2.2.2.1 i.2.2.2.2.1 i.2.2.2.2.2.1 i.2.2.2.2.2.2.1 i.2.2.2.2.2.2.2) v Γ' S') (fun i e Γ' S' => doEx K (i.1.s.send i.1.c i.2.2.1 i.2.2.2.1 i.2.2.2.2.1 i.2.2.2.2.2.1 i.2.2.2.2.2.2.1 i.2.2.2.2.2.2.2) e Γ' S')
section
variable {P : Program} {w : World} {K : PySem.W.Frag} {mg : Str → Option Value} {base : Heap}
theorem DoI.Pre.env {i : DoI} {Γ : List Fc} (h : i.Pre Γ) : (i.s.st.env i.c.hap.time i.c.hap.g i.c.hap.h).Ok i.s.st.bs i.s.st.qs := h.s.wo.env h.c.time h.c.g h.c.h
theorem ok_Doing_reckon (T : Tx K mg) (n : Nat) : OkM P w K mg base (n + 3) "Doing" "reckon" ["self", "formula"] (spReckon n K) := by
  have G_worth_of := ok_worth_of (P := P) (w := w) (base := base) T n
  refine T.f_Doing_reckon.okX sc_Doing_reckon (fun vs H Q E h => ?_) (fun cdv A outer s H vs Q E hr h => ?_)
  · obtain ⟨i, _, _, rfl, _⟩ := h
    rfl
  · have hu1 := hu_of hr; have hu0 := hr.units0; have hu64 := hr.units; have hu65 := hu65_of hr; have nd := sc_Doing_reckon.nd
    obtain ⟨⟨i, v, f⟩, Γ, S, rfl, z, h1, q, x⟩ := h
    dsimp only at z h1 q x
    obtain ⟨hp, hv, hf, hd⟩ := h1
    refine ⟨_, (pss_one (ps_ret (pcl T.g_worth_of G_worth_of hr (takes_of rfl rfl rfl rfl) (pa_cons (pv 1) (pa_cons (pe_fldK (K := K) rfl (pv 0) rfl) (pa_cons (pe_ix (ix_anyK (K := K) rfl hu1) (pe_fldK (K := K) rfl (pv 0) rfl) pe_int (fun _ _ => rfl)) (pa_cons (pe_fldK (K := K) rfl (pv 0) rfl) pa_nil))))))), ?_⟩
    refine w_start (σ' := [some (.ref i.a.self), some v]) rfl z ?_
    have hk := hp.key
    have hg := hp.gt
    dsimp only [doS, List.cons_append, List.nil_append]
    k_extra "W"
    refine w_worth (s := i.s.st) hv hd (by k_extra "mr") hp.as hp.gt (by rw [hp.s.bs, hp.s.qs]; exact hf) hp.env (fun m e => ?_) fun r e => ?_
    · exact fun H z => q _ _ _ _ ⟨m, e, rfl, rfl, rfl⟩ z
    · exact fun H z => x _ _ _ _ ⟨r, e, rfl, rfl, rfl⟩ (z.fit (by k_extra "sub") (by k_extra "dr"))
theorem ok_Doing_put (T : Tx K mg) : OkM P w K mg base 1 "Doing" "put" ["self", "box", "worth"] (spPut K) := by
  refine T.f_Doing_put.okX sc_Doing_put (fun vs H Q E h => ?_) (fun cdv A outer s H vs Q E hr h => ?_)
  · obtain ⟨i, _, _, rfl, _⟩ := h
    rfl
  · have hu1 := hu_of hr; have hu0 := hr.units0; have hu64 := hr.units; have hu65 := hu65_of hr; have nd := sc_Doing_put.nd
    obtain ⟨⟨i, b, n⟩, Γ, S, rfl, z, h1, q, x⟩ := h
    dsimp only at z h1 q x
    obtain ⟨hp, hb⟩ := h1
    refine ⟨_, (pss_cons (ps_asg (pv 2) (pg_sub (pe_fldK (K := K) rfl (pe_fldK (K := K) rfl (pv 0) rfl) rfl) (pv 1) (set_any hu1)))
      (pss_one (ps_asg pe_bl (pg_sub (pe_fldK (K := K) rfl (pv 0) rfl) (pv 1) (set_any hu1))))), ?_⟩
    refine w_start (σ' := [some (.ref i.a.self), some (.str b), some (.int n)]) rfl z ?_
    dsimp only [doS, List.cons_append, List.nil_append]
    k_extra "W"
    refine w_setSt (by k_extra "rp") (by rw [hp.s.bs]; exact hb) hp.s.wo.lb ?_
    k_extra "W"
    refine w_wr (by k_extra "sw") hp.s.wrlen ?_
    k_extra "W"
    exact fun H z => q _ _ _ _ ⟨rfl, rfl, rfl⟩ z
theorem ok_Doing_push (T : Tx K mg) : OkM P w K mg base 1 "Doing" "push" ["self", "queue", "worth"] (spPush K) := by
  refine T.f_Doing_push.okX sc_Doing_push (fun vs H Q E h => ?_) (fun cdv A outer s H vs Q E hr h => ?_)
  · obtain ⟨i, _, _, rfl, _⟩ := h
    rfl
  · have hu1 := hu_of hr; have hu0 := hr.units0; have hu64 := hr.units; have hu65 := hu65_of hr; have nd := sc_Doing_push.nd
    obtain ⟨⟨i, b, n⟩, Γ, S, rfl, z, h1, q, x⟩ := h
    dsimp only at z h1 q x
    obtain ⟨hp, hb⟩ := h1
    refine ⟨_, (pss_cons (ps_if (pt_cmpR (op_geK (K := K) rfl hu0) (pe_callB (call_lenK (K := K) rfl) (by rfl) T.b_len (by decide +kernel) (pa_cons (pe_ix (ix_anyK (K := K) rfl hu1) (pe_fldK (K := K) rfl (pe_fldK (K := K) rfl (pv 0) rfl) rfl) (pv 1) (fun _ _ => rfl)) pa_nil)) (T.v_ROOM) (nomark _)) (pss_one (ps_raise rfl (takes_of rfl rfl rfl rfl) (mk_Full T rfl rfl)))
      pss_nil)
      (pss_cons (ps_expr (pe_bmK (K := K) rfl PySem.F.plainAttrs_list PySem.F.slot_list_append PySem.F.type_list_append mt_append (pe_ix (ix_anyK (K := K) rfl hu1) (pe_fldK (K := K) rfl (pe_fldK (K := K) rfl (pv 0) rfl) rfl) (pv 1) (fun _ _ => rfl)) (pa_cons (pv 2) pa_nil)))
      (pss_one (ps_asg pe_bl (pg_sub (pe_fldK (K := K) rfl (pv 0) rfl) (pv 1) (set_any hu1)))))), ?_⟩
    refine w_start (σ' := [some (.ref i.a.self), some (.str b), some (.int n)]) rfl z ?_
    dsimp only [doS, List.cons_append, List.nil_append]
    have hx : b ∈ i.s.st.qs := by rw [hp.s.qs]; exact hb
    obtain ⟨a, ha⟩ := q_addr hp.as hx
    have hq : ∀ {Γ S}, stV K i.a.p i.a.dxp i.a.b i.a.q i.a.as i.s.st ∈ S → AtH K Γ S a (.lst ((lookD [] b i.s.st.queues).map V.int)) := fun m => at_q m hp.as hp.s.wo.nq hx ha
    have hl : (lookD [] b i.s.st.queues).length ≤ 300 := hp.s.wo.ql _ (lookD_in hx)
    k_extra "W"
    refine w_subK (by k_extra "at") ha ?_
    k_extra "W"
    refine w_lenL (hq (by k_extra "mr")) ?_
    rw [List.length_map]
    k_extra "W"
    refine w_ite (fun h => ?_) (fun h => ?_)
    · k_extra "W"
      exact fun H z => x _ _ _ _ ⟨.full, by show Do.push _ _ _ = _; unfold Do.push; rw [if_pos (by omega)], rfl, rfl, rfl⟩ (z.fit (by k_extra "sub") (by k_extra "dr"))
    · k_extra "W"
      refine w_subK (by k_extra "at") ha ?_
      refine w_tyL (hq (by k_extra "mr")) ?_
      k_extra "W"
      refine w_appQ (n := n) (by k_extra "rp") hp.as hp.s.wo.nq hx ha (by omega) ?_
      k_extra "W"
      refine w_wr (by k_extra "sw") hp.s.wrlen ?_
      k_extra "W"
      exact fun H z => q _ _ _ _ ⟨{ i.s with st := i.s.st.setQ b (lookD [] b i.s.st.queues ++ [n]), wr := addW b i.s.wr }, by show Do.push _ _ _ = _; unfold Do.push; rw [if_neg (by omega)], rfl, rfl, rfl⟩ z
theorem ok_Doing_draw (T : Tx K mg) : OkM P w K mg base 2 "Doing" "draw" ["self", "box", "many"] (spDrawD K) := by
  have G_Doing_put := ok_Doing_put (P := P) (w := w) (base := base) T
  refine T.f_Doing_draw.okX sc_Doing_draw (fun vs H Q E h => ?_) (fun cdv A outer s H vs Q E hr h => ?_)
  · obtain ⟨i, _, _, rfl, _⟩ := h
    rfl
  · have hu1 := hu_of hr; have hu0 := hr.units0; have hu64 := hr.units; have hu65 := hu65_of hr; have nd := sc_Doing_draw.nd
    obtain ⟨⟨i, b, n⟩, Γ, S, rfl, z, h1, q, x⟩ := h
    dsimp only at z h1 q x
    obtain ⟨hp, hb⟩ := h1
    refine ⟨_, (pss_cons (ps_if (pt_cmpR (op_ltK (K := K) rfl hu0) (pv 2) pe_int (nomark _)) (pss_one (ps_raise rfl (takes_of rfl rfl rfl rfl) (mk_Nought T rfl rfl)))
      pss_nil)
      (pss_cons (ps_if (pt_cmpR (op_eqK (K := K) rfl hu64) (pe_callB (call_lenK (K := K) rfl) (by rfl) T.b_len (by decide +kernel) (pa_cons (pe_fldK (K := K) rfl (pv 0) rfl) pa_nil)) pe_int (nomark _)) (pss_one (ps_raise rfl (takes_of rfl rfl rfl rfl) (mk_Dry T rfl rfl)))
      pss_nil)
      (pss_cons (ps_expr (pmeK (K := K) rfl T.m_Doing_put T.c_Doing G_Doing_put hr (takes_of rfl rfl rfl rfl) (pv 0) (pa_cons (pv 1) (pa_cons (pe_op op_modX (pe_ix (ix_anyK (K := K) rfl hu1) (pe_fldK (K := K) rfl (pv 0) rfl) (pe_op op_modX (pe_fldK (K := K) rfl (pe_fldK (K := K) rfl (pv 0) rfl) rfl) (pe_callB (call_lenK (K := K) rfl) (by rfl) T.b_len (by decide +kernel) (pa_cons (pe_fldK (K := K) rfl (pv 0) rfl) pa_nil))) (fun _ _ => rfl)) (pv 2)) pa_nil))))
      (pss_one (ps_fldaugK (K := K) rfl (pe_fldK (K := K) rfl (pv 0) rfl) pe_int in_add))))), ?_⟩
    refine w_start (σ' := [some (.ref i.a.self), some (.str b), some (.int n)]) rfl z ?_
    have hd := hp.dr
    dsimp only [doS, List.cons_append, List.nil_append]
    k_extra "W"
    refine w_ite (fun h => ?_) (fun h => ?_)
    · k_extra "W"
      exact fun H z => x _ _ _ _ ⟨.nought, by show Do.draw _ _ _ _ = _; unfold Do.draw; rw [if_pos h], rfl, rfl, rfl⟩ (z.fit (by k_extra "sub") (by k_extra "dr"))
    · k_extra "W"
      rw [List.length_map]
      k_extra "W"
      refine w_ite (fun h2 => ?_) (fun h2 => ?_)
      · k_extra "W"
        exact fun H z => x _ _ _ _ ⟨.dry, by show Do.draw _ _ _ _ = _; unfold Do.draw; rw [if_neg h, if_pos (by omega)], rfl, rfl, rfl⟩ (z.fit (by k_extra "sub") (by k_extra "dr"))
      · k_extra "W"
        rw [List.length_map]
        refine w_mod (by omega) ?_
        have hr := fmod_range (a := i.s.st.drawn) (n := (i.c.draws.length : Int)) (by omega)
        have hlt : (i.s.st.drawn.fmod i.c.draws.length).toNat < i.c.draws.length := by omega
        refine w_subLi hd (i := i.c.draws.getD (i.s.st.drawn.fmod i.c.draws.length).toNat 0) ?_ ?_
        · have e : i.s.st.drawn.fmod i.c.draws.length = ((i.s.st.drawn.fmod i.c.draws.length).toNat : Int) := by omega
          conv => lhs; rw [e]
          refine atI_nat ?_
          rw [List.getElem?_map, List.getD_eq_getElem?_getD, List.getElem?_eq_getElem hlt]
          rfl
        k_extra "W"
        refine w_mod (by omega) ?_
        k_extra "W"
        refine w_don (i, b, (i.c.draws.getD (i.s.st.drawn.fmod i.c.draws.length).toNat 0).fmod n) (by k_extra "ts") ⟨hp, hb⟩ ?_
        rintro v Γ' S' ⟨rfl, rfl, rfl⟩
        dsimp only [doS, List.cons_append, List.nil_append]
        k_extra "W"
        refine w_fldaugL (by k_extra "at") lk_State_drawn T.c_State T.n_State_drawn ?_
        k_extra "W"
        refine w_putDrawn (by k_extra "rp") ?_
        exact fun H z => q _ _ _ _ ⟨{ i.s.put b ((i.c.draws.getD (i.s.st.drawn.fmod i.c.draws.length).toNat 0).fmod n) with st := { (i.s.st.setB b ((i.c.draws.getD (i.s.st.drawn.fmod i.c.draws.length).toNat 0).fmod n)) with drawn := i.s.st.drawn + 1 } }, by show Do.draw _ _ _ _ = _; unfold Do.draw; rw [if_neg h, if_neg (by omega)], rfl, rfl, rfl⟩ z
end
end Mo
namespace Mo
open PySem PySem.Spec PyProof.Rows L2
/-! ### deeds.py: sending, doing -/
def spDo (n m : Nat) (K : PySem.W.Frag) : Sp := SpF K (fun i : DoI × V × Dd => [.ref i.1.a.self, i.2.1]) (fun i Γ => i.1.Pre Γ ∧ .dat i.2.1 i.2.2.data ∈ Γ ∧ i.2.2.Ok i.1.B i.1.Z ∧ i.2.2.fdep < n ∧ i.2.2.depth < m ∧ i.1.s.news.length + i.2.2.cnt ≤ 10000) (fun i => doS K i.1.a i.1.c i.1.s)
  (fun i v Γ' S' => doPo K i.1 (i.2.2.run i.1.c i.1.s) v Γ' S') (fun i e Γ' S' => doEx K (i.2.2.run i.1.c i.1.s) e Γ' S')
def spPull (n m : Nat) (K : PySem.W.Frag) : Sp := SpF K (fun i : DoI × V × (Str × Str × List Dd) => [.ref i.1.a.self, i.2.1]) (fun i Γ => i.1.Pre Γ ∧ .dat i.2.1 (Dd.data (.pull i.2.2.1 i.2.2.2.1 i.2.2.2.2)) ∈ Γ ∧ (i.2.2.1 ∈ i.1.Z ∧ i.2.2.2.1 ∈ i.1.B ∧ Dd.Oks i.1.B i.1.Z i.2.2.2.2) ∧ Dd.fdeps i.2.2.2.2 < n ∧ Dd.depths i.2.2.2.2 ≤ m ∧ i.1.s.news.length + Dd.cnts i.2.2.2.2 ≤ 10000) (fun i => doS K i.1.a i.1.c i.1.s)
  (fun i v Γ' S' => doPo K i.1 (Dd.run i.1.c (.pull i.2.2.1 i.2.2.2.1 i.2.2.2.2) i.1.s) v Γ' S') (fun i e Γ' S' => doEx K (Dd.run i.1.c (.pull i.2.2.1 i.2.2.2.1 i.2.2.2.2) i.1.s) e Γ' S')
def spDoAll (n m : Nat) (K : PySem.W.Frag) : Sp := SpF K (fun i : DoI × Addr × List Dd => [.ref i.1.a.self, .ref i.2.1]) (fun i Γ => i.1.Pre Γ ∧ .dat (.ref i.2.1) (.list (Dd.datas i.2.2)) ∈ Γ ∧ Dd.Oks i.1.B i.1.Z i.2.2 ∧ Dd.fdeps i.2.2 < n ∧ Dd.depths i.2.2 ≤ m ∧ i.1.s.news.length + Dd.cnts i.2.2 ≤ 10000) (fun i => doS K i.1.a i.1.c i.1.s)
  (fun i v Γ' S' => doPo K i.1 (Dd.runs i.1.c i.2.2 i.1.s) v Γ' S') (fun i e Γ' S' => doEx K (Dd.runs i.1.c i.2.2 i.1.s) e Γ' S')
section
variable {P : Program} {w : World} {K : PySem.W.Frag} {mg : Str → Option Value} {base : Heap}
theorem ok_Doing_send (T : Tx K mg) (n : Nat) : OkM P w K mg base (n + 4) "Doing" "send" ["self", "deed"] (spSend n K) := by
  have G_Doing_reckon := ok_Doing_reckon (P := P) (w := w) (base := base) T n
  refine T.f_Doing_send.okX sc_Doing_send (fun vs H Q E h => ?_) (fun cdv A outer s H vs Q E hr h => ?_)
  · obtain ⟨i, _, _, rfl, _⟩ := h
    rfl
  · have hu1 := hu_of hr; have hu0 := hr.units0; have hu64 := hr.units; have hu65 := hu65_of hr; have nd := sc_Doing_send.nd
    obtain ⟨⟨i, v, to, sign, span, rank, f, g⟩, Γ, S, rfl, z, h1, q, x⟩ := h
    dsimp only at z h1 q x
    obtain ⟨hp, hv, ⟨o1, o2, o3⟩, d1, d2, d3, hnl⟩ := h1
    refine ⟨_, (pss_cons (ps_set (i := 2) nd rfl (Or.inl rfl) (pmeK (K := K) rfl T.m_Doing_reckon T.c_Doing G_Doing_reckon hr (takes_of rfl rfl rfl rfl) (pv 0) (pa_cons (pe_ix (ix_anyK (K := K) rfl hu1) (pv 1) pe_int (fun _ _ => rfl)) pa_nil)))
      (pss_cons (ps_if (PW.pt (pw_or (pt_cmpR (op_ltK (K := K) rfl hu0) (pv 2) pe_int (nomark _)) (pw_or1 (pt_cmpR (op_gt) (pv 2) (T.v_LONGEST) (nomark _))))) (pss_one (ps_raise rfl (takes_of rfl rfl rfl rfl) (mk_Span T rfl rfl)))
      pss_nil)
      (pss_cons (ps_set (i := 3) nd rfl (Or.inl rfl) (pe_lst (pa_cons (pmeK (K := K) rfl T.m_Doing_reckon T.c_Doing G_Doing_reckon hr (takes_of rfl rfl rfl rfl) (pv 0) (pa_cons (pe_ix (ix_anyK (K := K) rfl hu1) (pv 1) pe_int (fun _ _ => rfl)) pa_nil)) (pa_cons (pmeK (K := K) rfl T.m_Doing_reckon T.c_Doing G_Doing_reckon hr (takes_of rfl rfl rfl rfl) (pv 0) (pa_cons (pe_ix (ix_anyK (K := K) rfl hu1) (pv 1) pe_int (fun _ _ => rfl)) pa_nil)) pa_nil))))
      (pss_cons (ps_if (pt_cmpR (op_gt) (pe_op (op_addK (K := K) rfl) (pe_ix (ix_anyK (K := K) rfl hu1) (pe_fldK (K := K) rfl (pv 0) rfl) pe_int (fun _ _ => rfl)) (pv 2)) (T.v_LATEST) (nomark _)) (pss_one (ps_raise rfl (takes_of rfl rfl rfl rfl) (mk_Late T rfl rfl)))
      pss_nil)
      (pss_cons (ps_set (i := 4) nd rfl (Or.inl rfl) (pe_tup (pa_cons (pe_op (op_addK (K := K) rfl) (pe_ix (ix_anyK (K := K) rfl hu1) (pe_fldK (K := K) rfl (pv 0) rfl) pe_int (fun _ _ => rfl)) (pv 2)) (pa_cons (pe_ix (ix_anyK (K := K) rfl hu1) (pv 1) pe_int (fun _ _ => rfl)) (pa_cons (pe_fldK (K := K) rfl (pv 0) rfl) (pa_cons (pe_fldK (K := K) rfl (pe_fldK (K := K) rfl (pv 0) rfl) rfl) pa_nil))))))
      (pss_cons (ps_expr (pe_bmK (K := K) rfl PySem.F.plainAttrs_list PySem.F.slot_list_append PySem.F.type_list_append mt_append (pe_fldK (K := K) rfl (pv 0) rfl) (pa_cons (pe_tup (pa_cons (pv 4) (pa_cons (pe_ix (ix_anyK (K := K) rfl hu1) (pv 1) pe_int (fun _ _ => rfl)) (pa_cons (pe_ix (ix_anyK (K := K) rfl hu1) (pv 1) pe_int (fun _ _ => rfl)) (pa_cons (pe_ix (ix_anyK (K := K) rfl hu1) (pv 3) pe_int (fun _ _ => rfl)) (pa_cons (pe_ix (ix_anyK (K := K) rfl hu1) (pv 3) pe_int (fun _ _ => rfl)) pa_nil)))))) pa_nil)))
      (pss_one (ps_fldaugK (K := K) rfl (pe_fldK (K := K) rfl (pv 0) rfl) pe_int in_add)))))))), ?_⟩
    rw [Dd.data] at hv
    refine w_start (σ' := [some (.ref i.a.self), some v, none, none, none]) rfl z ?_
    dsimp only [doS, List.cons_append, List.nil_append]
    have hk := hp.key
    have hn := hp.nv
    k_extra "W"
    refine w_do (i, _, span) (by k_extra "ts") ⟨hp.mono (by k_extra "sub"), by k_extra "m", o1, d1⟩ ?_ ?_
    · rintro u Γ' S' ⟨sp, e1, rfl, rfl, rfl⟩
      dsimp only [doS, List.cons_append, List.nil_append] at e1 ⊢
      have spw := hp.s.ev hp.c o1 e1
      have bad : sp < 1 ∨ 1000000 < sp → i.s.send i.c to sign span rank f g = .error .span := fun h => by
        unfold Do.send
        rw [e1]
        exact if_pos h
      k_extra "W"
      refine w_ite (fun h => ?_) (fun h => ?_)
      · k_extra "W"
        exact fun H z => x _ _ _ _ ⟨.span, bad (.inl h), rfl, rfl, rfl⟩ (z.fit (by k_extra "sub") (by k_extra "dr"))
      k_extra "W"
      refine w_ite (fun h2 => ?_) (fun h2 => ?_)
      · k_extra "W"
        exact fun H z => x _ _ _ _ ⟨.span, bad (.inr h2), rfl, rfl, rfl⟩ (z.fit (by k_extra "sub") (by k_extra "dr"))
      k_extra "W"
      refine w_do (i, _, f) (by k_extra "ts") ⟨hp.mono (by k_extra "sub"), by k_extra "m", o2, d2⟩ ?_ ?_
      · rintro u Γ' S' ⟨a, e2, rfl, rfl, rfl⟩
        dsimp only [doS, List.cons_append, List.nil_append] at e2 ⊢
        k_extra "W"
        refine w_do (i, _, g) (by k_extra "ts") ⟨hp.mono (by k_extra "sub"), by k_extra "m", o3, d3⟩ ?_ ?_
        · rintro u Γ' S' ⟨b, e3, rfl, rfl, rfl⟩
          dsimp only [doS, List.cons_append, List.nil_append] at e3 ⊢
          have all : i.s.send i.c to sign span rank f g = if 1000000000000 < i.c.hap.time + sp then .error .late else .ok { i.s with st := { i.s.st with sent := i.s.st.sent + 1 }, news := i.s.news ++ [⟨i.c.hap.time + sp, rank, i.c.hap.to, i.s.st.sent, to, sign, a, b⟩] } := by
            unfold Do.send
            rw [e1]
            show (if sp < 1 ∨ 1000000 < sp then _ else _) = _
            rw [if_neg (by omega), e2]
            show (match g.ev (i.s.env i.c) with | .error x => _ | .ok b => _) = _
            rw [e3]
          k_extra "W"
          refine w_lstO fun gl => ?_
          k_extra "W"
          refine w_ite (fun h3 => ?_) (fun h3 => ?_)
          · k_extra "W"
            exact fun H z => x _ _ _ _ ⟨.late, all.trans (if_pos h3), rfl, rfl, rfl⟩ (z.fit (by k_extra "sub") (by k_extra "dr"))
          rw [if_neg h3] at all
          repeat (first | (refine w_tupO rfl fun _ => ?_) | k_extra "W1")
          refine w_hpLen (vs := i.a.nv) (by k_extra "m") fun hnv => ?_
          refine w_app (by k_extra "sw") (by rw [hnv]; omega) ?_
          k_extra "W"
          refine w_fldaugL (by k_extra "at") lk_State_sent T.c_State T.n_State_sent ?_
          k_extra "W"
          refine w_putSent (by k_extra "rp") ?_
          refine w_hpSnoc (vs := i.a.nv) (hs := i.s.news) (h := (⟨i.c.hap.time + sp, rank, i.c.hap.to, i.s.st.sent, to, sign, a, b⟩ : Hap)) (by k_extra "m") (by k_extra "m") (by k_extra "m") ?_
          exact fun H z => q _ _ _ _ ⟨{ i.s with st := { i.s.st with sent := i.s.st.sent + 1 }, news := i.s.news ++ [⟨i.c.hap.time + sp, rank, i.c.hap.to, i.s.st.sent, to, sign, a, b⟩] }, _, all, rfl, rfl, rfl⟩ (z.fit (by k_extra "sub") (by k_extra "dr"))
        · rintro e Γ' S' ⟨r, e3, rfl, rfl, rfl⟩
          exact fun H z => x _ _ _ _ ⟨r, by
            show i.s.send i.c to sign span rank f g = _
            unfold Do.send
            dsimp only at e1 e2 e3
            rw [e1]
            show (if sp < 1 ∨ 1000000 < sp then _ else _) = _
            rw [if_neg (by omega), e2]
            show (match g.ev (i.s.env i.c) with | .error x => _ | .ok b => _) = _
            rw [e3], rfl, rfl, rfl⟩ (z.fit (by k_extra "sub") (by k_extra "dr"))
      · rintro e Γ' S' ⟨r, e2, rfl, rfl, rfl⟩
        exact fun H z => x _ _ _ _ ⟨r, by
            show i.s.send i.c to sign span rank f g = _
            unfold Do.send
            dsimp only at e1 e2
            rw [e1]
            show (if sp < 1 ∨ 1000000 < sp then _ else _) = _
            rw [if_neg (by omega), e2], rfl, rfl, rfl⟩ (z.fit (by k_extra "sub") (by k_extra "dr"))
    · rintro e Γ' S' ⟨r, e1, rfl, rfl, rfl⟩
      exact fun H z => x _ _ _ _ ⟨r, by
            show i.s.send i.c to sign span rank f g = _
            unfold Do.send
            dsimp only at e1
            rw [e1], rfl, rfl, rfl⟩ (z.fit (by k_extra "sub") (by k_extra "dr"))
theorem setQ_pre {i : DoI} {Γ : List Fc} (h : i.Pre Γ) {q : Str} {n : Int} {r : List Int} (hq : q ∈ i.Z) (e : lookD [] q i.s.st.queues = n :: r) : DoI.Pre { i with s := { i.s with st := i.s.st.setQ q r } } Γ ∧ Worth n := by
  have hm : (q, lookD [] q i.s.st.queues) ∈ i.s.st.queues := lookD_in (show q ∈ i.s.st.qs by rw [h.s.qs]; exact hq)
  rw [e] at hm
  have h1 := h.s.wo.ql _ hm
  have h2 := h.s.wo.qw _ hm
  refine ⟨⟨h.dr, h.key, h.gt, h.nv, ?_, h.c, ⟨h.s.wo.setQ (by simp only [List.length_cons] at h1; omega) fun m hm' => h2 m (List.mem_cons_of_mem _ hm'), (MSt.setQ_bs ..).trans h.s.bs, (MSt.setQ_qs ..).trans h.s.qs, h.s.wr, h.s.nw⟩⟩, h2 n List.mem_cons_self⟩
  show (setA q r i.s.st.queues).length = i.a.as.length
  rw [setA_len]
  exact h.as
theorem ok_Doing_pull (T : Tx K mg) (n m : Nat) {l : Nat} (G_Doing_do_all : OkM P w K mg base l "Doing" "do_all" ["self", "deeds"] (spDoAll n m K)) (hl : 1 ≤ l) : OkM P w K mg base (l + 1) "Doing" "pull" ["self", "deed"] (spPull n m K) := by
  have G_Doing_put := ok_Doing_put (P := P) (w := w) (base := base) T
  refine T.f_Doing_pull.okX sc_Doing_pull (fun vs H Q E h => ?_) (fun cdv A outer s H vs Q E hr h => ?_)
  · obtain ⟨i, _, _, rfl, _⟩ := h
    rfl
  · have hu1 := hu_of hr; have hu0 := hr.units0; have hu64 := hr.units; have hu65 := hu65_of hr; have nd := sc_Doing_pull.nd
    obtain ⟨⟨i, v, qn, b, ds⟩, Γ, S, rfl, z, h1, q, x⟩ := h
    dsimp only at z h1 q x
    obtain ⟨hp, hv, ⟨hq, hb, ho⟩, hf, hd, hnl⟩ := h1
    refine ⟨_, (pss_cons (ps_set (i := 2) nd rfl (Or.inl rfl) (pe_ix (ix_anyK (K := K) rfl hu1) (pe_fldK (K := K) rfl (pe_fldK (K := K) rfl (pv 0) rfl) rfl) (pe_ix (ix_anyK (K := K) rfl hu1) (pv 1) pe_int (fun _ _ => rfl)) (fun _ _ => rfl)))
      (pss_one (ps_if (pt_cmpR (op_eqK (K := K) rfl hu64) (pe_callB (call_lenK (K := K) rfl) (by rfl) T.b_len (by decide +kernel) (pa_cons (pv 2) pa_nil)) pe_int (nomark _)) (pss_one (ps_expr (pmeK (K := K) rfl T.m_Doing_do_all T.c_Doing G_Doing_do_all hr (takes_of rfl rfl rfl rfl) (pv 0) (pa_cons (pe_ix (ix_anyK (K := K) rfl hu1) (pv 1) pe_int (fun _ _ => rfl)) pa_nil))))
      (pss_cons (ps_expr (pmeK (K := K) rfl T.m_Doing_put T.c_Doing G_Doing_put hr (takes_of rfl rfl rfl rfl) (pv 0) (pa_cons (pe_ix (ix_anyK (K := K) rfl hu1) (pv 1) pe_int (fun _ _ => rfl)) (pa_cons (pe_bmK (K := K) rfl PySem.F.plainAttrs_list PySem.F.slot_list_pop PySem.F.type_list_pop mt_popAt (pv 2) (pa_cons pe_int pa_nil)) pa_nil))))
      (pss_one (ps_asg pe_bl (pg_sub (pe_fldK (K := K) rfl (pv 0) rfl) (pe_ix (ix_anyK (K := K) rfl hu1) (pv 1) pe_int (fun _ _ => rfl)) (set_any hu1)))))))), ?_⟩
    rw [Dd.data] at hv
    refine w_start (σ' := [some (.ref i.a.self), some v, none]) rfl z ?_
    dsimp only [doS, List.cons_append, List.nil_append]
    have hx : qn ∈ i.s.st.qs := by rw [hp.s.qs]; exact hq
    obtain ⟨a, ha⟩ := q_addr hp.as hx
    have hat : ∀ {Γ S}, stV K i.a.p i.a.dxp i.a.b i.a.q i.a.as i.s.st ∈ S → AtH K Γ S a (.lst ((lookD [] qn i.s.st.queues).map V.int)) := fun m => at_q m hp.as hp.s.wo.nq hx ha
    k_extra "W"
    refine w_subK (by k_extra "at") ha ?_
    k_extra "W"
    refine w_lenL (hat (by k_extra "mr")) ?_
    rw [List.length_map]
    k_extra "W"
    refine w_ite (fun h => ?_) (fun h => ?_)
    · have e0 : lookD [] qn i.s.st.queues = [] := List.eq_nil_of_length_eq_zero (by omega)
      have er : Dd.run i.c (.pull qn b ds) i.s = Dd.runs i.c ds i.s := by rw [Dd.run, e0]
      rw [er] at q x
      k_extra "W"
      refine w_do (i, _, ds) (by k_extra "ts") ⟨hp.mono (by k_extra "sub"), by k_extra "m", ho, hf, hd, hnl⟩ ?_ ?_
      · rintro u Γ' S' ⟨s', nv, e1, rfl, rfl, rfl⟩
        exact fun H z => q _ _ _ _ ⟨s', nv, e1, rfl, rfl, rfl⟩ (z.fit (by k_extra "sub") (by k_extra "dr"))
      · rintro e Γ' S' ⟨r, e1, rfl, rfl, rfl⟩
        exact fun H z => x _ _ _ _ ⟨r, e1, rfl, rfl, rfl⟩ (z.fit (by k_extra "sub") (by k_extra "dr"))
    · obtain ⟨k, r, e0⟩ : ∃ k r, lookD [] qn i.s.st.queues = k :: r := by
        cases e : lookD [] qn i.s.st.queues with
        | nil => rw [e] at h; exact absurd rfl h
        | cons k r => exact ⟨k, r, rfl⟩
      have er : Dd.run i.c (.pull qn b ds) i.s = .ok (i.s.pulled qn b k r) := by rw [Dd.run, e0]
      rw [er] at q
      k_extra "W"
      refine w_tyL (hat (by k_extra "mr")) ?_
      k_extra "W"
      refine w_popQ (by k_extra "rp") hp.as hp.s.wo.nq hx ha e0 ?_
      obtain ⟨hp2, _⟩ := setQ_pre hp hq e0
      k_extra "W"
      refine w_don ({ i with s := { i.s with st := i.s.st.setQ qn r } }, b, k) (by k_extra "ts") ⟨hp2.mono (by k_extra "sub"), hb⟩ ?_
      rintro u Γ' S' ⟨rfl, rfl, rfl⟩
      dsimp only [doS, List.cons_append, List.nil_append]
      k_extra "W"
      refine w_wr (by k_extra "sw") (by have := (hp2.s.put hb (n := 0) ⟨by decide, by decide⟩).wrlen; exact this) ?_
      k_extra "W"
      exact fun H z => q _ _ _ _ ⟨i.s.pulled qn b k r, i.a.nv, rfl, rfl, rfl, rfl⟩ (z.fit (sub_put hp.nv sub_refl) Dr.refl)
theorem ok_Doing_do0 (T : Tx K mg) (n l : Nat) : OkM P w K mg base (l + 1) "Doing" "do" ["self", "deed"] (spDo n 0 K) := by
  refine ⟨fun vs H Q E h => ?_, fun A outer s H args us vs Q E hr he hb hv hs => ?_⟩
  · obtain ⟨i, _, _, rfl, _⟩ := h
    rfl
  · obtain ⟨⟨i, v, d⟩, Γ, S, rfl, z, h1, q, x⟩ := hs
    exact absurd h1.2.2.2.2.1 (Nat.not_lt_zero _)
theorem ok_Doing_do_all (T : Tx K mg) (n m : Nat) {l : Nat} (G_Doing_do : OkM P w K mg base l "Doing" "do" ["self", "deed"] (spDo n m K)) : OkM P w K mg base (l + 1) "Doing" "do_all" ["self", "deeds"] (spDoAll n m K) := by
  refine T.f_Doing_do_all.okX sc_Doing_do_all (fun vs H Q E h => ?_) (fun cdv A outer s H vs Q E hr h => ?_)
  · obtain ⟨i, _, _, rfl, _⟩ := h
    rfl
  · have hu1 := hu_of hr; have hu0 := hr.units0; have hu64 := hr.units; have hu65 := hu65_of hr; have nd := sc_Doing_do_all.nd
    obtain ⟨⟨i, p, ds⟩, Γ, S, rfl, z, h1, q, x⟩ := h
    dsimp only at z h1 q x
    obtain ⟨hp, hv, ho, hf, hd, hnl⟩ := h1
    refine ⟨_, (pss_one (ps_for (passes_of rfl) rfl (pi_seqK (K := K) rfl (pv 1)) (pg_name (i := 2) nd rfl (Or.inl rfl))
      (pss_one (ps_expr (pmeK (K := K) rfl T.m_Doing_do T.c_Doing G_Doing_do hr (takes_of rfl rfl rfl rfl) (pv 0) (pa_cons (pv 2) pa_nil)))))), ?_⟩
    refine w_start (σ' := [some (.ref i.a.self), some (.ref p), none]) rfl z ?_
    k_extra "W"
    refine w_loop_D (ι := Option V × Do × List V) (Dd.datas ds) (fun j a => Dd.runs i.c (ds.take j) i.s = .ok a.2.1) (fun _ a => [some (.ref i.a.self), some (.ref p), a.1]) (fun _ a => hpF a.2.2 a.2.1.news :: Γ) (fun _ a => doS K { i.a with nv := a.2.2 } i.c a.2.1 ++ S)
      (none, i.s, i.a.nv) (by rw [List.take_zero, Dd.runs]) rfl (sub_put hp.nv (by k_extra "sub")) (by k_extra "dr") (fun _ _ => by k_extra "m") ?_ ?_
    · rintro j d v ⟨u, s, nv⟩ hj hC
      dsimp only [doS, List.cons_append, List.nil_append] at hC ⊢
      rw [datas_map, List.getElem?_map] at hj
      obtain ⟨dd, hdd, rfl⟩ := Option.map_eq_some_iff.mp hj
      have hs := runs_ok hp.c _ (oks_take ho j) hp.s hC
      have hnw := runs_news _ hC
      have hct := cnts_take ds hdd
      have hfd := fdeps_get hdd
      have hdp := depths_get hdd
      have ht := runs_take (c := i.c) hdd i.s
      rw [hC] at ht
      dsimp only at ht
      k_extra "W"
      refine w_do ({ i with s := s, a := { i.a with nv := nv } }, v, dd) (by k_extra "ts") ⟨DoI.Pre.mk (by have := hp.dr; k_extra "m") (by have := hp.key; k_extra "m") (by have := hp.gt; k_extra "m") (by k_extra "m") ?e hp.c hs, by k_extra "m", oks_get ho hdd, by dsimp only; omega, by dsimp only; omega, by dsimp only; omega⟩ ?_ ?_
      case e =>
        have e1 := hs.qs
        rw [← hp.s.qs] at e1
        have e2 := congrArg List.length e1
        unfold MSt.qs at e2
        rw [List.length_map, List.length_map] at e2
        exact e2.trans hp.as
      · rintro u' Γ' S' ⟨s', nv', e1, rfl, rfl, rfl⟩
        dsimp only at e1
        rw [e1] at ht
        k_extra "W"
        exact w_again (some v, s', nv') ht rfl (by k_extra "sub") (by k_extra "dr")
      · rintro e Γ' S' ⟨r, e1, rfl, rfl, rfl⟩
        dsimp only at e1
        rw [e1] at ht
        exact fun H z => x _ _ _ _ ⟨r, runs_err ht, rfl, rfl, rfl⟩ (z.fit (by k_extra "sub") (by k_extra "dr"))
    · rintro ⟨u, s, nv⟩ hC
      dsimp only at hC ⊢
      rw [datas_map, List.length_map, List.take_of_length_le (Nat.le_refl _)] at hC
      k_extra "W"
      exact fun H z => q _ _ _ _ ⟨s, nv, hC, rfl, rfl, rfl⟩ (z.fit (by k_extra "sub") (by k_extra "dr"))
theorem ok_Doing_do1 (T : Tx K mg) (n m : Nat) {l : Nat} (G_Doing_do_all : OkM P w K mg base l "Doing" "do_all" ["self", "deeds"] (spDoAll n m K)) (hl : n + 4 ≤ l) : OkM P w K mg base (l + 2) "Doing" "do" ["self", "deed"] (spDo n (m + 1) K) := by
  have G_Doing_put := ok_Doing_put (P := P) (w := w) (base := base) T
  have G_Doing_push := ok_Doing_push (P := P) (w := w) (base := base) T
  have G_Doing_draw := ok_Doing_draw (P := P) (w := w) (base := base) T
  have G_Doing_reckon := ok_Doing_reckon (P := P) (w := w) (base := base) T n
  have G_Doing_send := ok_Doing_send (P := P) (w := w) (base := base) T n
  have G_Doing_pull := ok_Doing_pull (P := P) (w := w) (base := base) T n m G_Doing_do_all (by omega)
  refine T.f_Doing_do.okX sc_Doing_do (fun vs H Q E h => ?_) (fun cdv A outer s H vs Q E hr h => ?_)
  · obtain ⟨i, _, _, rfl, _⟩ := h
    rfl
  · have hu1 := hu_of hr; have hu0 := hr.units0; have hu64 := hr.units; have hu65 := hu65_of hr; have nd := sc_Doing_do.nd
    obtain ⟨⟨i, v, d⟩, Γ, S, rfl, z, h1, q, x⟩ := h
    dsimp only at z h1 q x
    obtain ⟨hp, hv, ho, hf, hd, hnl⟩ := h1
    refine ⟨_, (pss_one (ps_if (pt_cmpR (op_eqK (K := K) rfl hu64) (pe_ix (ix_anyK (K := K) rfl hu1) (pv 1) pe_int (fun _ _ => rfl)) pe_str (nomark _)) (pss_one (ps_expr (pmeK (K := K) rfl T.m_Doing_put T.c_Doing G_Doing_put hr (takes_of rfl rfl rfl rfl) (pv 0) (pa_cons (pe_ix (ix_anyK (K := K) rfl hu1) (pv 1) pe_int (fun _ _ => rfl)) (pa_cons (pmeK (K := K) rfl T.m_Doing_reckon T.c_Doing G_Doing_reckon hr (takes_of rfl rfl rfl rfl) (pv 0) (pa_cons (pe_ix (ix_anyK (K := K) rfl hu1) (pv 1) pe_int (fun _ _ => rfl)) pa_nil)) pa_nil)))))
      (pss_one (ps_if (pt_cmpR (op_eqK (K := K) rfl hu64) (pe_ix (ix_anyK (K := K) rfl hu1) (pv 1) pe_int (fun _ _ => rfl)) pe_str (nomark _)) (pss_one (ps_expr (pmeK (K := K) rfl T.m_Doing_push T.c_Doing G_Doing_push hr (takes_of rfl rfl rfl rfl) (pv 0) (pa_cons (pe_ix (ix_anyK (K := K) rfl hu1) (pv 1) pe_int (fun _ _ => rfl)) (pa_cons (pmeK (K := K) rfl T.m_Doing_reckon T.c_Doing G_Doing_reckon hr (takes_of rfl rfl rfl rfl) (pv 0) (pa_cons (pe_ix (ix_anyK (K := K) rfl hu1) (pv 1) pe_int (fun _ _ => rfl)) pa_nil)) pa_nil)))))
      (pss_one (ps_if (pt_cmpR (op_eqK (K := K) rfl hu64) (pe_ix (ix_anyK (K := K) rfl hu1) (pv 1) pe_int (fun _ _ => rfl)) pe_str (nomark _)) (pss_one (ps_expr (pmeK (K := K) rfl T.m_Doing_pull T.c_Doing G_Doing_pull hr (takes_of rfl rfl rfl rfl) (pv 0) (pa_cons (pv 1) pa_nil))))
      (pss_one (ps_if (pt_cmpR (op_eqK (K := K) rfl hu64) (pe_ix (ix_anyK (K := K) rfl hu1) (pv 1) pe_int (fun _ _ => rfl)) pe_str (nomark _)) (pss_one (ps_expr (pmeK (K := K) rfl T.m_Doing_draw T.c_Doing G_Doing_draw hr (takes_of rfl rfl rfl rfl) (pv 0) (pa_cons (pe_ix (ix_anyK (K := K) rfl hu1) (pv 1) pe_int (fun _ _ => rfl)) (pa_cons (pmeK (K := K) rfl T.m_Doing_reckon T.c_Doing G_Doing_reckon hr (takes_of rfl rfl rfl rfl) (pv 0) (pa_cons (pe_ix (ix_anyK (K := K) rfl hu1) (pv 1) pe_int (fun _ _ => rfl)) pa_nil)) pa_nil)))))
      (pss_one (ps_if (pt_cmpR (op_eqK (K := K) rfl hu64) (pe_ix (ix_anyK (K := K) rfl hu1) (pv 1) pe_int (fun _ _ => rfl)) pe_str (nomark _)) (pss_one (ps_expr (pmeK (K := K) rfl T.m_Doing_send T.c_Doing G_Doing_send hr (takes_of rfl rfl rfl rfl) (pv 0) (pa_cons (pv 1) pa_nil))))
      (pss_one (ps_if (pt_cmpR (op_eqK (K := K) rfl hu64) (pe_ix (ix_anyK (K := K) rfl hu1) (pv 1) pe_int (fun _ _ => rfl)) pe_str (nomark _)) (pss_one (ps_expr (pmeK (K := K) rfl T.m_Doing_do_all T.c_Doing G_Doing_do_all hr (takes_of rfl rfl rfl rfl) (pv 0) (pa_cons (pe_ix (ix_anyK (K := K) rfl hu1) (pv 1) (pe_op (op_addK (K := K) rfl) pe_int (pe_callTy call_int1 (by rfl) T.b_int (by decide +kernel) (pa_cons (pe_cmpR (op_eqK (K := K) rfl hu64) (pmeK (K := K) rfl T.m_Doing_reckon T.c_Doing G_Doing_reckon hr (takes_of rfl rfl rfl rfl) (pv 0) (pa_cons (pe_ix (ix_anyK (K := K) rfl hu1) (pv 1) pe_int (fun _ _ => rfl)) pa_nil)) pe_int (nomark _)) pa_nil))) (fun _ _ => rfl)) pa_nil))))
      (pss_one (ps_fldK (K := K) rfl (pv 0) pe_bl rfl)))))))))))))), ?_⟩
    refine w_start (σ' := [some (.ref i.a.self), some v]) rfl z ?_
    dsimp only [doS, List.cons_append, List.nil_append]
    have hn := hp.nv
    cases d with
    | put b f =>
      rw [Dd.data] at hv
      rw [Dd.Ok] at ho
      rw [Dd.fdep] at hf
      rw [Dd.run] at q x
      k_extra "W"
      refine w_do (i, _, f) (by k_extra "ts") ⟨hp.mono (by k_extra "sub"), by k_extra "m", ho.2, hf⟩ ?_ ?_
      · rintro u Γ' S' ⟨r, e1, rfl, rfl, rfl⟩
        dsimp only [doS, List.cons_append, List.nil_append] at e1 ⊢
        rw [e1] at q
        k_extra "W"
        refine w_don (i, b, r) (by k_extra "ts") ⟨hp.mono (by k_extra "sub"), ho.1⟩ ?_
        rintro u Γ' S' ⟨rfl, rfl, rfl⟩
        dsimp only [doS, List.cons_append, List.nil_append]
        k_extra "W"
        exact fun H z => q _ _ _ _ ⟨i.s.put b r, i.a.nv, rfl, rfl, rfl, rfl⟩ (z.fit (by show ∀ f ∈ hpF i.a.nv i.s.news :: Γ, _; k_extra "sub") Dr.refl)
      · rintro e Γ' S' ⟨r, e1, rfl, rfl, rfl⟩
        dsimp only at e1
        rw [e1] at x
        exact fun H z => x _ _ _ _ ⟨r, rfl, rfl, rfl, rfl⟩ (z.fit (by k_extra "sub") (by k_extra "dr"))
    | push b f =>
      rw [Dd.data] at hv
      rw [Dd.Ok] at ho
      rw [Dd.fdep] at hf
      rw [Dd.run] at q x
      k_extra "W"
      refine w_do (i, _, f) (by k_extra "ts") ⟨hp.mono (by k_extra "sub"), by k_extra "m", ho.2, hf⟩ ?_ ?_
      · rintro u Γ' S' ⟨r, e1, rfl, rfl, rfl⟩
        dsimp only [doS, List.cons_append, List.nil_append] at e1 ⊢
        rw [e1] at q x
        k_extra "W"
        refine w_do (i, b, r) (by k_extra "ts") ⟨hp.mono (by k_extra "sub"), ho.1⟩ ?_ ?_
        · rintro u Γ' S' ⟨s', e2, rfl, rfl, rfl⟩
          have hw : s'.news = i.s.news := by
            dsimp only [Do.push] at e2
            split at e2
            · cases e2
            · cases e2; rfl
          k_extra "W"
          exact fun H z => q _ _ _ _ ⟨s', i.a.nv, e2, rfl, rfl, rfl⟩ (z.fit (by rw [hw]; k_extra "sub") (by k_extra "dr"))
        · rintro e Γ' S' ⟨r, e2, rfl, rfl, rfl⟩
          exact fun H z => x _ _ _ _ ⟨r, e2, rfl, rfl, rfl⟩ (z.fit (by k_extra "sub") (by k_extra "dr"))
      · rintro e Γ' S' ⟨r, e1, rfl, rfl, rfl⟩
        dsimp only at e1
        rw [e1] at x
        exact fun H z => x _ _ _ _ ⟨r, rfl, rfl, rfl, rfl⟩ (z.fit (by k_extra "sub") (by k_extra "dr"))
    | draw b f =>
      rw [Dd.data] at hv
      rw [Dd.Ok] at ho
      rw [Dd.fdep] at hf
      rw [Dd.run] at q x
      k_extra "W"
      refine w_do (i, _, f) (by k_extra "ts") ⟨hp.mono (by k_extra "sub"), by k_extra "m", ho.2, hf⟩ ?_ ?_
      · rintro u Γ' S' ⟨r, e1, rfl, rfl, rfl⟩
        dsimp only [doS, List.cons_append, List.nil_append] at e1 ⊢
        rw [e1] at q x
        k_extra "W"
        refine w_do (i, b, r) (by k_extra "ts") ⟨hp.mono (by k_extra "sub"), ho.1⟩ ?_ ?_
        · rintro u Γ' S' ⟨s', e2, rfl, rfl, rfl⟩
          have hw : s'.news = i.s.news := by
            dsimp only [Do.draw] at e2
            split at e2
            · cases e2
            · split at e2
              · cases e2
              · cases e2; rfl
          k_extra "W"
          exact fun H z => q _ _ _ _ ⟨s', i.a.nv, e2, rfl, rfl, rfl⟩ (z.fit (by rw [hw]; k_extra "sub") (by k_extra "dr"))
        · rintro e Γ' S' ⟨r, e2, rfl, rfl, rfl⟩
          exact fun H z => x _ _ _ _ ⟨r, e2, rfl, rfl, rfl⟩ (z.fit (by k_extra "sub") (by k_extra "dr"))
      · rintro e Γ' S' ⟨r, e1, rfl, rfl, rfl⟩
        dsimp only at e1
        rw [e1] at x
        exact fun H z => x _ _ _ _ ⟨r, rfl, rfl, rfl, rfl⟩ (z.fit (by k_extra "sub") (by k_extra "dr"))
    | pull qn b ds =>
      rw [Dd.Ok] at ho
      rw [Dd.fdep] at hf
      rw [Dd.depth] at hd
      rw [Dd.cnt] at hnl
      have hv' := hv
      rw [Dd.data] at hv
      k_extra "W"
      refine w_do (i, v, qn, b, ds) (by k_extra "ts") ⟨hp.mono (by k_extra "sub"), by k_extra "m", ho, hf, by dsimp only; omega, by dsimp only; omega⟩ ?_ ?_
      · rintro u Γ' S' ⟨s', nv, e1, rfl, rfl, rfl⟩
        k_extra "W"
        exact fun H z => q _ _ _ _ ⟨s', nv, e1, rfl, rfl, rfl⟩ (z.fit (by k_extra "sub") (by k_extra "dr"))
      · rintro e Γ' S' ⟨r, e1, rfl, rfl, rfl⟩
        exact fun H z => x _ _ _ _ ⟨r, e1, rfl, rfl, rfl⟩ (z.fit (by k_extra "sub") (by k_extra "dr"))
    | send to sign span rank f g =>
      rw [Dd.Ok] at ho
      rw [Dd.fdep] at hf
      rw [Dd.cnt] at hnl
      · have hv' := hv
        rw [Dd.data] at hv
        rw [Dd.run] at q x
        k_extra "W"
        refine w_do (i, v, to, sign, span, rank, f, g) (by k_extra "ts") ⟨hp.mono (by k_extra "sub"), by k_extra "m", ho, by dsimp only; omega, by dsimp only; omega, by dsimp only; omega, by dsimp only; omega⟩ ?_ ?_
        · rintro u Γ' S' ⟨s', nv, e1, rfl, rfl, rfl⟩
          k_extra "W"
          exact fun H z => q _ _ _ _ ⟨s', nv, e1, rfl, rfl, rfl⟩ (z.fit (by k_extra "sub") (by k_extra "dr"))
        · rintro e Γ' S' ⟨r, e1, rfl, rfl, rfl⟩
          exact fun H z => x _ _ _ _ ⟨r, e1, rfl, rfl, rfl⟩ (z.fit (by k_extra "sub") (by k_extra "dr"))
      all_goals intros; contradiction
    | iff f a b =>
      rw [Dd.data] at hv
      rw [Dd.Ok] at ho
      rw [Dd.fdep] at hf
      rw [Dd.depth] at hd
      rw [Dd.cnt] at hnl
      rw [Dd.run] at q x
      k_extra "W"
      refine w_do (i, _, f) (by k_extra "ts") ⟨hp.mono (by k_extra "sub"), by k_extra "m", ho.1, by dsimp only; omega⟩ ?_ ?_
      · rintro u Γ' S' ⟨r, e1, rfl, rfl, rfl⟩
        dsimp only [doS, List.cons_append, List.nil_append] at e1 ⊢
        rw [e1] at q x
        dsimp only at q x
        k_extra "W"
        by_cases h0 : r = 0
        · rw [if_pos h0] at q x
          rw [decide_eq_true h0, if_pos rfl]
          refine w_subD (by k_extra "m") (by rfl) fun l => ?_
          rw [valOf_l]
          k_extra "W"
          refine w_do (i, l, b) (by k_extra "ts") ⟨hp.mono (by k_extra "sub"), by k_extra "m", ho.2.2, by dsimp only; omega, by dsimp only; omega, by dsimp only; omega⟩ ?_ ?_
          · rintro u Γ' S' ⟨s', nv, e2, rfl, rfl, rfl⟩
            k_extra "W"
            exact fun H z => q _ _ _ _ ⟨s', nv, e2, rfl, rfl, rfl⟩ (z.fit (by k_extra "sub") (by k_extra "dr"))
          · rintro e Γ' S' ⟨r, e2, rfl, rfl, rfl⟩
            exact fun H z => x _ _ _ _ ⟨r, e2, rfl, rfl, rfl⟩ (z.fit (by k_extra "sub") (by k_extra "dr"))
        · rw [if_neg h0] at q x
          rw [decide_eq_false h0, if_neg Bool.false_ne_true]
          refine w_subD (by k_extra "m") (by rfl) fun l => ?_
          rw [valOf_l]
          k_extra "W"
          refine w_do (i, l, a) (by k_extra "ts") ⟨hp.mono (by k_extra "sub"), by k_extra "m", ho.2.1, by dsimp only; omega, by dsimp only; omega, by dsimp only; omega⟩ ?_ ?_
          · rintro u Γ' S' ⟨s', nv, e2, rfl, rfl, rfl⟩
            k_extra "W"
            exact fun H z => q _ _ _ _ ⟨s', nv, e2, rfl, rfl, rfl⟩ (z.fit (by k_extra "sub") (by k_extra "dr"))
          · rintro e Γ' S' ⟨r, e2, rfl, rfl, rfl⟩
            exact fun H z => x _ _ _ _ ⟨r, e2, rfl, rfl, rfl⟩ (z.fit (by k_extra "sub") (by k_extra "dr"))
      · rintro e Γ' S' ⟨r, e1, rfl, rfl, rfl⟩
        dsimp only at e1
        rw [e1] at x
        exact fun H z => x _ _ _ _ ⟨r, rfl, rfl, rfl, rfl⟩ (z.fit (by k_extra "sub") (by k_extra "dr"))
    | fin =>
      rw [Dd.data] at hv
      rw [Dd.run] at q x
      k_extra "W"
      refine w_sfldL (by k_extra "sw") pt_Doing_ends T.c_Doing T.n_Doing_ends rfl ?_
      k_extra "W"
      exact fun H z => q _ _ _ _ ⟨{ i.s with ends := true }, i.a.nv, rfl, rfl, rfl, rfl⟩ (z.fit (by show ∀ f ∈ hpF i.a.nv i.s.news :: Γ, _; k_extra "sub") Dr.refl)
theorem ok_do_all (T : Tx K mg) (n : Nat) : ∀ m, ∃ l, l ≤ n + 6 + 3 * m ∧ n + 4 ≤ l ∧ OkM P w K mg base l "Doing" "do_all" ["self", "deeds"] (spDoAll n m K)
  | 0 => ⟨n + 5, by omega, by omega, ok_Doing_do_all T n 0 (ok_Doing_do0 T n (n + 3))⟩
  | m + 1 => by
    obtain ⟨l, h1, h2, h3⟩ := ok_do_all T n m
    exact ⟨l + 3, by omega, by omega, ok_Doing_do_all T n (m + 1) (ok_Doing_do1 T n m h3 h2)⟩
theorem ok_Doing_do_all' (T : Tx K mg) (n m : Nat) : OkM P w K mg base (n + 6 + 3 * m) "Doing" "do_all" ["self", "deeds"] (spDoAll n m K) := by
  obtain ⟨l, h1, h2, h3⟩ := ok_do_all (P := P) (w := w) (base := base) T n m
  exact fn_up h3 h1
end
end Mo
namespace Mo
open PySem PySem.Spec PyProof.Rows L2
/-! ### a model, a first state: by facts and segments -/
/-- a model that stays -/
def MdOk (K : PySem.W.Frag) (Γ : List Fc) (pm : Addr) (ms : List Mach) : Prop := ∃ dx lm, .obj pm (.ins (He.ga K "Model") dx (fl_Model (.ref lm))) ∈ Γ ∧ .dat (.ref lm) (.list (ms.map Mach.data)) ∈ Γ
theorem MdOk.mono {K : PySem.W.Frag} {Γ Γ' : List Fc} {pm : Addr} {ms : List Mach} (h : MdOk K Γ pm ms) (s : ∀ f ∈ Γ, f ∈ Γ') : MdOk K Γ' pm ms := let ⟨dx, lm, a, b⟩ := h; ⟨dx, lm, s _ a, s _ b⟩
section
variable {K : PySem.W.Frag} {Γ : List Fc} {S R : List Vo} {Q : VK} {E : XK}
theorem w_mkModel {n : Nat} {a : Addr} {ms : List Mach} (m : .dat (.ref a) (.list (ms.map Mach.data)) ∈ Γ) (hd : ∀ m ∈ ms, m.depth < n ∧ m.Sm) (hl : ms.length ≤ 1000)
    (k : ∀ p dx lm, Wh K (.obj p (.ins (He.ga K "Model") dx (fl_Model (.ref lm))) :: .dat (.ref lm) (.list (ms.map Mach.data)) :: Γ) S fun H => Q (.ref p) H) : Wh K Γ S fun H => mkI (He.ga K "Model") (spModelInit n K) [.ref a] H Q E := fun H z x dx nx nd ne => by
  obtain ⟨G, a1, b1⟩ := z.made (fs := []) (C := He.ga K "Model") nx nd ne
  obtain ⟨a', xs, ea, t1, t2⟩ := dp_lst (b1 _ m : Dp K G (.ref a) (.list (ms.map Mach.data)))
  cases ea
  have hlen := dpa_len t2
  rw [List.length_map] at hlen
  refine ⟨G, S.flatten, x, dx, a, xs, ms, rfl, a1, ext_l a1.ex t1, hlen, fun i v m' h1 h2 => ?_, hd, hl, fun l G' H' e1 _ z' d => ⟨rfl, ?_⟩⟩
  · obtain ⟨d, h3, h4⟩ := dpa_get' t2 h1
    rw [List.getElem?_map, h2] at h3
    cases h3
    exact machIn_of a1.ex h4
  · refine k x dx l H' (Hg.freeze ⟨G', z', fun f hf => ?_⟩)
    rcases List.mem_cons.mp hf with e | hf
    · rw [e]; exact d
    · exact Fc.mono e1 (b1 f hf)
end
end Mo
namespace Mo
open PySem PySem.Spec PyProof.Rows L2
/-! ### deeds.py: what was written; a happening done -/
def qtF (qw : List (Str × List Int)) (ts qls : List Addr) : Fc := .gen (fun G => ∀ (i : Nat) (x : Str × List Int) (t a : Addr), qw[i]? = some x → ts[i]? = some t → qls[i]? = some a → G t = some (.tup [.str x.1, .ref a])) fun G G' e h i x t a h1 h2 h3 => e _ _ (h i x t a h1 h2 h3)
def spDoingInit (K : PySem.W.Frag) : Sp := SpF K (fun i : (Addr × Addr) × (Addr × Addr) × V × Hap => [.ref i.1.1, .ref i.2.1.1, .ref i.2.1.2, i.2.2.1]) (fun i Γ => .dat i.2.2.1 i.2.2.2.data ∈ Γ) (fun i => [own i.1.1 (.ins (He.ga K "Doing") i.1.2 [])])
  (fun i v Γ' S' => ∃ key gt w n, v = .non ∧ Γ' = [.dat (.ref gt) (.list [.int i.2.2.2.g, .int i.2.2.2.h]), .dat key (.tuple [.int i.2.2.2.time, .int i.2.2.2.rank, .int i.2.2.2.frm, .int i.2.2.2.count])] ∧
    S' = [own n (.lst []), own w (.dK []), own i.1.1 (.ins (He.ga K "Doing") i.1.2 (fl_Doing (.ref i.2.1.1) (.ref i.2.1.2) key (.int i.2.2.2.to) (.ref gt) (.ref w) (.ref n) (.bl false)))]) noEx
def wbD (ws : List (Str × Int)) : List PyData := ws.map boxD
def spWrites (K : PySem.W.Frag) : Sp := SpF K (fun i : DoI × V × Mach => [.ref i.1.a.self, i.2.1]) (fun i Γ => i.1.Pre Γ ∧ .dat i.2.1 i.2.2.data ∈ Γ ∧ i.1.B = i.2.2.ns ∧ i.1.Z = i.2.2.queues ∧ i.2.2.Sm) (fun i => doS K i.1.a i.1.c i.1.s)
  (fun i v Γ' S' => ∃ lw bv ts qls, v = .ref lw ∧ ts.length = (i.1.s.wQ i.2.2.queues).length ∧ qls.length = (i.1.s.wQ i.2.2.queues).length ∧ Γ' = [qtF (i.1.s.wQ i.2.2.queues) ts qls, .dats bv (wbD (i.1.s.wB i.2.2.ns))] ∧
    S' = own lw (.lst (bv ++ ts.map V.ref)) :: quV (i.1.s.wQ i.2.2.queues) qls :: doS K i.1.a i.1.c i.1.s) noEx
def spDeedsFor (K : PySem.W.Frag) : Sp := SpF K (fun i : Addr × List Mach × Nat × Mach × Str => [.ref i.1, .int (i.2.2.1 : Int), .str i.2.2.2.2]) (fun i Γ => MdOk K Γ i.1 i.2.1 ∧ i.2.1[i.2.2.1]? = some i.2.2.2.1) (fun _ => [])
  (fun i v Γ' S' => ∃ l, v = .ref l ∧ Γ' = [.dat (.ref l) (.list (Dd.datas (i.2.2.2.1.deedsFor i.2.2.2.2)))] ∧ S' = []) noEx
section
variable {P : Program} {w : World} {K : PySem.W.Frag} {mg : Str → Option Value} {base : Heap}
theorem Dr.join {S0 R : List Vo} {x y : Vo} (h : Dr S0 (x :: y :: R)) : Dr S0 ((x ++ y) :: R) := by
  obtain ⟨J, j⟩ := h
  refine ⟨J, j.trans ?_⟩
  rw [List.flatten_append, List.flatten_append, List.flatten_cons, List.flatten_cons, List.flatten_cons, List.append_assoc]
theorem ok_Doing_init (T : Tx K mg) : OkM P w K mg base 1 "Doing" "__init__" ["self", "draws", "state", "happening"] (spDoingInit K) := by
  refine T.f_Doing_init.okX sc_Doing_init (fun vs H Q E h => ?_) (fun cdv A outer s H vs Q E hr h => ?_)
  · obtain ⟨i, _, _, rfl, _⟩ := h
    rfl
  · have hu1 := hu_of hr; have hu0 := hr.units0; have hu64 := hr.units; have hu65 := hu65_of hr; have nd := sc_Doing_init.nd
    obtain ⟨⟨⟨self, dx⟩, ⟨dr, p⟩, hv, hap⟩, Γ, S, rfl, z, h1, q, x⟩ := h
    dsimp only at z h1 q x
    refine ⟨_, (pss_cons (ps_fldK (K := K) rfl (pv 0) (pv 1) rfl)
      (pss_cons (ps_fldK (K := K) rfl (pv 0) (pv 2) rfl)
      (pss_cons (ps_fldK (K := K) rfl (pv 0) (pe_ix (ix_anyK (K := K) rfl hu1) (pv 3) pe_int (fun _ _ => rfl)) rfl)
      (pss_cons (ps_fldK (K := K) rfl (pv 0) (pe_ix (ix_anyK (K := K) rfl hu1) (pv 3) pe_int (fun _ _ => rfl)) rfl)
      (pss_cons (ps_fldK (K := K) rfl (pv 0) (pe_lst (pa_cons (pe_ix (ix_anyK (K := K) rfl hu1) (pv 3) pe_int (fun _ _ => rfl)) (pa_cons (pe_ix (ix_anyK (K := K) rfl hu1) (pv 3) pe_int (fun _ _ => rfl)) pa_nil))) rfl)
      (pss_cons (ps_fldK (K := K) rfl (pv 0) pe_dnew rfl)
      (pss_cons (ps_fldK (K := K) rfl (pv 0) (pe_lst pa_nil) rfl)
      (pss_one (ps_fldK (K := K) rfl (pv 0) pe_bl rfl))))))))), ?_⟩
    rw [Hap.data] at h1
    refine w_start (σ' := [some (.ref self), some (.ref dr), some (.ref p), some hv]) rfl z ?_
    dsimp only [List.cons_append, List.nil_append]
    k_extra "W"
    refine w_sfldL (by k_extra "sw") (by k_extra "pt") T.c_Doing T.n_Doing_draws rfl ?_
    k_extra "W"
    refine w_sfldL (by k_extra "sw") (by k_extra "pt") T.c_Doing T.n_Doing_state rfl ?_
    k_extra "W"
    refine w_sfldL (by k_extra "sw") (by k_extra "pt") T.c_Doing T.n_Doing_key rfl ?_
    k_extra "W"
    refine w_sfldL (by k_extra "sw") (by k_extra "pt") T.c_Doing T.n_Doing_at rfl ?_
    k_extra "W"
    refine w_lstO fun gt => ?_
    refine w_freeze (p := gt) (by k_extra "t") (by k_extra "dl") ?_
    k_extra "W"
    refine w_sfldL (by k_extra "sw") (by k_extra "pt") T.c_Doing T.n_Doing_got rfl ?_
    k_extra "W"
    refine w_dK fun wr => ?_
    k_extra "W"
    refine w_sfldL (by k_extra "sw") (by k_extra "pt") T.c_Doing T.n_Doing_written rfl ?_
    k_extra "W"
    refine w_lstO fun n => ?_
    k_extra "W"
    refine w_sfldL (by k_extra "sw") (by k_extra "pt") T.c_Doing T.n_Doing_news rfl ?_
    k_extra "W"
    refine w_sfldL (by k_extra "sw") (by k_extra "pt") T.c_Doing T.n_Doing_ends rfl ?_
    k_extra "W"
    exact fun H z => q _ _ _ _ ⟨_, gt, wr, n, rfl, rfl, rfl⟩ (z.fit (by k_extra "sub") Dr.refl)
theorem ok_deeds_for (T : Tx K mg) : OkG P w K mg base 1 "deeds_for" ["model", "at", "sign"] (spDeedsFor K) := by
  refine T.f_deeds_for.okX sc_deeds_for (fun vs H Q E h => ?_) (fun cdv A outer s H vs Q E hr h => ?_)
  · obtain ⟨i, _, _, rfl, _⟩ := h
    rfl
  · have hu1 := hu_of hr; have hu0 := hr.units0; have hu64 := hr.units; have hu65 := hu65_of hr; have nd := sc_deeds_for.nd
    obtain ⟨⟨pm, ms, at_, m, sign⟩, Γ, S, rfl, z, h1, q, x⟩ := h
    dsimp only at z h1 q x
    obtain ⟨⟨dx, lm, hm1, hm2⟩, hm⟩ := h1
    refine ⟨_, (pss_cons (ps_for (passes_of rfl) rfl (pi_seqK (K := K) rfl (pe_ix (ix_anyK (K := K) rfl hu1) (pe_ix (ix_anyK (K := K) rfl hu1) (pe_fldK (K := K) rfl (pv 0) rfl) (pv 1) (fun _ _ => rfl)) pe_int (fun _ _ => rfl))) (pg_tupK (K := K) (n := 2) rfl rfl (pgs_cons (pg_name (i := 3) nd rfl (Or.inl rfl)) (pgs_cons (pg_name (i := 4) nd rfl (Or.inl rfl)) pgs_nil)) rfl rfl)
      (pss_one (ps_if (pt_cmpR (op_eqK (K := K) rfl hu64) (pv 3) (pv 2) (nomark _)) (pss_one (ps_ret (pv 4)))
      pss_nil)))
      (pss_one (ps_ret (pe_lst pa_nil)))), ?_⟩
    refine w_start (σ' := [some (.ref pm), some (.int (at_ : Int)), some (.str sign), none, none]) rfl z ?_
    k_extra "W"
    refine w_subL hm2 (atI_nat (v := m.data) (by rw [List.getElem?_map, hm]; rfl)) fun am => ?_
    unfold Mach.data
    k_extra "W"
    refine w_loop_D (ι := Option V × Option V) (m.hears.map hearD) (fun j _ => (m.hears.take j).find? (fun p => decide (p.1 = sign)) = none) (fun _ a => [some (.ref pm), some (.int (at_ : Int)), some (.str sign), a.1, a.2]) (fun _ _ => _) (fun _ _ => _)
      (none, none) rfl rfl (sub_refl) (by k_extra "dr") (fun _ _ => by k_extra "m") ?_ ?_
    · rintro j d v ⟨u1, u2⟩ hj hC
      rw [List.getElem?_map] at hj
      obtain ⟨p, hp, rfl⟩ := Option.map_eq_some_iff.mp hj
      unfold hearD
      k_extra "W"
      refine w_eqs ?_
      k_extra "W"
      refine w_ite (fun e => ?_) (fun e => ?_)
      · k_extra "W"
        have e2 : m.deedsFor sign = p.2 := by
          unfold Mach.deedsFor
          have : m.hears.find? (fun p => decide (p.1 = sign)) = some p := by
            rw [← List.take_append_drop j m.hears, List.find?_append, hC, Option.none_or]
            have h0 : m.hears.drop j = p :: m.hears.drop (j + 1) := by
              obtain ⟨hlt, he⟩ := List.getElem?_eq_some_iff.mp hp
              rw [List.drop_eq_getElem_cons hlt, he]
            rw [h0, List.find?_cons_of_pos (by simpa using e)]
          rw [this]
        rw [e2] at q
        exact fun H z => q _ _ _ _ ⟨_, rfl, rfl, rfl⟩ (z.fit (by k_extra "sub") (by k_extra "dr"))
      · k_extra "W"
        refine w_again (_, _) ?_ rfl (by k_extra "sub") (by k_extra "dr")
        rw [List.take_add_one, hp, List.find?_append, hC, Option.none_or]
        exact List.find?_cons_of_neg (by simpa using e)
    · rintro ⟨u1, u2⟩ hC
      rw [List.length_map, List.take_of_length_le (Nat.le_refl _)] at hC
      k_extra "W"
      refine w_lstO fun l => ?_
      refine w_freeze (p := l) (by k_extra "t") (by k_extra "dl") ?_
      have e2 : m.deedsFor sign = [] := by unfold Mach.deedsFor; rw [hC]
      rw [e2, Dd.datas] at q
      exact fun H z => q _ _ _ _ ⟨l, rfl, rfl, rfl⟩ (z.fit (by k_extra "sub") (by k_extra "dr"))
theorem take_ns {α β : Type} {l : List α} {f : α → β} {j : Nat} {x : α} (h : l[j]? = some x) : ((l.map f).take (j + 1)) = (l.map f).take j ++ [f x] := by
  rw [List.take_add_one, List.getElem?_map, h]
  rfl
theorem wB_take {s : Do} {ns : List Str} {j : Nat} {x : Str} (h : ns[j]? = some x) : s.wB (ns.take (j + 1)) = if x ∈ s.wr then s.wB (ns.take j) ++ [(x, lookD 0 x s.st.boxes)] else s.wB (ns.take j) := by
  unfold Do.wB
  rw [List.take_add_one, h, List.filter_append, List.map_append]
  by_cases e : x ∈ s.wr <;> simp [e]
theorem wQ_take {s : Do} {ns : List Str} {j : Nat} {x : Str} (h : ns[j]? = some x) : s.wQ (ns.take (j + 1)) = if x ∈ s.wr then s.wQ (ns.take j) ++ [(x, lookD [] x s.st.queues)] else s.wQ (ns.take j) := by
  unfold Do.wQ
  rw [List.take_add_one, h, List.filter_append, List.map_append]
  by_cases e : x ∈ s.wr <;> simp [e]
theorem qtF_snoc {G : Hp} {qw : List (Str × List Int)} {ts qls : List Addr} {x : Str × List Int} {t a : Addr} (l1 : ts.length = qw.length) (l2 : qls.length = qw.length) (h : (qtF qw ts qls).In K G) (ht : G t = some (.tup [.str x.1, .ref a])) : (qtF (qw ++ [x]) (ts ++ [t]) (qls ++ [a])).In K G := by
  intro i y u b h1 h2 h3
  by_cases hi : i < qw.length
  · rw [List.getElem?_append_left hi] at h1
    rw [List.getElem?_append_left (by omega)] at h2 h3
    exact h i y u b h1 h2 h3
  · rw [List.getElem?_append_right (by omega)] at h1 h2 h3
    rw [l1] at h2
    rw [l2] at h3
    have e : i - qw.length = 0 := by
      have := (List.getElem?_eq_some_iff.mp h1).1
      simp only [List.length_singleton] at this
      omega
    rw [e] at h1 h2 h3
    simp only [List.getElem?_cons_zero, Option.some.injEq] at h1 h2 h3
    subst h1 h2 h3
    exact ht
theorem ok_Doing_writes (T : Tx K mg) : OkM P w K mg base 1 "Doing" "writes" ["self", "machine"] (spWrites K) := by
  refine T.f_Doing_writes.okX sc_Doing_writes (fun vs H Q E h => ?_) (fun cdv A outer s H vs Q E hr h => ?_)
  · obtain ⟨i, _, _, rfl, _⟩ := h
    rfl
  · have hu1 := hu_of hr; have hu0 := hr.units0; have hu64 := hr.units; have hu65 := hu65_of hr; have nd := sc_Doing_writes.nd
    obtain ⟨⟨i, v, m⟩, Γ, S, rfl, z, h1, q, x⟩ := h
    dsimp only at z h1 q x
    obtain ⟨hp, hv, hB, hZ, hsm⟩ := h1
    refine ⟨_, (pss_cons (ps_setLc (i := 3) rfl nd rfl rfl (sw_true rfl rfl rfl (by decide +kernel)) (own := [("name", 2), ("worth", 4)]) (pi_seqK (K := K) rfl (pe_ix (ix_anyK (K := K) rfl hu1) (pv 1) pe_int (fun _ _ => rfl))) (blkOk_by (own := [("name", 2), ("worth", 4)]) (N := nm_Doing_writes) (sc := defScope s_Doing_writes) (by decide +kernel)) (fun _ _ _ _ _ => (pg_tupK (K := K) (n := 2) rfl rfl (pgs_cons (pg_name (i := 2) nd rfl (Or.inl rfl) (Or.inr rfl)) (pgs_cons (pg_name (i := 4) nd rfl (Or.inl rfl) (Or.inr rfl)) pgs_nil)) rfl rfl)) (fun _ _ _ _ _ => (pts_one (pt_cmpR (op_inK (K := K) rfl hu65) (pv 2) (pe_fldK (K := K) rfl (pv 0) rfl) rfl))) (fun _ _ _ _ _ => (pe_tup (pa_cons (pv 2) (pa_cons (pe_ix (ix_anyK (K := K) rfl hu1) (pe_fldK (K := K) rfl (pe_fldK (K := K) rfl (pv 0) rfl) rfl) (pv 2) (fun _ _ => rfl)) pa_nil)))))
      (pss_cons (ps_for (passes_of rfl) rfl (pi_seqK (K := K) rfl (pe_ix (ix_anyK (K := K) rfl hu1) (pv 1) pe_int (fun _ _ => rfl))) (pg_name (i := 2) nd rfl (Or.inl rfl))
      (pss_one (ps_if (pt_cmpR (op_inK (K := K) rfl hu65) (pv 2) (pe_fldK (K := K) rfl (pv 0) rfl) rfl) (pss_one (ps_expr (pe_bmK (K := K) rfl PySem.F.plainAttrs_list PySem.F.slot_list_append PySem.F.type_list_append mt_append (pv 3) (pa_cons (pe_tup (pa_cons (pv 2) (pa_cons (pe_callTy (call_listK (K := K) rfl) (by rfl) T.b_list (by decide +kernel) (pa_cons (pe_ix (ix_anyK (K := K) rfl hu1) (pe_fldK (K := K) rfl (pe_fldK (K := K) rfl (pv 0) rfl) rfl) (pv 2) (fun _ _ => rfl)) pa_nil)) pa_nil))) pa_nil))))
      pss_nil)))
      (pss_one (ps_ret (pv 3))))), ?_⟩
    unfold Mach.data at hv
    refine w_start (σ' := [some (.ref i.a.self), some v, none, none, none]) rfl z ?_
    dsimp only [doS, List.cons_append, List.nil_append]
    k_extra "W"
    refine w_dats (vs := []) (ds := []) DL.nil ?_
    have e0 : wbD (i.s.wB (m.ns.take 0)) = [] := rfl
    have keyB : ∀ b, b ∈ m.ns → b ∈ i.s.st.bs := fun b hb => by rw [hp.s.bs, hB]; exact hb
    have keyQ : ∀ b, b ∈ m.queues → b ∈ i.s.st.qs := fun b hb => by rw [hp.s.qs, hZ]; exact hb
    have hsb := hsm.boxes
    have hsq := hsm.queues
    refine w_lc_D (ι := List V) (m.boxes.map boxD) (fun _ _ => True) (fun _ a => a) (fun j a => .dats a (wbD (i.s.wB (m.ns.take j))) :: _) (fun _ _ => doS K i.a i.c i.s ++ S) [] True.intro rfl (by rw [e0]; exact sub_refl) Dr.refl (fun _ _ => by k_extra "m") ?_ ?_
    · rintro Dl j d u acc hj _
      rw [List.getElem?_map] at hj
      obtain ⟨p, hpj, rfl⟩ := Option.map_eq_some_iff.mp hj
      unfold boxD
      have hns : m.ns[j]? = some p.1 := by unfold Mach.ns; rw [List.getElem?_map, hpj]; rfl
      have hw := wB_take (s := i.s) hns
      dsimp only [doS, List.cons_append, List.nil_append]
      refine w_lenv (vs := acc) (by k_extra "m") fun hal => ?_
      have hlen : acc.length ≤ 100000 := by
        rw [hal]
        unfold wbD Do.wB
        rw [List.length_map, List.length_map]
        have h1 := List.length_filter_le (fun x => decide (x ∈ i.s.wr)) (m.ns.take j)
        have h2 := List.length_take_le' j m.ns
        unfold Mach.ns at h1 h2
        rw [List.length_map] at h2
        unfold Mach.ns
        omega
      k_extra "W"
      refine w_inK (by k_extra "at") wrV_val ?_
      k_extra "W"
      refine w_ite (fun h => ?_) (fun h => ?_)
      · rw [if_pos h] at hw
        k_extra "W"
        refine w_subK (by k_extra "at") (val_boxes (keyB _ (List.mem_of_getElem? hns))) ?_
        k_extra "W"
        refine w_dats (vs := acc ++ [_]) (ds := wbD (i.s.wB (m.ns.take (j + 1)))) (by rw [hw]; unfold wbD; rw [List.map_append]; exact DL.snoc (DL.mem (by k_extra "m")) (DV.mem (by k_extra "m"))) ?_
        exact w_lcp (acc ++ [_]) True.intro rfl Take.here hlen (by k_extra "sub") (by k_extra "dr")
      · rw [if_neg h] at hw
        refine w_lcn acc True.intro (by rw [hw]; k_extra "sub") (by k_extra "dr")
    · rintro Dl acc _
      have e1 : m.ns.take (m.boxes.map boxD).length = m.ns := by
        rw [List.length_map, List.take_of_length_le]
        unfold Mach.ns
        rw [List.length_map]
        exact Nat.le_refl _
      rw [e1]
      refine w_lenv (vs := acc) (by k_extra "m") fun hal => ?_
      have hlen : acc.length ≤ 1000 := by
        rw [hal]
        unfold wbD Do.wB
        rw [List.length_map, List.length_map]
        have h1 := List.length_filter_le (fun x => decide (x ∈ i.s.wr)) m.ns
        have h2 : m.ns.length = m.boxes.length := List.length_map ..
        omega
      dsimp only [doS, List.cons_append, List.nil_append]
      k_extra "W"
      refine Wh.learn (f := qtF [] [] []) (fun G _ => fun i x t a h => by simp at h) ?_
      refine w_loop_D (ι := Option V × List Addr × List Addr) (m.queues.map PyData.str) (fun j a => a.2.1.length = (i.s.wQ (m.queues.take j)).length ∧ a.2.2.length = (i.s.wQ (m.queues.take j)).length) (fun _ a => [some (.ref i.a.self), some v, a.1, some (.ref Dl), none]) (fun j a => qtF (i.s.wQ (m.queues.take j)) a.2.1 a.2.2 :: _)
        (fun j a => own Dl (.lst (acc ++ a.2.1.map V.ref)) :: quV (i.s.wQ (m.queues.take j)) a.2.2 :: (doS K i.a i.c i.s ++ S)) (none, [], []) ⟨rfl, rfl⟩ rfl sub_refl (by rw [List.map_nil, List.append_nil]; exact ⟨[], List.Perm.refl _⟩) (fun _ _ => by k_extra "m") ?_ ?_
      · rintro j d u ⟨w1, ts, qls⟩ hj ⟨l1, l2⟩
        dsimp only at l1 l2
        rw [List.getElem?_map] at hj
        obtain ⟨qn, hqn, rfl⟩ := Option.map_eq_some_iff.mp hj
        have hw := wQ_take (s := i.s) hqn
        dsimp only [doS, List.cons_append, List.nil_append]
        have hts : ts.length ≤ 1000 := by
          rw [l1]
          unfold Do.wQ
          rw [List.length_map]
          have h1 := List.length_filter_le (fun x => decide (x ∈ i.s.wr)) (m.queues.take j)
          have h2 := List.length_take_le' j m.queues
          omega
        refine w_str (by k_extra "m") fun eu => ?_
        subst eu
        k_extra "W"
        refine w_inK (by k_extra "at") wrV_val ?_
        k_extra "W"
        refine w_ite (fun h => ?_) (fun h => ?_)
        · rw [if_pos h] at hw
          have hx := keyQ _ (List.mem_of_getElem? hqn)
          obtain ⟨a, ha⟩ := q_addr hp.as hx
          have hat : ∀ {Γ S}, stV K i.a.p i.a.dxp i.a.b i.a.q i.a.as i.s.st ∈ S → AtH K Γ S a (.lst ((lookD [] qn i.s.st.queues).map V.int)) := fun m => at_q m hp.as hp.s.wo.nq hx ha
          k_extra "W"
          refine w_subK (by k_extra "at") ha ?_
          k_extra "W"
          refine w_listL (hat (by k_extra "mr")) fun ql => ?_
          k_extra "W"
          refine w_app (by k_extra "sw") (by rw [List.length_append, List.length_map]; omega) ?_
          rename_i t
          rw [show acc ++ ts.map V.ref ++ [V.ref t] = acc ++ (ts ++ [t]).map V.ref by rw [List.map_append, List.append_assoc]; rfl]
          refine Wh.learn (f := qtF (i.s.wQ (m.queues.take j) ++ [(qn, lookD [] qn i.s.st.queues)]) (ts ++ [t]) (qls ++ [ql])) (fun G b => qtF_snoc l1 l2 (b (qtF _ _ _) (by k_extra "m")) (b (.obj t _) (by k_extra "m"))) ?_
          refine w_again (_, ts ++ [t], qls ++ [ql]) ⟨by rw [hw, List.length_append, List.length_append, l1]; rfl, by rw [hw, List.length_append, List.length_append, l2]; rfl⟩ rfl (by rw [hw]; k_extra "sub") ?_
          rw [hw, quV_app l2.symm]
          refine Dr.keep (by k_extra "t") (Dr.join ?_)
          show Dr _ (quV (i.s.wQ (m.queues.take j)) qls :: own ql (.lst ((lookD [] qn i.s.st.queues).map V.int)) :: _)
          k_extra "dr"
        · rw [if_neg h] at hw
          k_extra "W"
          refine w_again (_, ts, qls) (by rw [hw]; exact ⟨l1, l2⟩) rfl (by rw [hw]; k_extra "sub") (by rw [hw]; k_extra "dr")
      · rintro ⟨w1, ts, qls⟩ ⟨l1, l2⟩
        dsimp only at l1 l2 ⊢
        rw [List.length_map, List.take_of_length_le (Nat.le_refl _)] at l1 l2 ⊢
        k_extra "W"
        exact fun H z => q _ _ _ _ ⟨Dl, acc, ts, qls, rfl, l1, l2, rfl, rfl⟩ (z.fit (by k_extra "sub") Dr.refl)
end
end Mo
namespace Mo
open PySem PySem.Spec PyProof.Rows L2
/-! ### records and endings in the heap -/
structure RcO where
  r : Addr
  key : V
  lw : Addr
  bv : List V
  ts : List Addr
  qls : List Addr
  ln : Addr
  nv : List V
def RcO.F (o : RcO) (c : Rec) : List Fc := [.obj o.r (.tup [o.key, .int c.hap.to, .str c.hap.sign, .int c.hap.g, .int c.hap.h, .ref o.lw, .ref o.ln]), .dat o.key (.tuple [.int c.hap.time, .int c.hap.rank, .int c.hap.frm, .int c.hap.count]),
  qtF c.wq o.ts o.qls, .dats o.bv (wbD c.wb), .dats o.nv (c.news.map Hap.data)]
def rcS (p : RcO × Rec) : Vo := own p.1.lw (.lst (p.1.bv ++ p.1.ts.map V.ref)) ++ (quV p.2.wq p.1.qls ++ own p.1.ln (.lst p.1.nv))
def rcF (p : RcO × Rec) : List Fc := p.1.F p.2
structure RcO.Ok (o : RcO) (c : Rec) : Prop where
  ts : o.ts.length = c.wq.length
  qls : o.qls.length = c.wq.length
theorem dpa_qt {K : PySem.W.Frag} {H : Hp} : ∀ {qw : List (Str × List Int)} {ts qls : List Addr}, ts.length = qw.length → qls.length = qw.length → (∀ (i : Nat) (x : Str × List Int) (t a : Addr), qw[i]? = some x → ts[i]? = some t → qls[i]? = some a → H t = some (.tup [.str x.1, .ref a])) →
    (∀ (i : Nat) (x : Str × List Int) (a : Addr), qw[i]? = some x → qls[i]? = some a → H a = some (.lst (x.2.map V.int))) → DpAll K H (ts.map V.ref) (qw.map qD)
  | [], [], [], _, _, _, _ => .nil
  | [], [], _ :: _, _, h, _, _ => by simp at h
  | [], _ :: _, _, h, _, _, _ => by simp at h
  | _ :: _, [], _, h, _, _, _ => by simp at h
  | _ :: _, _ :: _, [], _, h, _, _ => by simp at h
  | x :: qw, t :: ts, a :: qls, h1, h2, h3, h4 => by
    rw [List.map_cons, List.map_cons]
    refine .cons (.tup (SqT.of (h3 0 x t a rfl rfl rfl)) (.cons (.str _) (.cons (.lst (SqL.of (h4 0 x a rfl rfl)) (dpa_ints _)) .nil))) (dpa_qt (by simpa using h1) (by simpa using h2) (fun i y u b e1 e2 e3 => h3 (i + 1) y u b ?_ ?_ ?_) (fun i y b e1 e2 => h4 (i + 1) y b ?_ ?_))
    all_goals (rw [List.getElem?_cons_succ]; assumption)
section
variable {K : PySem.W.Frag} {Γ : List Fc} {S R S0 : List Vo} {o : RcO} {c : Rec} {P : Hp → Prop}
theorem w_rcOpen (m : Take (rcS (o, c)) S R) (k : Wh K Γ (own o.lw (.lst (o.bv ++ o.ts.map V.ref)) :: quV c.wq o.qls :: own o.ln (.lst o.nv) :: R) P) : Wh K Γ S P := fun H z =>
  k H ((z.tk1 m).cong (by
    have e : rcS (o, c) = own o.lw (.lst (o.bv ++ o.ts.map V.ref)) ++ (quV c.wq o.qls ++ own o.ln (.lst o.nv)) := rfl
    rw [List.flatten_cons, List.flatten_cons, List.flatten_cons, List.flatten_cons, e, List.append_assoc, List.append_assoc]))
theorem Dr.rc (h : Dr S0 (own o.lw (.lst (o.bv ++ o.ts.map V.ref)) :: quV c.wq o.qls :: own o.ln (.lst o.nv) :: R)) : Dr S0 (rcS (o, c) :: R) := by
  obtain ⟨J, j⟩ := h
  refine ⟨J, j.trans ?_⟩
  have e : rcS (o, c) = own o.lw (.lst (o.bv ++ o.ts.map V.ref)) ++ (quV c.wq o.qls ++ own o.ln (.lst o.nv)) := rfl
  rw [List.flatten_append, List.flatten_append, List.flatten_cons, List.flatten_cons, List.flatten_cons, List.flatten_cons, e, List.append_assoc, List.append_assoc]
end
/-- a record as data -/
theorem dp_rc {K : PySem.W.Frag} {p : RcO × Rec} {G H : Hp} {L : Vo} (ok : p.1.Ok p.2) (z : Hd G H (rcS p ++ L)) (fs : ∀ f ∈ rcF p, f.In K G) : Dp K H (.ref p.1.r) p.2.data := by
  have f1 : G p.1.r = some (.tup [p.1.key, .int p.2.hap.to, .str p.2.hap.sign, .int p.2.hap.g, .int p.2.hap.h, .ref p.1.lw, .ref p.1.ln]) := fs (.obj _ _) List.mem_cons_self
  have f2 : Dp K G p.1.key (.tuple [.int p.2.hap.time, .int p.2.hap.rank, .int p.2.hap.frm, .int p.2.hap.count]) := fs (.dat _ _) (List.mem_cons_of_mem _ List.mem_cons_self)
  have f3 : (qtF p.2.wq p.1.ts p.1.qls).In K G := fs _ (List.mem_cons_of_mem _ (List.mem_cons_of_mem _ List.mem_cons_self))
  have f4 : DpAll K G p.1.bv (wbD p.2.wb) := fs (.dats _ _) (List.mem_cons_of_mem _ (List.mem_cons_of_mem _ (List.mem_cons_of_mem _ List.mem_cons_self)))
  have f5 : DpAll K G p.1.nv (p.2.news.map Hap.data) := fs (.dats _ _) (List.mem_cons_of_mem _ (List.mem_cons_of_mem _ (List.mem_cons_of_mem _ (List.mem_cons_of_mem _ List.mem_cons_self))))
  have s1 : H p.1.lw = some (.lst (p.1.bv ++ p.1.ts.map V.ref)) := z.eq List.mem_cons_self
  have s3 : H p.1.ln = some (.lst p.1.nv) := z.eq (List.mem_append_left _ (List.mem_append_right _ (List.mem_append_right _ List.mem_cons_self)))
  have hq : ∀ (i : Nat) (y : Str × List Int) (a : Addr), p.2.wq[i]? = some y → p.1.qls[i]? = some a → H a = some (.lst (y.2.map V.int)) := fun i y a e1 e2 => z.eq (List.mem_append_left _ (List.mem_append_right _ (List.mem_append_left _ (by
    have e : (p.2.wq.zip p.1.qls)[i]? = some (y, a) := by rw [List.getElem?_zip_eq_some]; exact ⟨e1, e2⟩
    exact List.mem_map.mpr ⟨(y, a), List.mem_of_getElem? e, rfl⟩))))
  exact .tup (SqT.of (z.ex _ _ f1)) (.cons (dp_mono z.ex f2) (.cons (.int _) (.cons (.str _) (.cons (.int _) (.cons (.int _) (.cons (.lst (SqL.of s1) (dpa_app (dpa_mono z.ex f4) (dpa_qt ok.ts ok.qls (fun i x t a h1 h2 h3 => z.ex _ _ (f3 i x t a h1 h2 h3)) hq))) (.cons (.lst (SqL.of s3) (dpa_mono z.ex f5)) .nil)))))))
theorem dpH_recs {K : PySem.W.Frag} {Γ : List Fc} {S : List Vo} {rs : List (RcO × Rec)} (m1 : allF K rcF rs ∈ Γ) (m2 : segsV rcS rs ∈ S) (ok : ∀ p ∈ rs, p.1.Ok p.2) : ∀ H, Hg K Γ S H → DpAll K H (rs.map fun p => V.ref p.1.r) (rs.map fun p => p.2.data) := fun H z => by
  obtain ⟨G, L, z1, z2⟩ := z.seg m2
  have fs : ∀ e ∈ rs, ∀ x ∈ rcF e, x.In K G := z2 _ m1
  clear m1 m2 z z2
  induction rs generalizing L with
  | nil => exact .nil
  | cons p rs ih =>
    have e : segsV rcS (p :: rs) = rcS p ++ segsV rcS rs := rfl
    rw [e] at z1
    rw [List.map_cons, List.map_cons]
    refine .cons (dp_rc (L := segsV rcS rs ++ L) (ok p List.mem_cons_self) (by rw [← List.append_assoc]; exact z1) (fs p List.mem_cons_self)) (ih (fun q hq => ok q (List.mem_cons_of_mem _ hq)) (rcS p ++ L) (z1.perm ?_) fun q hq => fs q (List.mem_cons_of_mem _ hq))
    rw [← List.append_assoc]
    exact List.Perm.append_right _ List.perm_append_comm
theorem dpH_recL {K : PySem.W.Frag} {Γ : List Fc} {S : List Vo} {rs : List (RcO × Rec)} {lr : Addr} (m1 : allF K rcF rs ∈ Γ) (m2 : segsV rcS rs ∈ S) (m3 : own lr (.lst (rs.map fun p => V.ref p.1.r)) ∈ S) (ok : ∀ p ∈ rs, p.1.Ok p.2) : ∀ H, Hg K Γ S H → Dp K H (.ref lr) (.list ((rs.map (·.2)).map Rec.data)) := fun H z => by
  have h := dpH_recs m1 m2 ok H z
  rw [List.map_map]
  exact .lst (SqL.of (z.own m3)) h
theorem dpa_take2 {K : PySem.W.Frag} {H : Hp} : ∀ {vs : List V} {ds : List PyData} (n : Nat), DpAll K H vs ds → DpAll K H (vs.take n) (ds.take n)
  | _, _, 0, _ => .nil
  | _, _, _ + 1, .nil => .nil
  | _, _, n + 1, .cons h r => .cons h (dpa_take2 n r)
theorem dpH_recT {K : PySem.W.Frag} {Γ : List Fc} {S : List Vo} {rs : List (RcO × Rec)} {l : Addr} {n : Nat} (m1 : allF K rcF rs ∈ Γ) (m2 : segsV rcS rs ∈ S) (m3 : own l (.lst ((rs.map fun p => V.ref p.1.r).take n)) ∈ S) (ok : ∀ p ∈ rs, p.1.Ok p.2) : ∀ H, Hg K Γ S H → Dp K H (.ref l) (.list (((rs.map (·.2)).take n).map Rec.data)) := fun H z => by
  have h := dpa_take2 n (dpH_recs m1 m2 ok H z)
  rw [List.map_take, List.map_map]
  exact .lst (SqL.of (z.own m3)) h
theorem segs_mem {α : Type} {f : α → Vo} {es : List α} {e : α} {x : Addr × (HO → Prop)} (h : e ∈ es) (hx : x ∈ f e) : x ∈ segsV f es := List.mem_flatten.mpr ⟨f e, List.mem_map_of_mem h, hx⟩
theorem at_rcN {K : PySem.W.Frag} {Γ : List Fc} {S : List Vo} {rs : List (RcO × Rec)} {o : RcO} {c : Rec} (m : segsV rcS rs ∈ S) (h : (o, c) ∈ rs) : AtH K Γ S o.ln (.lst o.nv) := AtH.seg m fun _ _ _ z => z.eq (List.mem_append_left _ (segs_mem h (List.mem_append_right _ (List.mem_append_right _ List.mem_cons_self))))
theorem at_rcW {K : PySem.W.Frag} {Γ : List Fc} {S : List Vo} {rs : List (RcO × Rec)} {o : RcO} {c : Rec} (m : segsV rcS rs ∈ S) (h : (o, c) ∈ rs) : AtH K Γ S o.lw (.lst (o.bv ++ o.ts.map V.ref)) := AtH.seg m fun _ _ _ z => z.eq (List.mem_append_left _ (segs_mem h List.mem_cons_self))
end Mo
namespace Mo
open PySem PySem.Spec PyProof.Rows L2
/-! ### records of a run: data that may be compared -/
structure RecR (c : Rec) : Prop where
  sign : SOk c.hap.sign
  wb : ∀ p ∈ c.wb, SOk p.1
  wq : ∀ p ∈ c.wq, SOk p.1
  news : ∀ x ∈ c.news, SOk x.sign
theorem recs_shaped {rs : List Rec} (h : ∀ c ∈ rs, RecR c) : SeqAt.shaped (.list (rs.map Rec.data)) = true :=
  (Shp.lst (n := 4) (Shps.map fun c hc => Rec.shp (h c hc).sign (h c hc).wb (h c hc).wq (h c hc).news)).shaped (by decide)
theorem word_sok (f : Flt) : SOk f.word := by
  cases f <;> exact (show PyData.strOk _ = true by decide +kernel)
theorem keyD_shp (x : Hap) : Shp 1 x.keyD := .tup (.cons .int (.cons .int (.cons .int (.cons .int .nil))))
theorem lit_sok : SOk "end" ∧ SOk "fault" ∧ SOk "empty" ∧ SOk "cut" := ⟨(show PyData.strOk _ = true by decide +kernel), (show PyData.strOk _ = true by decide +kernel), (show PyData.strOk _ = true by decide +kernel), (show PyData.strOk _ = true by decide +kernel)⟩
theorem ending_shaped (e : Ending) : SeqAt.shaped e.data = true := by
  have one : ∀ {ds : List PyData}, Shps 1 ds → SeqAt.shaped (.tuple ds) = true := fun h => (Shp.tup h).shaped (by decide)
  cases e with
  | fin x => exact one (.cons (.str lit_sok.1) (.cons (keyD_shp x) .nil))
  | fault f x => exact one (.cons (.str lit_sok.2.1) (.cons (.str (word_sok f)) (.cons (keyD_shp x) .nil)))
  | empty => exact one (.cons (.str lit_sok.2.2.1) .nil)
  | cut => exact one (.cons (.str lit_sok.2.2.2) .nil)
theorem ending_tup (e : Ending) : ∃ ds, e.data = .tuple ds := by
  cases e <;> exact ⟨_, rfl⟩
section
variable {n : Nat} {ss : List Str} {ms : List Mach}
theorem told_recR {m : Mach} {x : Hap} {d : Do} (h1 : SOk x.sign) (h2 : ∀ y, y ∈ m.ns ∨ y ∈ m.queues → SOk y) (h3 : ∀ y ∈ d.news, SOk y.sign) : RecR (d.told m x) where
  sign := h1
  wb := fun p hp => by
    obtain ⟨y, hy, rfl⟩ := List.mem_map.mp (show p ∈ d.wB m.ns from hp)
    exact h2 y (.inl (List.mem_filter.mp hy).1)
  wq := fun p hp => by
    obtain ⟨y, hy, rfl⟩ := List.mem_map.mp (show p ∈ d.wQ m.queues from hp)
    exact h2 y (.inr (List.mem_filter.mp hy).1)
  news := h3
/-- what is so of each record of a run -/
theorem go_all {sok : Str → Prop} (hm : MdR n ss ms) (hss : ∀ x ∈ ss, sok x) {R : Rec → Prop} (hR : ∀ (r : Run) x m s d, RunR ms sok r → r.pend[place r.pend]? = some x → ms[x.to.toNat]? = some m → r.sts[x.to.toNat]? = some s → m.doing s x = .ok d → R (d.told m x)) : ∀ (k : Nat) (r : Run), RunR ms sok r → ∀ c ∈ (r.go ms k).2, R c
  | 0, r, _, c, h => nomatch h
  | k + 1, r, hr, c, h => by
    by_cases ho : r.ended.isSome = true ∨ r.pend = []
    · rw [go_over ho] at h
      cases h
    · have h1 : r.ended = none := by
        cases e : r.ended with
        | none => rfl
        | some _ => exact absurd (.inl (by rw [e]; rfl)) ho
      have h2 : r.pend ≠ [] := fun e => ho (.inr e)
      obtain ⟨x, m, s, a1, a2, a3, hx, hs⟩ := act_at hr h2
      cases e : m.doing s x with
      | error f =>
        rw [go_none h1 h2 (by rw [act_err a1 a2 a3 e])] at h
        cases h
      | ok d =>
        have ha := act_ok a1 a2 a3 e
        rw [go_some h1 h2 (by rw [ha])] at h
        rcases List.mem_cons.mp h with h | h
        · rw [h]
          exact hR r x m s d hr a1 a2 a3 e
        · exact go_all hm hss hR k _ (hr.act hm hss h2) c h
theorem go_recR (hm : MdR n ss ms) (hss : ∀ x ∈ ss, SOk x) (hn : ∀ m ∈ ms, ∀ y, y ∈ m.ns ∨ y ∈ m.queues → SOk y) (k : Nat) (r : Run) (hr : RunR ms SOk r) : ∀ c ∈ (r.go ms k).2, RecR c :=
  go_all hm hss (fun r x m s d hr a1 a2 a3 e => told_recR (hr.pd x (List.mem_of_getElem? a1)).sign (hn m (List.mem_of_getElem? a2)) fun y hy => ((doing_ok hm hss (List.mem_of_getElem? a2) (hr.st _ _ _ a2 a3) (hr.pd x (List.mem_of_getElem? a1)) e).2.1 y hy).1.sign) k r hr
theorem go_runR {sok : Str → Prop} (hm : MdR n ss ms) (hss : ∀ x ∈ ss, sok x) : ∀ (k : Nat) (r : Run), RunR ms sok r → RunR ms sok (r.go ms k).1
  | 0, r, hr => hr
  | k + 1, r, hr => by
    by_cases ho : r.ended.isSome = true ∨ r.pend = []
    · rw [go_over ho]
      exact hr
    · have h1 : r.ended = none := by
        cases e : r.ended with
        | none => rfl
        | some _ => exact absurd (.inl (by rw [e]; rfl)) ho
      have h2 : r.pend ≠ [] := fun e => ho (.inr e)
      have ha := hr.act hm hss h2
      cases e : (r.act ms).2 with
      | none => rw [go_none h1 h2 e]; exact ha
      | some c => rw [go_some h1 h2 e]; exact go_runR hm hss k _ ha
structure RecS (c : Rec) : Prop where
  wb : c.wb.length ≤ 1000
  wq : c.wq.length ≤ 1000
  news : c.news.length ≤ 20
theorem go_recS {sok : Str → Prop} (hm : MdR n ss ms) (hss : ∀ x ∈ ss, sok x) (k : Nat) (r : Run) (hr : RunR ms sok r) : ∀ c ∈ (r.go ms k).2, RecS c :=
  go_all hm hss (fun r x m s d hr a1 a2 a3 e => by
    have hmm := List.mem_of_getElem? a2
    have h1 := (hm.ok m hmm).sm.boxes
    have h2 := (hm.ok m hmm).sm.queues
    refine ⟨?_, ?_, news_len hm hmm e⟩
    · show (d.wB m.ns).length ≤ 1000
      unfold Do.wB
      rw [List.length_map]
      have := List.length_filter_le (fun x => decide (x ∈ d.wr)) m.ns
      have h3 : m.ns.length = m.boxes.length := List.length_map ..
      omega
    · show (d.wQ m.queues).length ≤ 1000
      unfold Do.wQ
      rw [List.length_map]
      have := List.length_filter_le (fun x => decide (x ∈ d.wr)) m.queues
      omega) k r hr
end
end Mo
namespace Mo
open PySem PySem.Spec PyProof.Rows L2
/-! ### runs begin alike; their keys rise; whence each happening came -/
section
variable {ms : List Mach} {r : Run}
/-- one turn, or none -/
theorem go_cases (ms : List Mach) (r : Run) : (∀ k, r.go ms k = (r, [])) ∨ ((r.ended = none ∧ r.pend ≠ []) ∧ ((∃ r1, r.act ms = (r1, none) ∧ ∀ k, r.go ms (k + 1) = (r1, [])) ∨ ∃ r1 c, r.act ms = (r1, some c) ∧ ∀ k, r.go ms (k + 1) = ((r1.go ms k).1, c :: (r1.go ms k).2))) := by
  by_cases ho : r.ended.isSome = true ∨ r.pend = []
  · exact .inl fun k => go_over ho
  · have h1 : r.ended = none := by
      cases e : r.ended with
      | none => rfl
      | some _ => exact absurd (.inl (by rw [e]; rfl)) ho
    have h2 : r.pend ≠ [] := fun e => ho (.inr e)
    refine .inr ⟨⟨h1, h2⟩, ?_⟩
    cases e : (r.act ms).2 with
    | none => exact .inl ⟨(r.act ms).1, Prod.ext rfl e, fun k => go_none h1 h2 e⟩
    | some c => exact .inr ⟨(r.act ms).1, c, Prod.ext rfl e, fun k => go_some h1 h2 e⟩
theorem go_zero (ms : List Mach) (r : Run) : r.go ms 0 = (r, []) := rfl
theorem go_take : ∀ (j k : Nat) (r : Run), j ≤ k → (r.go ms j).2 = (r.go ms k).2.take j
  | 0, k, r, _ => by rw [go_zero, List.take_zero]
  | j + 1, 0, r, h => absurd h (by omega)
  | j + 1, k + 1, r, h => by
    rcases go_cases ms r with h1 | ⟨_, ⟨r1, _, h2⟩ | ⟨r1, c, _, h2⟩⟩
    · rw [h1, h1, List.take_nil]
    · rw [h2, h2, List.take_nil]
    · rw [h2, h2, List.take_succ_cons, go_take j k r1 (by omega)]
theorem go_len : ∀ (k : Nat) (r : Run), (r.go ms k).2.length ≤ k
  | 0, r => Nat.le_refl _
  | k + 1, r => by
    rcases go_cases ms r with h1 | ⟨_, ⟨r1, _, h2⟩ | ⟨r1, c, _, h2⟩⟩
    · rw [h1]; exact Nat.zero_le _
    · rw [h2]; exact Nat.zero_le _
    · rw [h2, List.length_cons]
      have := go_len k r1
      omega
/-- behind the first j records -/
theorem go_add : ∀ (j k : Nat) (r : Run), (r.go ms j).2.length = j → r.go ms (j + k) = (((r.go ms j).1.go ms k).1, (r.go ms j).2 ++ ((r.go ms j).1.go ms k).2)
  | 0, k, r, _ => by rw [Nat.zero_add, go_zero, List.nil_append]
  | j + 1, k, r, h => by
    rw [show j + 1 + k = (j + k) + 1 by omega]
    rcases go_cases ms r with h1 | ⟨_, ⟨r1, _, h2⟩ | ⟨r1, c, _, h2⟩⟩
    · rw [h1] at h; cases h
    · rw [h2] at h; cases h
    · rw [h2, List.length_cons] at h
      rw [h2, h2, go_add j k r1 (by omega)]
      rfl
/-- fewer records than let: it was over -/
theorem go_less : ∀ (j k : Nat) (r : Run), (r.go ms j).2.length < j → r.go ms (j + k) = r.go ms j
  | 0, k, r, h => absurd h (by omega)
  | j + 1, k, r, h => by
    rw [show j + 1 + k = (j + k) + 1 by omega]
    rcases go_cases ms r with h1 | ⟨_, ⟨r1, _, h2⟩ | ⟨r1, c, _, h2⟩⟩
    · rw [h1, h1]
    · rw [h2, h2]
    · rw [h2, List.length_cons] at h
      rw [h2, h2, go_less j k r1 (by omega)]
theorem go_more_cut : ∀ (j k : Nat) (r : Run), j < (r.go ms k).2.length → (r.go ms j).1.ending = .cut
  | 0, 0, r, h => absurd h (by rw [go_zero]; exact Nat.lt_irrefl 0)
  | j + 1, 0, r, h => by rw [go_zero] at h; cases h
  | 0, k + 1, r, h => by
    rw [go_zero]
    rcases go_cases ms r with h1 | ⟨⟨h3, h4⟩, _⟩
    · rw [h1] at h; cases h
    · exact ending_cut h3 h4
  | j + 1, k + 1, r, h => by
    rcases go_cases ms r with h1 | ⟨_, ⟨r1, _, h2⟩ | ⟨r1, c, _, h2⟩⟩
    · rw [h1] at h; cases h
    · rw [h2] at h; cases h
    · rw [h2, List.length_cons] at h
      rw [h2]
      exact go_more_cut j k r1 (by omega)
/-- as many records as let: cut, or over there -/
theorem go_same_end (j k : Nat) (r : Run) (h : (r.go ms (j + k)).2.length = j) : (r.go ms j).1.ending = .cut ∨ (r.go ms j).1.ending = (r.go ms (j + k)).1.ending := by
  have ht : (r.go ms j).2.length = j := by
    rw [go_take j (j + k) r (by omega), List.length_take, h, Nat.min_self]
  have e := go_add j k r ht
  cases k with
  | zero => exact .inr rfl
  | succ k =>
    rcases go_cases ms (r.go ms j).1 with h1 | ⟨⟨h3, h4⟩, _⟩
    · right
      rw [e, h1]
    · exact .inl (ending_cut h3 h4)
end
section
variable {n : Nat} {ss : List Str} {ms : List Mach} {sok : Str → Prop}
theorem time_lt {x y : Hap} (h : x.time < y.time) : HT.lexLt x.key y.key = true := by
  unfold Hap.key
  rw [HT.lexLt_cons, if_neg (by omega)]
  exact decide_eq_true h
/-- what is pending behind a happening comes later -/
theorem act_later (hm : MdR n ss ms) (hss : ∀ x ∈ ss, sok x) {r : Run} (hr : RunR ms sok r) (hk : RunK r) {x : Hap} {m : Mach} {s : MSt} {d : Do} (h1 : r.pend[place r.pend]? = some x) (h2 : ms[x.to.toNat]? = some m) (h3 : r.sts[x.to.toNat]? = some s) (e : m.doing s x = .ok d) : ∀ y ∈ r.pend.eraseIdx (place r.pend) ++ d.news, HT.lexLt x.key y.key = true := fun y hy => by
  rcases List.mem_append.mp hy with hy | hy
  · have hl := place_least h1 y (mem_erase hy)
    cases q : HT.lexLt x.key y.key with
    | true => rfl
    | false =>
      have heq := lex_tri hl q
      obtain ⟨i, hi⟩ := List.mem_iff_getElem?.mp hy
      rw [List.getElem?_eraseIdx] at hi
      split at hi
      · have := nodup_get hk.nd hi h1 heq
        omega
      · have := nodup_get hk.nd hi h1 heq
        omega
  · exact time_lt (((doing_ok hm hss (List.mem_of_getElem? h2) (hr.st _ _ _ h2 h3) (hr.pd x (List.mem_of_getElem? h1)) e).2.1 y hy).2.1)
/-- records of a run, from where it stands -/
structure GoF (r : Run) (rs : List Rec) : Prop where
  rise : rs.Pairwise fun a b => HT.lexLt a.hap.key b.hap.key = true
  low : ∀ k : List Int, (∀ x ∈ r.pend, HT.lexLt k x.key = true) → ∀ c ∈ rs, HT.lexLt k c.hap.key = true
  src : ∀ (i : Nat) (c : Rec), rs[i]? = some c → c.hap ∈ r.pend ∨ ∃ (j : Nat) (c' : Rec), j < i ∧ rs[j]? = some c' ∧ c.hap ∈ c'.news
  news : ∀ c ∈ rs, ∀ y ∈ c.news, HT.lexLt c.hap.key y.key = true ∧ y.frm = c.hap.to
theorem GoF.nil {r : Run} : GoF r [] where
  rise := List.Pairwise.nil
  low := fun _ _ _ h => nomatch h
  src := fun i c h => by simp at h
  news := fun _ h => nomatch h
theorem go_facts (hm : MdR n ss ms) (hss : ∀ x ∈ ss, sok x) : ∀ (k : Nat) (r : Run), RunR ms sok r → RunK r → GoF r (r.go ms k).2
  | 0, r, _, _ => .nil
  | k + 1, r, hr, hk => by
    rcases go_cases ms r with h1 | ⟨⟨h3, h4⟩, ⟨r1, _, h2⟩ | ⟨r1, c, ha, h2⟩⟩
    · rw [h1]; exact .nil
    · rw [h2]; exact .nil
    · rw [h2]
      obtain ⟨x, m, s, a1, a2, a3, hx, hs⟩ := act_at hr h4
      cases e : m.doing s x with
      | error f => rw [act_err a1 a2 a3 e] at ha; cases ha
      | ok d =>
        have hact := act_ok a1 a2 a3 e
        rw [ha] at hact
        injection hact with e1 e2
        injection e2 with e2
        subst e1
        subst e2
        have ih := go_facts hm hss k _ (hr.act_ok hm hss (en := if d.ends then some (.fin x) else none) a1 a2 a3 e) (hk.act_ok hr (en := if d.ends then some (.fin x) else none) a1 a2 a3 e)
        have hlat := act_later hm hss hr hk a1 a2 a3 e
        have hxm := List.mem_of_getElem? a1
        refine ⟨List.pairwise_cons.mpr ⟨fun b hb => ih.low x.key hlat b hb, ih.rise⟩, fun κ hκ c hc => ?_, fun i c hc => ?_, fun c hc => ?_⟩
        · rcases List.mem_cons.mp hc with rfl | hc
          · exact hκ x hxm
          · exact ih.low κ (fun y hy => lex_trans (hκ x hxm) (hlat y hy)) c hc
        · cases i with
          | zero =>
            cases hc
            exact .inl hxm
          | succ i =>
            rcases ih.src i c hc with h5 | ⟨j, c', hj, h5, h6⟩
            · rcases List.mem_append.mp h5 with h5 | h5
              · exact .inl (mem_erase h5)
              · exact .inr ⟨0, _, Nat.succ_pos _, rfl, h5⟩
            · exact .inr ⟨j + 1, c', Nat.succ_lt_succ hj, h5, h6⟩
        · rcases List.mem_cons.mp hc with rfl | hc
          · intro y hy
            have h5 := (doing_ok hm hss (List.mem_of_getElem? a2) hs hx e).2.1 y hy
            exact ⟨time_lt h5.2.1, h5.2.2⟩
          · exact ih.news c hc
end
end Mo
namespace Mo
open PySem PySem.Spec PyProof.Rows L2
/-! ### law_k17: a machine that counts (plain Lean) -/
def lastD (way : Nat) : Dd := match way with
  | 0 => .fin
  | 1 => .put "n" (.two .part (.num 1) (.num 0))
  | _ => .put "n" (.box "n")
def againD (span : Int) : Dd := .send 0 "go" (.num span) 3 (.got 0) .now
def deeds17 (turns span : Int) (way : Nat) : List Dd := [.put "n" (.two .plus (.box "n") (.num 1)), .iff (.two .same (.box "n") (.num turns)) [lastD way] [againD span]]
def m17 (turns span : Int) (way : Nat) : Mach := ⟨"m", [("n", 0)], [], [], [("go", deeds17 turns span way)]⟩
def s17 (n : Int) (k : Int) : MSt := ⟨[("n", n)], [], 0, k⟩
def x17 (first span : Int) : Nat → Hap
  | 0 => ⟨first, 0, -1, 0, 0, "go", 5, 6⟩
  | k + 1 => ⟨first + span * ((k : Int) + 1), 3, 0, (k : Int), 0, "go", 5, first + span * (k : Int)⟩
theorem x17_time (first span : Int) (k : Nat) : (x17 first span k).time = first + span * (k : Int) := by
  cases k with
  | zero => show first = first + span * ((0 : Nat) : Int); simp
  | succ k => show first + span * ((k : Int) + 1) = first + span * ((k + 1 : Nat) : Int); simp
theorem x17_g (first span : Int) (k : Nat) : (x17 first span k).g = 5 := by cases k <;> rfl
theorem x17_to (first span : Int) (k : Nat) : (x17 first span k).to = 0 := by cases k <;> rfl
theorem x17_sign (first span : Int) (k : Nat) : (x17 first span k).sign = "go" := by cases k <;> rfl
section
variable {turns span first : Int} {way k : Nat}
theorem for17 : (m17 turns span way).deedsFor "go" = deeds17 turns span way := by
  unfold Mach.deedsFor m17
  rw [List.find?_cons, decide_eq_true rfl]
theorem kept_small {n : Int} (h1 : -1000000 ≤ n) (h2 : n ≤ 1000000) : keptIn n = .ok n := by
  unfold keptIn
  rw [if_neg (by omega)]
theorem look17 (n k : Int) : lookD 0 "n" (s17 n k).boxes = n := by
  show (if ("n" : Str) = "n" then n else _) = n
  rw [if_pos rfl]
theorem setB17 (n k n2 : Int) : (s17 n k).setB "n" n2 = s17 n2 k := by
  unfold MSt.setB s17 setA
  rw [List.map_cons, List.map_nil]
  dsimp only
  rw [if_pos rfl]
theorem runs_one (c : DoC) (d : Dd) (s : Do) : Dd.runs c [d] s = Dd.run c d s := by
  rw [Dd.runs]
  cases Dd.run c d s with
  | error x => rfl
  | ok s' => show Dd.runs c [] s' = _; rw [Dd.runs]
/-- the first deed -/
theorem put17 (c : DoC) (hk : k ≤ 1000) : Dd.run c (.put "n" (.two .plus (.box "n") (.num 1))) ⟨s17 k k, [], [], false⟩ = .ok ⟨s17 (k + 1) k, ["n"], [], false⟩ := by
  rw [Dd.run]
  have e : Fm.ev (Do.env c ⟨s17 k k, [], [], false⟩) (.two .plus (.box "n") (.num 1)) = .ok ((k : Int) + 1) := by
    show Op.ev .plus (lookD 0 "n" (s17 k k).boxes) 1 = _
    rw [look17]
    show keptIn ((k : Int) + 1) = _
    exact kept_small (by omega) (by omega)
  rw [e]
  show Except.ok (Do.put _ "n" ((k : Int) + 1)) = _
  unfold Do.put
  dsimp only
  rw [setB17]
  rfl
theorem cond17 (c : DoC) {n : Int} {j : Int} {wr : List Str} {news : List Hap} {ends : Bool} : Fm.ev (Do.env c ⟨s17 n j, wr, news, ends⟩) (.two .same (.box "n") (.num turns)) = .ok (if n = turns then 1 else 0) := by
  show Op.ev .same (lookD 0 "n" (s17 n j).boxes) turns = _
  rw [look17]
  show keptIn (if n = turns then 1 else 0) = _
  exact kept_small (by split <;> omega) (by split <;> omega)
theorem runs17 (c : DoC) (hk : k ≤ 1000) : Dd.runs c (deeds17 turns span way) ⟨s17 k k, [], [], false⟩ = if (k : Int) + 1 = turns then Dd.runs c [lastD way] ⟨s17 (k + 1) k, ["n"], [], false⟩ else Dd.runs c [againD span] ⟨s17 (k + 1) k, ["n"], [], false⟩ := by
  unfold deeds17
  rw [Dd.runs, put17 c hk]
  show Dd.runs c [_] _ = _
  rw [runs_one, Dd.run, cond17]
  by_cases h : (k : Int) + 1 = turns
  · rw [if_pos h, if_pos h]
    show (if (1 : Int) = 0 then _ else _) = _
    rw [if_neg (by decide)]
  · rw [if_neg h, if_neg h]
    show (if (0 : Int) = 0 then _ else _) = _
    rw [if_pos rfl]
theorem last17 (c : DoC) {s : Do} (n : Int) (hs : s.st = s17 n k) : Dd.runs c [lastD way] s = match way with
    | 0 => .ok { s with ends := true }
    | 1 => .error .nought
    | _ => .ok (s.put "n" n) := by
  rw [runs_one]
  match way with
  | 0 => rw [show lastD 0 = .fin from rfl, Dd.run] <;> rfl
  | 1 => rw [show lastD 1 = .put "n" (.two .part (.num 1) (.num 0)) from rfl, Dd.run]; rfl
  | w + 2 =>
    rw [show lastD (w + 2) = .put "n" (.box "n") from rfl, Dd.run]
    have e : Fm.ev (s.env c) (.box "n") = .ok n := by
      show Except.ok (lookD 0 "n" s.st.boxes) = _
      rw [hs, look17]
    rw [e]
    rfl
theorem again17 (hs1 : 1 ≤ span) (hs2 : span ≤ 9) (hf : 0 ≤ first) (hf2 : first ≤ 100) (hk : k ≤ 1000) : Dd.runs ⟨[], x17 first span k⟩ [againD span] ⟨s17 (k + 1) k, ["n"], [], false⟩ = .ok ⟨s17 (k + 1) (k + 1), ["n"], [x17 first span (k + 1)], false⟩ := by
  have ht := x17_time first span k
  have hm : span * (k : Int) ≤ 9 * 1000 := Int.le_trans (Int.mul_le_mul_of_nonneg_right hs2 (by omega)) (Int.mul_le_mul_of_nonneg_left (by omega) (by omega))
  rw [runs_one, againD, Dd.run]
  unfold Do.send
  show (if span < 1 ∨ 1000000 < span then _ else _) = _
  rw [if_neg (by omega)]
  have e1 : Fm.ev (Do.env ⟨[], x17 first span k⟩ ⟨s17 (k + 1) k, ["n"], [], false⟩) (.got 0) = .ok 5 := by
    show Except.ok (x17 first span k).g = _
    rw [x17_g]
  have e2 : Fm.ev (Do.env ⟨[], x17 first span k⟩ ⟨s17 (k + 1) k, ["n"], [], false⟩) .now = .ok (x17 first span k).time := rfl
  rw [e1, e2]
  dsimp only
  rw [if_neg (by rw [ht]; omega)]
  rw [ht, x17_to, Int.add_assoc]
  have e3 : span * (k : Int) + span = span * ((k : Int) + 1) := by rw [Int.mul_add, Int.mul_one]
  rw [e3]
  rfl
/-- where the run stands behind k happenings -/
def R17 (first span : Int) (k : Nat) : Run := ⟨[s17 k k], [x17 first span k], none⟩
theorem doing17 (hk : k ≤ 1000) : (m17 turns span way).doing (s17 k k) (x17 first span k) = if (k : Int) + 1 = turns then Dd.runs ⟨[], x17 first span k⟩ [lastD way] ⟨s17 (k + 1) k, ["n"], [], false⟩ else Dd.runs ⟨[], x17 first span k⟩ [againD span] ⟨s17 (k + 1) k, ["n"], [], false⟩ := by
  unfold Mach.doing
  rw [x17_sign, for17]
  exact runs17 _ hk
theorem place17 : place (R17 first span k).pend = 0 := rfl
theorem first17 : firstRun [m17 turns span way] [⟨first, 0, 0, "go", 5, 6⟩] = R17 first span 0 := rfl
theorem at17 : (R17 first span k).pend[place (R17 first span k).pend]? = some (x17 first span k) := rfl
theorem m17_at : [m17 turns span way][(x17 first span k).to.toNat]? = some (m17 turns span way) := by rw [x17_to]; rfl
theorem s17_at : (R17 first span k).sts[(x17 first span k).to.toNat]? = some (s17 k k) := by rw [x17_to]; rfl
theorem act17 (hs1 : 1 ≤ span) (hs2 : span ≤ 9) (hf : 0 ≤ first) (hf2 : first ≤ 100) (hk : k ≤ 1000) (h : (k : Int) + 1 ≠ turns) : ∃ c, (R17 first span k).act [m17 turns span way] = (R17 first span (k + 1), some c) := by
  have e := doing17 (turns := turns) (span := span) (way := way) (first := first) hk
  rw [if_neg h, again17 hs1 hs2 hf hf2 hk] at e
  have a := act_ok at17 m17_at s17_at e
  refine ⟨Do.told (m17 turns span way) (x17 first span k) ⟨s17 (k + 1) (k + 1), ["n"], [x17 first span (k + 1)], false⟩, ?_⟩
  rw [a, x17_to]
  rfl
theorem go17 (hs1 : 1 ≤ span) (hs2 : span ≤ 9) (hf : 0 ≤ first) (hf2 : first ≤ 100) : ∀ (j k : Nat), k + j ≤ 1000 → ((k + j : Nat) : Int) < turns → ((R17 first span k).go [m17 turns span way] j).1 = R17 first span (k + j) ∧ ((R17 first span k).go [m17 turns span way] j).2.length = j
  | 0, k, _, _ => ⟨rfl, rfl⟩
  | j + 1, k, h1, h2 => by
    obtain ⟨c, hc⟩ := act17 (turns := turns) (way := way) (first := first) (k := k) hs1 hs2 hf hf2 (by omega) (by omega)
    have hg := go_some (k := j) (r := R17 first span k) (ms := [m17 turns span way]) (c := c) rfl (by show [_] ≠ []; exact fun z => nomatch z) (by rw [hc])
    obtain ⟨i1, i2⟩ := go17 hs1 hs2 hf hf2 j (k + 1) (by omega) (by omega)
    rw [hg, hc]
    refine ⟨?_, ?_⟩
    · show ((R17 first span (k + 1)).go _ j).1 = _
      rw [i1, show k + 1 + j = k + (j + 1) by omega]
    · show (_ :: ((R17 first span (k + 1)).go _ j).2).length = _
      rw [List.length_cons, i2]
/-- the last happening -/
theorem end17 (hk : k ≤ 1000) (h : (k : Int) + 1 = turns) (j : Nat) (hw : way < 3) : ∃ rs, (R17 first span k).go [m17 turns span way] (j + 1) = (⟨[if way = 1 then s17 k k else s17 (k + 1) k], [], if way = 0 then some (.fin (x17 first span k)) else if way = 1 then some (.fault .nought (x17 first span k)) else none⟩, rs) ∧ rs.length = if way = 1 then 0 else 1 := by
  have e := doing17 (turns := turns) (span := span) (way := way) (first := first) hk
  rw [if_pos h, last17 (k := k) _ ((k : Int) + 1) rfl] at e
  have hp : (R17 first span k).pend ≠ [] := fun z => nomatch z
  match way, hw with
  | 0, _ =>
    have a := act_ok at17 m17_at s17_at e
    rw [x17_to] at a
    have g := go_some (k := j) (r := R17 first span k) (ms := [m17 turns span 0]) rfl hp (by rw [a])
    rw [a] at g
    rw [go_over (n := j) (.inl rfl)] at g
    exact ⟨_, g, rfl⟩
  | 1, _ =>
    have a := act_err at17 m17_at s17_at e
    have g := go_none (k := j) (r := R17 first span k) (ms := [m17 turns span 1]) rfl hp (by rw [a])
    rw [a] at g
    exact ⟨_, g, rfl⟩
  | 2, _ =>
    have a := act_ok at17 m17_at s17_at e
    rw [x17_to] at a
    have g := go_some (k := j) (r := R17 first span k) (ms := [m17 turns span 2]) rfl hp (by rw [a])
    rw [a] at g
    rw [go_over (n := j) (.inr rfl)] at g
    have e3 : ∀ (rs : List Rec), ((⟨[(s17 (k + 1) k).setB "n" (k + 1)], [], none⟩ : Run), rs) = (⟨[s17 (k + 1) k], [], none⟩, rs) := fun rs => by rw [setB17]
    exact ⟨_, g.trans (e3 _), rfl⟩
/-- what the run comes to -/
def over17 (first span : Int) (way T : Nat) : Ending := if way = 0 then .fin (x17 first span (T - 1)) else if way = 1 then .fault .nought (x17 first span (T - 1)) else .empty
theorem all17 {T : Nat} (hs1 : 1 ≤ span) (hs2 : span ≤ 9) (hf : 0 ≤ first) (hf2 : first ≤ 100) (hT1 : 1 ≤ T) (hT2 : T ≤ 1000) (hw : way < 3) {most whole : Nat} (hm : most ≤ 1000) (hwh : whole = T - (if way = 1 then 1 else 0)) :
    ((R17 first span 0).go [m17 T span way] most).1.ending = (if most < whole ∨ (most = whole ∧ way = 1) then .cut else over17 first span way T) ∧ ((R17 first span 0).go [m17 T span way] most).2.length = min most whole ∧ ∃ j : Int, ((R17 first span 0).go [m17 T span way] most).1.sts = [s17 ((min most whole : Nat) : Int) j] := by
  by_cases hlt : most < T
  · obtain ⟨g1, g2⟩ := go17 (turns := (T : Int)) (way := way) (first := first) hs1 hs2 hf hf2 most 0 (by omega) (by omega)
    rw [Nat.zero_add] at g1
    have hmw : most ≤ whole := by rw [hwh]; split <;> omega
    have hcond : most < whole ∨ (most = whole ∧ way = 1) := by
      by_cases h1 : way = 1
      · rw [if_pos h1] at hwh; omega
      · rw [if_neg h1] at hwh; omega
    rw [g1, g2, if_pos hcond, Nat.min_eq_left hmw]
    exact ⟨ending_cut rfl fun z => (nomatch z), rfl, _, rfl⟩
  · obtain ⟨g1, g2⟩ := go17 (turns := (T : Int)) (way := way) (first := first) hs1 hs2 hf hf2 (T - 1) 0 (by omega) (by omega)
    rw [Nat.zero_add] at g1
    have ha := go_add (ms := [m17 (T : Int) span way]) (T - 1) (most - T + 1) (R17 first span 0) g2
    rw [show T - 1 + (most - T + 1) = most by omega, g1] at ha
    obtain ⟨rs, e1, e2⟩ := end17 (turns := (T : Int)) (way := way) (first := first) (span := span) (k := T - 1) (by omega) (by omega) (most - T) hw
    rw [e1] at ha
    have hcond : ¬ (most < whole ∨ (most = whole ∧ way = 1)) := by
      by_cases h1 : way = 1
      · rw [if_pos h1] at hwh; omega
      · rw [if_neg h1] at hwh; omega
    have hmin : min most whole = whole := by
      refine Nat.min_eq_right ?_
      rw [hwh]; split <;> omega
    rw [ha, if_neg hcond, hmin]
    dsimp only
    refine ⟨?_, ?_, ?_⟩
    · unfold over17 Run.ending
      dsimp only
      have hw3 : way = 0 ∨ way = 1 ∨ way = 2 := by omega
      rcases hw3 with h | h | h <;> rw [h] <;> rfl
    · rw [List.length_append, g2, e2, hwh]
      split <;> omega
    · by_cases h1 : way = 1
      · rw [if_pos h1]
        refine ⟨((T - 1 : Nat) : Int), ?_⟩
        rw [hwh, if_pos h1]
      · rw [if_neg h1]
        refine ⟨((T - 1 : Nat) : Int), ?_⟩
        rw [hwh, if_neg h1, show ((T - 1 : Nat) : Int) + 1 = ((T - 0 : Nat) : Int) by omega]
theorem mdR17 {T : Nat} (hs1 : 1 ≤ span) (hs2 : span ≤ 9) (hT2 : T ≤ 1000) (hw : way < 3) : MdR 10 ["go"] [m17 T span way] := by
  have hn : ("n" : Str) ∈ ([("n" : Str)] : List Str) := List.mem_cons_self
  have hns : (m17 (T : Int) span way).ns = [("n" : Str)] := rfl
  have hqs : (m17 (T : Int) span way).queues = [] := rfl
  have hall : Dd.Oks [("n" : Str)] [] (deeds17 (T : Int) span way) ∧ Dd.depths (deeds17 (T : Int) span way) ≤ 10 ∧ Dd.fdeps (deeds17 (T : Int) span way) < 10 ∧ Dd.cnts (deeds17 (T : Int) span way) ≤ 20 ∧ Dd.Sms (deeds17 (T : Int) span way) ∧ Dd.Tos 1 ["go"] (deeds17 (T : Int) span way) := by
    have hw3 : way = 0 ∨ way = 1 ∨ way = 2 := by omega
    rcases hw3 with rfl | rfl | rfl
    all_goals
      simp only [deeds17, lastD, againD, Dd.Oks, Dd.Ok, Fm.Ok, Dd.depths, Dd.depth, Dd.fdeps, Dd.fdep, Fm.depth, Dd.cnts, Dd.cnt, Dd.Sms, Dd.Sm, Dd.Tos, Dd.To, List.mem_cons, List.not_mem_nil, or_false, true_and, and_true, List.length_cons, List.length_nil, Worth]
      refine ⟨?_, by omega, by omega, by omega, by omega, by omega⟩
      omega
  obtain ⟨h1, h2, h3, h4, h5, h6⟩ := hall
  have hfor : ∀ sign, (m17 (T : Int) span way).deedsFor sign = deeds17 (T : Int) span way ∨ (m17 (T : Int) span way).deedsFor sign = [] := fun sign => by
    unfold Mach.deedsFor m17
    rw [List.find?_cons]
    by_cases e : ("go" : Str) = sign
    · rw [decide_eq_true e]; exact .inl rfl
    · rw [decide_eq_false e]; exact .inr rfl
  refine ⟨fun m hm => ?_, fun m hm sign => ?_, fun m hm sign => ?_, by decide, by show 1 ≤ 1000; omega⟩
  all_goals (rw [List.mem_singleton] at hm; subst hm)
  · refine ⟨⟨by show 1 ≤ 1000; omega, by show 0 ≤ 1000; omega, by show 0 ≤ 1000; omega, by show 1 ≤ 1000; omega, fun p hp => ?_⟩, ⟨?_, List.nodup_nil⟩, fun p hp => ?_⟩
    · rw [show p = (("go" : Str), deeds17 (T : Int) span way) from List.mem_singleton.mp hp]
      exact ⟨by show 2 ≤ 1000; omega, h5⟩
    · show ([("n" : Str)] : List Str).Nodup
      simp
    · rw [show p = (("go" : Str), deeds17 (T : Int) span way) from List.mem_singleton.mp hp]
      exact ⟨h1, h2, h3, by dsimp only; omega⟩
  · rcases hfor sign with e | e
    · rw [e]; exact h6
    · rw [e, Dd.Tos]; exact True.intro
  · rcases hfor sign with e | e
    · rw [e]; exact h4
    · rw [e, Dd.cnts]; omega
end
end Mo
namespace Mo
open PySem PySem.Spec PyProof.Rows L2
/-! ### runs whose pending happenings stand in another order; one happening more -/
structure RunP (r r' : Run) : Prop where
  sts : r'.sts = r.sts
  ended : r'.ended = r.ended
  pend : r'.pend.Perm r.pend
theorem RunP.refl (r : Run) : RunP r r := ⟨rfl, rfl, List.Perm.refl _⟩
theorem RunP.trans {r r1 r2 : Run} (a : RunP r r1) (b : RunP r1 r2) : RunP r r2 := ⟨b.sts.trans a.sts, b.ended.trans a.ended, b.pend.trans a.pend⟩
theorem RunP.ending {r r' : Run} (h : RunP r r') : r'.ending = r.ending := by
  unfold Run.ending
  rw [h.ended]
  have e : (r'.pend = []) = (r.pend = []) := by
    apply propext
    constructor
    · intro z
      have := h.pend
      rw [z] at this
      exact List.nil_perm.mp this
    · intro z
      have := h.pend
      rw [z] at this
      exact List.perm_nil.mp this
  cases r.ended with
  | some e => rfl
  | none => simp only [e]
theorem erase_perm : ∀ {l : List Hap} {i : Nat} {x : Hap}, l[i]? = some x → (x :: l.eraseIdx i).Perm l
  | [], _, _, h => by simp at h
  | y :: l, 0, x, h => by
    cases h
    exact List.Perm.refl _
  | y :: l, i + 1, x, h => by
    rw [List.eraseIdx_cons_succ]
    exact (List.Perm.swap y x _).trans (List.Perm.cons y (erase_perm (by simpa using h)))
theorem place_perm {l l' : List Hap} (nd : (l.map Hap.key).Nodup) (h : l'.Perm l) (hp : l ≠ []) : ∃ x, l[place l]? = some x ∧ l'[place l']? = some x ∧ (l'.eraseIdx (place l')).Perm (l.eraseIdx (place l)) := by
  have hp' : l' ≠ [] := fun z => hp (by rw [z] at h; exact List.nil_perm.mp h)
  have h1 := List.getElem?_eq_getElem (place_lt (List.length_pos_iff.mpr hp))
  have h2 := List.getElem?_eq_getElem (place_lt (List.length_pos_iff.mpr hp'))
  obtain ⟨x, hx⟩ : ∃ x, l[place l]? = some x := ⟨_, h1⟩
  obtain ⟨y, hy⟩ : ∃ y, l'[place l']? = some y := ⟨_, h2⟩
  have a1 := place_least hx y (h.mem_iff.mp (List.mem_of_getElem? hy))
  have a2 := place_least hy x (h.mem_iff.mpr (List.mem_of_getElem? hx))
  have he : y.key = x.key := lex_tri a1 a2
  have hym : y ∈ l := h.mem_iff.mp (List.mem_of_getElem? hy)
  obtain ⟨j, hj⟩ := List.mem_iff_getElem?.mp hym
  have hij := nodup_get nd hj hx he
  subst hij
  rw [hx] at hj
  cases hj
  refine ⟨x, hx, hy, ?_⟩
  exact List.Perm.cons_inv (((erase_perm hy).trans h).trans (erase_perm hx).symm)
theorem RunP.nodup {r r' : Run} (h : RunP r r') (k : (r.pend.map Hap.key).Nodup) : (r'.pend.map Hap.key).Nodup := (List.Perm.nodup_iff (h.pend.map Hap.key)).mpr k
section
variable {n : Nat} {ss : List Str} {ms : List Mach} {sok : Str → Prop}
theorem RunP.runR {r r' : Run} (h : RunP r r') (k : RunR ms sok r) : RunR ms sok r' := ⟨by rw [h.sts]; exact k.len, by rw [h.sts]; exact k.st, fun x hx => k.pd x (h.pend.mem_iff.mp hx)⟩
theorem RunP.runK {r r' : Run} (h : RunP r r') (k : RunK r) : RunK r' := ⟨h.nodup k.nd, fun x hx => by rw [h.sts]; exact k.src x (h.pend.mem_iff.mp hx)⟩
theorem RunP.act {r r' : Run} (hr : RunR ms sok r) (hk : RunK r) (h : RunP r r') (hp : r.pend ≠ []) : (r'.act ms).2 = (r.act ms).2 ∧ RunP (r.act ms).1 (r'.act ms).1 := by
  obtain ⟨x, hx, hy, he⟩ := place_perm hk.nd h.pend hp
  obtain ⟨x2, m, s, a1, a2, a3, _, _⟩ := act_at hr hp
  rw [hx] at a1
  cases a1
  cases e : m.doing s x with
  | error f =>
    rw [act_err hx a2 a3 e, act_err (r := r') hy a2 (by rw [h.sts]; exact a3) e]
    exact ⟨rfl, h.sts, rfl, he⟩
  | ok d =>
    rw [act_ok hx a2 a3 e, act_ok (r := r') hy a2 (by rw [h.sts]; exact a3) e]
    exact ⟨rfl, by dsimp only; rw [h.sts], rfl, List.Perm.append_right _ he⟩
theorem act_k (hr : RunR ms sok r) (hk : RunK r) (hp : r.pend ≠ []) : RunK (r.act ms).1 := by
  obtain ⟨x, m, s, a1, a2, a3, _, _⟩ := act_at hr hp
  cases e : m.doing s x with
  | error f =>
    rw [act_err a1 a2 a3 e]
    refine ⟨?_, fun y hy => hk.src y (mem_erase hy)⟩
    dsimp only
    rw [← erase_map]
    exact hk.nd.sublist (List.eraseIdx_sublist _ _)
  | ok d =>
    rw [act_ok a1 a2 a3 e]
    exact hk.act_ok hr a1 a2 a3 e
theorem go_runK (hm : MdR n ss ms) (hss : ∀ x ∈ ss, sok x) : ∀ (k : Nat) (r : Run), RunR ms sok r → RunK r → RunK (r.go ms k).1
  | 0, r, _, hk => hk
  | k + 1, r, hr, hk => by
    rcases go_cases ms r with h1 | ⟨⟨h3, h4⟩, ⟨r1, ha, h2⟩ | ⟨r1, c, ha, h2⟩⟩
    · rw [h1]; exact hk
    · rw [h2]
      have := act_k hr hk h4
      rw [ha] at this
      exact this
    · rw [h2]
      have h5 := act_k hr hk h4
      have h6 := hr.act hm hss h4
      rw [ha] at h5 h6
      exact go_runK hm hss k r1 h6 h5
theorem RunP.go (hm : MdR n ss ms) (hss : ∀ x ∈ ss, sok x) : ∀ (k : Nat) (r r' : Run), RunR ms sok r → RunK r → RunP r r' → (r'.go ms k).2 = (r.go ms k).2 ∧ RunP (r.go ms k).1 (r'.go ms k).1
  | 0, r, r', _, _, h => ⟨rfl, h⟩
  | k + 1, r, r', hr, hk, h => by
    by_cases ho : r.ended.isSome = true ∨ r.pend = []
    · have ho' : r'.ended.isSome = true ∨ r'.pend = [] := by
        rcases ho with e | e
        · exact .inl (by rw [h.ended]; exact e)
        · exact .inr (by have := h.pend; rw [e] at this; exact List.perm_nil.mp this)
      rw [go_over ho, go_over ho']
      exact ⟨rfl, h⟩
    · have h1 : r.ended = none := by
        cases e : r.ended with
        | none => rfl
        | some _ => exact absurd (.inl (by rw [e]; rfl)) ho
      have h2 : r.pend ≠ [] := fun e => ho (.inr e)
      have h2' : r'.pend ≠ [] := fun e => h2 (by have := h.pend; rw [e] at this; exact List.nil_perm.mp this)
      have h1' : r'.ended = none := by rw [h.ended]; exact h1
      obtain ⟨e1, e2⟩ := h.act hr hk h2
      cases e : (r.act ms).2 with
      | none =>
        rw [go_none h1 h2 e, go_none h1' h2' (by rw [e1]; exact e)]
        exact ⟨rfl, e2⟩
      | some c =>
        rw [go_some h1 h2 e, go_some h1' h2' (by rw [e1]; exact e)]
        obtain ⟨i1, i2⟩ := RunP.go hm hss k _ _ (hr.act hm hss h2) (act_k hr hk h2) e2
        exact ⟨by dsimp only; rw [i1], i2⟩
/-- one happening more that comes behind all records -/
def Run.more (r : Run) (h : Hap) : Run := { r with pend := r.pend ++ [h] }
theorem go_more (hm : MdR n ss ms) (hss : ∀ x ∈ ss, sok x) (h : Hap) (hh : HapR ms.length sok h) : ∀ (k : Nat) (r : Run), RunR ms sok r → RunK r → RunK (r.more h) → (∀ c ∈ (r.go ms k).2, HT.lexLt c.hap.key h.key = true) → (r.go ms k).2.length = k →
    ((r.more h).go ms k).2 = (r.go ms k).2 ∧ RunP ((r.go ms k).1.more h) ((r.more h).go ms k).1
  | 0, r, _, _, _, _, _ => ⟨rfl, RunP.refl _⟩
  | k + 1, r, hr, hk, hk2, hlt, hlen => by
    have hrm : ∀ r1 : Run, RunR ms sok r1 → RunR ms sok (r1.more h) := fun r1 q => ⟨q.len, q.st, fun x hx => by
      rcases List.mem_append.mp hx with hx | hx
      · exact q.pd x hx
      · rw [List.mem_singleton.mp hx]; exact hh⟩
    by_cases ho : r.ended.isSome = true ∨ r.pend = []
    · rw [go_over ho] at hlen
      cases hlen
    · have h1 : r.ended = none := by
        cases e : r.ended with
        | none => rfl
        | some _ => exact absurd (.inl (by rw [e]; rfl)) ho
      have h2 : r.pend ≠ [] := fun e => ho (.inr e)
      obtain ⟨x, m, s, a1, a2, a3, hx, hs⟩ := act_at hr h2
      cases e : m.doing s x with
      | error f =>
        have := act_err a1 a2 a3 e
        rw [go_none h1 h2 (by rw [this])] at hlen
        cases hlen
      | ok d =>
        have ha := act_ok a1 a2 a3 e
        have hg := go_some (k := k) h1 h2 (by rw [ha])
        rw [hg] at hlt hlen ⊢
        have hxl : HT.lexLt x.key h.key = true := hlt _ List.mem_cons_self
        -- the least one of the longer row
        have hp2 : (r.more h).pend ≠ [] := by show r.pend ++ [h] ≠ []; simp
        obtain ⟨y, m', s', b1, b2, b3, _, _⟩ := act_at (hrm r hr) hp2
        have hxy : y = x := by
          have hxm : x ∈ r.pend ++ [h] := List.mem_append_left _ (List.mem_of_getElem? a1)
          have c1 := place_least b1 x hxm
          have hym : y ∈ r.pend ++ [h] := List.mem_of_getElem? b1
          have c2 : HT.lexLt y.key x.key = false := by
            rcases List.mem_append.mp hym with hy | hy
            · exact place_least a1 y hy
            · rw [List.mem_singleton.mp hy]
              cases q : HT.lexLt h.key x.key with
              | false => rfl
              | true =>
                have := lex_trans hxl q
                rw [lex_irr] at this
                cases this
          have he : y.key = x.key := lex_tri c2 c1
          obtain ⟨j, hj⟩ := List.mem_iff_getElem?.mp hxm
          have hij := nodup_get hk2.nd hj b1 he.symm
          subst hij
          have b1' : (r.pend ++ [h])[place (r.more h).pend]? = some y := b1
          rw [hj] at b1'
          cases b1'
          rfl
        subst hxy
        rw [a2] at b2
        cases b2
        have b3' : r.sts[y.to.toNat]? = some s' := b3
        rw [a3] at b3'
        cases b3'
        have hb := act_ok (r := r.more h) b1 a2 a3 e
        have hg2 := go_some (ms := ms) (k := k) (r := r.more h) h1 hp2 (by rw [hb])
        rw [hg2]
        have hperm : ((r.more h).pend.eraseIdx (place (r.more h).pend)).Perm (r.pend.eraseIdx (place r.pend) ++ [h]) := by
          refine List.Perm.cons_inv (a := y) ((erase_perm b1).trans ?_)
          have q := (erase_perm a1).symm.append_right [h]
          exact q
        have hP : RunP ((r.act ms).1.more h) ((r.more h).act ms).1 := by
          rw [ha, hb]
          refine ⟨rfl, rfl, ?_⟩
          show ((r.more h).pend.eraseIdx (place (r.more h).pend) ++ d.news).Perm ((r.pend.eraseIdx (place r.pend) ++ d.news) ++ [h])
          refine (hperm.append_right d.news).trans ?_
          rw [List.append_assoc, List.append_assoc]
          exact List.Perm.append_left _ List.perm_append_comm
        have hr1 := hr.act hm hss h2
        have hk1 := act_k hr hk h2
        have hkm := act_k (hrm r hr) hk2 hp2
        have hkm1 : RunK ((r.act ms).1.more h) := RunP.runK (r := ((r.more h).act ms).1) ⟨hP.sts.symm, hP.ended.symm, hP.pend.symm⟩ hkm
        obtain ⟨i1, i2⟩ := go_more hm hss h hh k _ hr1 hk1 hkm1 (fun c hc => hlt c (List.mem_cons_of_mem _ hc)) (by simpa using hlen)
        obtain ⟨j1, j2⟩ := RunP.go hm hss k _ _ (hrm _ hr1) hkm1 hP
        refine ⟨?_, i2.trans j2⟩
        dsimp only
        rw [j1, i1, ha]
theorem more_first {sgs : List Sg} {s : Sg} : (firstRun ms sgs).more (s.hap sgs.length) = firstRun ms (sgs ++ [s]) := by
  unfold Run.more firstRun
  rw [haps_snoc, Nat.zero_add]
/-- a fork: behind a mark, with one sign more -/
theorem fork_plain {sgs : List Sg} {s : Sg} (hm : MdR n ss ms) (hss : ∀ x ∈ ss, sok x) (hb : ∀ m ∈ ms, ∀ p ∈ m.boxes, Worth p.2) (hs : ∀ s ∈ sgs, SgR ms.length sok s) (h1 : SgR ms.length sok s) {num : Nat} (most : Nat) (hn : ((firstRun ms sgs).go ms num).2.length = num)
    (hl : ∀ c, ((firstRun ms sgs).go ms num).2.getLast? = some c → HT.lexLt c.hap.key (s.hap sgs.length).key = true) :
    ((firstRun ms (sgs ++ [s])).go ms num).2 = ((firstRun ms sgs).go ms num).2 ∧
    ((firstRun ms (sgs ++ [s])).go ms (num + most)).2 = ((firstRun ms sgs).go ms num).2 ++ ((((firstRun ms sgs).go ms num).1.more (s.hap sgs.length)).go ms most).2 ∧
    ((firstRun ms (sgs ++ [s])).go ms (num + most)).1.ending = ((((firstRun ms sgs).go ms num).1.more (s.hap sgs.length)).go ms most).1.ending := by
  have hr := firstRun_ok hm hb hs
  have hh : HapR ms.length sok (s.hap sgs.length) := ⟨h1.to0, h1.to1, h1.t0, h1.t1, h1.r0, h1.r1, h1.g, h1.h, h1.sign⟩
  have hk2 : RunK ((firstRun ms sgs).more (s.hap sgs.length)) := by rw [more_first]; exact firstRun_k
  have hf := go_facts hm hss num _ hr firstRun_k
  have hall : ∀ c ∈ ((firstRun ms sgs).go ms num).2, HT.lexLt c.hap.key (s.hap sgs.length).key = true := fun c hc => by
    have hne : ((firstRun ms sgs).go ms num).2 ≠ [] := List.ne_nil_of_mem hc
    obtain ⟨L, y, hL⟩ : ∃ L y, ((firstRun ms sgs).go ms num).2 = L ++ [y] := ⟨_, _, (List.dropLast_concat_getLast hne).symm⟩
    have hy : ((firstRun ms sgs).go ms num).2.getLast? = some y := by rw [hL]; simp
    have hyl := hl y hy
    have hp := hf.rise
    rw [hL] at hp hc
    rcases List.mem_append.mp hc with hc | hc
    · exact lex_trans ((List.pairwise_append.mp hp).2.2 c hc y List.mem_cons_self) hyl
    · rw [List.mem_singleton.mp hc]; exact hyl
  obtain ⟨e1, e2⟩ := go_more hm hss _ hh num _ hr firstRun_k hk2 hall hn
  rw [more_first] at e1 e2
  have hadd := go_add (ms := ms) num most (firstRun ms (sgs ++ [s])) (by rw [e1]; exact hn)
  have hr2 := go_runR hm hss num _ hr
  have hrm : RunR ms sok (((firstRun ms sgs).go ms num).1.more (s.hap sgs.length)) := ⟨hr2.len, hr2.st, fun x hx => by
    rcases List.mem_append.mp hx with hx | hx
    · exact hr2.pd x hx
    · rw [List.mem_singleton.mp hx]; exact hh⟩
  have hkm : RunK (((firstRun ms sgs).go ms num).1.more (s.hap sgs.length)) := RunP.runK (r := ((firstRun ms (sgs ++ [s])).go ms num).1) ⟨e2.sts.symm, e2.ended.symm, e2.pend.symm⟩ (go_runK hm hss num _ (by
    refine firstRun_ok hm hb fun x hx => ?_
    rcases List.mem_append.mp hx with hx | hx
    · exact hs x hx
    · rw [List.mem_singleton.mp hx]; exact h1) firstRun_k)
  obtain ⟨f1, f2⟩ := RunP.go hm hss most _ _ hrm hkm e2
  refine ⟨e1, ?_, ?_⟩
  · rw [hadd, e1]
    dsimp only
    rw [f1]
  · rw [hadd]
    exact f2.ending
end
end Mo
namespace Mo
open PySem PySem.Spec PyProof.Rows L2
section
variable {n : Nat} {ss : List Str} {ms : List Mach} {sok : Str → Prop}
/-- what stands behind a mark, with one sign more -/
theorem more_ok {sgs : List Sg} {s : Sg} (hm : MdR n ss ms) (hss : ∀ x ∈ ss, sok x) (hb : ∀ m ∈ ms, ∀ p ∈ m.boxes, Worth p.2) (hs : ∀ s ∈ sgs, SgR ms.length sok s) (h1 : SgR ms.length sok s) {num : Nat} (hn : ((firstRun ms sgs).go ms num).2.length = num)
    (hl : ∀ c, ((firstRun ms sgs).go ms num).2.getLast? = some c → HT.lexLt c.hap.key (s.hap sgs.length).key = true) :
    HapR ms.length sok (s.hap sgs.length) ∧ RunR ms sok ((firstRun ms sgs).go ms num).1 ∧ RunK ((firstRun ms sgs).go ms num).1 ∧ RunR ms sok (((firstRun ms sgs).go ms num).1.more (s.hap sgs.length)) ∧ RunK (((firstRun ms sgs).go ms num).1.more (s.hap sgs.length)) := by
  have hr := firstRun_ok hm hb hs
  have hh : HapR ms.length sok (s.hap sgs.length) := ⟨h1.to0, h1.to1, h1.t0, h1.t1, h1.r0, h1.r1, h1.g, h1.h, h1.sign⟩
  have hk2 : RunK ((firstRun ms sgs).more (s.hap sgs.length)) := by rw [more_first]; exact firstRun_k
  have hf := go_facts hm hss num _ hr firstRun_k
  have hall : ∀ c ∈ ((firstRun ms sgs).go ms num).2, HT.lexLt c.hap.key (s.hap sgs.length).key = true := fun c hc => by
    have hne : ((firstRun ms sgs).go ms num).2 ≠ [] := List.ne_nil_of_mem hc
    obtain ⟨L, y, hL⟩ : ∃ L y, ((firstRun ms sgs).go ms num).2 = L ++ [y] := ⟨_, _, (List.dropLast_concat_getLast hne).symm⟩
    have hy : ((firstRun ms sgs).go ms num).2.getLast? = some y := by rw [hL]; simp
    have hyl := hl y hy
    have hp := hf.rise
    rw [hL] at hp hc
    rcases List.mem_append.mp hc with hc | hc
    · exact lex_trans ((List.pairwise_append.mp hp).2.2 c hc y List.mem_cons_self) hyl
    · rw [List.mem_singleton.mp hc]; exact hyl
  obtain ⟨e1, e2⟩ := go_more hm hss _ hh num _ hr firstRun_k hk2 hall hn
  rw [more_first] at e1 e2
  have hr2 := go_runR hm hss num _ hr
  have hrm : RunR ms sok (((firstRun ms sgs).go ms num).1.more (s.hap sgs.length)) := ⟨hr2.len, hr2.st, fun x hx => by
    rcases List.mem_append.mp hx with hx | hx
    · exact hr2.pd x hx
    · rw [List.mem_singleton.mp hx]; exact hh⟩
  have hkm : RunK (((firstRun ms sgs).go ms num).1.more (s.hap sgs.length)) := RunP.runK (r := ((firstRun ms (sgs ++ [s])).go ms num).1) ⟨e2.sts.symm, e2.ended.symm, e2.pend.symm⟩ (go_runK hm hss num _ (by
    refine firstRun_ok hm hb fun x hx => ?_
    rcases List.mem_append.mp hx with hx | hx
    · exact hs x hx
    · rw [List.mem_singleton.mp hx]; exact h1) firstRun_k)
  exact ⟨hh, hr2, go_runK hm hss num _ hr firstRun_k, hrm, hkm⟩
/-- of rising keys those below a key are the first ones -/
theorem filter_rise {k : List Int} : ∀ {rs : List Rec}, (rs.Pairwise fun a b => HT.lexLt a.hap.key b.hap.key = true) → rs.filter (fun c => HT.lexLt c.hap.key k) = rs.take (rs.filter (fun c => HT.lexLt c.hap.key k)).length
  | [], _ => rfl
  | c :: rs, h => by
    have h1 := (List.pairwise_cons.mp h).1
    have ih := filter_rise (k := k) (List.pairwise_cons.mp h).2
    cases hc : HT.lexLt c.hap.key k with
    | true =>
      rw [List.filter_cons_of_pos (by rw [hc])]
      rw [List.length_cons, List.take_succ_cons, ← ih]
    | false =>
      have hn : rs.filter (fun c => HT.lexLt c.hap.key k) = [] := by
        refine List.filter_eq_nil_iff.mpr fun d hd => ?_
        intro q
        have := lex_trans (h1 d hd) q
        rw [hc] at this
        cases this
      rw [List.filter_cons_of_neg (by rw [hc]; exact Bool.false_ne_true), hn]
      rfl
/-- the records of a run with one happening more, as long as they come ahead of it -/
theorem more_same (hm : MdR n ss ms) (hss : ∀ x ∈ ss, sok x) {h : Hap} (hh : HapR ms.length sok h) {r : Run} (hr : RunR ms sok r) (hk : RunK r) (hk2 : RunK (r.more h)) (most : Nat) :
    ((r.more h).go ms most).2.take ((r.go ms most).2.filter (fun c => HT.lexLt c.hap.key h.key)).length = (r.go ms most).2.filter (fun c => HT.lexLt c.hap.key h.key) := by
  have hf := go_facts hm hss most r hr hk
  have hfr := filter_rise (k := h.key) hf.rise
  obtain ⟨k, hkk⟩ : ∃ k, k = ((r.go ms most).2.filter (fun c => HT.lexLt c.hap.key h.key)).length := ⟨_, rfl⟩
  rw [← hkk] at hfr ⊢
  have hl : k ≤ (r.go ms most).2.length := by rw [hkk]; exact List.length_filter_le _ _
  have hlm := go_len (ms := ms) most r
  have ht := go_take (ms := ms) k most r (by omega)
  have ht2 := go_take (ms := ms) k most (r.more h) (by omega)
  have hlen : (r.go ms k).2.length = k := by rw [ht, List.length_take]; omega
  obtain ⟨e1, _⟩ := go_more hm hss h hh k r hr hk hk2 (fun c hc => by
    rw [ht, ← hfr] at hc
    exact (List.mem_filter.mp hc).2) hlen
  rw [← ht2, e1, ht, ← hfr]
end
end Mo
namespace Mo
open PySem PySem.Spec PyProof.Rows L2
/-! ### law_k27: a machine that counts its ticks, and noise (plain Lean) -/
def stop27 (w : Nat) : List Dd := match w with
  | 0 => [.fin]
  | 1 => [.put "n" (.two .part .now (.num 0))]
  | _ => []
def again27 (span : Int) : Dd := .send 0 "tick" (.num span) 1 (.box "n") (.num 0)
def deeds27 (last span : Int) (w : Nat) : List Dd := [.put "n" (.two .plus (.box "n") (.num 1)), .iff (.two .same (.box "n") (.num last)) (stop27 w) [again27 span]]
def m27 (last span : Int) (w : Nat) : Mach := ⟨"one", [("n", 0)], [], [], [("tick", deeds27 last span w)]⟩
def two27 : Mach := ⟨"two", [], [], [], []⟩
section
variable {last : Nat} {span : Int} {w k : Nat}
theorem for27 : (m27 last span w).deedsFor "tick" = deeds27 last span w := by
  unfold Mach.deedsFor m27
  rw [List.find?_cons, decide_eq_true rfl]
theorem runs27 (c : DoC) (hk : k ≤ 1000) : Dd.runs c (deeds27 last span w) ⟨s17 k k, [], [], false⟩ = if k + 1 = last then Dd.runs c (stop27 w) ⟨s17 (k + 1) k, ["n"], [], false⟩ else Dd.runs c [again27 span] ⟨s17 (k + 1) k, ["n"], [], false⟩ := by
  unfold deeds27
  rw [Dd.runs, put17 c hk]
  show Dd.runs c [_] _ = _
  rw [runs_one, Dd.run, cond17]
  by_cases h : k + 1 = last
  · rw [if_pos h, if_pos (by omega)]
    show (if (1 : Int) = 0 then _ else _) = _
    rw [if_neg (by decide)]
  · rw [if_neg h, if_neg (by omega)]
    show (if (0 : Int) = 0 then _ else _) = _
    rw [if_pos rfl]
theorem stop0 (c : DoC) (s : Do) : Dd.runs c (stop27 0) s = .ok { s with ends := true } := by
  show Dd.runs c [.fin] s = _
  rw [runs_one, Dd.run]
theorem stop1 (c : DoC) (s : Do) : Dd.runs c (stop27 1) s = .error .nought := by
  show Dd.runs c [.put "n" (.two .part .now (.num 0))] s = _
  rw [runs_one, Dd.run]
  have e : Fm.ev (s.env c) (.two .part .now (.num 0)) = .error .nought := by
    show Op.ev .part c.hap.time 0 = _
    rfl
  rw [e]
theorem stop2 (c : DoC) (s : Do) (hw : 2 ≤ w) : Dd.runs c (stop27 w) s = .ok s := by
  obtain ⟨v, rfl⟩ : ∃ v, w = v + 2 := ⟨w - 2, by omega⟩
  show Dd.runs c [] s = _
  rw [Dd.runs]
theorem again_ok {x : Hap} (hs1 : 1 ≤ span) (hs2 : span ≤ 9) (ht : x.time + span ≤ 1000000000000) (hx : x.to = 0) : Dd.runs ⟨[], x⟩ [again27 span] ⟨s17 (k + 1) k, ["n"], [], false⟩ = .ok ⟨s17 (k + 1) (k + 1), ["n"], [⟨x.time + span, 1, 0, k, 0, "tick", (k : Int) + 1, 0⟩], false⟩ := by
  rw [runs_one, again27, Dd.run]
  unfold Do.send
  show (if span < 1 ∨ 1000000 < span then _ else _) = _
  rw [if_neg (by omega)]
  have e1 : Fm.ev (Do.env ⟨[], x⟩ ⟨s17 (k + 1) k, ["n"], [], false⟩) (.box "n") = .ok ((k : Int) + 1) := by
    show Except.ok (lookD 0 "n" (s17 ((k : Int) + 1) k).boxes) = _
    rw [look17]
  rw [e1]
  dsimp only
  rw [show Fm.ev (Do.env ⟨[], x⟩ ⟨s17 (k + 1) k, ["n"], [], false⟩) (.num 0) = .ok 0 from rfl]
  dsimp only
  rw [if_neg (by omega), hx]
  rfl
end
def Ns (x : Hap) : Prop := x.frm = -1 ∧ 0 < x.count ∧ x.to = 1
def Tk (span : Int) (t : Nat) (x : Hap) : Prop := ¬ (x.frm = -1 ∧ 0 < x.count) ∧ x.to = 0 ∧ x.sign = "tick" ∧ x.time = span * (t : Int)
structure Iv (last : Nat) (span : Int) (t : Nat) (r : Run) : Prop where
  en : r.ended = none
  sts : r.sts = [s17 t (min t (last - 1) : Nat), two27.first]
  tl : t ≤ last
  pd : ∃ ns tk, r.pend.Perm (ns ++ tk) ∧ (∀ x ∈ ns, Ns x) ∧ (tk = [] ∨ ∃ x, tk = [x] ∧ Tk span t x ∧ t < last)
section
variable {last : Nat} {span : Int} {w t : Nat} {r : Run}
theorem two_doing (s : MSt) (x : Hap) : two27.doing s x = .ok ⟨s, [], [], false⟩ := by
  unfold Mach.doing
  show Dd.runs _ [] _ = _
  rw [Dd.runs]
theorem step27 (hs1 : 1 ≤ span) (hs2 : span ≤ 9) (hl : last ≤ 100) (h : Iv last span t r) (hp : r.pend ≠ []) : ∃ x0, r.pend[place r.pend]? = some x0 ∧ (
    (Ns x0 ∧ ∃ c, r.act [m27 last span w, two27] = (⟨r.sts, r.pend.eraseIdx (place r.pend), none⟩, some c) ∧ c.hap = x0 ∧ Iv last span t ⟨r.sts, r.pend.eraseIdx (place r.pend), none⟩) ∨
    (¬ (x0.frm = -1 ∧ 0 < x0.count) ∧ t + 1 = last ∧ w = 1 ∧ r.act [m27 last span w, two27] = ({ r with pend := r.pend.eraseIdx (place r.pend), ended := some (.fault .nought x0) }, none)) ∨
    (¬ (x0.frm = -1 ∧ 0 < x0.count) ∧ t + 1 = last ∧ w = 0 ∧ ∃ c, r.act [m27 last span w, two27] = (⟨[s17 last (last - 1 : Nat), two27.first], r.pend.eraseIdx (place r.pend), some (.fin x0)⟩, some c) ∧ c.hap = x0) ∨
    (¬ (x0.frm = -1 ∧ 0 < x0.count) ∧ t + 1 = last ∧ 2 ≤ w ∧ ∃ c, r.act [m27 last span w, two27] = (⟨[s17 last (last - 1 : Nat), two27.first], r.pend.eraseIdx (place r.pend), none⟩, some c) ∧ c.hap = x0 ∧ Iv last span (t + 1) ⟨[s17 last (last - 1 : Nat), two27.first], r.pend.eraseIdx (place r.pend), none⟩) ∨
    (¬ (x0.frm = -1 ∧ 0 < x0.count) ∧ t + 1 < last ∧ ∃ c, r.act [m27 last span w, two27] = (⟨[s17 (t + 1 : Nat) (t + 1 : Nat), two27.first], r.pend.eraseIdx (place r.pend) ++ [⟨x0.time + span, 1, 0, t, 0, "tick", (t : Int) + 1, 0⟩], none⟩, some c) ∧ c.hap = x0 ∧ Iv last span (t + 1) ⟨[s17 (t + 1 : Nat) (t + 1 : Nat), two27.first], r.pend.eraseIdx (place r.pend) ++ [⟨x0.time + span, 1, 0, t, 0, "tick", (t : Int) + 1, 0⟩], none⟩)) := by
  have h1 := List.getElem?_eq_getElem (place_lt (List.length_pos_iff.mpr hp))
  obtain ⟨x0, hx⟩ : ∃ x, r.pend[place r.pend]? = some x := ⟨_, h1⟩
  refine ⟨x0, hx, ?_⟩
  obtain ⟨ns, tk, hper, hns, htk⟩ := h.pd
  have hpe := (erase_perm hx).trans hper
  have hxm : x0 ∈ ns ++ tk := hper.mem_iff.mp (List.mem_of_getElem? hx)
  rcases List.mem_append.mp hxm with hm | hm
  · left
    obtain ⟨n1, n2, n3⟩ := hns x0 hm
    have ho := act_ok (ms := [m27 last span w, two27]) hx (m := two27) (by rw [n3]; rfl) (s := two27.first) (by rw [n3, h.sts]; rfl) (two_doing _ _)
    refine ⟨⟨n1, n2, n3⟩, Do.told two27 x0 ⟨two27.first, [], [], false⟩, ?_, rfl, ?_⟩
    · rw [ho, n3]
      dsimp only
      rw [List.append_nil, h.sts]
      rfl
    · obtain ⟨a, b, hab⟩ := List.append_of_mem hm
      refine ⟨rfl, h.sts, h.tl, a ++ b, tk, ?_, fun y hy => hns y (by rw [hab]; rcases List.mem_append.mp hy with hy | hy <;> simp [hy]), htk⟩
      have e1 : (ns ++ tk).Perm (x0 :: (a ++ b ++ tk)) := by
        rw [hab, List.append_assoc, List.append_assoc]
        exact List.perm_middle
      exact List.Perm.cons_inv (hpe.trans e1)
  · right
    rcases htk with rfl | ⟨x1, rfl, ⟨k1, k2, k3, k4⟩, hlt⟩
    · exact nomatch hm
    obtain rfl := List.mem_singleton.mp hm
    have hsts : r.sts = [s17 t t, two27.first] := by
      rw [h.sts, Nat.min_eq_left (by omega)]
    have hrest : (r.pend.eraseIdx (place r.pend)).Perm ns := List.Perm.cons_inv (hpe.trans (List.perm_append_comm (l₂ := [x0])))
    have hspan : span * (t : Int) ≤ 9 * 100 := Int.le_trans (Int.mul_le_mul_of_nonneg_right hs2 (by omega)) (Int.mul_le_mul_of_nonneg_left (by omega) (by omega))
    have hd : (m27 last span w).doing (s17 t t) x0 = if t + 1 = last then Dd.runs ⟨[], x0⟩ (stop27 w) ⟨s17 (t + 1) t, ["n"], [], false⟩ else Dd.runs ⟨[], x0⟩ [again27 span] ⟨s17 (t + 1) t, ["n"], [], false⟩ := by
      unfold Mach.doing
      rw [k3, for27]
      exact runs27 _ (by omega)
    have hmi : [m27 last span w, two27][x0.to.toNat]? = some (m27 last span w) := by rw [k2]; rfl
    have hsi : r.sts[x0.to.toNat]? = some (s17 t t) := by rw [k2, hsts]; rfl
    by_cases hlast : t + 1 = last
    · rw [if_pos hlast] at hd
      have hl1 : last - 1 = t := by omega
      have hw : w = 0 ∨ w = 1 ∨ 2 ≤ w := by omega
      rcases hw with rfl | rfl | hw
      · right
        left
        rw [stop0] at hd
        refine ⟨k1, hlast, rfl, Do.told (m27 last span 0) x0 ⟨s17 (t + 1) t, ["n"], [], true⟩, ?_, rfl⟩
        rw [act_ok hx hmi hsi hd, k2, hsts, hl1, ← hlast]
        dsimp only
        rw [List.append_nil]
        rfl
      · left
        rw [stop1] at hd
        exact ⟨k1, hlast, rfl, act_err hx hmi hsi hd⟩
      · right
        right
        left
        rw [stop2 _ _ hw] at hd
        refine ⟨k1, hlast, hw, Do.told (m27 last span w) x0 ⟨s17 (t + 1) t, ["n"], [], false⟩, ?_, rfl, ?_⟩
        · rw [act_ok hx hmi hsi hd, k2, hsts, hl1, ← hlast]
          dsimp only
          rw [List.append_nil]
          rfl
        · refine ⟨rfl, ?_, by omega, ns, [], by rw [List.append_nil]; exact hrest, hns, .inl rfl⟩
          rw [hlast, Nat.min_eq_right (by omega)]
    · rw [if_neg hlast, again_ok hs1 hs2 (by rw [k4]; omega) k2] at hd
      right
      right
      right
      refine ⟨k1, by omega, Do.told (m27 last span w) x0 ⟨s17 (t + 1) (t + 1), ["n"], [⟨x0.time + span, 1, 0, t, 0, "tick", (t : Int) + 1, 0⟩], false⟩, ?_, rfl, ?_⟩
      · rw [act_ok hx hmi hsi hd, k2, hsts]
        rfl
      · refine ⟨rfl, by rw [Nat.min_eq_left (by omega)], by omega, ns, [_], hrest.append_right _, hns, .inr ⟨_, rfl, ⟨?_, rfl, rfl, ?_⟩, by omega⟩⟩
        · rintro ⟨a, _⟩
          exact absurd (show (0 : Int) = -1 from a) (by decide)
        · dsimp only
          rw [k4, show ((t + 1 : Nat) : Int) = (t : Int) + 1 by omega, Int.mul_add, Int.mul_one]
end
def nz27 (t : Int) : Sg := ⟨t, 2, 1, "noise", 1, 2⟩
def sgs27 (others : List Int) : List Sg := ⟨0, 0, 0, "tick", 0, 0⟩ :: others.map nz27
theorem noise_ns : ∀ (l : List Int) (n : Nat), 1 ≤ n → ∀ x ∈ hapsFrom n (l.map nz27), Ns x
  | [], n, _ => fun _ m => nomatch m
  | t :: l, n, h => by
    intro x hx
    rw [List.map_cons, hapsFrom] at hx
    rcases List.mem_cons.mp hx with rfl | hx
    · exact ⟨rfl, by show (0 : Int) < (n : Int); omega, rfl⟩
    · exact noise_ns l (n + 1) (by omega) x hx
theorem iv0 {last : Nat} {span : Int} {w : Nat} {others : List Int} (hl : 1 ≤ last) : Iv last span 0 (firstRun [m27 last span w, two27] (sgs27 others)) where
  en := rfl
  sts := by
    rw [Nat.zero_min]
    rfl
  tl := Nat.zero_le _
  pd := by
    refine ⟨hapsFrom 1 (others.map nz27), [⟨0, 0, -1, 0, 0, "tick", 0, 0⟩], ?_, noise_ns others 1 (Nat.le_refl _), .inr ⟨_, rfl, ⟨?_, rfl, rfl, ?_⟩, by omega⟩⟩
    · show (hapsFrom 0 (sgs27 others)).Perm _
      unfold sgs27
      rw [hapsFrom]
      exact List.perm_append_comm (l₁ := [_])
    · rintro ⟨_, a⟩
      exact absurd (show (0 : Int) < 0 from a) (by decide)
    · dsimp only
      simp
theorem mdR27 {last : Nat} {span : Int} {w : Nat} (hs1 : 1 ≤ span) (hs2 : span ≤ 9) (hT2 : last ≤ 1000) (hw : w < 3) : MdR 10 ["tick"] [m27 last span w, two27] := by
  have hall : Dd.Oks [("n" : Str)] [] (deeds27 (last : Int) span w) ∧ Dd.depths (deeds27 (last : Int) span w) ≤ 10 ∧ Dd.fdeps (deeds27 (last : Int) span w) < 10 ∧ Dd.cnts (deeds27 (last : Int) span w) ≤ 20 ∧ Dd.Sms (deeds27 (last : Int) span w) ∧ Dd.Tos 2 ["tick"] (deeds27 (last : Int) span w) := by
    have hw3 : w = 0 ∨ w = 1 ∨ w = 2 := by omega
    rcases hw3 with rfl | rfl | rfl
    all_goals
      simp only [deeds27, stop27, again27, Dd.Oks, Dd.Ok, Fm.Ok, Dd.depths, Dd.depth, Dd.fdeps, Dd.fdep, Fm.depth, Dd.cnts, Dd.cnt, Dd.Sms, Dd.Sm, Dd.Tos, Dd.To, List.mem_cons, List.not_mem_nil, or_false, true_and, and_true, List.length_cons, List.length_nil, Worth]
      refine ⟨?_, by omega, by omega, by omega, by omega, by omega⟩
      omega
  obtain ⟨h1, h2, h3, h4, h5, h6⟩ := hall
  have hfor : ∀ sign, (m27 (last : Int) span w).deedsFor sign = deeds27 (last : Int) span w ∨ (m27 (last : Int) span w).deedsFor sign = [] := fun sign => by
    unfold Mach.deedsFor m27
    rw [List.find?_cons]
    by_cases e : ("tick" : Str) = sign
    · rw [decide_eq_true e]; exact .inl rfl
    · rw [decide_eq_false e]; exact .inr rfl
  have hfor2 : ∀ sign, two27.deedsFor sign = [] := fun sign => rfl
  refine ⟨fun m hm => ?_, fun m hm sign => ?_, fun m hm sign => ?_, by decide, by show 2 ≤ 1000; omega⟩
  all_goals
    simp only [List.mem_cons, List.not_mem_nil, or_false] at hm
    rcases hm with rfl | rfl
  · refine ⟨⟨by show 1 ≤ 1000; omega, by show 0 ≤ 1000; omega, by show 0 ≤ 1000; omega, by show 1 ≤ 1000; omega, fun p hp => ?_⟩, ⟨?_, List.nodup_nil⟩, fun p hp => ?_⟩
    · rw [show p = (("tick" : Str), deeds27 (last : Int) span w) from List.mem_singleton.mp hp]
      exact ⟨by show 2 ≤ 1000; omega, h5⟩
    · show ([("n" : Str)] : List Str).Nodup
      simp
    · rw [show p = (("tick" : Str), deeds27 (last : Int) span w) from List.mem_singleton.mp hp]
      exact ⟨h1, h2, h3, by dsimp only; omega⟩
  · exact ⟨⟨by show 0 ≤ 1000; omega, by show 0 ≤ 1000; omega, by show 0 ≤ 1000; omega, by show 0 ≤ 1000; omega, fun p hp => nomatch hp⟩, ⟨List.nodup_nil, List.nodup_nil⟩, fun p hp => nomatch hp⟩
  · rcases hfor sign with e | e
    · rw [e]; exact h6
    · rw [e, Dd.Tos]; exact True.intro
  · rw [hfor2, Dd.Tos]; exact True.intro
  · rcases hfor sign with e | e
    · rw [e]; exact h4
    · rw [e, Dd.cnts]; omega
  · rw [hfor2, Dd.cnts]; omega
theorem sgR27 {others : List Int} (h : ∀ t ∈ others, 0 ≤ t ∧ t ≤ 100000) : ∀ s ∈ sgs27 others, SgR 2 SOk s := by
  have h1 : SOk "tick" := by show PyData.strOk _ = true; decide +kernel
  have h2 : SOk "noise" := by show PyData.strOk _ = true; decide +kernel
  intro s hs
  rcases List.mem_cons.mp hs with rfl | hs
  · exact ⟨by decide, by decide, by decide, by decide, by decide, by decide, by constructor <;> decide, by constructor <;> decide, h1⟩
  · obtain ⟨t, ht, rfl⟩ := List.mem_map.mp hs
    have := h t ht
    exact ⟨by show (0 : Int) ≤ 1; decide, by show (1 : Int) < 2; decide, this.1, by show t ≤ _; omega, by show (0 : Int) ≤ 2; decide, by show (2 : Int) ≤ 9; decide, by show Worth 1; constructor <;> decide, by show Worth 2; constructor <;> decide, h2⟩
end Mo
namespace Mo
open PySem PySem.Spec PyProof.Rows L2
/-! ### the least of a list of data; one of it taken out -/
def rMinD (K : PySem.W.Frag) : List V → Hp → VK → Prop := fun vs H Q => ∃ (a : Addr) (xs : List V) (d : PyData) (ds : List PyData), vs = [V.ref a] ∧ SqL K H a xs ∧ DpAll K H xs (d :: ds) ∧ PySem.W.AlikeAll (d :: ds) ∧ PyData.depthAll (d :: ds) ≤ 60 ∧
  ∀ (i : Nat) (v : V), xs[i]? = some v → (d :: ds)[i]? = some (PySem.W.minD d ds) → Q v H
theorem minD_mem (d : PyData) : ∀ ds : List PyData, PySem.W.minD d ds ∈ d :: ds := by
  intro ds
  unfold PySem.W.minD
  induction ds generalizing d with
  | nil => exact List.mem_cons_self
  | cons e ds ih =>
    rw [List.foldl_cons]
    have h := ih (if PySem.W.dataLt e d then e else d)
    rcases List.mem_cons.mp h with h | h
    · rw [h]
      split
      · exact List.mem_cons_of_mem _ List.mem_cons_self
      · exact List.mem_cons_self
    · exact List.mem_cons_of_mem _ (List.mem_cons_of_mem _ h)
section
variable {X : Cx}
theorem cr_minD (hc : X.calm = true) (hu : X.A.units + 65 < cLine) : CallR X (.builtin "min") (rMinD X.K) := by
  intro pins s σ H vs us Q I r h
  obtain ⟨a, xs, d, ds, rfl, hs, hd, hal, hdp, q⟩ := h
  obtain ⟨its, rv, hl, _⟩ := I.list hs
  obtain ⟨as, hr⟩ := Dp.readsAll I (d :: ds) xs its hd rv
  rw [Vals.ref1 r]
  refine PySem.W.min_list_data (vs := its.toArray) (I.ok.hd hc) hl.isList (by simpa using hr) hal (by omega) fun i v h' tk bs hv hrd hk => ?_
  have hv' : its[i]? = some v := by simpa using hv
  obtain ⟨x, hx, rx⟩ : ∃ x, xs[i]? = some x ∧ RelV x v := by
    have hi := (List.getElem?_eq_some_iff.mp hv').1
    have hlen := rv.length
    refine ⟨xs[i]'(by omega), List.getElem?_eq_getElem (by omega), ?_⟩
    obtain ⟨w, hw, rw'⟩ := rv.get (List.getElem?_eq_getElem (show i < xs.length by omega))
    rw [hv'] at hw
    cases hw
    exact rw'
  obtain ⟨cs, h1, h2, h3, _⟩ := PySem.W.readsAll_at hr i v hv'
  have h4 : (d :: ds).getD i .none = PySem.W.minD d ds := PySem.W.alike_unique _ _ v cs bs (hal.1 _ h3 _ (minD_mem d ds)) (PySem.W.reads_keeps hk h1) hrd
  refine ⟨x, H, I.kept (t' := tk) hk, rx, q i x hx ?_⟩
  rw [List.getD_eq_getElem?_getD, List.getElem?_eq_getElem h2] at h4
  rw [List.getElem?_eq_getElem h2]
  exact congrArg some h4
def rRemD (K : PySem.W.Frag) : V → List V → Hp → VK → Prop := fun x xs H Q => ∃ (l : Addr) (ys : List V) (y : V) (d : PyData) (ds : List PyData) (j : Nat), x = .ref l ∧ xs = [y] ∧ H l = some (.lst ys) ∧ DpAll K H ys ds ∧ Dp K H y d ∧ PyData.plainAll ds = true ∧ d.plain = true ∧ PyData.depthAll ds ≤ 60 ∧
  PySem.SeqAt.dataPlace ds d = some j ∧ Q .non (upd H l (.lst (ys.eraseIdx j)))
theorem mt_removeD (hu : X.A.units + 65 < cLine) : MtM X "list.remove" (rRemD X.K) := by
  intro pins s σ H x xs v us Q I rx rxs h
  obtain ⟨l, ys, y, d, ds, j, rfl, rfl, hH, hd, hy, p1, p2, hdp, hj, q⟩ := h
  cases rx
  obtain ⟨u, rfl, ru⟩ := rxs.one
  obtain ⟨z, its, n, r, hl, e⟩ := I.lstM hH
  obtain ⟨as, hr⟩ := Dp.readsAll I ds ys its hd r
  obtain ⟨bs, hr2⟩ := Dp.reads I d y u hy ru
  refine PySem.SeqAt.remove_list_data (vs := its.toArray) (j := j) ⟨_, e, rfl, n, rfl⟩ (by simpa using hr) hr2 p1 p2 (by omega) hj (by rw [List.size_toArray]; omega) ?_
  refine ⟨.non, _, I.lset (its' := its.eraseIdx j) hH e ?_ (r.eraseIdx j) ?_, rfl, q⟩
  · show its.toArray.eraseIdxIfInBounds j = (its.eraseIdx j).toArray
    rw [List.eraseIdxIfInBounds_toArray]
  · have := List.length_eraseIdx_le ys j
    omega
end
end Mo
namespace Mo
open PySem PySem.Spec PyProof.Rows L2
/-! ### a happening found by its data -/
theorem haps_plain : ∀ l : List Hap, PyData.plainAll (l.map Hap.data) = true
  | [] => rfl
  | x :: l => by
    rw [List.map_cons]
    show (x.data.plain && PyData.plainAll (l.map Hap.data)) = true
    rw [haps_plain l]
    rfl
theorem place_find {l : List Hap} (h : (l.map Hap.key).Nodup) {i : Nat} {x : Hap} (hx : l[i]? = some x) (hs : SOk x.sign) : PySem.SeqAt.dataPlace (l.map Hap.data) x.data = some i := by
  unfold PySem.SeqAt.dataPlace
  have hi := (List.getElem?_eq_some_iff.mp hx).1
  rw [List.findIdx?_eq_some_iff_getElem]
  refine ⟨by rw [List.length_map]; exact hi, ?_, fun j hj => ?_⟩
  · rw [List.getElem_map, (List.getElem?_eq_some_iff.mp hx).2]
    exact hap_eqv_self hs
  · rw [List.getElem_map]
    have hjl : j < l.length := by omega
    have hne : l[j].key ≠ x.key := fun e => by
      have := nodup_get h (List.getElem?_eq_getElem hjl) hx e
      omega
    rw [hap_eqv_no hne]
    decide
end Mo
namespace Mo
open PySem PySem.Spec PyProof.Rows L2
/-! ### the least of a list of keys, a key removed -/
theorem key_lt {x y : Hap} : PySem.W.dataLt x.keyD y.keyD = HT.lexLt x.key y.key := by
  show PySem.W.dataLt (.tuple (x.key.map PyData.int)) (.tuple (y.key.map PyData.int)) = _
  rw [PySem.W.dataLt_tuple]
  exact lt_ints rfl
theorem minD_keys : ∀ (x : Hap) (l : List Hap), PySem.W.minD x.keyD (l.map Hap.keyD) = (l.foldl lessK x).keyD
  | x, [] => rfl
  | x, y :: l => by
    unfold PySem.W.minD
    rw [List.map_cons, List.foldl_cons, List.foldl_cons, key_lt]
    have ih := fun z => minD_keys z l
    unfold PySem.W.minD at ih
    by_cases e : HT.lexLt y.key x.key = true
    · rw [if_pos e, show lessK x y = y from if_pos e]
      exact ih y
    · rw [if_neg e, show lessK x y = x from if_neg e]
      exact ih x
theorem keyD_key {x y : Hap} (h : x.keyD = y.keyD) : x.key = y.key := by
  unfold Hap.keyD at h
  injection h with h
  injection h with a1 h
  injection a1 with a1
  injection h with a2 h
  injection a2 with a2
  injection h with a3 h
  injection a3 with a3
  injection h with a4 h
  injection a4 with a4
  unfold Hap.key
  rw [a1, a2, a3, a4]
theorem min_placeK {l : List Hap} {x : Hap} {r : List Hap} (hl : l = x :: r) (h : (l.map Hap.key).Nodup) {i : Nat} (hi : (l.map Hap.keyD)[i]? = some (PySem.W.minD x.keyD (r.map Hap.keyD))) : i = place l := by
  subst hl
  rw [minD_keys x r, ← place_fold x r] at hi
  have hp := place_lt (l := x :: r) (Nat.succ_pos _)
  rw [List.getElem?_map] at hi
  obtain ⟨y, hy, e⟩ := Option.map_eq_some_iff.mp hi
  have hz : (x :: r)[place (x :: r)]? = some ((x :: r).getD (place (x :: r)) default) := by
    rw [List.getD_eq_getElem?_getD, List.getElem?_eq_getElem hp]
    rfl
  exact nodup_get h hy hz (keyD_key e)
theorem keys_alike (l : List Hap) : PySem.W.AlikeAll (l.map Hap.keyD) := by
  refine ⟨fun x hx y hy => ?_, fun x hx => ?_⟩
  · obtain ⟨a, _, rfl⟩ := List.mem_map.mp hx
    obtain ⟨b, _, rfl⟩ := List.mem_map.mp hy
    rfl
  · obtain ⟨a, _, rfl⟩ := List.mem_map.mp hx
    exact fun z => nomatch z
theorem key_depth (x : Hap) : x.keyD.depth ≤ 3 := by
  simp only [Hap.keyD, PyData.depth, PyData.depthAll]
  omega
theorem keys_depth : ∀ l : List Hap, PyData.depthAll (l.map Hap.keyD) ≤ 3
  | [] => by simp only [List.map_nil, PyData.depthAll]; omega
  | x :: l => by
    have h1 := key_depth x
    have h2 := keys_depth l
    simp only [List.map_cons, PyData.depthAll]
    omega
theorem keys_plain : ∀ l : List Hap, PyData.plainAll (l.map Hap.keyD) = true
  | [] => rfl
  | x :: l => by
    rw [List.map_cons]
    show (x.keyD.plain && PyData.plainAll (l.map Hap.keyD)) = true
    rw [keys_plain l]
    rfl
theorem place_findK {l : List Hap} (h : (l.map Hap.key).Nodup) {i : Nat} {x : Hap} (hx : l[i]? = some x) : PySem.SeqAt.dataPlace (l.map Hap.keyD) x.keyD = some i := by
  unfold PySem.SeqAt.dataPlace
  have hi := (List.getElem?_eq_some_iff.mp hx).1
  rw [List.findIdx?_eq_some_iff_getElem]
  refine ⟨by rw [List.length_map]; exact hi, ?_, fun j hj => ?_⟩
  · rw [List.getElem_map, (List.getElem?_eq_some_iff.mp hx).2, keyD_eqv]
    exact decide_eq_true rfl
  · rw [List.getElem_map]
    have hjl : j < l.length := by omega
    have hne : l[j].key ≠ x.key := fun e => by
      have := nodup_get h (List.getElem?_eq_getElem hjl) hx e
      omega
    rw [keyD_eqv, decide_eq_false hne]
    decide
section
variable {K : PySem.W.Frag} {Γ : List Fc} {S S' : List Vo} {Q : VK} {p : Addr} {pvs : List V} {l : List Hap} {x : Hap} {v : V}
theorem w_minK (m : AtH K Γ S p (.lst pvs)) (hd : .dats pvs (l.map Hap.keyD) ∈ Γ) (h0 : 0 < l.length) (nd : (l.map Hap.key).Nodup) (k : ∀ v, pvs[place l]? = some v → Wh K Γ S fun H => Q v H) : Wh K Γ S fun H => rMinD K [.ref p] H Q := fun H z => by
  cases hl : l with
  | nil => rw [hl] at h0; cases h0
  | cons x r =>
    have hdp : DpAll K H pvs (x.keyD :: r.map Hap.keyD) := by
      have := z.fact hd
      rw [hl] at this
      exact this
    refine ⟨p, pvs, x.keyD, r.map Hap.keyD, rfl, SqL.of (m H z), hdp, ?_, ?_, fun i v hv hi => ?_⟩
    · have := keys_alike (x :: r)
      rw [List.map_cons] at this
      exact this
    · have := keys_depth (x :: r)
      rw [List.map_cons] at this
      omega
    · have hi' : (l.map Hap.keyD)[i]? = some (PySem.W.minD x.keyD (r.map Hap.keyD)) := by rw [hl]; exact hi
      have := min_placeK hl nd hi'
      rw [this] at hv
      exact k v hv H z
theorem w_remK {i : Nat} (m : Sw p (.lst pvs) (.lst (pvs.eraseIdx i)) S S') (hd : .dats pvs (l.map Hap.keyD) ∈ Γ) (hv : .dat v x.keyD ∈ Γ) (hx : l[i]? = some x) (nd : (l.map Hap.key).Nodup) (k : Wh K Γ S' fun H => Q .non H) : Wh K Γ S fun H => rRemD K (.ref p) [v] H Q := fun H z =>
  ⟨p, pvs, v, x.keyD, l.map Hap.keyD, i, rfl, rfl, z.own m.mem, z.fact hd, z.dat hv, keys_plain l, rfl, Nat.le_trans (keys_depth l) (by decide), place_findK nd hx, k _ (z.sw m)⟩
end
end Mo
namespace Mo
open PySem PySem.Spec PyProof.Rows L2
structure CalP where
  c : Addr
  row : Addr
  th : Addr
  dx : Addr
/-- what it keeps is in order, its keys are there, it is not long -/
structure EsOk (b : Bool) (G : Hp) (es : List Ent) : Prop where
  asc : Asc es
  good : ∀ e ∈ es, GoodK b G e
theorem EsOk.mono {b : Bool} {G G' : Hp} {es : List Ent} (h : EsOk b G es) (x : Ext G G') : EsOk b G' es := ⟨h.asc, fun e he => (h.good e he).mono x⟩
theorem EsOk.ins {b : Bool} {G : Hp} {es : List Ent} {x : Ent} (h : EsOk b G es) (g : GoodK b G x) (n : x.k ∉ es.map (·.k)) : EsOk b G (insE x es) :=
  ⟨insE_asc h.asc n, fun e he => by
    rcases mem_insE.mp he with rfl | he
    · exact g
    · exact h.good e he⟩
theorem EsOk.rem {b : Bool} {G : Hp} {es : List Ent} {k : List Int} (h : EsOk b G es) : EsOk b G (remE k es) := ⟨remE_asc h.asc, fun e he => h.good e (mem_remE.mp he).1⟩
theorem EsOk.nil {b : Bool} {G : Hp} : EsOk b G [] := ⟨.nil, fun _ h => nomatch h⟩
def leastV : List Ent → V
  | [] => .non
  | e :: _ => e.v
end Mo
namespace Mo
open PySem PySem.Spec PyProof.Rows L2
/-! ### anything that keeps things by keys, as a class tells it -/
structure CalI (K : PySem.W.Frag) (cn : Str) where
  Rep : Hp → Vo → Addr → List Ent → Prop
  ins : ∀ {G C c es}, Rep G C c es → ∃ φ, (c, φ) ∈ C ∧ ∀ o, φ o → ∃ dx fs, o = .ins (He.ga K cn) dx fs ∧ ∀ m ∈ (["put", "size", "least", "leave", "take_out"] : List Str), fs.lookup m = none
  mono : ∀ {G G' C c es}, Rep G C c es → Ext G G' → Rep G' C c es
  ok : ∀ {G C c es}, Rep G C c es → EsOk true G es
theorem CalI.at_ {K : PySem.W.Frag} {cn : Str} (I : CalI K cn) {G H : Hp} {C L : Vo} {c : Addr} {es : List Ent} (r : I.Rep G C c es) (z : Hd G H L) (s : ∀ x ∈ C, x ∈ L) : ∃ dx fs, H c = some (.ins (He.ga K cn) dx fs) ∧ ∀ m ∈ (["put", "size", "least", "leave", "take_out"] : List Str), fs.lookup m = none := by
  obtain ⟨φ, h1, h2⟩ := I.ins r
  obtain ⟨o, h3, h4⟩ := z.get (s _ h1)
  obtain ⟨dx, fs, rfl, h5⟩ := h2 o h4
  exact ⟨dx, fs, h3, h5⟩
section
variable {K : PySem.W.Frag} {cn : Str} (I : CalI K cn)
def spPutI : Sp := fun vs H Q _ => ∃ (G : Hp) (C L : Vo) (c : Addr) (es : List Ent) (x : Ent), vs = [.ref c, x.v, x.t] ∧ I.Rep G C c es ∧ Hd G H (C ++ L) ∧ GoodK true G x ∧ x.k ≠ [] ∧ x.k ∉ es.map (·.k) ∧ es.length ≤ 4000 ∧
  ∀ C' H', I.Rep G C' c (insE x es) → Hd G H' (C' ++ L) → Q .non H'
def spSizeI : Sp := fun vs H Q _ => ∃ (G : Hp) (C L : Vo) (c : Addr) (es : List Ent), vs = [.ref c] ∧ I.Rep G C c es ∧ Hd G H (C ++ L) ∧ Q (.int (es.length : Int)) H
def spLeastI : Sp := fun vs H Q _ => ∃ (G : Hp) (C L : Vo) (c : Addr) (es : List Ent), vs = [.ref c] ∧ I.Rep G C c es ∧ Hd G H (C ++ L) ∧ Q (leastV es) H
def spLeaveI : Sp := fun vs H Q _ => ∃ (G : Hp) (C L : Vo) (c : Addr) (es : List Ent), vs = [.ref c] ∧ I.Rep G C c es ∧ Hd G H (C ++ L) ∧ es.length ≤ 4000 ∧
  (es = [] → Q .non H) ∧ (∀ e r, es = e :: r → ∀ p C' H', I.Rep (upd G p (.tup [e.v, e.t])) C' c r → Hd (upd G p (.tup [e.v, e.t])) H' (C' ++ L) → G p = none → Q (.ref p) H')
def spTakeI : Sp := fun vs H Q _ => ∃ (G : Hp) (C L : Vo) (c : Addr) (es : List Ent) (x : Ent), vs = [.ref c, x.v] ∧ I.Rep G C c es ∧ Hd G H (C ++ L) ∧ GoodK true G x ∧ x.k ≠ [] ∧ es.length ≤ 4000 ∧
  (getE x.k es = none → Q .non H) ∧ (∀ t, getE x.k es = some t → ∀ C' H', I.Rep G C' c (remE x.k es) → Hd G H' (C' ++ L) → Q t H')
end
/-! #### data of keys and things -/
/-- a thing that is told apart -/
def Plain (K : PySem.W.Frag) (G : Hp) (t : V) : Prop := ∃ d, Dp K G t d ∧ SeqAt.shaped d = true
theorem Plain.mono {K : PySem.W.Frag} {G G' : Hp} {t : V} (h : Plain K G t) (x : Ext G G') : Plain K G' t := let ⟨d, h1, h2⟩ := h; ⟨d, dp_mono x h1, h2⟩
theorem eqv_ints : ∀ ns ms : List Int, PyData.eqvAll (ns.map PyData.int) (ms.map PyData.int) = decide (ns = ms)
  | [], [] => rfl
  | [], _ :: _ => rfl
  | _ :: _, [] => rfl
  | n :: ns, m :: ms => by
    rw [List.map_cons, List.map_cons]
    show (PyData.eqv (.int n) (.int m) && PyData.eqvAll (ns.map PyData.int) (ms.map PyData.int)) = _
    rw [eqv_ints ns ms]
    show ((n == m) && decide (ns = ms)) = _
    by_cases h : n = m
    · subst h
      simp
    · have h1 : (n == m) = false := beq_eq_false_iff_ne.mpr h
      rw [h1, decide_eq_false (fun z => h (List.cons.inj z).1)]
      rfl
theorem eqv_tup (ns ms : List Int) : PyData.eqv (.tuple (ns.map PyData.int)) (.tuple (ms.map PyData.int)) = decide (ns = ms) := eqv_ints ns ms
theorem dp_ints {K : PySem.W.Frag} {G : Hp} {a : Addr} {ns : List Int} (h : G a = some (.tup (ns.map V.int))) : Dp K G (.ref a) (.tuple (ns.map PyData.int)) := .tup (SqT.of h) (dpa_ints ns)
theorem lay_ints : ∀ ns : List Int, PyData.canLayAll0 (ns.map PyData.int) = true
  | [] => rfl
  | _ :: r => lay_ints r
theorem depth_ints : ∀ ns : List Int, PyData.depth (.tuple (ns.map PyData.int)) ≤ 2
  | [] => by decide
  | _ :: r => by
    have := depth_ints r
    simp only [PyData.depth, PyData.depthAll, List.map_cons] at this ⊢
    omega
theorem shaped_ints (ns : List Int) : SeqAt.shaped (.tuple (ns.map PyData.int)) = true := by
  unfold SeqAt.shaped
  rw [Bool.and_eq_true]
  exact ⟨lay_ints ns, decide_eq_true (Nat.le_trans (depth_ints ns) (by decide))⟩
/-- the same value twice -/
theorem go_eqP {K : PySem.W.Frag} {G H : Hp} {Q : VK} {t : V} (x : Ext G H) (h : Plain K G t) (k : Q (.bl true) H) : rEqA K t t H Q := by
  obtain ⟨d, h1, h2⟩ := h
  exact go_eqD (dp_mono x h1) (dp_mono x h1) h2 h2 (by rw [eqv_self h2]; exact k)
theorem go_neP {K : PySem.W.Frag} {G H : Hp} {Q : VK} {t : V} (x : Ext G H) (h : Plain K G t) (k : Q (.bl false) H) : rNeA K t t H Q := by
  obtain ⟨d, h1, h2⟩ := h
  exact go_neD (dp_mono x h1) (dp_mono x h1) h2 h2 (by rw [eqv_self h2]; exact k)
theorem plain_key {K : PySem.W.Frag} {G : Hp} {e : Ent} (h : GoodK true G e) : Plain K G e.v := by
  obtain ⟨a, h1, h2⟩ := h
  rw [h1]
  exact ⟨_, dp_ints h2, shaped_ints _⟩
theorem plain_non {K : PySem.W.Frag} {G : Hp} : Plain K G .non := ⟨.none, .non, rfl⟩
/-! #### the law's own dict of things -/
def unInl : Key → Int
  | .inl i => i
  | .inr _ => 0
section
variable {K : PySem.W.Frag} {G H : Hp} {Q : VK} {es : List Ent} {th : Addr} {o : HO}
theorem go_minT {e : Ent} {r : List Ent} (ht : H th = some o) (h : Thg true (e :: r) o) (ha : Asc (e :: r)) (k : ∀ b, H b = some (.tup (e.k.map V.int)) → Q (.ref b) H) : rMinT [.ref th] H Q := by
  obtain ⟨kvs, rfl, p⟩ := h
  have hm : ∀ q ∈ kvs, ∃ x ∈ e :: r, q.1 = fT x := fun q hq => by
    obtain ⟨x, hx, rfl⟩ := List.mem_map.mp (p.mem_iff.mp hq)
    exact ⟨x, hx, rfl⟩
  have un : ∀ ns : List Int, (ns.map (Sum.inl : Int → Key)).map unInl = ns := fun ns => by
    rw [List.map_map]
    exact List.map_id ns
  refine ⟨th, kvs, kvs.map fun q => q.1.map unInl, rfl, ht, ?_, ?_, fun b ns hn hle hb => ?_⟩
  · rw [List.map_map]
    refine List.map_congr_left fun q hq => ?_
    obtain ⟨x, _, e1⟩ := hm q hq
    show q.1 = (q.1.map unInl).map Sum.inl
    rw [e1]
    show x.k.map Sum.inl = ((x.k.map Sum.inl).map unInl).map Sum.inl
    rw [un]
  · intro z
    have := congrArg List.length z
    rw [List.length_map, p.length_eq, List.length_map] at this
    cases this
  · have key : ∀ x ∈ e :: r, x.k ∈ kvs.map fun q => q.1.map unInl := fun x hx => by
      have := p.mem_iff.mpr (List.mem_map.mpr ⟨x, hx, rfl⟩)
      exact List.mem_map.mpr ⟨_, this, un x.k⟩
    obtain ⟨q, hq, e1⟩ := List.mem_map.mp hn
    obtain ⟨x, hx, e2⟩ := hm q hq
    have e3 : ns = x.k := by rw [← e1, e2]; exact un x.k
    have e4 : ns = e.k := by
      rcases List.mem_cons.mp hx with rfl | hx
      · exact e3
      · have h1 := (List.pairwise_cons.mp ha).1 x hx
        have h2 := hle e.k (key e List.mem_cons_self)
        rw [e3, h1] at h2
        cases h2
    rw [e4] at hb
    exact k b hb
theorem go_lenThg {b : Bool} (ht : H th = some o) (h : Thg b es o) (k : Q (.int (es.length : Int)) H) : rLenA K [.ref th] H Q := by
  rcases thg_len (n := 0) (kvs := []) h with ⟨kvs, rfl, e⟩ | ⟨kvs, rfl, e⟩
  · exact go_lenDT ht (by rw [e]; exact k)
  · exact go_lenK ht (by rw [e]; exact k)
theorem thg_ty {b : Bool} (ht : H th = some o) (h : Thg b es o) : tyV K "dict" (.ref th) H := by
  rcases thg_len (n := 0) (kvs := []) h with ⟨kvs, rfl, e⟩ | ⟨kvs, rfl, e⟩
  · exact .inr (.inr (.inl ⟨rfl, .inr ⟨kvs, ht⟩⟩))
  · exact .inr (.inr (.inl ⟨rfl, .inl ⟨kvs, ht⟩⟩))
theorem go_isi_tup {a : Addr} {xs : List V} (h : H a = some (.tup xs)) (k : Q (.bl true) H) : rIsi K [.ref a, .ty "tuple"] H Q := go_isi (.ty _) (.base (.tup h)) (kit_ty (by decide +kernel)) k
theorem go_isi_ntup (k : Q (.bl false) H) : rIsi K [.non, .ty "tuple"] H Q := go_isi (.ty _) (.base .non) (kit_ty (by decide +kernel)) k
end
end Mo
namespace Mo
open PySem PySem.Spec PyProof.Rows L2
/-! ### what is pending, kept by a calendar -/
abbrev EH := Ent × Hap
theorem ins_ps (x : Ent) (h : Hap) : ∀ ps : List EH, ∃ ps' : List EH, ps'.map (·.1) = insE x (ps.map (·.1)) ∧ ps'.Perm ((x, h) :: ps)
  | [] => ⟨[(x, h)], rfl, List.Perm.refl _⟩
  | y :: r => by
    obtain ⟨r', e, p⟩ := ins_ps x h r
    rw [List.map_cons]
    unfold insE
    by_cases hl : HT.lexLt y.1.k x.k = true
    · rw [if_pos hl]
      exact ⟨y :: r', by rw [List.map_cons, e], (p.cons y).trans (.swap _ _ _)⟩
    · rw [if_neg hl]
      exact ⟨(x, h) :: y :: r, rfl, List.Perm.refl _⟩
def PsK (ps : List EH) : Prop := ∀ p ∈ ps, p.1.k = p.2.key
theorem PsK.perm {ps ps' : List EH} (h : PsK ps) (p : ps'.Perm ps) : PsK ps' := fun q hq => h q (p.mem_iff.mp hq)
theorem PsK.keys {ps : List EH} (h : PsK ps) : (ps.map (·.1)).map (·.k) = (ps.map (·.2)).map Hap.key := by
  rw [List.map_map, List.map_map]
  exact List.map_congr_left fun p hp => h p hp
def cpF (ps : List EH) : Fc := .gen (fun G => ∀ p ∈ ps, HapX G p.1.t p.2) fun _ _ z h p m => (h p m).mono z
def repF {K : PySem.W.Frag} {cn : Str} (I : CalI K cn) (C : Vo) (c : Addr) (es : List Ent) : Fc := .gen (fun G => I.Rep G C c es) fun _ _ z h => I.mono h z
section
variable {K : PySem.W.Frag} {cn : Str} {I : CalI K cn} {Γ : List Fc} {S R : List Vo} {Q : VK} {E : XK} {A : Hp → Prop} {C : Vo} {c : Addr} {ps : List EH}
theorem w_repPerm {es es' : List Ent} (e : es = es') (m : repF I C c es ∈ Γ) (k : Wh K (repF I C c es' :: Γ) S A) : Wh K Γ S A := by
  subst e
  exact fun H z => k H (z.weak fun f hf => by
    rcases List.mem_cons.mp hf with rfl | hf
    · exact m
    · exact hf)
theorem w_cpNil (k : Wh K (cpF [] :: Γ) S A) : Wh K Γ S A := Wh.learn (f := cpF []) (fun _ _ _ m => nomatch m) k
theorem w_calMeth {f : Str} (m : repF I C c (ps.map (·.1)) ∈ Γ) (t : Take C S R) (hf : f ∈ (["put", "size", "least", "leave", "take_out"] : List Str)) (k : Wh K Γ S A) :
    Wh K Γ S fun H => ∃ b dx' fs', V.ref c = .ref b ∧ H b = some (.ins (He.ga K cn) dx' fs') ∧ fs'.lookup f = none ∧ A H := fun H z => by
  obtain ⟨G, a, b⟩ := z.tk1 t
  obtain ⟨dx, fs, h1, h2⟩ := I.at_ (L := (C :: R).flatten) (b _ m : I.Rep G C c _) a fun x hx => List.mem_flatten.mpr ⟨C, List.mem_cons_self, hx⟩
  exact ⟨c, dx, fs, rfl, h1, h2 f hf, k H z⟩
theorem w_calSize (m : repF I C c (ps.map (·.1)) ∈ Γ) (t : Take C S R) (k : Wh K Γ S fun H => Q (.int (ps.length : Int)) H) : Wh K Γ S fun H => spSizeI I [.ref c] H Q E := fun H z => by
  obtain ⟨G, a, b⟩ := z.tk1 t
  have hr : I.Rep G C c (ps.map (·.1)) := b _ m
  refine ⟨G, C, R.flatten, c, ps.map (·.1), rfl, hr, a, ?_⟩
  rw [List.length_map]
  exact k H z
theorem w_calPut {h : Hap} {u p : Addr} (m : repF I C c (ps.map (·.1)) ∈ Γ) (t : Take C S R) (m2 : cpF ps ∈ Γ) (o1 : .obj u (.tup [.ref p, .int h.to, .str h.sign, .int h.g, .int h.h]) ∈ Γ) (o2 : .obj p (.tup [.int h.time, .int h.rank, .int h.frm, .int h.count]) ∈ Γ) (hk : PsK ps) (hn : h.key ∉ (ps.map (·.2)).map Hap.key) (hl : ps.length ≤ 4000)
    (k : ∀ C' ps', ps'.Perm ((⟨h.key, .ref p, .ref u⟩, h) :: ps) → Wh K (repF I C' c (ps'.map (·.1)) :: cpF ps' :: Γ) (C' :: R) fun H => Q .non H) : Wh K Γ S fun H => spPutI I [.ref c, .ref p, .ref u] H Q E := fun H z => by
  obtain ⟨G, a, b⟩ := z.tk1 t
  obtain ⟨ps', e1, e2⟩ := ins_ps ⟨h.key, .ref p, .ref u⟩ h ps
  have hr : I.Rep G C c (ps.map (·.1)) := b _ m
  refine ⟨G, C, R.flatten, c, ps.map (·.1), ⟨h.key, .ref p, .ref u⟩, rfl, hr, a, ⟨p, rfl, b _ o2⟩, List.cons_ne_nil _ _, by rw [hk.keys]; exact hn, by rw [List.length_map]; exact hl, fun C' H' r' z' => ?_⟩
  refine k C' ps' e2 H' ⟨G, z', fun f hf => ?_⟩
  rcases List.mem_cons.mp hf with rfl | hf
  · show I.Rep G C' c _
    rw [e1]
    exact r'
  rcases List.mem_cons.mp hf with rfl | hf
  · intro q hq
    rcases List.mem_cons.mp (e2.mem_iff.mp hq) with rfl | hq
    · exact ⟨u, p, rfl, b _ o1, b _ o2⟩
    · exact (b _ m2 : ∀ p ∈ ps, HapX G p.1.t p.2) q hq
  · exact b f hf
theorem w_calLeave {q : EH} {r : List EH} (m : repF I C c (ps.map (·.1)) ∈ Γ) (t : Take C S R) (e : ps = q :: r) (hl : ps.length ≤ 4000)
    (k : ∀ p C', Wh K (.obj p (.tup [q.1.v, q.1.t]) :: repF I C' c (r.map (·.1)) :: Γ) (C' :: R) fun H => Q (.ref p) H) : Wh K Γ S fun H => spLeaveI I [.ref c] H Q E := fun H z => by
  obtain ⟨G, a, b⟩ := z.tk1 t
  have hr : I.Rep G C c (ps.map (·.1)) := b _ m
  refine ⟨G, C, R.flatten, c, ps.map (·.1), rfl, hr, a, by rw [List.length_map]; exact hl, fun h0 => ?_, fun e1 r1 he p C' H' rep z' hp => ?_⟩
  · rw [e] at h0
    cases h0
  · rw [e, List.map_cons] at he
    cases he
    have x : Ext G (upd G p (.tup [q.1.v, q.1.t])) := Ext.new hp
    refine k p C' H' ⟨_, z', fun f hf => ?_⟩
    rcases List.mem_cons.mp hf with rfl | hf
    · exact upd_same
    rcases List.mem_cons.mp hf with rfl | hf
    · exact rep
    · exact Fc.mono x (b f hf)
/-- the first of them: its facts -/
theorem w_calHead {q : EH} {r : List EH} (m : repF I C c (ps.map (·.1)) ∈ Γ) (m2 : cpF ps ∈ Γ) (hk : PsK ps) (e : ps = q :: r)
    (k : ∀ p2 p u, q.1.v = .ref p2 → q.1.t = .ref u → Wh K (.obj p2 (.tup [.int q.2.time, .int q.2.rank, .int q.2.frm, .int q.2.count]) :: .obj u (.tup [.ref p, .int q.2.to, .str q.2.sign, .int q.2.g, .int q.2.h]) :: .obj p (.tup [.int q.2.time, .int q.2.rank, .int q.2.frm, .int q.2.count]) :: cpF r :: Γ) S A) : Wh K Γ S A := fun H z => by
  obtain ⟨G, a, b⟩ := z
  have hq : q ∈ ps := by rw [e]; exact List.mem_cons_self
  obtain ⟨u, p, e1, h1, h2⟩ := (b _ m2 : ∀ p ∈ ps, HapX G p.1.t p.2) q hq
  obtain ⟨p2, e2, h3⟩ := (I.ok (b _ m : I.Rep G C c _)).good q.1 (List.mem_map.mpr ⟨q, hq, rfl⟩)
  rw [hk q hq] at h3
  refine k p2 p u e2 e1 H ⟨G, a, fun f hf => ?_⟩
  rcases List.mem_cons.mp hf with rfl | hf
  · exact h3
  rcases List.mem_cons.mp hf with rfl | hf
  · exact h1
  rcases List.mem_cons.mp hf with rfl | hf
  · exact h2
  rcases List.mem_cons.mp hf with rfl | hf
  · exact fun p hp => (b _ m2 : ∀ p ∈ ps, HapX G p.1.t p.2) p (by rw [e]; exact List.mem_cons_of_mem _ hp)
  · exact b f hf
theorem w_calAsc (m : repF I C c (ps.map (·.1)) ∈ Γ) (k : Asc (ps.map (·.1)) → Wh K Γ S A) : Wh K Γ S A := fun H z => by
  obtain ⟨G, a, b⟩ := id z
  exact k (I.ok (b _ m : I.Rep G C c _)).asc H z
end
/-- the least one pending is the first one kept -/
theorem place_first {l : List Hap} {q : EH} {r : List EH} (nd : (l.map Hap.key).Nodup) (hp : ((q :: r).map (·.2)).Perm l) (hk : PsK (q :: r)) (ha : Asc ((q :: r).map (·.1))) : l[place l]? = some q.2 ∧ (r.map (·.2)).Perm (l.eraseIdx (place l)) := by
  have hl0 : l ≠ [] := fun e => by
    rw [e] at hp
    exact absurd (List.perm_nil.mp hp) (by simp)
  have h1 := List.getElem?_eq_getElem (place_lt (List.length_pos_iff.mpr hl0))
  obtain ⟨x, hx⟩ : ∃ x, l[place l]? = some x := ⟨_, h1⟩
  have hxm : x ∈ (q :: r).map (·.2) := hp.mem_iff.mpr (List.mem_of_getElem? hx)
  have hqm : q.2 ∈ l := hp.mem_iff.mp (by rw [List.map_cons]; exact List.mem_cons_self)
  have hxq : x = q.2 := by
    rw [List.map_cons] at hxm
    rcases List.mem_cons.mp hxm with e | hm
    · exact e
    · obtain ⟨y, hy, rfl⟩ := List.mem_map.mp hm
      have h2 := (List.pairwise_cons.mp ha).1 y.1 (List.mem_map.mpr ⟨y, hy, rfl⟩)
      have h3 := place_least hx q.2 hqm
      rw [hk q List.mem_cons_self, hk y (List.mem_cons_of_mem _ hy), h3] at h2
      cases h2
  subst hxq
  refine ⟨hx, ?_⟩
  rw [List.map_cons] at hp
  exact List.Perm.cons_inv (hp.trans (erase_perm hx).symm)
end Mo
namespace Mo
open PySem PySem.Spec PyProof.Rows L2
/-! ### law_k27: its machine, what is due -/
def stopS (w : Nat) : Str := match w with
  | 0 => "end"
  | 1 => "fault"
  | _ => "none"
def spMach27 (K : PySem.W.Frag) : Sp := SpF K (fun i : Nat × Nat × Nat => [.int (i.1 : Int), .str (stopS i.2.1), .int (i.2.2 : Int)]) (fun i _ => i.2.1 < 3) (fun _ => [])
  (fun i v Γ' S' => ∃ t : Addr, v = .ref t ∧ Γ' = [.dat (.ref t) (m27 (i.1 : Int) (i.2.2 : Int) i.2.1).data] ∧ S' = []) noEx
structure Du27 where
  last : Nat
  w : Nat
  span : Nat
  lo : Addr
  os : List Int
  most : Nat
structure Du27.Ok (i : Du27) : Prop where
  l1 : 1 ≤ i.last
  l2 : i.last ≤ 100
  w3 : i.w < 3
  s1 : 1 ≤ i.span
  s2 : i.span ≤ 9
  ol : i.os.length ≤ 50
  ot : ∀ t ∈ i.os, 0 ≤ t ∧ t ≤ 100000
  ml : i.most ≤ 200
def Du27.ms (i : Du27) : List Mach := [m27 (i.last : Int) (i.span : Int) i.w, two27]
def Du27.run (i : Du27) : Run × List Rec := (firstRun i.ms (sgs27 i.os)).go i.ms i.most
/-- what it tells: keys, the ending, the ticks -/
def spDue27 (K : PySem.W.Frag) : Sp := SpF K (fun i : Du27 => [.int (i.last : Int), .str (stopS i.w), .int (i.span : Int), .ref i.lo, .int (i.most : Int)]) (fun i Γ => .obj i.lo (.lst (i.os.map V.int)) ∈ Γ ∧ i.Ok) (fun _ => [])
  (fun i v Γ' S' => ∃ (u : Addr) (t : Nat), v = .ref u ∧ i.run.1.sts = [s17 t (min t (i.last - 1) : Nat), two27.first] ∧ Γ' = [.dat (.ref u) (.tuple [.list (i.run.2.map fun c => c.hap.keyD), i.run.1.ending.data, .int (t : Int)])] ∧ S' = []) noEx
/-- what holds at each turn -/
structure Gu27 (i : Du27) (m : Nat) (r : Run) (rs : List Rec) (t : Nat) : Prop where
  me : m = 2 * (i.most - rs.length) + (if r.ended.isSome = true then 0 else 1)
  go : i.run = ((r.go i.ms (i.most - rs.length)).1, rs ++ (r.go i.ms (i.most - rs.length)).2)
  rr : RunR i.ms SOk r
  rk : RunK r
  rl : rs.length ≤ i.most
  pl : r.pend.length + rs.length ≤ 51 + 25 * rs.length
  st : r.sts = [s17 t (min t (i.last - 1) : Nat), two27.first]
  iv : r.ended = none → Iv i.last (i.span : Int) t r
  ec : ∀ e, r.ended = some e → (∃ x, e = .fin x) ∨ ∃ f x, e = .fault f x
def edD : Option Ending → PyData
  | some e => e.data
  | none => (Ending.cut).data
theorem edD_shaped (e : Option Ending) : SeqAt.shaped (edD e) = true := by
  cases e with
  | none => exact ending_shaped .cut
  | some e => exact ending_shaped e
theorem ed_cut (e : Ending) : PyData.eqv e.data (Ending.cut).data = (match e with | .cut => true | _ => false) := by
  cases e with
  | fin x => rfl
  | fault f x => rfl
  | empty => decide +kernel
  | cut => decide +kernel
section
variable {P : Program} {w : World} {K : PySem.W.Frag} {mg : Str → Option Value} {base : Heap}
theorem ok__law_machine (T : Tx K mg) : OkG P w K mg base 1 "_law_machine" ["_law_last", "_law_stop", "_law_span"] (spMach27 K) := by
  refine T.f__law_machine.okX sc__law_machine (fun vs H Q E h => ?_) (fun cdv A outer s H vs Q E hr h => ?_)
  · obtain ⟨i, _, _, rfl, _⟩ := h
    rfl
  · have hu1 := hu_of hr; have hu0 := hr.units0; have hu64 := hr.units; have hu65 := hu65_of hr; have nd := sc__law_machine.nd
    obtain ⟨⟨last, wy, span⟩, Γ, S, rfl, z, hw3, q, x⟩ := h
    dsimp only at z hw3 q x
    refine ⟨_, (pss_cons (ps_set (i := 3) nd rfl (Or.inl rfl) (pe_disp (pps_cons pe_str (pe_lst (pa_cons (pe_tup (pa_cons pe_str pa_nil)) pa_nil)) (pps_cons pe_str (pe_lst (pa_cons (pe_tup (pa_cons pe_str (pa_cons pe_str (pa_cons (pe_tup (pa_cons pe_str (pa_cons (pe_tup (pa_cons pe_str pa_nil)) (pa_cons (pe_tup (pa_cons pe_str (pa_cons pe_int pa_nil))) pa_nil)))) pa_nil)))) pa_nil)) (pps_cons pe_str (pe_lst pa_nil) pps_nil))) (by rfl) rfl (by decide) (by decide)))
      (pss_cons (ps_set (i := 4) nd rfl (Or.inl rfl) (pe_lst (pa_cons (pe_tup (pa_cons pe_str (pa_cons pe_int (pa_cons pe_str (pa_cons (pe_tup (pa_cons pe_str (pa_cons (pv 2) pa_nil))) (pa_cons pe_int (pa_cons (pe_tup (pa_cons pe_str (pa_cons pe_str pa_nil))) (pa_cons (pe_tup (pa_cons pe_str (pa_cons pe_int pa_nil))) pa_nil)))))))) pa_nil)))
      (pss_cons (ps_set (i := 5) nd rfl (Or.inl rfl) (pe_lst (pa_cons (pe_tup (pa_cons pe_str (pa_cons pe_str (pa_cons (pe_tup (pa_cons pe_str (pa_cons (pe_tup (pa_cons pe_str (pa_cons pe_str pa_nil))) (pa_cons (pe_tup (pa_cons pe_str (pa_cons pe_int pa_nil))) pa_nil)))) pa_nil)))) pa_nil)))
      (pss_cons (ps_expr (pe_bmK (K := K) rfl PySem.F.plainAttrs_list PySem.F.slot_list_append PySem.F.type_list_append mt_append (pv 5) (pa_cons (pe_tup (pa_cons pe_str (pa_cons (pe_tup (pa_cons pe_str (pa_cons (pe_tup (pa_cons pe_str (pa_cons pe_str pa_nil))) (pa_cons (pe_tup (pa_cons pe_str (pa_cons (pv 0) pa_nil))) pa_nil)))) (pa_cons (pe_ix (ix_anyK (K := K) rfl hu1) (pv 3) (pv 1) (fun _ _ => rfl)) (pa_cons (pv 4) pa_nil))))) pa_nil)))
      (pss_one (ps_ret (pe_tup (pa_cons pe_str (pa_cons (pe_lst (pa_cons (pe_tup (pa_cons pe_str (pa_cons pe_int pa_nil))) pa_nil)) (pa_cons (pe_lst pa_nil) (pa_cons (pe_lst pa_nil) (pa_cons (pe_lst (pa_cons (pe_tup (pa_cons pe_str (pa_cons (pv 5) pa_nil))) pa_nil)) pa_nil)))))))))))), ?_⟩
    refine w_start (σ' := [some (.int (last : Int)), some (.str (stopS wy)), some (.int (span : Int)), none, none, none]) rfl z ?_
    dsimp only [List.cons_append, List.nil_append] at q ⊢
    k_extra "W"
    refine w_disp fun dx => ?_
    refine w_pcons ?_
    k_extra "W"
    refine w_lstO fun la => ?_
    refine w_freeze (p := la) (ds := [Dd.fin.data]) (by k_extra "t") (.cons (DV.mem (by rw [Dd.data]; k_extra "m")) .nil) ?_
    refine w_pcons ?_
    k_extra "W"
    refine w_lstO fun lb => ?_
    refine w_freeze (p := lb) (ds := Dd.datas (stop27 1)) (by k_extra "t") (.cons (DV.mem (by rw [Dd.data]; k_extra "m")) .nil) ?_
    refine w_pcons ?_
    k_extra "W"
    refine w_lstO fun lc => ?_
    refine w_freeze (p := lc) (ds := Dd.datas (stop27 2)) (by k_extra "t") .nil ?_
    refine w_pnil ?_
    refine w_dispS [(Sum.inr "end", V.ref la), (Sum.inr "fault", V.ref lb), (Sum.inr "none", V.ref lc)] (by k_extra "sw") rfl (Nat.le_of_ble_eq_true rfl) ?_
    k_extra "W"
    refine w_lstO fun lg => ?_
    refine w_freeze (p := lg) (ds := Dd.datas [again27 (span : Int)]) (by k_extra "t") (.cons (DV.mem (by unfold again27; rw [Dd.data]; k_extra "m")) .nil) ?_
    k_extra "W"
    refine w_lstO fun ld => ?_
    k_extra "W"
    obtain ⟨lx, hlx, hsub⟩ : ∃ lx : Addr, valV [((Sum.inr "end" : Key), V.ref la), (Sum.inr "fault", V.ref lb), (Sum.inr "none", V.ref lc)] (Sum.inr (stopS wy)) = some (.ref lx) ∧ ∀ Γ2 : List Fc, Fc.dat (.ref la) (.list [Dd.fin.data]) ∈ Γ2 → Fc.dat (.ref lb) (.list (Dd.datas (stop27 1))) ∈ Γ2 → Fc.dat (.ref lc) (.list (Dd.datas (stop27 2))) ∈ Γ2 → Fc.dat (.ref lx) (.list (Dd.datas (stop27 wy))) ∈ Γ2 := by
      have : wy = 0 ∨ wy = 1 ∨ wy = 2 := by omega
      rcases this with rfl | rfl | rfl
      · exact ⟨la, by rfl, fun Γ2 h1 _ _ => h1⟩
      · exact ⟨lb, by rfl, fun Γ2 _ h1 _ => h1⟩
      · exact ⟨lc, by rfl, fun Γ2 _ _ h1 => h1⟩
    rw [show mergeK [] [((Sum.inr "end" : Key), V.ref la), (Sum.inr "fault", V.ref lb), (Sum.inr "none", V.ref lc)] = [((Sum.inr "end" : Key), V.ref la), (Sum.inr "fault", V.ref lb), (Sum.inr "none", V.ref lc)] from rfl]
    refine w_subK (by k_extra "at") hlx ?_
    refine w_dat (v := .ref lx) (d := .list (Dd.datas (stop27 wy))) (DV.mem (hsub _ (by k_extra "m") (by k_extra "m") (by k_extra "m"))) ?_
    k_extra "W"
    refine w_app (by k_extra "sw") (by show 1 ≤ 100000; omega) ?_
    dsimp only [List.cons_append, List.nil_append]
    refine w_freeze (p := ld) (ds := Dd.datas (deeds27 (last : Int) (span : Int) wy)) (by k_extra "t") (.cons (DV.mem (by rw [Dd.data]; k_extra "m")) (.cons (DV.mem (by rw [Dd.data]; k_extra "m")) .nil)) ?_
    k_extra "W"
    refine w_lstO fun l1 => ?_
    refine w_freeze (p := l1) (ds := [boxD ("n", 0)]) (by k_extra "t") (.cons (DV.mem (by show Fc.dat _ (.tuple [.str "n", .int 0]) ∈ _; k_extra "m")) .nil) ?_
    k_extra "W"
    refine w_lstO fun l2 => ?_
    refine w_freeze (p := l2) (ds := []) (by k_extra "t") .nil ?_
    k_extra "W"
    refine w_lstO fun l3 => ?_
    refine w_freeze (p := l3) (ds := []) (by k_extra "t") .nil ?_
    k_extra "W"
    refine w_lstO fun l4 => ?_
    refine w_freeze (p := l4) (ds := [hearD ("tick", deeds27 (last : Int) (span : Int) wy)]) (by k_extra "t") (.cons (DV.mem (by show Fc.dat _ (.tuple [.str "tick", .list (Dd.datas (deeds27 (last : Int) (span : Int) wy))]) ∈ _; k_extra "m")) .nil) ?_
    k_extra "W"
    rename_i pt
    exact fun H z => q _ [.dat (.ref pt) (m27 (last : Int) (span : Int) wy).data] _ H ⟨pt, rfl, rfl, rfl⟩ (z.fit (List.forall_mem_cons.mpr ⟨by show Fc.dat _ (.tuple [.str "one", .list [boxD ("n", 0)], .list [], .list [], .list [hearD ("tick", deeds27 (last : Int) (span : Int) wy)]]) ∈ _; k_extra "m", by k_extra "sub"⟩) (by k_extra "dr"))
theorem ok__law_due (T : Tx K mg) : OkG P w K mg base 1 "_law_due" ["_law_last", "_law_stop", "_law_span", "_law_others", "_law_most"] (spDue27 K) := by
  refine T.f__law_due.okX sc__law_due (fun vs H Q E h => ?_) (fun cdv A outer s H vs Q E hr h => ?_)
  · obtain ⟨i, _, _, rfl, _⟩ := h
    rfl
  · have hu1 := hu_of hr; have hu0 := hr.units0; have hu64 := hr.units; have hu65 := hu65_of hr; have nd := sc__law_due.nd
    obtain ⟨⟨last, wy, span, lo, os, most⟩, Γ, S, rfl, z, ⟨hlo, ⟨hl1, hl2, hw3, hs1, hs2, hol, hot, hml⟩⟩, q, x⟩ := h
    dsimp only at z hlo hl1 hl2 hw3 hs1 hs2 hol hot hml q x
    obtain ⟨i, hi⟩ : ∃ i : Du27, i = ⟨last, wy, span, lo, os, most⟩ := ⟨_, rfl⟩
    rw [← hi] at q
    refine ⟨_, (pss_cons (ps_set (i := 5) nd rfl (Or.inl rfl) (pe_lst pa_nil))
      (pss_cons (ps_set (i := 6) nd rfl (Or.inl rfl) (pe_tup (pa_cons pe_str pa_nil)))
      (pss_cons (ps_set (i := 7) nd rfl (Or.inl rfl) (pe_op (op_addK (K := K) rfl) (pe_lst (pa_cons (pe_tup (pa_cons pe_int (pa_cons pe_int (pa_cons (pe_un un_neg pe_int) (pa_cons pe_int pa_nil))))) pa_nil)) (pe_lc (own := [("_law_k", 10), ("_law_time", 11)]) rfl nd (pi_enum rfl T.b_enumerate (pa_cons (pv 3) pa_nil)) (blkOk_by (own := [("_law_k", 10), ("_law_time", 11)]) (N := nm__law_due) (sc := defScope s__law_due) (by decide +kernel)) (fun _ _ _ _ _ => (pg_tupK (K := K) (n := 2) rfl rfl (pgs_cons (pg_name (i := 10) nd rfl (Or.inl rfl) (Or.inr rfl)) (pgs_cons (pg_name (i := 11) nd rfl (Or.inl rfl) (Or.inr rfl)) pgs_nil)) rfl rfl)) (fun _ _ _ _ _ => pts_nil) (fun _ _ _ _ _ => (pe_tup (pa_cons (pv 11) (pa_cons pe_int (pa_cons (pe_un un_neg pe_int) (pa_cons (pe_op (op_addK (K := K) rfl) pe_int (pv 10)) pa_nil)))))))))
      (pss_cons (ps_set (i := 8) nd rfl (Or.inl rfl) pe_int)
      (Evl.pss_cut (ps_while (passes_of rfl) (PW.pt (pw_and (pt_cmpR (op_ltK (K := K) rfl hu0) (pe_callB (call_lenK (K := K) rfl) (by rfl) T.b_len (by decide +kernel) (pa_cons (pv 5) pa_nil)) (pv 4) (nomark _)) (pw_and (pt_cmpR (op_eqK (K := K) rfl hu64) (pv 6) (pe_tup (pa_cons pe_str pa_nil)) (nomark _)) (pw_and1 (pt_cmpR (op_gt) (pe_callB (call_lenK (K := K) rfl) (by rfl) T.b_len (by decide +kernel) (pa_cons (pv 7) pa_nil)) pe_int (nomark _)))))) (pss_cons (ps_set (i := 9) nd rfl (Or.inl rfl) (pe_callB (cr_minD rfl hu65) (by rfl) T.b_min (by decide +kernel) (pa_cons (pv 7) pa_nil)))
      (pss_cons (ps_expr (pe_bmK (K := K) rfl PySem.F.plainAttrs_list PySem.F.slot_list_remove PySem.F.type_list_remove (mt_removeD hu65) (pv 7) (pa_cons (pv 9) pa_nil)))
      (pss_one (ps_if (PW.pt (pw_and (pt_cmpR (op_eqK (K := K) rfl hu64) (pe_ix (ix_anyK (K := K) rfl hu1) (pv 9) pe_int (fun _ _ => rfl)) (pe_un un_neg pe_int) (nomark _)) (pw_and1 (pt_cmpR (op_gt) (pe_ix (ix_anyK (K := K) rfl hu1) (pv 9) pe_int (fun _ _ => rfl)) pe_int (nomark _))))) (pss_one (ps_expr (pe_bmK (K := K) rfl PySem.F.plainAttrs_list PySem.F.slot_list_append PySem.F.type_list_append mt_append (pv 5) (pa_cons (pv 9) pa_nil))))
      (pss_one (ps_if (PW.pt (pw_and (pt_cmpR (op_eqK (K := K) rfl hu64) (pe_op (op_addK (K := K) rfl) (pv 8) pe_int) (pv 0) (nomark _)) (pw_and1 (pt_cmpR (op_eqK (K := K) rfl hu64) (pv 1) pe_str (nomark _))))) (pss_one (ps_set (i := 6) nd rfl (Or.inl rfl) (pe_tup (pa_cons pe_str (pa_cons pe_str (pa_cons (pv 9) pa_nil))))))
      (pss_cons (ps_set (i := 8) nd rfl (Or.inl rfl) (pe_op (op_addK (K := K) rfl) (pv 8) pe_int))
      (pss_cons (ps_expr (pe_bmK (K := K) rfl PySem.F.plainAttrs_list PySem.F.slot_list_append PySem.F.type_list_append mt_append (pv 5) (pa_cons (pv 9) pa_nil)))
      (pss_one (ps_if (pt_cmpR (op_ltK (K := K) rfl hu0) (pv 8) (pv 0) (nomark _)) (pss_one (ps_expr (pe_bmK (K := K) rfl PySem.F.plainAttrs_list PySem.F.slot_list_append PySem.F.type_list_append mt_append (pv 7) (pa_cons (pe_tup (pa_cons (pe_op (op_addK (K := K) rfl) (pe_ix (ix_anyK (K := K) rfl hu1) (pv 9) pe_int (fun _ _ => rfl)) (pv 2)) (pa_cons pe_int (pa_cons pe_int (pa_cons (pe_op op_sub (pv 8) pe_int) pa_nil))))) pa_nil))))
      (pss_one (ps_if (pt_cmpR (op_eqK (K := K) rfl hu64) (pv 1) pe_str (nomark _)) (pss_one (ps_set (i := 6) nd rfl (Or.inl rfl) (pe_tup (pa_cons pe_str (pa_cons (pv 9) pa_nil)))))
      pss_nil)))))))))))))
      (pss_cons (ps_if (PW.pt (pw_and (pt_cmpR (op_eqK (K := K) rfl hu64) (pv 6) (pe_tup (pa_cons pe_str pa_nil)) (nomark _)) (pw_and1 (pt_cmpR (op_eqK (K := K) rfl hu64) (pe_callB (call_lenK (K := K) rfl) (by rfl) T.b_len (by decide +kernel) (pa_cons (pv 7) pa_nil)) pe_int (nomark _))))) (pss_one (ps_set (i := 6) nd rfl (Or.inl rfl) (pe_tup (pa_cons pe_str pa_nil))))
      pss_nil)
      (pss_one (ps_ret (pe_tup (pa_cons (pv 5) (pa_cons (pv 6) (pa_cons (pv 8) pa_nil)))))))))))), ?_⟩
    refine w_start (σ' := [some (.int (last : Int)), some (.str (stopS wy)), some (.int (span : Int)), some (.ref lo), some (.int (most : Int)), none, none, none, none, none, none, none]) rfl z ?_
    dsimp only [List.cons_append, List.nil_append] at q ⊢
    have hmr : MdR 10 ["tick"] i.ms := by rw [hi]; exact mdR27 (last := last) (span := (span : Int)) (w := wy) (by omega) (by omega) (by omega) hw3
    have hmsl : i.ms.length = 2 := by rw [hi]; rfl
    k_extra "W"
    refine w_lstO fun lr => ?_
    k_extra "W"
    refine w_lstO fun l0 => ?_
    k_extra "W"
    refine w_lcEnum ?_
    k_extra "W"
    refine w_lcEnumL (by k_extra "at") ?_
    rename_i pe0 pk0
    refine w_dats (vs := []) (ds := (hapsFrom 1 ((os.take 0).map nz27)).map Hap.keyD) DL.nil ?_
    refine w_lc_eL (ι := List V) (os.map V.int) (fun j a => a.length = j) (fun _ a => a) (fun j a => .dats a ((hapsFrom 1 ((os.take j).map nz27)).map Hap.keyD) :: .dat (.ref pk0) (.tuple [.int 0, .int 0, .int (-1), .int 0]) :: .dat (.ref pe0) (.tuple [.str "cut"]) :: Γ) (fun _ _ => own l0 (.lst [.ref pk0]) :: own lr (.lst []) :: S) [] rfl rfl (by k_extra "sub") (by k_extra "dr") (fun _ _ => by k_extra "at") ?_ ?_
    · rintro Dl j v T2 a hv ha
      rw [List.getElem?_map] at hv
      obtain ⟨tm, htm, rfl⟩ := Option.map_eq_some_iff.mp hv
      have hj := (List.getElem?_eq_some_iff.mp htm).1
      k_extra "W"
      rw [show (1 : Int) + (j : Int) = ((1 + j : Nat) : Int) by omega]
      rename_i pt
      refine w_dats (vs := a ++ [.ref pt]) (ds := (hapsFrom 1 ((os.take (j + 1)).map nz27)).map Hap.keyD) ?_ ?_
      · rw [List.take_add_one, htm, Option.toList_some, List.map_append, List.map_cons, List.map_nil, haps_snoc, List.map_append, List.length_map, List.length_take, Nat.min_eq_left (by omega)]
        exact DL.snoc (DL.mem (by k_extra "m")) (DV.mem (by show Fc.dat _ (.tuple [.int tm, .int 2, .int (-1), .int ((1 + j : Nat) : Int)]) ∈ _; k_extra "m"))
      refine w_lcp (a ++ [.ref pt]) (by rw [List.length_append, ha]; rfl) rfl (by k_extra "t") (by omega) (by k_extra "sub") (by k_extra "dr")
    rintro lc a ha
    rw [List.length_map] at ha
    rw [List.length_map, List.take_length]
    k_extra "W"
    refine w_addL (by k_extra "at") (by k_extra "at") (by rw [List.length_cons, List.length_nil]; omega) fun lp => ?_
    have hp0 : (firstRun i.ms (sgs27 os)).pend = (⟨0, 0, -1, 0, 0, "tick", 0, 0⟩ : Hap) :: hapsFrom 1 (os.map nz27) := rfl
    refine w_dats (vs := [V.ref pk0] ++ a) (ds := (firstRun i.ms (sgs27 os)).pend.map Hap.keyD) (by rw [hp0]; exact DL.cons (DV.mem (by show Fc.dat _ (.tuple [.int 0, .int 0, .int (-1), .int 0]) ∈ _; k_extra "m")) (DL.mem (by k_extra "m"))) ?_
    k_extra "W"
    have hsg : ∀ s ∈ sgs27 os, SgR i.ms.length SOk s := by rw [hmsl]; exact sgR27 hot
    have hbw : ∀ m ∈ i.ms, ∀ p ∈ m.boxes, Worth p.2 := fun m hm p hp => by
      rw [hi] at hm
      unfold Du27.ms at hm
      simp only [List.mem_cons, List.not_mem_nil, or_false] at hm
      rcases hm with rfl | rfl
      · rw [List.mem_singleton.mp hp]; constructor <;> decide
      · exact nomatch hp
    have hss : ∀ x ∈ [("tick" : Str)], SOk x := fun x hx => by rw [List.mem_singleton.mp hx]; show PyData.strOk _ = true; decide +kernel
    have hmost : i.most = most := by rw [hi]
    have hms : i.ms = [m27 (last : Int) (span : Int) wy, two27] := by rw [hi]; rfl
    have hil : i.last = last := by rw [hi]
    have his : i.span = span := by rw [hi]
    have hg0 : Gu27 i (2 * most + 1) (firstRun i.ms (sgs27 os)) [] 0 := by
      refine ⟨by rw [hmost]; rfl, ?_, firstRun_ok hmr hbw hsg, firstRun_k, Nat.zero_le _, ?_, ?_, fun _ => ?_, fun e he => nomatch he⟩
      · rw [List.length_nil, Nat.sub_zero, List.nil_append]
        unfold Du27.run
        rw [hi]
      · show (hapsFrom 0 (sgs27 os)).length + 0 ≤ _
        rw [haps_len]
        unfold sgs27
        rw [List.length_cons, List.length_map]
        omega
      · rw [hms, hil, Nat.zero_min]
        rfl
      · rw [hms, hil, his]
        exact iv0 hl1
    refine w_cut (ι := (Addr × List V × List V × V × Run × List Rec × Nat) × Option V) (fun b => i.run = (b.1.2.2.2.2.1, b.1.2.2.2.2.2.1) ∧ b.1.2.2.2.2.1.sts = [s17 b.1.2.2.2.2.2.2 (min b.1.2.2.2.2.2.2 (last - 1) : Nat), two27.first] ∧ (∀ e, b.1.2.2.2.2.1.ended = some e → (∃ x, e = .fin x) ∨ ∃ f x, e = .fault f x))
      (fun b => [some (.int (last : Int)), some (.str (stopS wy)), some (.int (span : Int)), some (.ref lo), some (.int (most : Int)), some (.ref lr), some b.1.2.2.2.1, some (.ref b.1.1), some (.int (b.1.2.2.2.2.2.2 : Int)), b.2, none, none])
      (fun b => .dats b.1.2.1 (b.1.2.2.2.2.2.1.map fun c => c.hap.keyD) :: .dats b.1.2.2.1 (b.1.2.2.2.2.1.pend.map Hap.keyD) :: .dat b.1.2.2.2.1 (edD b.1.2.2.2.2.1.ended) :: Γ) (fun b => own lr (.lst b.1.2.1) :: own b.1.1 (.lst b.1.2.2.1) :: S) ?_ ?_
    · refine w_dats (vs := []) (ds := ([] : List Rec).map fun c => c.hap.keyD) DL.nil ?_
      refine w_dat (v := .ref pe0) (d := edD none) (DV.mem (by show Fc.dat _ (.tuple [.str "cut"]) ∈ _; k_extra "m")) ?_
      refine w_while (ω := Unit) (ι := (List V × List V × V × Run × List Rec × Nat) × Option V) (fun k b => Gu27 i k b.1.2.2.2.1 b.1.2.2.2.2.1 b.1.2.2.2.2.2) (fun b => [some (.int (last : Int)), some (.str (stopS wy)), some (.int (span : Int)), some (.ref lo), some (.int (most : Int)), some (.ref lr), some b.1.2.2.1, some (.ref lp), some (.int (b.1.2.2.2.2.2 : Int)), b.2, none, none])
        (fun b => .dats b.1.1 (b.1.2.2.2.2.1.map fun c => c.hap.keyD) :: .dats b.1.2.1 (b.1.2.2.2.1.pend.map Hap.keyD) :: .dat b.1.2.2.1 (edD b.1.2.2.2.1.ended) :: Γ) (fun b => own lr (.lst b.1.1) :: own lp (.lst b.1.2.1) :: S) (2 * most + 1) (([], [V.ref pk0] ++ a, .ref pe0, firstRun i.ms (sgs27 os), [], 0), none) hg0 rfl (by dsimp only; rw [show (firstRun i.ms (sgs27 os)).ended = none from rfl]; k_extra "sub") (by k_extra "dr") ?_
      rintro k ⟨⟨rvs, pvs, ev, r, rs, t⟩, u⟩ hC
      dsimp only at hC ⊢
      refine w_lenv (vs := rvs) (by k_extra "m") fun hrl => ?_
      rw [List.length_map] at hrl
      refine w_lenv (vs := pvs) (by k_extra "m") fun hpl => ?_
      rw [List.length_map] at hpl
      k_extra "W"
      refine w_lenL (by k_extra "at") ?_
      k_extra "W"
      refine w_ite (fun hlt => ?_) (fun hge => ?_)
      rotate_left
      · have hgo := hC.go
        rw [show i.most - rs.length = 0 by rw [hmost]; omega, show r.go i.ms 0 = (r, []) from rfl, List.append_nil] at hgo
        k_extra "W"
        exact w_again ((lp, rvs, pvs, ev, r, rs, t), u) ⟨hgo, by rw [hC.st, hil], hC.ec⟩ rfl (by k_extra "sub") (by k_extra "dr")
      k_extra "W"
      refine w_eqD (d := edD r.ended) (e := .tuple [.str "cut"]) (DV.mem (by k_extra "m")) (DV.mem (by k_extra "m")) (edD_shaped _) (ending_shaped .cut) ?_
      cases hen : r.ended with
      | some e =>
        have hgo := hC.go
        rw [go_over (r := r) (.inl (by rw [hen]; rfl)), List.append_nil] at hgo
        rw [show PyData.eqv (edD (some e)) (.tuple [.str "cut"]) = false by
          rcases hC.ec e hen with ⟨x, rfl⟩ | ⟨f, x, rfl⟩
          · rfl
          · rfl]
        rw [← hen]
        k_extra "W"
        exact w_again ((lp, rvs, pvs, ev, r, rs, t), u) ⟨hgo, by rw [hC.st, hil], hC.ec⟩ rfl (by k_extra "sub") (by k_extra "dr")
      | none =>
        rw [show PyData.eqv (edD none) (.tuple [.str "cut"]) = true by decide +kernel]
        k_extra "W"
        refine w_lenL (by k_extra "at") ?_
        k_extra "W"
        refine w_ite (p := 0 < ((pvs.length : Nat) : Int)) (fun hgt => ?_) (fun hng => ?_)
        rotate_left
        · have hp1 : r.pend = [] := List.length_eq_zero_iff.mp (by omega)
          have hgo := hC.go
          rw [go_over (r := r) (.inr hp1), List.append_nil] at hgo
          rw [← hen]
          k_extra "W"
          exact w_again ((lp, rvs, pvs, ev, r, rs, t), u) ⟨hgo, by rw [hC.st, hil], hC.ec⟩ rfl (by k_extra "sub") (by k_extra "dr")
        have hp1 : r.pend ≠ [] := List.length_pos_iff.mp (by omega)
        obtain ⟨k', hk'⟩ : ∃ k', i.most - rs.length = k' + 1 := ⟨i.most - rs.length - 1, by rw [hmost]; omega⟩
        have hme := hC.me
        rw [hen] at hme
        simp only [Option.isSome_none, Bool.false_eq_true, if_false] at hme
        have hrle := hC.rl
        rw [hmost] at hrle
        have hple := hC.pl
        have hiv0 := hC.iv hen
        rw [hil, his] at hiv0
        obtain ⟨x0, hx, hcase⟩ := step27 (w := wy) (by omega) (by omega) hl2 hiv0 hp1
        refine w_turn ?_
        have a1' : (r.pend.map Hap.keyD)[place r.pend]? = some x0.keyD := by rw [List.getElem?_map, hx]; rfl
        refine w_datsAt (vs := pvs) (by k_extra "m") a1' fun hv ehv => ?_
        rw [show x0.keyD = .tuple [.int x0.time, .int x0.rank, .int x0.frm, .int x0.count] from rfl]
        k_extra "W"
        refine w_minK (l := r.pend) (by k_extra "at") (by k_extra "m") (by omega) hC.rk.nd fun hv2 ehv2 => ?_
        rw [ehv] at ehv2
        cases ehv2
        k_extra "W"
        refine w_dats (vs := pvs.eraseIdx (place r.pend)) (ds := (r.pend.eraseIdx (place r.pend)).map Hap.keyD) (by rw [← erase_map]; exact DL.erase _ (DL.mem (by k_extra "m"))) ?_
        refine w_remK (i := place r.pend) (x := x0) (l := r.pend) (by k_extra "sw") (by k_extra "m") (by show Fc.dat hv (.tuple [.int x0.time, .int x0.rank, .int x0.frm, .int x0.count]) ∈ _; k_extra "m") hx hC.rk.nd ?_
        have hel := List.length_eraseIdx_le pvs (place r.pend)
        k_extra "W"
        refine w_ite (fun hA => ?_) (fun hA => ?_)
        · k_extra "W"
          refine w_ite (fun hB => ?_) (fun hB => ?_)
          · rcases hcase with ⟨hns, c, hact, hcx, hiv⟩ | ⟨hno, _⟩ | ⟨hno, _⟩ | ⟨hno, _⟩ | ⟨hno, _⟩
            rotate_left
            · exact absurd ⟨hA, hB⟩ hno
            · exact absurd ⟨hA, hB⟩ hno
            · exact absurd ⟨hA, hB⟩ hno
            · exact absurd ⟨hA, hB⟩ hno
            k_extra "W"
            refine w_app (by k_extra "sw") (by omega) ?_
            k_extra "W"
            refine w_dats (vs := rvs ++ [hv]) (ds := (rs ++ [c]).map fun c => c.hap.keyD) (by rw [List.map_append, List.map_cons, List.map_nil, hcx]; exact DL.snoc (DL.mem (by k_extra "m")) (DV.mem (by k_extra "m"))) ?_
            have hrl2 : (rs ++ [c]).length = rs.length + 1 := by rw [List.length_append]; rfl
            have hk2 : i.most - (rs ++ [c]).length = k' := by rw [hmost]; omega
            have hac := act_len hmr hC.rr hp1
            have hgo2 := go_some (k := k') hen hp1 (show (r.act i.ms).2 = some c by rw [hms, hact])
            refine w_less (2 * k' + 1) (by omega) ?_
            refine w_again ((rvs ++ [hv], pvs.eraseIdx (place r.pend), ev, ⟨r.sts, r.pend.eraseIdx (place r.pend), none⟩, rs ++ [c], t), _) ⟨by dsimp only; rw [hk2]; rfl, ?_, ?_, ?_, by dsimp only; rw [hmost]; omega, ?_, hC.st, fun _ => ?_, fun e he => nomatch he⟩ rfl (by k_extra "sub") (by k_extra "dr")
            · dsimp only
              rw [hC.go, hk', hk2, hgo2, hms, hact]
              simp
            · have := hC.rr.act hmr hss hp1
              rw [hms, hact] at this
              rw [hms]
              exact this
            · have := act_k hC.rr hC.rk hp1
              rw [hms, hact] at this
              exact this
            · rw [hms, hact] at hac
              dsimp only at hac ⊢
              omega
            · rw [hil, his]
              exact hiv
          · have hno : ¬ (x0.frm = -1 ∧ 0 < x0.count) := fun h => hB h.2
            k_extra "W"
            rcases hcase with ⟨hns, _⟩ | ⟨_, htl, hw, hact⟩ | ⟨_, htl, hw, c, hact, hcx⟩ | ⟨_, htl, hw, c, hact, hcx, hiv⟩ | ⟨_, htl, c, hact, hcx, hiv⟩
            · exact absurd ⟨hns.1, hns.2.1⟩ hno
            · subst hw
              refine w_ite (fun _ => ?_) (fun h => absurd (by omega) h)
              k_extra "W"
              rw [show stopS 1 = Str.ofString "fault" from rfl]
              k_extra "W"
              first | (refine w_eqs ?_) | skip
              k_extra "W"
              first | (refine w_ite (fun _ => ?_) (fun h => absurd rfl h)) | skip
              k_extra "W"
              rename_i pe
              refine w_dat (v := .ref pe) (d := edD (some (.fault .nought x0))) (DV.mem (by show Fc.dat _ (.tuple [.str "fault", .str "nought", .tuple [.int x0.time, .int x0.rank, .int x0.frm, .int x0.count]]) ∈ _; k_extra "m")) ?_
              refine w_less (2 * (i.most - rs.length)) (by omega) ?_
              refine w_again ((rvs, pvs.eraseIdx (place r.pend), .ref pe, { r with pend := r.pend.eraseIdx (place r.pend), ended := some (.fault .nought x0) }, rs, t), _) ⟨by dsimp only; simp, ?_, ?_, ?_, hC.rl, ?_, hC.st, (fun e => nomatch e), fun e he => ?_⟩ rfl (by k_extra "sub") (by k_extra "dr")
              · dsimp only
                rw [hC.go, hk', go_none hen hp1 (by rw [hms, hact]), hms, hact, go_over (r := { r with pend := r.pend.eraseIdx (place r.pend), ended := some (.fault .nought x0) }) (.inl rfl)]
              · have := hC.rr.act hmr hss hp1
                rw [hms, hact] at this
                rw [hms]
                exact this
              · have := act_k hC.rr hC.rk hp1
                rw [hms, hact] at this
                exact this
              · have := hC.pl
                have := List.length_eraseIdx_le r.pend (place r.pend)
                dsimp only
                omega
              · cases he
                exact .inr ⟨_, _, rfl⟩
            · subst hw
              refine w_ite (fun _ => ?_) (fun h => absurd (by omega) h)
              k_extra "W"
              rw [show stopS 0 = Str.ofString "end" from rfl]
              k_extra "W"
              first | (refine w_eqs ?_) | skip
              k_extra "W"
              first | (refine w_ite (fun h => absurd h (by decide +kernel)) (fun _ => ?_)) | skip
              k_extra "W"
              refine w_app (by k_extra "sw") (by omega) ?_
              k_extra "W"
              refine w_ite (fun h => absurd h (by omega)) (fun _ => ?_)
              k_extra "W"
              first | (refine w_eqs ?_; k_extra "W") | skip
              first | (refine w_ite (fun _ => ?_) (fun h => absurd rfl h); k_extra "W") | skip
              rename_i pe
              refine w_dats (vs := rvs ++ [hv]) (ds := (rs ++ [c]).map fun c => c.hap.keyD) (by rw [List.map_append, List.map_cons, List.map_nil, hcx]; exact DL.snoc (DL.mem (by k_extra "m")) (DV.mem (by k_extra "m"))) ?_
              have hrl2 : (rs ++ [c]).length = rs.length + 1 := by rw [List.length_append]; rfl
              have hk2 : i.most - (rs ++ [c]).length = k' := by rw [hmost]; omega
              have hac := act_len hmr hC.rr hp1
              have hgo2 := go_some (k := k') hen hp1 (show (r.act i.ms).2 = some c by rw [hms, hact])
              refine w_dat (v := .ref pe) (d := edD (some (.fin x0))) (DV.mem (by show Fc.dat _ (.tuple [.str "end", .tuple [.int x0.time, .int x0.rank, .int x0.frm, .int x0.count]]) ∈ _; k_extra "m")) ?_
              refine w_less (2 * k') (by omega) ?_
              rw [show (t : Int) + 1 = ((t + 1 : Nat) : Int) by omega]
              refine w_again ((rvs ++ [hv], pvs.eraseIdx (place r.pend), .ref pe, ⟨[s17 last (last - 1 : Nat), two27.first], r.pend.eraseIdx (place r.pend), some (.fin x0)⟩, rs ++ [c], t + 1), _) ⟨by dsimp only; rw [hk2]; simp, ?_, ?_, ?_, by dsimp only; rw [hmost]; omega, ?_, ?_, (fun e => nomatch e), fun e he => ?_⟩ rfl (by k_extra "sub") (by k_extra "dr")
              · dsimp only
                rw [hC.go, hk', hk2, hgo2, hms, hact]
                simp
              · have := hC.rr.act hmr hss hp1
                rw [hms, hact] at this
                rw [hms]
                exact this
              · have := act_k hC.rr hC.rk hp1
                rw [hms, hact] at this
                exact this
              · have := hC.pl
                rw [hms, hact] at hac
                dsimp only at hac ⊢
                omega
              · dsimp only
                rw [hil, htl, Nat.min_eq_right (by omega)]
              · cases he
                exact .inl ⟨_, rfl⟩
            · refine w_ite (fun _ => ?_) (fun h => absurd (by omega) h)
              have hw2 : wy = 2 := by omega
              subst hw2
              k_extra "W"
              rw [show stopS 2 = Str.ofString "none" from rfl]
              k_extra "W"
              first | (refine w_eqs ?_) | skip
              k_extra "W"
              first | (refine w_ite (fun h => absurd h (by decide +kernel)) (fun _ => ?_)) | skip
              k_extra "W"
              refine w_app (by k_extra "sw") (by omega) ?_
              k_extra "W"
              refine w_ite (fun h => absurd h (by omega)) (fun _ => ?_)
              k_extra "W"
              first | (refine w_eqs ?_; k_extra "W") | skip
              first | (refine w_ite (fun h => absurd h (by decide +kernel)) (fun _ => ?_); k_extra "W") | skip
              refine w_dats (vs := rvs ++ [hv]) (ds := (rs ++ [c]).map fun c => c.hap.keyD) (by rw [List.map_append, List.map_cons, List.map_nil, hcx]; exact DL.snoc (DL.mem (by k_extra "m")) (DV.mem (by k_extra "m"))) ?_
              have hrl2 : (rs ++ [c]).length = rs.length + 1 := by rw [List.length_append]; rfl
              have hk2 : i.most - (rs ++ [c]).length = k' := by rw [hmost]; omega
              have hac := act_len hmr hC.rr hp1
              have hgo2 := go_some (k := k') hen hp1 (show (r.act i.ms).2 = some c by rw [hms, hact])
              refine w_less (2 * k' + 1) (by omega) ?_
              rw [show (t : Int) + 1 = ((t + 1 : Nat) : Int) by omega]
              refine w_again ((rvs ++ [hv], pvs.eraseIdx (place r.pend), ev, ⟨[s17 last (last - 1 : Nat), two27.first], r.pend.eraseIdx (place r.pend), none⟩, rs ++ [c], t + 1), _) ⟨by dsimp only; rw [hk2]; rfl, ?_, ?_, ?_, by dsimp only; rw [hmost]; omega, ?_, ?_, fun _ => ?_, fun e he => nomatch he⟩ rfl (by k_extra "sub") (by k_extra "dr")
              · dsimp only
                rw [hC.go, hk', hk2, hgo2, hms, hact]
                simp
              · have := hC.rr.act hmr hss hp1
                rw [hms, hact] at this
                rw [hms]
                exact this
              · have := act_k hC.rr hC.rk hp1
                rw [hms, hact] at this
                exact this
              · have := hC.pl
                rw [hms, hact] at hac
                dsimp only at hac ⊢
                omega
              · dsimp only
                rw [hil, htl, Nat.min_eq_right (by omega)]
              · rw [hil, his]
                exact hiv
            · refine w_ite (fun h => absurd h (by omega)) (fun _ => ?_)
              k_extra "W"
              refine w_app (by k_extra "sw") (by omega) ?_
              k_extra "W"
              refine w_ite (fun _ => ?_) (fun h => absurd (by omega) h)
              k_extra "W"
              rename_i pk
              refine w_app (by k_extra "sw") (by omega) ?_
              refine w_dats (vs := rvs ++ [hv]) (ds := (rs ++ [c]).map fun c => c.hap.keyD) (by rw [List.map_append, List.map_cons, List.map_nil, hcx]; exact DL.snoc (DL.mem (by k_extra "m")) (DV.mem (by k_extra "m"))) ?_
              have hrl2 : (rs ++ [c]).length = rs.length + 1 := by rw [List.length_append]; rfl
              have hk2 : i.most - (rs ++ [c]).length = k' := by rw [hmost]; omega
              have hac := act_len hmr hC.rr hp1
              have hgo2 := go_some (k := k') hen hp1 (show (r.act i.ms).2 = some c by rw [hms, hact])
              refine w_dats (vs := pvs.eraseIdx (place r.pend) ++ [V.ref pk]) (ds := (r.pend.eraseIdx (place r.pend) ++ [(⟨x0.time + span, 1, 0, t, 0, "tick", (t : Int) + 1, 0⟩ : Hap)]).map Hap.keyD) ?_ ?_
              · rw [show (r.pend.eraseIdx (place r.pend) ++ [(⟨x0.time + span, 1, 0, t, 0, "tick", (t : Int) + 1, 0⟩ : Hap)]).map Hap.keyD = (r.pend.eraseIdx (place r.pend)).map Hap.keyD ++ [(⟨x0.time + span, 1, 0, t, 0, "tick", (t : Int) + 1, 0⟩ : Hap).keyD] by rw [List.map_append]; rfl]
                refine DL.snoc (DL.mem (by k_extra "mr")) (DV.mem ?_)
                show Fc.dat _ (.tuple [.int (x0.time + span), .int 1, .int 0, .int (t : Int)]) ∈ _
                rw [show Fc.dat (V.ref pk) (.tuple [.int (x0.time + span), .int 1, .int 0, .int (t : Int)]) = Fc.dat (V.ref pk) (.tuple [.int (x0.time + span), .int 1, .int 0, .int ((t : Int) + 1 - 1)]) by rw [Int.add_sub_cancel]]
                k_extra "m"
              k_extra "W"
              refine w_less (2 * k' + 1) (by omega) ?_
              refine w_again ((rvs ++ [hv], pvs.eraseIdx (place r.pend) ++ [V.ref pk], ev, ⟨[s17 (t + 1 : Nat) (t + 1 : Nat), two27.first], r.pend.eraseIdx (place r.pend) ++ [⟨x0.time + span, 1, 0, t, 0, "tick", (t : Int) + 1, 0⟩], none⟩, rs ++ [c], t + 1), _) ⟨by dsimp only; rw [hk2]; rfl, ?_, ?_, ?_, by dsimp only; rw [hmost]; omega, ?_, ?_, fun _ => ?_, fun e he => nomatch he⟩ rfl (by k_extra "sub") (by k_extra "dr")
              · dsimp only
                rw [hC.go, hk', hk2, hgo2, hms, hact]
                simp
              · have := hC.rr.act hmr hss hp1
                rw [hms, hact] at this
                rw [hms]
                exact this
              · have := act_k hC.rr hC.rk hp1
                rw [hms, hact] at this
                exact this
              · have := hC.pl
                rw [hms, hact] at hac
                dsimp only at hac ⊢
                omega
              · dsimp only
                rw [hil, Nat.min_eq_left (by omega)]
              · rw [hil, his]
                exact hiv
        · have hno : ¬ (x0.frm = -1 ∧ 0 < x0.count) := fun h => hA h.1
          k_extra "W"
          rcases hcase with ⟨hns, _⟩ | ⟨_, htl, hw, hact⟩ | ⟨_, htl, hw, c, hact, hcx⟩ | ⟨_, htl, hw, c, hact, hcx, hiv⟩ | ⟨_, htl, c, hact, hcx, hiv⟩
          · exact absurd ⟨hns.1, hns.2.1⟩ hno
          · subst hw
            refine w_ite (fun _ => ?_) (fun h => absurd (by omega) h)
            k_extra "W"
            rw [show stopS 1 = Str.ofString "fault" from rfl]
            k_extra "W"
            first | (refine w_eqs ?_) | skip
            k_extra "W"
            first | (refine w_ite (fun _ => ?_) (fun h => absurd rfl h)) | skip
            k_extra "W"
            rename_i pe
            refine w_dat (v := .ref pe) (d := edD (some (.fault .nought x0))) (DV.mem (by show Fc.dat _ (.tuple [.str "fault", .str "nought", .tuple [.int x0.time, .int x0.rank, .int x0.frm, .int x0.count]]) ∈ _; k_extra "m")) ?_
            refine w_less (2 * (i.most - rs.length)) (by omega) ?_
            refine w_again ((rvs, pvs.eraseIdx (place r.pend), .ref pe, { r with pend := r.pend.eraseIdx (place r.pend), ended := some (.fault .nought x0) }, rs, t), _) ⟨by dsimp only; simp, ?_, ?_, ?_, hC.rl, ?_, hC.st, (fun e => nomatch e), fun e he => ?_⟩ rfl (by k_extra "sub") (by k_extra "dr")
            · dsimp only
              rw [hC.go, hk', go_none hen hp1 (by rw [hms, hact]), hms, hact, go_over (r := { r with pend := r.pend.eraseIdx (place r.pend), ended := some (.fault .nought x0) }) (.inl rfl)]
            · have := hC.rr.act hmr hss hp1
              rw [hms, hact] at this
              rw [hms]
              exact this
            · have := act_k hC.rr hC.rk hp1
              rw [hms, hact] at this
              exact this
            · have := hC.pl
              have := List.length_eraseIdx_le r.pend (place r.pend)
              dsimp only
              omega
            · cases he
              exact .inr ⟨_, _, rfl⟩
          · subst hw
            refine w_ite (fun _ => ?_) (fun h => absurd (by omega) h)
            k_extra "W"
            rw [show stopS 0 = Str.ofString "end" from rfl]
            k_extra "W"
            first | (refine w_eqs ?_) | skip
            k_extra "W"
            first | (refine w_ite (fun h => absurd h (by decide +kernel)) (fun _ => ?_)) | skip
            k_extra "W"
            refine w_app (by k_extra "sw") (by omega) ?_
            k_extra "W"
            refine w_ite (fun h => absurd h (by omega)) (fun _ => ?_)
            k_extra "W"
            first | (refine w_eqs ?_; k_extra "W") | skip
            first | (refine w_ite (fun _ => ?_) (fun h => absurd rfl h); k_extra "W") | skip
            rename_i pe
            refine w_dats (vs := rvs ++ [hv]) (ds := (rs ++ [c]).map fun c => c.hap.keyD) (by rw [List.map_append, List.map_cons, List.map_nil, hcx]; exact DL.snoc (DL.mem (by k_extra "m")) (DV.mem (by k_extra "m"))) ?_
            have hrl2 : (rs ++ [c]).length = rs.length + 1 := by rw [List.length_append]; rfl
            have hk2 : i.most - (rs ++ [c]).length = k' := by rw [hmost]; omega
            have hac := act_len hmr hC.rr hp1
            have hgo2 := go_some (k := k') hen hp1 (show (r.act i.ms).2 = some c by rw [hms, hact])
            refine w_dat (v := .ref pe) (d := edD (some (.fin x0))) (DV.mem (by show Fc.dat _ (.tuple [.str "end", .tuple [.int x0.time, .int x0.rank, .int x0.frm, .int x0.count]]) ∈ _; k_extra "m")) ?_
            refine w_less (2 * k') (by omega) ?_
            rw [show (t : Int) + 1 = ((t + 1 : Nat) : Int) by omega]
            refine w_again ((rvs ++ [hv], pvs.eraseIdx (place r.pend), .ref pe, ⟨[s17 last (last - 1 : Nat), two27.first], r.pend.eraseIdx (place r.pend), some (.fin x0)⟩, rs ++ [c], t + 1), _) ⟨by dsimp only; rw [hk2]; simp, ?_, ?_, ?_, by dsimp only; rw [hmost]; omega, ?_, ?_, (fun e => nomatch e), fun e he => ?_⟩ rfl (by k_extra "sub") (by k_extra "dr")
            · dsimp only
              rw [hC.go, hk', hk2, hgo2, hms, hact]
              simp
            · have := hC.rr.act hmr hss hp1
              rw [hms, hact] at this
              rw [hms]
              exact this
            · have := act_k hC.rr hC.rk hp1
              rw [hms, hact] at this
              exact this
            · have := hC.pl
              rw [hms, hact] at hac
              dsimp only at hac ⊢
              omega
            · dsimp only
              rw [hil, htl, Nat.min_eq_right (by omega)]
            · cases he
              exact .inl ⟨_, rfl⟩
          · refine w_ite (fun _ => ?_) (fun h => absurd (by omega) h)
            have hw2 : wy = 2 := by omega
            subst hw2
            k_extra "W"
            rw [show stopS 2 = Str.ofString "none" from rfl]
            k_extra "W"
            first | (refine w_eqs ?_) | skip
            k_extra "W"
            first | (refine w_ite (fun h => absurd h (by decide +kernel)) (fun _ => ?_)) | skip
            k_extra "W"
            refine w_app (by k_extra "sw") (by omega) ?_
            k_extra "W"
            refine w_ite (fun h => absurd h (by omega)) (fun _ => ?_)
            k_extra "W"
            first | (refine w_eqs ?_; k_extra "W") | skip
            first | (refine w_ite (fun h => absurd h (by decide +kernel)) (fun _ => ?_); k_extra "W") | skip
            refine w_dats (vs := rvs ++ [hv]) (ds := (rs ++ [c]).map fun c => c.hap.keyD) (by rw [List.map_append, List.map_cons, List.map_nil, hcx]; exact DL.snoc (DL.mem (by k_extra "m")) (DV.mem (by k_extra "m"))) ?_
            have hrl2 : (rs ++ [c]).length = rs.length + 1 := by rw [List.length_append]; rfl
            have hk2 : i.most - (rs ++ [c]).length = k' := by rw [hmost]; omega
            have hac := act_len hmr hC.rr hp1
            have hgo2 := go_some (k := k') hen hp1 (show (r.act i.ms).2 = some c by rw [hms, hact])
            refine w_less (2 * k' + 1) (by omega) ?_
            rw [show (t : Int) + 1 = ((t + 1 : Nat) : Int) by omega]
            refine w_again ((rvs ++ [hv], pvs.eraseIdx (place r.pend), ev, ⟨[s17 last (last - 1 : Nat), two27.first], r.pend.eraseIdx (place r.pend), none⟩, rs ++ [c], t + 1), _) ⟨by dsimp only; rw [hk2]; rfl, ?_, ?_, ?_, by dsimp only; rw [hmost]; omega, ?_, ?_, fun _ => ?_, fun e he => nomatch he⟩ rfl (by k_extra "sub") (by k_extra "dr")
            · dsimp only
              rw [hC.go, hk', hk2, hgo2, hms, hact]
              simp
            · have := hC.rr.act hmr hss hp1
              rw [hms, hact] at this
              rw [hms]
              exact this
            · have := act_k hC.rr hC.rk hp1
              rw [hms, hact] at this
              exact this
            · have := hC.pl
              rw [hms, hact] at hac
              dsimp only at hac ⊢
              omega
            · dsimp only
              rw [hil, htl, Nat.min_eq_right (by omega)]
            · rw [hil, his]
              exact hiv
          · refine w_ite (fun h => absurd h (by omega)) (fun _ => ?_)
            k_extra "W"
            refine w_app (by k_extra "sw") (by omega) ?_
            k_extra "W"
            refine w_ite (fun _ => ?_) (fun h => absurd (by omega) h)
            k_extra "W"
            rename_i pk
            refine w_app (by k_extra "sw") (by omega) ?_
            refine w_dats (vs := rvs ++ [hv]) (ds := (rs ++ [c]).map fun c => c.hap.keyD) (by rw [List.map_append, List.map_cons, List.map_nil, hcx]; exact DL.snoc (DL.mem (by k_extra "m")) (DV.mem (by k_extra "m"))) ?_
            have hrl2 : (rs ++ [c]).length = rs.length + 1 := by rw [List.length_append]; rfl
            have hk2 : i.most - (rs ++ [c]).length = k' := by rw [hmost]; omega
            have hac := act_len hmr hC.rr hp1
            have hgo2 := go_some (k := k') hen hp1 (show (r.act i.ms).2 = some c by rw [hms, hact])
            refine w_dats (vs := pvs.eraseIdx (place r.pend) ++ [V.ref pk]) (ds := (r.pend.eraseIdx (place r.pend) ++ [(⟨x0.time + span, 1, 0, t, 0, "tick", (t : Int) + 1, 0⟩ : Hap)]).map Hap.keyD) ?_ ?_
            · rw [show (r.pend.eraseIdx (place r.pend) ++ [(⟨x0.time + span, 1, 0, t, 0, "tick", (t : Int) + 1, 0⟩ : Hap)]).map Hap.keyD = (r.pend.eraseIdx (place r.pend)).map Hap.keyD ++ [(⟨x0.time + span, 1, 0, t, 0, "tick", (t : Int) + 1, 0⟩ : Hap).keyD] by rw [List.map_append]; rfl]
              refine DL.snoc (DL.mem (by k_extra "mr")) (DV.mem ?_)
              show Fc.dat _ (.tuple [.int (x0.time + span), .int 1, .int 0, .int (t : Int)]) ∈ _
              rw [show Fc.dat (V.ref pk) (.tuple [.int (x0.time + span), .int 1, .int 0, .int (t : Int)]) = Fc.dat (V.ref pk) (.tuple [.int (x0.time + span), .int 1, .int 0, .int ((t : Int) + 1 - 1)]) by rw [Int.add_sub_cancel]]
              k_extra "m"
            k_extra "W"
            refine w_less (2 * k' + 1) (by omega) ?_
            refine w_again ((rvs ++ [hv], pvs.eraseIdx (place r.pend) ++ [V.ref pk], ev, ⟨[s17 (t + 1 : Nat) (t + 1 : Nat), two27.first], r.pend.eraseIdx (place r.pend) ++ [⟨x0.time + span, 1, 0, t, 0, "tick", (t : Int) + 1, 0⟩], none⟩, rs ++ [c], t + 1), _) ⟨by dsimp only; rw [hk2]; rfl, ?_, ?_, ?_, by dsimp only; rw [hmost]; omega, ?_, ?_, fun _ => ?_, fun e he => nomatch he⟩ rfl (by k_extra "sub") (by k_extra "dr")
            · dsimp only
              rw [hC.go, hk', hk2, hgo2, hms, hact]
              simp
            · have := hC.rr.act hmr hss hp1
              rw [hms, hact] at this
              rw [hms]
              exact this
            · have := act_k hC.rr hC.rk hp1
              rw [hms, hact] at this
              exact this
            · have := hC.pl
              rw [hms, hact] at hac
              dsimp only at hac ⊢
              omega
            · dsimp only
              rw [hil, Nat.min_eq_left (by omega)]
            · rw [hil, his]
              exact hiv
    rintro ⟨⟨lp, rvs, pvs, ev, r, rs, t⟩, u⟩ ⟨e1, e2, e3⟩
    dsimp only at e1 e2 e3 ⊢
    k_extra "W"
    refine w_eqD (d := edD r.ended) (e := .tuple [.str "cut"]) (DV.mem (by k_extra "m")) (DV.mem (by k_extra "m")) (edD_shaped _) (ending_shaped .cut) ?_
    refine w_freeze (p := lr) (ds := rs.map fun c => c.hap.keyD) (by k_extra "t") (DL.mem (by k_extra "m")) ?_
    have hst : i.run.1.sts = [s17 t (min t (last - 1) : Nat), two27.first] := by rw [e1]; exact e2
    refine w_lenv (vs := pvs) (by k_extra "m") fun hpl => ?_
    rw [List.length_map] at hpl
    cases hen : r.ended with
    | some e =>
      rw [show PyData.eqv (edD (some e)) (.tuple [.str "cut"]) = false by
        rcases e3 e hen with ⟨x, rfl⟩ | ⟨f, x, rfl⟩
        · rfl
        · rfl]
      k_extra "W"
      rename_i pt
      exact fun H z => q _ _ _ H ⟨pt, t, rfl, hst, rfl, rfl⟩ (z.fit (by rw [e1]; dsimp only; rw [ending_some hen]; exact List.forall_mem_cons.mpr ⟨by k_extra "m", by k_extra "sub"⟩) (by k_extra "dr"))
    | none =>
      rw [show PyData.eqv (edD none) (.tuple [.str "cut"]) = true by decide +kernel]
      k_extra "W"
      refine w_lenL (by k_extra "at") ?_
      k_extra "W"
      refine w_ite (fun h0 => ?_) (fun h0 => ?_)
      · have hp0 : r.pend = [] := List.length_eq_zero_iff.mp (by omega)
        k_extra "W"
        rename_i pe pt
        exact fun H z => q _ _ _ H ⟨pt, t, rfl, hst, rfl, rfl⟩ (z.fit (by rw [e1]; dsimp only; rw [ending_empty hen hp0]; exact List.forall_mem_cons.mpr ⟨by k_extra "m", by k_extra "sub"⟩) (by k_extra "dr"))
      · have hp0 : r.pend ≠ [] := fun e => h0 (by rw [hpl, e]; rfl)
        k_extra "W"
        rename_i pt
        exact fun H z => q _ _ _ H ⟨pt, t, rfl, hst, rfl, rfl⟩ (z.fit (by rw [e1]; dsimp only; rw [ending_cut hen hp0]; exact List.forall_mem_cons.mpr ⟨by k_extra "m", by k_extra "sub"⟩) (by k_extra "dr"))
end
end Mo
namespace Mo
open PySem PySem.Spec PyProof.Rows L2
/-! ### dicts that are walked: locked while the loop runs -/
section
variable {K : PySem.W.Frag} {σ : St} {H : Hp} {D : Ends} {g : TG} {tb : TS} {t : TS}
theorem go_lock {d : Addr} {u : HO} (h : H d = some u) (mu : Mut (some u)) (k : ∀ od, t ⟨fun σ' H' => H' d = some (.frz od u) ∧ D.nx σ' (upd H' d u), fun v H' => H' d = some (.frz od u) ∧ D.rt v (upd H' d u), fun σ' H' => H' d = some (.frz od u) ∧ D.bk σ' (upd H' d u), fun σ' H' => H' d = some (.frz od u) ∧ D.ct σ' (upd H' d u)⟩ σ (upd H d (.frz od u))) : tLock t D σ H := ⟨d, u, h, mu, k⟩
theorem go_items {R : It → Hp → Prop} {td : TE} (k : td σ H fun x H1 => ∃ d o kvs, x = .ref d ∧ H1 d = some (.frz o (.dK kvs)) ∧ R (Iti d o kvs) H1) : iItems td σ H R := k
theorem loop_i {d : Addr} {o : Obj} {kvs : List (Key × V)} (Pv : Nat → St → Hp → Prop) (h0 : Pv 0 σ H) (hl : ∀ i σ' H', i ≤ kvs.length → Pv i σ' H' → H' d = some (.frz o (.dK kvs)))
    (hs : ∀ (i : Nat) (k : Key) (v : V) (T : Addr) σ' H', kvs[i]? = some (k, v) → Pv i σ' H' → H' T = none → g (.ref T) σ' (upd H' T (.tup [kV k, v])) fun σ2 H2 => tb { D with nx := Pv (i + 1), ct := Pv (i + 1), bk := D.nx } σ2 H2)
    (hd : ∀ σ' H', Pv kvs.length σ' H' → D.nx σ' H') : LoopX g tb D σ H (Iti d o kvs) := by
  refine ⟨fun i m σ H => m = kvs.length - i ∧ i ≤ kvs.length ∧ Pv i σ H, ⟨kvs.length, by simp, Nat.zero_le _, h0⟩, ?_⟩
  rintro i m σ H ⟨rfl, hi, p⟩
  by_cases hlt : i < kvs.length
  · refine .inr ⟨⟨hl i σ H hi p, hlt⟩, Pv (i + 1), fun σ' H' p' => ⟨kvs.length - (i + 1), by omega, rfl, hlt, p'⟩, fun x H' y => ?_⟩
    obtain ⟨T, k, v, e1, e2, e3, e4⟩ := y
    subst e2 e4
    exact hs i k v T σ H e1 p e3
  · have e : i = kvs.length := by omega
    subst e
    exact .inl ⟨⟨hl _ σ H (Nat.le_refl _) p, Nat.le_refl _⟩, hd σ H p⟩
end
end Mo
namespace Mo
open PySem PySem.Spec PyProof.Rows L2
/-! ### State.copy -/
structure MSt.Sz (s : MSt) : Prop where
  boxes : s.boxes.length ≤ 1000
  queues : s.queues.length ≤ 1000
  nq : s.qs.Nodup
theorem stV_len {K : PySem.W.Frag} {p dx b q : Addr} {as : List Addr} {s : MSt} : True := True.intro
theorem queuesV_at {qs : List (Str × List Int)} {as : List Addr} {i : Nat} {k : Key} {v : V} (h : (queuesV qs as)[i]? = some (k, v)) : ∃ x a, qs[i]? = some x ∧ as[i]? = some a ∧ k = Sum.inr x.1 ∧ v = .ref a := by
  unfold queuesV at h
  rw [List.getElem?_map] at h
  obtain ⟨e, he, h⟩ := Option.map_eq_some_iff.mp h
  cases h
  rw [List.getElem?_zip_eq_some] at he
  exact ⟨e.1, e.2, he.1, he.2, rfl, rfl⟩
theorem quV_at {qs : List (Str × List Int)} {as : List Addr} {i : Nat} {x : Str × List Int} {a : Addr} (h1 : qs[i]? = some x) (h2 : as[i]? = some a) : (a, Eq (HO.lst (x.2.map V.int))) ∈ quV qs as := by
  have e : (qs.zip as)[i]? = some (x, a) := by rw [List.getElem?_zip_eq_some]; exact ⟨h1, h2⟩
  exact List.mem_map.mpr ⟨(x, a), List.mem_of_getElem? e, rfl⟩
def spCopy (K : PySem.W.Frag) : Sp := fun vs H Q _ => ∃ (G : Hp) (L : Vo) (p dx b q : Addr) (as : List Addr) (s : MSt), vs = [.ref p] ∧ Hd G H (stV K p dx b q as s ++ L) ∧ s.queues.length = as.length ∧ s.Sz ∧
  ∀ (p1 dx1 b1 q1 : Addr) (as1 : List Addr) (H' : Hp), s.queues.length = as1.length → Hd G H' (stV K p1 dx1 b1 q1 as1 s ++ (stV K p dx b q as s ++ L)) → Q (.ref p1) H'
section
variable {P : Program} {w : World} {K : PySem.W.Frag} {mg : Str → Option Value} {base : Heap}
theorem ok_State_copy (T : Tx K mg) : OkM P w K mg base 4 "State" "copy" ["self"] (spCopy K) := by
  have G_State_init := ok_State_init (P := P) (w := w) (base := base) T
  refine T.f_State_copy.okX sc_State_copy (fun vs H Q E h => ?_) (fun cdv A outer s H vs Q E hr h => ?_)
  · obtain ⟨G, L, p, dx, b, q, as, s, rfl, _⟩ := h
    rfl
  · have hu1 := hu_of hr; have hu0 := hr.units0; have hu64 := hr.units; have hu65 := hu65_of hr; have nd := sc_State_copy.nd
    obtain ⟨G, L, p, dx, b, q, as, s, rfl, z, hl, hz, k⟩ := h
    refine ⟨_, (pss_cons (ps_set (i := 1) nd rfl (Or.inl rfl) pe_dnew)
      (pss_cons (ps_lock (ps_for (passes_of rfl) rfl (pi_items (pe_fldK (K := K) rfl (pv 0) rfl)) (pg_tupK (K := K) (n := 2) rfl rfl (pgs_cons (pg_name (i := 2) nd rfl (Or.inl rfl)) (pgs_cons (pg_name (i := 3) nd rfl (Or.inl rfl)) pgs_nil)) rfl rfl)
      (pss_one (ps_asg (pe_callTy (call_listK (K := K) rfl) (by rfl) T.b_list (by decide +kernel) (pa_cons (pv 3) pa_nil)) (pg_sub (pv 1) (pv 2) (set_any hu1))))))
      (pss_one (ps_ret (pmkK (K := K) rfl T.k_State G_State_init hr (takes_of rfl rfl rfl rfl) (pa_cons (pe_bm0K (K := K) rfl PySem.F.plainAttrs_dict PySem.F.slot_dict_copy PySem.F.type_dict_copy mt_dcopy (pe_fldK (K := K) rfl (pv 0) rfl)) (pa_cons (pv 1) (pa_cons (pe_fldK (K := K) rfl (pv 0) rfl) (pa_cons (pe_fldK (K := K) rfl (pv 0) rfl) pa_nil))))))))), ?_⟩
    refine go_start (σ' := [some (.ref p), none, none, none]) rfl ?_
    k_extra "we"
    refine go_dK fun c hc => ?_
    have z1 := z.new hc (φ := Eq (.dK [])) rfl
    revert z1
    generalize upd H c (.dK []) = H1
    intro z1
    have k' : ∀ (p1 dx1 b1 q1 : Addr) (as1 : List Addr) (H' : Hp), s.queues.length = as1.length → Hd G H' (stV K p1 dx1 b1 q1 as1 s ++ (stV K p dx b q as s ++ L)) → Q (.ref p1) H' := k
    rw [stV_qu, List.cons_append, List.cons_append, List.cons_append] at z1
    refine go_seq (go_lock (z1.eq (List.mem_cons_of_mem _ (List.mem_cons_of_mem _ (List.mem_cons_of_mem _ List.mem_cons_self)))) True.intro fun od => ?_)
    have z2 := z1.set (o' := .frz od (.dK (queuesV s.queues as))) (ψ := Eq (.frz od (.dK (queuesV s.queues as)))) 3 rfl rfl
    revert z2
    generalize upd H1 q (.frz od (.dK (queuesV s.queues as))) = H2
    intro z2
    k_extra "we"
    refine go_items ?_
    k_extra "we"
    refine go_fldL (z2.eq (List.mem_cons_of_mem _ List.mem_cons_self)) T.c_State T.n_State_queues lk_State_queues ?_
    refine ⟨q, od, _, rfl, z2.eq (List.mem_cons_of_mem _ (List.mem_cons_of_mem _ (List.mem_cons_of_mem _ List.mem_cons_self))), ?_⟩
    have hql : (queuesV s.queues as).length = s.queues.length := by
      unfold queuesV
      rw [List.length_map, List.length_zip]
      omega
    refine loop_i (fun i σ H' => ∃ v2 v3 as1, σ = [some (.ref p), some (.ref c), v2, v3] ∧ (s.queues.take i).length = as1.length ∧
        Hd G H' (quV (s.queues.take i) as1 ++ (c, Eq (.dK (queuesV (s.queues.take i) as1))) :: (p, Eq (.ins (He.ga K "State") dx (fl_State (.ref b) (.ref q) (.int s.drawn) (.int s.sent)))) :: (b, Eq (.dK (boxesV s.boxes))) :: (q, Eq (.frz od (.dK (queuesV s.queues as)))) :: (quV s.queues as ++ L)))
      ⟨none, none, [], rfl, by simp, z2⟩ ?_ ?_ ?_
    · rintro i σ' H' _ ⟨v2, v3, as1, _, _, z3⟩
      exact z3.eq (List.mem_append_right _ (List.mem_cons_of_mem _ (List.mem_cons_of_mem _ (List.mem_cons_of_mem _ List.mem_cons_self))))
    · rintro i ky v t σ' H' hi ⟨v2, v3, as1, rfl, hl1, z3⟩ ht
      obtain ⟨x, a, e1, e2, rfl, rfl⟩ := queuesV_at hi
      have ekv : kV (Sum.inr x.1) = V.str x.1 := rfl
      rw [ekv]
      have z4 := z3.grow (Ext.new ht (o := .tup [.str x.1, .ref a]))
      have ht4 : upd H' t (.tup [.str x.1, .ref a]) t = some (.tup [.str x.1, .ref a]) := upd_same
      revert z4 ht4
      generalize upd H' t (.tup [.str x.1, .ref a]) = H4
      intro z4 ht4
      refine go_gtup (SqT.of ht4) rfl ?_
      k_extra "we"
      have ha : H4 a = some (.lst (x.2.map V.int)) := z4.eq (List.mem_append_right _ (List.mem_cons_of_mem _ (List.mem_cons_of_mem _ (List.mem_cons_of_mem _ (List.mem_cons_of_mem _ (List.mem_append_left _ (quV_at e1 e2)))))))
      refine go_listL (SqL.of ha) fun a1 ha1 => ?_
      k_extra "we"
      have z5 := z4.new ha1 (φ := Eq (.lst (x.2.map V.int))) rfl
      revert z5
      generalize upd H4 a1 (.lst (x.2.map V.int)) = H5
      intro z5
      have hnin : x.1 ∉ (s.queues.take i).map (·.1) := by
        rw [List.map_take]
        exact nodup_take hz.nq (by rw [List.getElem?_map, e1]; rfl)
      have hlt : i < s.queues.length := (List.getElem?_eq_some_iff.mp e1).1
      have hl2 : (queuesV (s.queues.take i) as1).length ≤ 1000 := by
        unfold queuesV
        rw [List.length_map, List.length_zip, List.length_take]
        have := hz.queues
        omega
      rw [← List.cons_append] at z5
      refine go_setK (z5.eq (List.mem_append_right _ List.mem_cons_self)) (by rw [sizeLine_eq]; omega) ?_
      rw [queuesV_put hl1 hnin]
      have z6 := z5.setA (o' := .dK (queuesV (s.queues.take i ++ [(x.1, x.2)]) (as1 ++ [a1]))) (ψ := Eq (.dK (queuesV (s.queues.take i ++ [(x.1, x.2)]) (as1 ++ [a1])))) rfl
      have et : s.queues.take i ++ [(x.1, x.2)] = s.queues.take (i + 1) := by rw [List.take_add_one, e1]; rfl
      rw [et] at z6 ⊢
      refine ⟨_, _, as1 ++ [a1], rfl, by rw [← et, List.length_append, List.length_append, hl1]; rfl, z6.perm ?_⟩
      rw [← et, quV_app hl1]
      show (quV (s.queues.take i) as1 ++ [(a1, Eq (HO.lst (x.2.map V.int)))] ++ _).Perm _
      k_extra "p"
    · rintro σ' H3 ⟨v2, v3, as1, rfl, hl1, z3⟩
      rw [hql, List.take_of_length_le (Nat.le_refl _)] at z3 hl1
      refine ⟨z3.eq (List.mem_append_right _ (List.mem_cons_of_mem _ (List.mem_cons_of_mem _ (List.mem_cons_of_mem _ List.mem_cons_self)))), ?_⟩
      have z4 := z3.perm (M := (q, Eq (.frz od (.dK (queuesV s.queues as)))) :: (quV s.queues as1 ++ (c, Eq (.dK (queuesV s.queues as1))) :: (p, Eq (.ins (He.ga K "State") dx (fl_State (.ref b) (.ref q) (.int s.drawn) (.int s.sent)))) :: (b, Eq (.dK (boxesV s.boxes))) :: (quV s.queues as ++ L))) (by k_extra "p")
      have z5 := z4.set0 (o' := .dK (queuesV s.queues as)) (ψ := Eq (.dK (queuesV s.queues as))) rfl
      have z6 := z5.perm (M := (p, Eq (.ins (He.ga K "State") dx (fl_State (.ref b) (.ref q) (.int s.drawn) (.int s.sent)))) :: (b, Eq (.dK (boxesV s.boxes))) :: (c, Eq (.dK (queuesV s.queues as1))) :: (quV s.queues as1 ++ (q, Eq (.dK (queuesV s.queues as))) :: (quV s.queues as ++ L))) (by k_extra "p")
      revert z6
      clear z5 z4
      generalize upd H3 q (.dK (queuesV s.queues as)) = H6
      intro z6
      have hp6 := z6.eq List.mem_cons_self
      k_extra "we"
      refine go_fldL hp6 T.c_State T.n_State_boxes lk_State_boxes ?_
      k_extra "we"
      refine go_tyDK (z6.eq (List.mem_cons_of_mem _ List.mem_cons_self)) ?_
      refine go_dcopy (z6.eq (List.mem_cons_of_mem _ List.mem_cons_self)) fun b1 hb1 => ?_
      have z7 := z6.new hb1 (φ := Eq (.dK (boxesV s.boxes))) rfl
      revert z7
      generalize upd H6 b1 (.dK (boxesV s.boxes)) = H7
      intro z7
      have hp7 := z7.eq (List.mem_cons_of_mem _ List.mem_cons_self)
      k_extra "we"
      refine go_fldL hp7 T.c_State T.n_State_drawn lk_State_drawn ?_
      k_extra "we"
      refine go_fldL hp7 T.c_State T.n_State_sent lk_State_sent ?_
      k_extra "we"
      intro p1 dx1 np ndx nex
      refine ⟨p1, dx1, _, _, _, _, rfl, upd_same, ?_⟩
      refine ⟨rfl, ?_⟩
      rw [upd_upd]
      refine k' p1 dx1 b1 c as1 _ hl1 ?_
      have z8 := z7.made (φ := Eq (.ins (He.ga K "State") dx1 (fl_State (.ref b1) (.ref c) (.int s.drawn) (.int s.sent)))) np ndx nex rfl
      refine z8.perm ?_
      rw [stV_qu, stV_qu]
      k_extra "p"
end
end Mo
namespace Mo
open PySem PySem.Spec PyProof.Rows L2
/-! ### deeds.py: a happening done -/
structure DnI where
  pm : Addr
  ms : List Mach
  m : Mach
  at_ : Nat
  hv : V
  hap : Hap
  p : Addr
  dx : Addr
  b : Addr
  q : Addr
  as : List Addr
  s : MSt
structure DnI.Pre (n : Nat) (K : PySem.W.Frag) (i : DnI) (Γ : List Fc) : Prop where
  md : MdOk K Γ i.pm i.ms
  at_ : i.ms[i.at_]? = some i.m
  to : i.hap.to = (i.at_ : Int)
  hv : .dat i.hv i.hap.data ∈ Γ
  mo : i.m.Ok n
  as : i.s.queues.length = i.as.length
  wo : i.s.Wo
  bs : i.s.bs = i.m.ns
  qs : i.s.qs = i.m.queues
  c : (DoC.mk i.m.draws i.hap).Ok
  np : 0 < n
/-- what is told: the new state, the record's lists, the record, all three -/
structure DnO where
  t : Addr
  r : Addr
  key : V
  p : Addr
  dx : Addr
  b : Addr
  q : Addr
  as : List Addr
  lw : Addr
  bv : List V
  ts : List Addr
  qls : List Addr
  ln : Addr
  nv : List V
def DnO.F (o : DnO) (m : Mach) (x : Hap) (d : Do) : List Fc := [.obj o.t (.tup [.ref o.p, .ref o.r, .bl d.ends]), .obj o.r (.tup [o.key, .int x.to, .str x.sign, .int x.g, .int x.h, .ref o.lw, .ref o.ln]), .dat o.key (.tuple [.int x.time, .int x.rank, .int x.frm, .int x.count]),
  qtF (d.wQ m.queues) o.ts o.qls, .dats o.bv (wbD (d.wB m.ns)), .dats o.nv (d.news.map Hap.data), hpF o.nv d.news]
def DnO.S (K : PySem.W.Frag) (o : DnO) (m : Mach) (d : Do) : List Vo := [stV K o.p o.dx o.b o.q o.as d.st, own o.lw (.lst (o.bv ++ o.ts.map V.ref)), quV (d.wQ m.queues) o.qls, own o.ln (.lst o.nv)]
structure DnO.Ok (o : DnO) (m : Mach) (d : Do) : Prop where
  as : d.st.queues.length = o.as.length
  ts : o.ts.length = (d.wQ m.queues).length
  qls : o.qls.length = (d.wQ m.queues).length
def spDone (n : Nat) (K : PySem.W.Frag) : Sp := SpF K (fun i : DnI => [.ref i.pm, .ref i.p, i.hv]) (fun i Γ => i.Pre n K Γ) (fun i => [stV K i.p i.dx i.b i.q i.as i.s])
  (fun i v Γ' S' => ∃ (d : Do) (o : DnO), i.m.doing i.s i.hap = .ok d ∧ v = .ref o.t ∧ o.Ok i.m d ∧ Γ' = o.F i.m i.hap d ∧ S' = o.S K i.m d ++ [stV K i.p i.dx i.b i.q i.as i.s])
  (fun i e Γ' S' => ∃ x, i.m.doing i.s i.hap = .error x ∧ e = fltE K x ∧ Γ' = [] ∧ S' = [stV K i.p i.dx i.b i.q i.as i.s])
theorem w_copy {K : PySem.W.Frag} {Γ : List Fc} {S R : List Vo} {Q : VK} {E : XK} {p dx b q : Addr} {as : List Addr} {s : MSt} (t : Take (stV K p dx b q as s) S R) (hl : s.queues.length = as.length) (hz : s.Sz)
    (k : ∀ p1 dx1 b1 q1 as1, s.queues.length = as1.length → Wh K Γ (stV K p1 dx1 b1 q1 as1 s :: stV K p dx b q as s :: R) fun H => Q (.ref p1) H) : Wh K Γ S fun H => spCopy K [.ref p] H Q E := fun H z => by
  obtain ⟨G, a, b'⟩ := z.tk1 t
  exact ⟨G, R.flatten, p, dx, b, q, as, s, rfl, a, hl, hz, fun p1 dx1 b1 q1 as1 H' hl1 z' => k p1 dx1 b1 q1 as1 hl1 H' ⟨G, z', b'⟩⟩
theorem MSt.Wo.sz {s : MSt} (h : s.Wo) : s.Sz := ⟨h.lb, h.lq, h.nq⟩
section
variable {P : Program} {w : World} {K : PySem.W.Frag} {mg : Str → Option Value} {base : Heap}
theorem ok_done (T : Tx K mg) (n : Nat) : OkG P w K mg base (4 * n + 8) "done" ["model", "state", "happening"] (spDone n K) := by
  have G_State_copy := ok_State_copy (P := P) (w := w) (base := base) T
  have G_Doing_init := ok_Doing_init (P := P) (w := w) (base := base) T
  have G_deeds_for := ok_deeds_for (P := P) (w := w) (base := base) T
  have G_Doing_do_all := ok_Doing_do_all' (P := P) (w := w) (base := base) T n n
  have G_Doing_writes := ok_Doing_writes (P := P) (w := w) (base := base) T
  refine T.f_done.okX sc_done (fun vs H Q E h => ?_) (fun cdv A outer s H vs Q E hr h => ?_)
  · obtain ⟨i, _, _, rfl, _⟩ := h
    rfl
  · have hu1 := hu_of hr; have hu0 := hr.units0; have hu64 := hr.units; have hu65 := hu65_of hr; have nd := sc_done.nd
    obtain ⟨i, Γ, S, rfl, z, h1, q, x⟩ := h
    dsimp only at z h1 q x
    refine ⟨_, (pss_cons (ps_asg (pv 2) (pg_tupK (K := K) (n := 5) rfl rfl (pgs_cons (pg_name (i := 3) nd rfl (Or.inl rfl)) (pgs_cons (pg_name (i := 4) nd rfl (Or.inl rfl)) (pgs_cons (pg_name (i := 5) nd rfl (Or.inl rfl)) (pgs_cons (pg_name (i := 6) nd rfl (Or.inl rfl)) (pgs_cons (pg_name (i := 7) nd rfl (Or.inl rfl)) pgs_nil))))) rfl rfl))
      (pss_cons (ps_set (i := 8) nd rfl (Or.inl rfl) (pe_ix (ix_anyK (K := K) rfl hu1) (pe_fldK (K := K) rfl (pv 0) rfl) (pv 4) (fun _ _ => rfl)))
      (pss_cons (ps_set (i := 9) nd rfl (Or.inl rfl) (pmkK (K := K) rfl T.k_Doing G_Doing_init hr (takes_of rfl rfl rfl rfl) (pa_cons (pe_ix (ix_anyK (K := K) rfl hu1) (pv 8) pe_int (fun _ _ => rfl)) (pa_cons (pme0K (K := K) rfl T.m_State_copy T.c_State G_State_copy hr (takes_of rfl rfl rfl rfl) (pv 1)) (pa_cons (pv 2) pa_nil)))))
      (pss_cons (ps_expr (pmeK (K := K) rfl T.m_Doing_do_all T.c_Doing G_Doing_do_all hr (takes_of rfl rfl rfl rfl) (pv 9) (pa_cons (pcl T.g_deeds_for G_deeds_for hr (takes_of rfl rfl rfl rfl) (pa_cons (pv 0) (pa_cons (pv 4) (pa_cons (pv 5) pa_nil)))) pa_nil)))
      (pss_cons (ps_set (i := 10) nd rfl (Or.inl rfl) (pe_tup (pa_cons (pv 3) (pa_cons (pv 4) (pa_cons (pv 5) (pa_cons (pv 6) (pa_cons (pv 7) (pa_cons (pmeK (K := K) rfl T.m_Doing_writes T.c_Doing G_Doing_writes hr (takes_of rfl rfl rfl rfl) (pv 9) (pa_cons (pv 8) pa_nil)) (pa_cons (pe_fldK (K := K) rfl (pv 9) rfl) pa_nil)))))))))
      (pss_one (ps_ret (pe_tup (pa_cons (pe_fldK (K := K) rfl (pv 9) rfl) (pa_cons (pv 10) (pa_cons (pe_fldK (K := K) rfl (pv 9) rfl) pa_nil))))))))))), ?_⟩
    refine w_start (σ' := [some (.ref i.pm), some (.ref i.p), some i.hv, none, none, none, none, none, none, none, none]) rfl z ?_
    have hv := h1.hv
    rw [Hap.data, h1.to] at hv
    obtain ⟨dxm, lm, hm1, hm2⟩ := h1.md
    dsimp only [List.cons_append, List.nil_append]
    k_extra "W"
    refine w_subL (ds := i.ms.map Mach.data) (by k_extra "m") (atI_nat (v := i.m.data) (by rw [List.getElem?_map, h1.at_]; rfl)) fun am => ?_
    unfold Mach.data
    rw [valOf_t]
    k_extra "W"
    rename_i dr
    refine w_copy (s := i.s) (by k_extra "t") h1.as h1.wo.sz fun p1 dx1 b1 q1 as1 hl1 => ?_
    k_extra "W"
    refine w_made fun self dxs => ?_
    refine w_don ((self, dxs), (dr, p1), i.hv, i.hap) (by k_extra "ts") (by have := h1.hv; k_extra "m") ?_
    rintro _ Γ' S' ⟨key, gt, wr, nl, rfl, rfl, rfl⟩
    dsimp only [List.cons_append, List.nil_append]
    k_extra "W"
    refine w_don (i.pm, i.ms, i.at_, i.m, i.hap.sign) (by k_extra "ts") ⟨⟨dxm, lm, by k_extra "m", by k_extra "m"⟩, h1.at_⟩ ?_
    rintro _ Γ' S' ⟨l, rfl, rfl, rfl⟩
    dsimp only [List.cons_append, List.nil_append]
    k_extra "W"
    refine w_hpNil ?_
    have hfor := h1.mo.for_ h1.np i.hap.sign
    refine w_do (⟨⟨self, dxs, p1, dx1, b1, q1, wr, nl, dr, gt, key, as1, []⟩, ⟨i.m.draws, i.hap⟩, ⟨i.s, [], [], false⟩, i.m.ns, i.m.queues⟩, l, i.m.deedsFor i.hap.sign) (S := own nl (.lst []) :: own wr (.dK (wrV [])) :: _) (by k_extra "ts")
      ⟨⟨by k_extra "m", by k_extra "m", by k_extra "m", by k_extra "m", hl1, h1.c, ⟨h1.wo, h1.bs, h1.qs, (fun _ h => nomatch h), List.nodup_nil⟩⟩, by k_extra "m", hfor.1, hfor.2.2.1, hfor.2.1, by have := hfor.2.2.2; show ([] : List Hap).length + Dd.cnts (i.m.deedsFor i.hap.sign) ≤ 10000; simp only [List.length_nil]; omega⟩ ?_ ?_
    · rintro _ Γ' S' ⟨d, nv, e1, rfl, rfl, rfl⟩
      dsimp only [doS, List.cons_append, List.nil_append] at e1 ⊢
      have hs := runs_ok h1.c _ hfor.1 (s := ⟨i.s, [], [], false⟩) ⟨h1.wo, h1.bs, h1.qs, (fun _ h => nomatch h), List.nodup_nil⟩ e1
      have hal : d.st.queues.length = as1.length := by
        have e2 := congrArg List.length (hs.qs.trans h1.qs.symm)
        unfold MSt.qs at e2
        rw [List.length_map, List.length_map] at e2
        exact e2.trans hl1
      k_extra "W"
      refine w_don (⟨⟨self, dxs, p1, dx1, b1, q1, wr, nl, dr, gt, key, as1, nv⟩, ⟨i.m.draws, i.hap⟩, d, i.m.ns, i.m.queues⟩, .ref am, i.m) (by k_extra "ts")
        ⟨⟨by k_extra "m", by k_extra "m", by k_extra "m", by k_extra "m", hal, h1.c, hs⟩, by unfold Mach.data; k_extra "m", rfl, rfl, h1.mo.sm⟩ ?_
      rintro _ Γ' S' ⟨lw, bv, ts, qls, rfl, k1, k2, rfl, rfl⟩
      dsimp only [doS, List.cons_append, List.nil_append]
      k_extra "W"
      rename_i r t
      refine w_hpD (vs := nv) (hs := d.news) (by k_extra "m") ?_
      exact fun H z => q _ _ _ _ ⟨d, ⟨t, r, _, p1, dx1, b1, q1, as1, lw, bv, ts, qls, nl, nv⟩, e1, rfl, ⟨hal, k1, k2⟩, rfl, rfl⟩ (z.fit (by dsimp only [DnO.F]; rw [h1.to]; k_extra "sub") (by dsimp only [DnO.S]; k_extra "dr"))
    · rintro e Γ' S' ⟨r, e1, rfl, rfl, rfl⟩
      exact fun H z => x _ _ _ _ ⟨r, e1, rfl, rfl, rfl⟩ (z.fit (by k_extra "sub") (by k_extra "dr"))
end
end Mo
namespace Mo
open PySem PySem.Spec PyProof.Rows L2
theorem flt_fault {K : PySem.W.Frag} {mg : Str → Option Value} (T : Tx K mg) (r : Flt) : PySem.W.exmOne K (.ref (He.ga K r.cls)) (.ref (He.ga K "Fault")) = some true := by
  cases r
  · exact T.e_Nought_Fault
  · exact T.e_Great_Fault
  · exact T.e_Full_Fault
  · exact T.e_Dry_Fault
  · exact T.e_Span_Fault
  · exact T.e_Late_Fault
end Mo
namespace Mo
open PySem PySem.Spec PyProof.Rows L2
def wordsL : List (Str × Str) := [("Dry", "dry"), ("Fault", "fault"), ("Full", "full"), ("Great", "great"), ("Late", "late"), ("Nought", "nought"), ("Span", "span")]
theorem ok_words {P : Program} {w : World} {K : PySem.W.Frag} {mg : Str → Option Value} {base : Heap} (T : Tx K mg) : ∀ p ∈ wordsL, WordOk P w K mg base "word" p.1 p.2 := by
  intro p hp
  simp only [wordsL, List.mem_cons, List.not_mem_nil, or_false] at hp
  rcases hp with rfl | rfl | rfl | rfl | rfl | rfl | rfl
  · refine ⟨T.m_Dry_word.1, T.xc_Dry, T.m_Dry_word.2.2, fn_ofA T.m_Dry_word.2.1 sc_Dry_word (fun vs H Q E h => ?_) (fun cdv A outer s H vs Q E h => ?_)⟩
    · obtain ⟨⟨v, rfl⟩, _⟩ := h
      rfl
    · obtain ⟨⟨v, rfl⟩, q⟩ := h
      refine ⟨_, (pss_one (ps_ret pe_str)), ?_⟩
      refine go_start (σ' := [some v]) rfl ?_
      k_extra "we"
      exact q
  · refine ⟨T.m_Fault_word.1, T.xc_Fault, T.m_Fault_word.2.2, fn_ofA T.m_Fault_word.2.1 sc_Fault_word (fun vs H Q E h => ?_) (fun cdv A outer s H vs Q E h => ?_)⟩
    · obtain ⟨⟨v, rfl⟩, _⟩ := h
      rfl
    · obtain ⟨⟨v, rfl⟩, q⟩ := h
      refine ⟨_, (pss_one (ps_ret pe_str)), ?_⟩
      refine go_start (σ' := [some v]) rfl ?_
      k_extra "we"
      exact q
  · refine ⟨T.m_Full_word.1, T.xc_Full, T.m_Full_word.2.2, fn_ofA T.m_Full_word.2.1 sc_Full_word (fun vs H Q E h => ?_) (fun cdv A outer s H vs Q E h => ?_)⟩
    · obtain ⟨⟨v, rfl⟩, _⟩ := h
      rfl
    · obtain ⟨⟨v, rfl⟩, q⟩ := h
      refine ⟨_, (pss_one (ps_ret pe_str)), ?_⟩
      refine go_start (σ' := [some v]) rfl ?_
      k_extra "we"
      exact q
  · refine ⟨T.m_Great_word.1, T.xc_Great, T.m_Great_word.2.2, fn_ofA T.m_Great_word.2.1 sc_Great_word (fun vs H Q E h => ?_) (fun cdv A outer s H vs Q E h => ?_)⟩
    · obtain ⟨⟨v, rfl⟩, _⟩ := h
      rfl
    · obtain ⟨⟨v, rfl⟩, q⟩ := h
      refine ⟨_, (pss_one (ps_ret pe_str)), ?_⟩
      refine go_start (σ' := [some v]) rfl ?_
      k_extra "we"
      exact q
  · refine ⟨T.m_Late_word.1, T.xc_Late, T.m_Late_word.2.2, fn_ofA T.m_Late_word.2.1 sc_Late_word (fun vs H Q E h => ?_) (fun cdv A outer s H vs Q E h => ?_)⟩
    · obtain ⟨⟨v, rfl⟩, _⟩ := h
      rfl
    · obtain ⟨⟨v, rfl⟩, q⟩ := h
      refine ⟨_, (pss_one (ps_ret pe_str)), ?_⟩
      refine go_start (σ' := [some v]) rfl ?_
      k_extra "we"
      exact q
  · refine ⟨T.m_Nought_word.1, T.xc_Nought, T.m_Nought_word.2.2, fn_ofA T.m_Nought_word.2.1 sc_Nought_word (fun vs H Q E h => ?_) (fun cdv A outer s H vs Q E h => ?_)⟩
    · obtain ⟨⟨v, rfl⟩, _⟩ := h
      rfl
    · obtain ⟨⟨v, rfl⟩, q⟩ := h
      refine ⟨_, (pss_one (ps_ret pe_str)), ?_⟩
      refine go_start (σ' := [some v]) rfl ?_
      k_extra "we"
      exact q
  · refine ⟨T.m_Span_word.1, T.xc_Span, T.m_Span_word.2.2, fn_ofA T.m_Span_word.2.1 sc_Span_word (fun vs H Q E h => ?_) (fun cdv A outer s H vs Q E h => ?_)⟩
    · obtain ⟨⟨v, rfl⟩, _⟩ := h
      rfl
    · obtain ⟨⟨v, rfl⟩, q⟩ := h
      refine ⟨_, (pss_one (ps_ret pe_str)), ?_⟩
      refine go_start (σ' := [some v]) rfl ?_
      k_extra "we"
      exact q
end Mo
namespace Mo
open PySem PySem.Spec PyProof.Rows L2
/-! ### first_state -/
section
variable {P : Program} {w : World} {K : PySem.W.Frag} {mg : Str → Option Value} {base : Heap}
def spFirst (K : PySem.W.Frag) : Sp := fun vs H Q _ => ∃ (G : Hp) (L : Vo) (pm : Addr) (ms : List Mach) (i : Nat) (m : Mach), vs = [.ref pm, .int (i : Int)] ∧ Hd G H L ∧ ModelG K G pm ms ∧ ms[i]? = some m ∧ m.Nd ∧ m.Sm ∧
  ∀ p dx b q as H', as.length = m.queues.length → Ext H H' → Hd G H' (vo (StC K p dx b q as m.first) ++ L) → Q (.ref p) H'
theorem ok_first_state (T : Tx K mg) : OkG P w K mg base 3 "first_state" ["model", "at"] (spFirst K) := by
  have G_State_init := ok_State_init (P := P) (w := w) (base := base) T
  refine T.f_first_state.okX sc_first_state (fun vs H Q E h => ?_) (fun cdv A outer s H vs Q E hr h => ?_)
  · obtain ⟨G, L, pm, ms, i, m, rfl, _⟩ := h
    rfl
  · have hu1 := hu_of hr; have hu0 := hr.units0; have hu64 := hr.units; have hu65 := hu65_of hr; have nd := sc_first_state.nd
    obtain ⟨G, L, pm, ms, i, m, rfl, hH, hM, hm, hnd, hsm, q⟩ := h
    refine ⟨_, (pss_cons (ps_set (i := 2) nd rfl (Or.inl rfl) pe_dnew)
      (pss_cons (ps_for (passes_of rfl) rfl (pi_seqK (K := K) rfl (pe_ix (ix_anyK (K := K) rfl hu1) (pe_ix (ix_anyK (K := K) rfl hu1) (pe_fldK (K := K) rfl (pv 0) rfl) (pv 1) (fun _ _ => rfl)) pe_int (fun _ _ => rfl))) (pg_tupK (K := K) (n := 2) rfl rfl (pgs_cons (pg_name (i := 3) nd rfl (Or.inl rfl)) (pgs_cons (pg_name (i := 4) nd rfl (Or.inl rfl)) pgs_nil)) rfl rfl)
      (pss_one (ps_asg (pv 4) (pg_sub (pv 2) (pv 3) (set_any hu1)))))
      (pss_cons (ps_set (i := 5) nd rfl (Or.inl rfl) pe_dnew)
      (pss_cons (ps_for (passes_of rfl) rfl (pi_seqK (K := K) rfl (pe_ix (ix_anyK (K := K) rfl hu1) (pe_ix (ix_anyK (K := K) rfl hu1) (pe_fldK (K := K) rfl (pv 0) rfl) (pv 1) (fun _ _ => rfl)) pe_int (fun _ _ => rfl))) (pg_name (i := 3) nd rfl (Or.inl rfl))
      (pss_one (ps_asg (pe_lst pa_nil) (pg_sub (pv 5) (pv 3) (set_any hu1)))))
      (pss_one (ps_ret (pmkK (K := K) rfl T.k_State G_State_init hr (takes_of rfl rfl rfl rfl) (pa_cons (pv 2) (pa_cons (pv 5) (pa_cons pe_int (pa_cons pe_int pa_nil))))))))))), ?_⟩
    refine go_start (σ' := [some (.ref pm), some (.int (i : Int)), none, none, none, none]) rfl ?_
    obtain ⟨dxm, lm, hpm, hDm⟩ := hM.there
    have eG := hH.ex
    have hmi : (ms.map Mach.data)[i]? = some m.data := by rw [List.getElem?_map, hm]; rfl
    k_extra "we"
    refine go_dK fun b hb => ?_
    have z1 := hH.new hb (φ := Eq (.dK (boxesV []))) rfl
    k_extra "we"
    refine go_fldL (z1.ex _ _ hpm) T.c_Model T.n_Model_machines lk_Model_machines ?_
    k_extra "we"
    refine go_gL z1.ex hDm (n := i) rfl hmi fun vm hvm => ?_
    unfold Mach.data at hvm
    k_extra "we"
    refine go_gT z1.ex hvm (n := 1) rfl rfl fun vb hvb => ?_
    obtain ⟨lb, bs, rfl, hlb, hbs⟩ := dp_lst hvb
    have hbl := dpa_len hbs
    rw [List.length_map] at hbl
    k_extra "we"
    refine go_sqL (ext_l z1.ex hlb) ?_
    refine loop_l (xs := bs) (fun j σ H' => ∃ v1 v2, σ = [some (.ref pm), some (.int (i : Int)), some (.ref b), v1, v2, none] ∧ Ext H H' ∧ Hd G H' ((b, Eq (.dK (boxesV (m.boxes.take j)))) :: L))
      ⟨none, none, rfl, Ext.new hb, z1⟩ ?_ ?_ ?_
    · rintro j σ' H' _ ⟨v1, v2, _, e1, e2⟩
      exact ext_l e2.ex hlb
    · rintro j x σ' H' hj ⟨v1, v2, rfl, e1, e2⟩
      obtain ⟨d, hd1, hd2⟩ := dpa_get' hbs hj
      rw [List.getElem?_map] at hd1
      cases hbx : m.boxes[j]? with
      | none => rw [hbx] at hd1; cases hd1
      | some bx =>
        rw [hbx] at hd1
        obtain rfl := Option.some.inj hd1
        unfold boxD at hd2
        obtain ⟨t, ts, rfl, ht, hts⟩ := dp_tup hd2
        cases hts with
        | cons f1 hts => cases hts with
          | cons f2 hts =>
            cases hts
            obtain rfl := dp_str f1
            obtain rfl := dp_int f2
            have hlt : j < m.boxes.length := (List.getElem?_eq_some_iff.mp hbx).1
            have hnin : bx.1 ∉ (m.boxes.take j).map (·.1) := by
              rw [List.map_take]
              exact nodup_take hnd.boxes (by rw [List.getElem?_map, hbx]; rfl)
            refine go_gtup (ext_t e2.ex ht) rfl ?_
            k_extra "we"
            refine go_setK (e2.eq List.mem_cons_self) (by unfold boxesV; rw [List.length_map, List.length_take, sizeLine_eq]; have := hsm.boxes; omega) ?_
            rw [boxesV_put hnin]
            refine ⟨_, _, rfl, e1.put hb, ?_⟩
            have et : m.boxes.take j ++ [(bx.1, bx.2)] = m.boxes.take (j + 1) := by rw [List.take_add_one, hbx]; rfl
            rw [et]
            exact e2.set 0 rfl rfl
    · rintro σ' H1 ⟨v1, v2, rfl, e1, e2⟩
      rw [hbl, List.take_of_length_le (Nat.le_refl _)] at e2
      k_extra "we"
      refine go_dK fun c hc => ?_
      have z2 := e2.new hc (φ := Eq (.dK (queuesV [] []))) rfl
      have hcH := e1.free hc
      k_extra "we"
      refine go_fldL (z2.ex _ _ hpm) T.c_Model T.n_Model_machines lk_Model_machines ?_
      k_extra "we"
      refine go_gL z2.ex hDm (n := i) rfl hmi fun vm' hvm' => ?_
      unfold Mach.data at hvm'
      k_extra "we"
      refine go_gT z2.ex hvm' (n := 2) rfl rfl fun vq hvq => ?_
      obtain ⟨lq, qs, rfl, hlq, hqs⟩ := dp_lst hvq
      obtain rfl := dpa_strs' hqs
      k_extra "we"
      refine go_sqL (ext_l z2.ex hlq) ?_
      refine loop_l (xs := m.queues.map V.str) (fun j σ H' => ∃ v1 v2 as, σ = [some (.ref pm), some (.int (i : Int)), some (.ref b), v1, v2, some (.ref c)] ∧ as.length = min j m.queues.length ∧ Ext H H' ∧
          Hd G H' ((c, Eq (.dK (queuesV ((m.queues.take j).map fun q => (q, [])) as))) :: (b, Eq (.dK (boxesV m.boxes))) :: ((((m.queues.take j).map fun q => (q, ([] : List Int))).zip as).map fun e => (e.2, Eq (HO.lst (e.1.2.map V.int)))) ++ L))
        ⟨_, _, [], rfl, by simp, e1.trans (Ext.new hc), z2⟩ ?_ ?_ ?_
      · rintro j σ' H' _ ⟨v1, v2, as, _, _, _, e4⟩
        exact ext_l e4.ex hlq
      · rintro j x σ' H' hj ⟨v1, v2, as, rfl, hal, e3, e4⟩
        rw [List.getElem?_map] at hj
        cases hqx : m.queues[j]? with
        | none => rw [hqx] at hj; cases hj
        | some qx =>
          rw [hqx] at hj
          obtain rfl := Option.some.inj hj
          have hlt : j < m.queues.length := (List.getElem?_eq_some_iff.mp hqx).1
          have htl : (m.queues.take j).length = as.length := by rw [List.length_take, hal]
          have hnin : qx ∉ ((m.queues.take j).map fun q => (q, ([] : List Int))).map (·.1) := by
            rw [List.map_map]
            have ee : ((·.1) ∘ fun q => (q, ([] : List Int))) = (id : Str → Str) := rfl
            rw [ee, List.map_id]
            exact nodup_take hnd.queues hqx
          k_extra "we"
          refine go_sz rfl fun z hz => ?_
          k_extra "we"
          have z3 := e4.new hz (φ := Eq (.lst [])) rfl
          refine go_setK (z3.eq (List.mem_cons_of_mem _ List.mem_cons_self)) (by unfold queuesV; rw [List.length_map, List.length_zip, List.length_map, List.length_take, sizeLine_eq]; have := hsm.queues; omega) ?_
          rw [queuesV_put (ns := []) (by rw [List.length_map]; exact htl) hnin]
          have et : ((m.queues.take j).map fun q => (q, ([] : List Int))) ++ [(qx, [])] = (m.queues.take (j + 1)).map fun q => (q, []) := by rw [List.take_add_one, hqx, List.map_append]; rfl
          rw [et]
          refine ⟨_, _, as ++ [z], rfl, by rw [List.length_append, hal, List.length_singleton]; omega, (e3.trans (Ext.new hz)).put hcH, ?_⟩
          have z4 := z3.set (o' := .dK (queuesV ((m.queues.take (j + 1)).map fun q => (q, [])) (as ++ [z]))) (ψ := Eq (.dK (queuesV ((m.queues.take (j + 1)).map fun q => (q, [])) (as ++ [z])))) 1 rfl rfl
          refine z4.perm ?_
          rw [← et, List.zip_append (by rw [List.length_map]; exact htl), List.map_append]
          simp only [List.cons_append, List.set_cons_succ, List.set_cons_zero, List.append_assoc]
          exact (perm_back _ _ _ _ _).symm
      · rintro σ' H2 ⟨v1, v2, as, rfl, hal, e3, e4⟩
        rw [List.length_map, List.take_of_length_le (Nat.le_refl _)] at e4
        rw [List.length_map] at hal
        k_extra "we"
        intro p dx np ndx nex
        refine ⟨p, dx, _, _, _, _, rfl, upd_same, ?_⟩
        refine ⟨rfl, ?_⟩
        rw [upd_upd]
        refine q p dx b c as _ (by omega) (e3.trans (Ext.made np ndx)) ?_
        have z5 := e4.made (φ := Eq (.ins (He.ga K "State") dx (fl_State (.ref b) (.ref c) (.int 0) (.int 0)))) np ndx nex rfl
        unfold StC vo
        simp only [List.map_cons, List.map_map, List.cons_append]
        simp only [List.cons_append] at z5
        exact z5.perm (.cons _ (.swap _ _ _))
end
end Mo
namespace Mo
open PySem PySem.Spec PyProof.Rows L2
section
variable {K : PySem.W.Frag} {Γ : List Fc} {S R : List Vo} {Q : VK} {E : XK}
theorem w_first {pm : Addr} {ms : List Mach} {i : Nat} {m : Mach} (hm : MdOk K Γ pm ms) (hi : ms[i]? = some m) (nd : m.Nd) (sm : m.Sm) (k : ∀ p dx b q as, as.length = m.queues.length → Wh K Γ (stV K p dx b q as m.first :: S) fun H => Q (.ref p) H) : Wh K Γ S fun H => spFirst K [.ref pm, .int (i : Int)] H Q E := fun H z => by
  obtain ⟨G, a1, b1⟩ := z
  obtain ⟨dx, lm, h1, h2⟩ := hm
  exact ⟨G, S.flatten, pm, ms, i, m, rfl, a1, ⟨dx, lm, b1 _ h1, b1 _ h2⟩, hi, nd, sm, fun p dx b q as H' hl _ z' => k p dx b q as hl H' ⟨G, z', b1⟩⟩
end
end Mo
namespace Mo
open PySem PySem.Spec PyProof.Rows L2
/-! ### plain.py: runs -/
structure StI where
  p : Addr
  dx : Addr
  b : Addr
  q : Addr
  as : List Addr
  s : MSt
def stS (K : PySem.W.Frag) (e : StI) : Vo := stV K e.p e.dx e.b e.q e.as e.s
section
variable {P : Program} {w : World} {K : PySem.W.Frag} {mg : Str → Option Value} {base : Heap}
end
end Mo
namespace Mo
open PySem PySem.Spec PyProof.Rows L2
section
variable {P : Program} {w : World} {K : PySem.W.Frag} {mg : Str → Option Value} {base : Heap}
end
end Mo
namespace Mo
open PySem PySem.Spec PyProof.Rows L2
section
variable {P : Program} {w : World} {K : PySem.W.Frag} {mg : Str → Option Value} {base : Heap}
end
end Mo
namespace Mo
open PySem PySem.Spec PyProof.Rows L2
def spBookInit (K : PySem.W.Frag) : Sp := fun vs H Q _ => ∃ (p dx : Addr) (a b c : V), vs = [.ref p, a, b, c] ∧ H p = some (.ins (He.ga K "Book") dx []) ∧ Q .non (upd H p (.ins (He.ga K "Book") dx (fl_Book a b c)))
section
variable {K : PySem.W.Frag} {Γ : List Fc} {S : List Vo} {Q : VK} {E : XK}
theorem w_bookInit {x dx : Addr} {a b c : V} (k : Wh K Γ (own x (.ins (He.ga K "Book") dx (fl_Book a b c)) :: S) fun H => Q .non H) : Wh K Γ (own x (.ins (He.ga K "Book") dx []) :: S) fun H => spBookInit K [.ref x, a, b, c] H Q E := fun H z =>
  ⟨x, dx, a, b, c, rfl, z.own List.mem_cons_self, k _ (z.sw Sw.here)⟩
end
def spPending (K : PySem.W.Frag) : Sp := SpF K (fun i : Addr × List V × List Sg => [.ref i.1]) (fun i Γ => .dats i.2.1 (i.2.2.map Sg.data) ∈ Γ ∧ i.2.2.length ≤ 1000) (fun i => [own i.1 (.lst i.2.1)])
  (fun i v Γ' S' => ∃ (lp : Addr) (pvs : List V), v = .ref lp ∧ Γ' = [.dats pvs ((hapsFrom 0 i.2.2).map Hap.data), hpF pvs (hapsFrom 0 i.2.2)] ∧ S' = [own lp (.lst pvs), own i.1 (.lst i.2.1)]) noEx
structure FgI where
  pm : Addr
  ms : List Mach
  a : Addr
  sv : List V
  sgs : List Sg
structure FgI.Ok (n : Nat) (ss : List Str) (sok : Str → Prop) (K : PySem.W.Frag) (i : FgI) (Γ : List Fc) : Prop where
  md : MdOk K Γ i.pm i.ms
  mr : MdR n ss i.ms
  bw : ∀ m ∈ i.ms, ∀ p ∈ m.boxes, Worth p.2
  sk : ∀ x ∈ ss, sok x
  sr : ∀ s ∈ i.sgs, SgR i.ms.length sok s
  sv : .dats i.sv (i.sgs.map Sg.data) ∈ Γ
  sl : i.sgs.length ≤ 1000
def spPlain (n : Nat) (ss : List Str) (sok : Str → Prop) (K : PySem.W.Frag) : Sp := SpF K (fun i : FgI × Nat => [.ref i.1.pm, .ref i.1.a, .int (i.2 : Int)]) (fun i Γ => i.1.Ok n ss sok K Γ ∧ i.2 ≤ 4000) (fun i => [own i.1.a (.lst i.1.sv)])
  (fun i v Γ' S' => ∃ (pb dxb lr ls : Addr) (e : V) (es : List StI) (rs : List (RcO × Rec)), v = .ref pb ∧ es.map (·.s) = ((firstRun i.1.ms i.1.sgs).go i.1.ms i.2).1.sts ∧ (∀ e ∈ es, e.s.queues.length = e.as.length) ∧ rs.map (·.2) = ((firstRun i.1.ms i.1.sgs).go i.1.ms i.2).2 ∧ (∀ p ∈ rs, p.1.Ok p.2) ∧
    Γ' = [.dat e ((firstRun i.1.ms i.1.sgs).go i.1.ms i.2).1.ending.data, allF K rcF rs] ∧
    S' = [own pb (.ins (He.ga K "Book") dxb (fl_Book (.ref lr) e (.ref ls))), own lr (.lst (rs.map fun p => V.ref p.1.r)), segsV rcS rs, own ls (.lst (es.map fun e => V.ref e.p)), segsV (stS K) es, own i.1.a (.lst i.1.sv)]) noEx
section
variable {P : Program} {w : World} {K : PySem.W.Frag} {mg : Str → Option Value} {base : Heap}
theorem ok_Book_init (T : Tx K mg) : OkM P w K mg base 1 "Book" "__init__" ["self", "records", "ending", "states"] (spBookInit K) := by
  refine T.f_Book_init.okX sc_Book_init (fun vs H Q E h => ?_) (fun cdv A outer s H vs Q E hr h => ?_)
  · obtain ⟨p, dx, a, b, c, rfl, _⟩ := h
    rfl
  · have hu1 := hu_of hr; have hu0 := hr.units0; have hu64 := hr.units; have hu65 := hu65_of hr; have nd := sc_Book_init.nd
    obtain ⟨p, dx, a, b, c, rfl, hp, q⟩ := h
    refine ⟨_, (pss_cons (ps_fldK (K := K) rfl (pv 0) (pv 1) rfl)
      (pss_cons (ps_fldK (K := K) rfl (pv 0) (pv 2) rfl)
      (pss_one (ps_fldK (K := K) rfl (pv 0) (pv 3) rfl)))), ?_⟩
    refine go_start (σ' := [some (.ref p), some a, some b, some c]) rfl ?_
    k_extra "we"
    refine go_sfldL hp T.c_Book T.n_Book_records rfl ?_
    rw [in_Book_0]
    k_extra "we"
    refine go_sfldL upd_same T.c_Book T.n_Book_ending rfl ?_
    rw [upd_upd, in_Book_1]
    k_extra "we"
    refine go_sfldL upd_same T.c_Book T.n_Book_states rfl ?_
    rw [upd_upd, in_Book_2]
    exact q
theorem ok_pending_at_first (T : Tx K mg) : OkG P w K mg base 1 "pending_at_first" ["signs"] (spPending K) := by
  refine T.f_pending_at_first.okX sc_pending_at_first (fun vs H Q E h => ?_) (fun cdv A outer s H vs Q E hr h => ?_)
  · obtain ⟨i, _, _, rfl, _⟩ := h
    rfl
  · have hu1 := hu_of hr; have hu0 := hr.units0; have hu64 := hr.units; have hu65 := hu65_of hr; have nd := sc_pending_at_first.nd
    obtain ⟨⟨a, sv, sgs⟩, Γ, S, rfl, z, ⟨hsv, hsl⟩, q, x⟩ := h
    dsimp only at z hsv hsl q x
    refine ⟨_, (pss_cons (ps_set (i := 1) nd rfl (Or.inl rfl) (pe_lst pa_nil))
      (pss_cons (ps_for (passes_of rfl) rfl (pi_enum rfl T.b_enumerate (pa_cons (pv 0) pa_nil)) (pg_tupK (K := K) (n := 2) rfl rfl (pgs_cons (pg_name (i := 2) nd rfl (Or.inl rfl)) (pgs_cons (pg_name (i := 3) nd rfl (Or.inl rfl)) pgs_nil)) rfl rfl)
      (pss_cons (ps_asg (pv 3) (pg_tupK (K := K) (n := 6) rfl rfl (pgs_cons (pg_name (i := 4) nd rfl (Or.inl rfl)) (pgs_cons (pg_name (i := 5) nd rfl (Or.inl rfl)) (pgs_cons (pg_name (i := 6) nd rfl (Or.inl rfl)) (pgs_cons (pg_name (i := 7) nd rfl (Or.inl rfl)) (pgs_cons (pg_name (i := 8) nd rfl (Or.inl rfl)) (pgs_cons (pg_name (i := 9) nd rfl (Or.inl rfl)) pgs_nil)))))) rfl rfl))
      (pss_one (ps_expr (pe_bmK (K := K) rfl PySem.F.plainAttrs_list PySem.F.slot_list_append PySem.F.type_list_append mt_append (pv 1) (pa_cons (pe_tup (pa_cons (pe_tup (pa_cons (pv 4) (pa_cons (pv 5) (pa_cons (pe_un un_neg pe_int) (pa_cons (pv 2) pa_nil))))) (pa_cons (pv 6) (pa_cons (pv 7) (pa_cons (pv 8) (pa_cons (pv 9) pa_nil)))))) pa_nil))))))
      (pss_one (ps_ret (pv 1))))), ?_⟩
    refine w_start (σ' := [some (.ref a), none, none, none, none, none, none, none, none, none]) rfl z ?_
    dsimp only [List.cons_append, List.nil_append] at q ⊢
    k_extra "W"
    refine w_lstO fun lp => ?_
    k_extra "W"
    refine w_forEnum ?_
    k_extra "W"
    refine w_enumL (by k_extra "at") ?_
    refine w_hpNil ?_
    refine w_lenv (vs := sv) (by k_extra "m") fun hvl => ?_
    rw [List.length_map] at hvl
    refine w_loop_eL (ι := (Option V × Option V × Option V × Option V × Option V × Option V × Option V × Option V) × List V) sv (fun j a => a.2.length = j) (fun _ u => [some (.ref a), some (.ref lp), u.1.1, u.1.2.1, u.1.2.2.1, u.1.2.2.2.1, u.1.2.2.2.2.1, u.1.2.2.2.2.2.1, u.1.2.2.2.2.2.2.1, u.1.2.2.2.2.2.2.2]) (fun j u => hpF u.2 (hapsFrom 0 (sgs.take j)) :: Γ) (fun _ u => own lp (.lst u.2) :: own a (.lst sv) :: S) ((none, none, none, none, none, none, none, none), []) rfl rfl (by k_extra "sub") (by k_extra "dr") (fun _ _ => by k_extra "at") ?_ ?_
    · rintro j v T ⟨⟨u2, u3, u4, u5, u6, u7, u8, u9⟩, pvs⟩ hj hC
      dsimp only at hC ⊢
      have hjl := (List.getElem?_eq_some_iff.mp hj).1
      refine w_datsGet (vs := sv) (by k_extra "m") hj fun d hd => ?_
      rw [List.getElem?_map] at hd
      obtain ⟨sg, hsg, rfl⟩ := Option.map_eq_some_iff.mp hd
      unfold Sg.data
      repeat (first | (refine w_tupO rfl fun _ => ?_) | k_extra "W1")
      refine w_app (by k_extra "sw") (by omega) ?_
      k_extra "W"
      refine w_hpSnoc (vs := pvs) (hs := hapsFrom 0 (sgs.take j)) (h := sg.hap j) (by k_extra "m") (by k_extra "m") (by k_extra "m") ?_
      have htk : hapsFrom 0 (sgs.take (j + 1)) = hapsFrom 0 (sgs.take j) ++ [sg.hap j] := by
        rw [List.take_add_one, hsg, Option.toList_some, haps_snoc, List.length_take, Nat.zero_add, Nat.min_eq_left (by omega)]
      rw [← htk]
      exact w_again ((_, _, _, _, _, _, _, _), pvs ++ [_]) (by dsimp only; rw [List.length_append, hC]; rfl) rfl (by k_extra "sub") (by k_extra "dr")
    rintro ⟨⟨u2, u3, u4, u5, u6, u7, u8, u9⟩, pvs⟩ _
    dsimp only
    rw [hvl, List.take_of_length_le (Nat.le_refl _)]
    k_extra "W"
    refine w_hpD (vs := pvs) (hs := hapsFrom 0 sgs) (by k_extra "m") ?_
    exact fun H z => q _ _ _ H ⟨lp, pvs, rfl, rfl, rfl⟩ (z.fit (by k_extra "sub") (by k_extra "dr"))
end
end Mo
namespace Mo
open PySem PySem.Spec PyProof.Rows L2
section
variable {P : Program} {w : World} {K : PySem.W.Frag} {mg : Str → Option Value} {base : Heap}
end
end Mo
namespace Mo
open PySem PySem.Spec PyProof.Rows L2
/-! ### the run by a Calendar -/
structure RdI_Calendar {K : PySem.W.Frag} (I : CalI K "Calendar") where
  p : Addr
  dx : Addr
  pm : Addr
  ls : Addr
  c : Addr
  C : Vo
  lf : Addr
  ev : V
  es : List StI
  ps : List EH
  rs : List (RcO × Rec)
  r : Run
  ms : List Mach
def rdS_Calendar {K : PySem.W.Frag} {I : CalI K "Calendar"} (g : RdI_Calendar I) : List Vo := [own g.p (.ins (He.ga K "Rider") g.dx (fl_Rider (.ref g.pm) (.ref g.ls) (.ref g.c) (.ref g.lf) g.ev)), own g.ls (.lst (g.es.map fun e => V.ref e.p)), segsV (stS K) g.es, g.C, own g.lf (.lst (g.rs.map fun p => V.ref p.1.r)), segsV rcS g.rs]
def rdF_Calendar {K : PySem.W.Frag} {I : CalI K "Calendar"} (g : RdI_Calendar I) : List Fc := [repF I g.C g.c (g.ps.map (·.1)), cpF g.ps, .dat g.ev (endD g.r.ended), allF K rcF g.rs]
structure RdI_Calendar.Ok {K : PySem.W.Frag} {I : CalI K "Calendar"} (n : Nat) (ss : List Str) (sok : Str → Prop) (g : RdI_Calendar I) (Γ : List Fc) : Prop where
  md : MdOk K Γ g.pm g.ms
  mr : MdR n ss g.ms
  sk : ∀ x ∈ ss, sok x
  rr : RunR g.ms sok g.r
  rk : RunK g.r
  sts : g.es.map (·.s) = g.r.sts
  fit : ∀ e ∈ g.es, e.s.queues.length = e.as.length
  pk : PsK g.ps
  pp : (g.ps.map (·.2)).Perm g.r.pend
  ok : ∀ p ∈ g.rs, p.1.Ok p.2
  fs : ∀ f ∈ rdF_Calendar g, f ∈ Γ
structure RiI_Calendar {K : PySem.W.Frag} (I : CalI K "Calendar") where
  p : Addr
  dx : Addr
  c : Addr
  C : Vo
  f : FgI
def spRiderInit_Calendar (n : Nat) (ss : List Str) (sok : Str → Prop) {K : PySem.W.Frag} (I : CalI K "Calendar") : Sp := SpF K (fun i : RiI_Calendar I => [.ref i.p, .ref i.f.pm, .ref i.f.a, .ref i.c]) (fun i Γ => i.f.Ok n ss sok K Γ ∧ repF I i.C i.c [] ∈ Γ) (fun i => [own i.p (.ins (He.ga K "Rider") i.dx []), i.C, own i.f.a (.lst i.f.sv)])
  (fun i v Γ' S' => ∃ g : RdI_Calendar I, g.p = i.p ∧ g.pm = i.f.pm ∧ g.c = i.c ∧ g.ms = i.f.ms ∧ g.r = firstRun i.f.ms i.f.sgs ∧ g.rs = [] ∧ g.es.map (·.s) = g.r.sts ∧ (∀ e ∈ g.es, e.s.queues.length = e.as.length) ∧ PsK g.ps ∧ (g.ps.map (·.2)).Perm g.r.pend ∧ v = .non ∧ Γ' = rdF_Calendar g ∧ S' = rdS_Calendar g ++ [own i.f.a (.lst i.f.sv)]) noEx
section
variable {P : Program} {w : World} {K : PySem.W.Frag} {mg : Str → Option Value} {base : Heap}
theorem ok_Rider_init_Calendar (T : Tx K mg) (n : Nat) (ss : List Str) (sok : Str → Prop) (I : CalI K "Calendar") (G_Calendar_put : OkM P w K mg base 6 "Calendar" "put" ["self", "key", "thing"] (spPutI I)) : OkM P w K mg base 8 "Rider" "__init__" ["self", "model", "signs", "calendar"] (spRiderInit_Calendar n ss sok I) := by
  have G_first_state := ok_first_state (P := P) (w := w) (base := base) T
  have G_pending_at_first := ok_pending_at_first (P := P) (w := w) (base := base) T
  refine T.f_Rider_init.okX sc_Rider_init (fun vs H Q E h => ?_) (fun cdv A outer s H vs Q E hr h => ?_)
  · obtain ⟨i, _, _, rfl, _⟩ := h
    rfl
  · have hu1 := hu_of hr; have hu0 := hr.units0; have hu64 := hr.units; have hu65 := hu65_of hr; have nd := sc_Rider_init.nd
    obtain ⟨⟨p, dx, c, C, ⟨pm, ms, a, sv, sgs⟩⟩, Γ, S, rfl, z, ⟨⟨hmd, hmr, hbw, hsk, hsr, hsv, hsl⟩, hrep⟩, q, x⟩ := h
    dsimp only at z hmd hmr hbw hsk hsr hsv hsl hrep q x
    refine ⟨_, (pss_cons (ps_fldK (K := K) rfl (pv 0) (pv 1) rfl)
      (pss_cons (ps_fldK (K := K) rfl (pv 0) (pe_lc (own := [("at", 5)]) rfl nd (pi_range1 rfl T.b_range (pa_cons (pe_callB (call_lenK (K := K) rfl) (by rfl) T.b_len (by decide +kernel) (pa_cons (pe_fldK (K := K) rfl (pv 1) rfl) pa_nil)) pa_nil)) (blkOk_by (own := [("at", 5)]) (N := nm_Rider_init) (sc := defScope s_Rider_init) (by decide +kernel)) (fun _ _ _ _ _ => (pg_name (i := 5) nd rfl (Or.inl rfl) (Or.inr rfl))) (fun _ _ _ _ _ => pts_nil) (fun _ _ _ _ _ => (pcl T.g_first_state G_first_state hr takes0 (pa_cons (pv 1) (pa_cons (pv 5) pa_nil))))) rfl)
      (pss_cons (ps_fldK (K := K) rfl (pv 0) (pv 3) rfl)
      (pss_cons (ps_fldK (K := K) rfl (pv 0) (pe_lst pa_nil) rfl)
      (pss_cons (ps_fldK (K := K) rfl (pv 0) pe_non rfl)
      (pss_one (ps_for (passes_of rfl) rfl (pi_seqK (K := K) rfl (pcl T.g_pending_at_first G_pending_at_first hr (takes_of rfl rfl rfl rfl) (pa_cons (pv 2) pa_nil))) (pg_name (i := 4) nd rfl (Or.inl rfl))
      (pss_one (ps_expr (pmeK (K := K) rfl T.m_Calendar_put T.c_Calendar G_Calendar_put hr (takes_of rfl rfl rfl rfl) (pv 3) (pa_cons (pe_ix (ix_anyK (K := K) rfl hu1) (pv 4) pe_int (fun _ _ => rfl)) (pa_cons (pv 4) pa_nil)))))))))))), ?_⟩
    refine w_start (σ' := [some (.ref p), some (.ref pm), some (.ref a), some (.ref c), none, none]) rfl z ?_
    dsimp only [List.cons_append, List.nil_append] at q ⊢
    obtain ⟨dxm, lm, hm1, hm2⟩ := id hmd
    have hml := hmr.ln
    k_extra "W"
    refine w_sfldL (by k_extra "sw") in_Rider_0 T.c_Rider T.n_Rider_model rfl ?_
    k_extra "W"
    rw [List.length_map]
    refine w_lcR ms.length rfl (by omega) ?_
    refine w_lc_r (ι := List StI) ms.length (fun j es => es.map (·.s) = (ms.take j).map Mach.first ∧ ∀ e ∈ es, e.s.queues.length = e.as.length) (fun _ es => es.map fun e => V.ref e.p) (fun _ _ => _) (fun _ es => segsV (stS K) es :: _) [] ⟨rfl, fun _ h => nomatch h⟩ rfl sub_refl (Dr.segNil Dr.refl) ?_ ?_
    · rintro Dl j es hj ⟨c1, c2⟩
      obtain ⟨m, hm⟩ : ∃ m, ms[j]? = some m := ⟨_, List.getElem?_eq_getElem hj⟩
      have hmm := List.mem_of_getElem? hm
      have hel := congrArg List.length c1
      rw [List.length_map, List.length_map, List.length_take] at hel
      k_extra "W"
      refine w_first (hmd.mono (by k_extra "sub")) hm (hmr.ok m hmm).nd (hmr.ok m hmm).sm fun p dx b q as hal => ?_
      k_extra "W"
      refine w_lcp (es ++ [⟨p, dx, b, q, as, m.first⟩]) ⟨?_, fun e he => ?_⟩ (by rw [List.map_append]; rfl) (by k_extra "t") (by rw [List.length_map]; omega) (by k_extra "sub") (Dr.segSnoc (by dsimp only [stS]; k_extra "dr"))
      · rw [List.map_append, c1, List.take_add_one, hm, List.map_append]
        rfl
      · rcases List.mem_append.mp he with he | he
        · exact c2 e he
        · rw [List.mem_singleton.mp he]
          show (m.queues.map _).length = as.length
          rw [List.length_map, hal]
    rintro ls es ⟨c1, c2⟩
    rw [List.take_of_length_le (Nat.le_refl _)] at c1
    k_extra "W"
    refine w_sfldL (by k_extra "sw") in_Rider_1 T.c_Rider T.n_Rider_states rfl ?_
    k_extra "W"
    refine w_sfldL (by k_extra "sw") in_Rider_2 T.c_Rider T.n_Rider_calendar rfl ?_
    k_extra "W"
    refine w_lstO fun lf => ?_
    k_extra "W"
    refine w_sfldL (by k_extra "sw") in_Rider_3 T.c_Rider T.n_Rider_found rfl ?_
    k_extra "W"
    refine w_sfldL (by k_extra "sw") in_Rider_4 T.c_Rider T.n_Rider_ended rfl ?_
    k_extra "W"
    refine w_don (a, sv, sgs) (by k_extra "ts") ⟨by k_extra "m", hsl⟩ ?_
    rintro _ Γ' S' ⟨lp, pvs, rfl, rfl, rfl⟩
    dsimp only [List.cons_append, List.nil_append]
    k_extra "W"
    obtain ⟨L, hL⟩ : ∃ L, L = hapsFrom 0 sgs := ⟨_, rfl⟩
    have hLl : L.length = sgs.length := by rw [hL, haps_len]
    have hnd : (L.map Hap.key).Nodup := by rw [hL]; exact (firstRun_k (ms := ms) (sgs := sgs)).nd
    rw [← hL]
    refine w_repPerm (es := []) (es' := ([] : List EH).map (·.1)) rfl (by k_extra "m") ?_
    refine w_cpNil ?_
    refine w_hpLen (vs := pvs) (by k_extra "m") fun hpl => ?_
    rw [show ([(Str.ofString "model", V.ref pm), (Str.ofString "states", V.ref ls), (Str.ofString "calendar", V.ref c), (Str.ofString "found", V.ref lf), (Str.ofString "ended", V.non)] : List (Str × V)) = fl_Rider (.ref pm) (.ref ls) (.ref c) (.ref lf) .non from rfl]
    refine w_loop_l (ι := Option V × Vo × List EH) pvs (fun j u => PsK u.2.2 ∧ (u.2.2.map (·.2)).Perm (L.take j)) (fun _ u => [some (.ref p), some (.ref pm), some (.ref a), some (.ref c), u.1, none]) (fun _ u => repF I u.2.1 c (u.2.2.map (·.1)) :: cpF u.2.2 :: hpF pvs L :: Γ) (fun _ u => own lp (.lst pvs) :: own a (.lst sv) :: own lf (.lst []) :: own ls (.lst (es.map fun e => V.ref e.p)) :: segsV (stS K) es :: own p (.ins (He.ga K "Rider") dx (fl_Rider (.ref pm) (.ref ls) (.ref c) (.ref lf) .non)) :: u.2.1 :: S) (none, C, []) ⟨(fun _ h => nomatch h), List.Perm.refl _⟩ rfl (by k_extra "sub") (by k_extra "dr") (fun _ _ => by k_extra "at") ?_ ?_
    · rintro j v ⟨u, C1, ps⟩ hv ⟨g1, g2⟩
      dsimp only at g1 g2 ⊢
      have hj := (List.getElem?_eq_some_iff.mp hv).1
      obtain ⟨h, hh⟩ : ∃ h, L[j]? = some h := ⟨_, List.getElem?_eq_getElem (by omega)⟩
      refine w_hpGet (vs := pvs) (hs := L) (by k_extra "m") hv hh fun t kp e => ?_
      subst e
      have hpsl : ps.length ≤ 1000 := by
        have := g2.length_eq
        rw [List.length_map, List.length_take] at this
        omega
      have hnk : h.key ∉ (ps.map (·.2)).map Hap.key := fun hm => by
        have h1 : h.key ∈ (L.take j).map Hap.key := (g2.map Hap.key).mem_iff.mp hm
        rw [List.map_take] at h1
        exact nodup_take hnd (by rw [List.getElem?_map, hh]; rfl) h1
      k_extra "W"
      refine w_calMeth (ps := ps) (I := I) (C := C1) (by k_extra "m") (by k_extra "t") (by simp) ?_
      k_extra "W"
      refine w_calPut (ps := ps) (h := h) (by k_extra "m") (by k_extra "t") (by k_extra "m") (by k_extra "m") (by k_extra "m") g1 hnk (by omega) fun C2 ps2 hp2 => ?_
      k_extra "W"
      refine w_again (_, C2, ps2) ⟨fun q hq => ?_, ?_⟩ rfl (by k_extra "sub") (by k_extra "dr")
      · rcases List.mem_cons.mp (hp2.mem_iff.mp hq) with rfl | hq
        · rfl
        · exact g1 q hq
      · dsimp only
        rw [List.take_add_one, hh, Option.toList_some]
        have e3 : (ps2.map (·.2)).Perm (h :: ps.map (·.2)) := hp2.map _
        exact (e3.trans (List.Perm.cons h g2)).trans (List.perm_append_comm (l₁ := [h]))
    rintro ⟨u, C1, ps⟩ ⟨g1, g2⟩
    dsimp only at g1 g2 ⊢
    rw [hpl, List.take_length] at g2
    refine w_dat (v := .non) (d := .none) DV.non ?_
    refine w_allNil (K := K) (f := rcF) ?_
    k_extra "W"
    exact fun H z => q _ _ _ H ⟨⟨p, dx, pm, ls, c, C1, lf, .non, es, ps, [], firstRun ms sgs, ms⟩, rfl, rfl, rfl, rfl, rfl, rfl, c1, c2, g1, by dsimp only; rw [hL] at g2; exact g2, rfl, rfl, rfl⟩ (z.fit (by dsimp only [rdF_Calendar]; rw [show (firstRun ms sgs).ended = none from rfl]; dsimp only [endD]; k_extra "sub") (by
      dsimp only [rdS_Calendar, List.cons_append, List.nil_append, List.map_nil]
      refine Dr.keep (by k_extra "t") (Dr.keep (by k_extra "t") (Dr.keep (by k_extra "t") (Dr.keep (by k_extra "t") (Dr.keep (by show Take (own lf (.lst [])) _ _; k_extra "t") (Dr.segNil (by k_extra "dr"))))))))
def spRide_Calendar (n : Nat) (ss : List Str) (sok : Str → Prop) {K : PySem.W.Frag} (I : CalI K "Calendar") : Sp := SpF K (fun g : RdI_Calendar I => [.ref g.p]) (fun g Γ => g.Ok n ss sok Γ ∧ g.r.ended = none ∧ g.r.pend ≠ [] ∧ g.r.pend.length ≤ 3950 ∧ g.rs.length ≤ 10000) (fun g => rdS_Calendar g)
  (fun g v Γ' S' => ∃ g' : RdI_Calendar I, g'.p = g.p ∧ g'.pm = g.pm ∧ g'.c = g.c ∧ g'.ms = g.ms ∧ g'.r = (g.r.act g.ms).1 ∧ g'.rs.map (·.2) = g.rs.map (·.2) ++ (g.r.act g.ms).2.toList ∧ g'.es.map (·.s) = g'.r.sts ∧ (∀ e ∈ g'.es, e.s.queues.length = e.as.length) ∧ PsK g'.ps ∧ (g'.ps.map (·.2)).Perm g'.r.pend ∧ (∀ p ∈ g'.rs, p.1.Ok p.2) ∧ v = .non ∧ Γ' = rdF_Calendar g' ∧ S' = rdS_Calendar g') noEx
theorem ok_Rider_ride_Calendar (T : Tx K mg) (n : Nat) (ss : List Str) (sok : Str → Prop) (I : CalI K "Calendar") (G_Calendar_put : OkM P w K mg base 6 "Calendar" "put" ["self", "key", "thing"] (spPutI I)) (G_Calendar_leave : OkM P w K mg base 6 "Calendar" "leave" ["self"] (spLeaveI I)) : OkM P w K mg base (4 * n + 10) "Rider" "ride" ["self"] (spRide_Calendar n ss sok I) := by
  have G_done := ok_done (P := P) (w := w) (base := base) T n
  refine T.f_Rider_ride.okX sc_Rider_ride (fun vs H Q E h => ?_) (fun cdv A outer s H vs Q E hr h => ?_)
  · obtain ⟨i, _, _, rfl, _⟩ := h
    rfl
  · have hu1 := hu_of hr; have hu0 := hr.units0; have hu64 := hr.units; have hu65 := hu65_of hr; have nd := sc_Rider_ride.nd
    obtain ⟨⟨p, dx, pm, ls, c, C, lf, ev, es, ps, rs, r, ms⟩, Γ, S, rfl, z, ⟨⟨hmd, hmr, hsk, hrr, hrk, hst, hfit, hpk, hpp, hok, hfs⟩, hen, hpe, hpl, hrl⟩, q, x⟩ := h
    dsimp only at z hmd hmr hsk hrr hrk hst hfit hpk hpp hok hfs hen hpe hpl hrl q x
    dsimp only [rdF_Calendar] at hfs
    have f1 := hfs _ List.mem_cons_self
    have f2 := hfs _ (List.mem_cons_of_mem _ List.mem_cons_self)
    have f3 := hfs _ (List.mem_cons_of_mem _ (List.mem_cons_of_mem _ List.mem_cons_self))
    have f4 := hfs _ (List.mem_cons_of_mem _ (List.mem_cons_of_mem _ (List.mem_cons_of_mem _ List.mem_cons_self)))
    refine ⟨_, (pss_cons (ps_asg (pme0K (K := K) rfl T.m_Calendar_leave T.c_Calendar G_Calendar_leave hr (takes_of rfl rfl rfl rfl) (pe_fldK (K := K) rfl (pv 0) rfl)) (pg_tupK (K := K) (n := 2) rfl rfl (pgs_cons (pg_name (i := 1) nd rfl (Or.inl rfl)) (pgs_cons (pg_name (i := 2) nd rfl (Or.inl rfl)) pgs_nil)) rfl rfl))
      (pss_cons (ps_try_as (i := 6) rfl rfl nd rfl rfl ⟨rfl, by decide, .inl T.G_Fault⟩ (takes_of rfl rfl rfl rfl) (fun W2 pn2 xe2 tk2 ho2 => (pss_one (ps_asg (pcl T.g_done G_done hr tk2 (pa_cons (pe_fldK (K := K) rfl (pv 0) rfl) (pa_cons (pe_ix (ix_anyK (K := K) rfl hu1) (pe_fldK (K := K) rfl (pv 0) rfl) (pe_ix (ix_anyK (K := K) rfl hu1) (pv 2) pe_int (fun _ _ => rfl)) (fun _ _ => rfl)) (pa_cons (pv 2) pa_nil)))) (pg_tupK (K := K) (n := 3) rfl rfl (pgs_cons (pg_name (i := 3) nd rfl (Or.inl rfl)) (pgs_cons (pg_name (i := 4) nd rfl (Or.inl rfl)) (pgs_cons (pg_name (i := 5) nd rfl (Or.inl rfl)) pgs_nil))) rfl rfl))))
      (fun ea eo ecls ed epn ez ef => (pss_cons (ps_fldK (K := K) rfl (pv 0) (pe_tup (pa_cons pe_str (pa_cons (pe_wordS (K := K) rfl ez ef (ok_words (P := P) (w := w) (base := base) T) hr (pv 6)) (pa_cons (pv 1) pa_nil)))) rfl)
      (pss_one ps_retN))))
      (pss_cons (ps_asg (pv 3) (pg_sub (pe_fldK (K := K) rfl (pv 0) rfl) (pe_ix (ix_anyK (K := K) rfl hu1) (pv 2) pe_int (fun _ _ => rfl)) (set_any hu1)))
      (pss_cons (ps_expr (pe_bmK (K := K) rfl PySem.F.plainAttrs_list PySem.F.slot_list_append PySem.F.type_list_append mt_append (pe_fldK (K := K) rfl (pv 0) rfl) (pa_cons (pv 4) pa_nil)))
      (pss_cons (ps_for (passes_of rfl) rfl (pi_seqK (K := K) rfl (pe_ix (ix_anyK (K := K) rfl hu1) (pv 4) pe_int (fun _ _ => rfl))) (pg_name (i := 7) nd rfl (Or.inl rfl))
      (pss_one (ps_expr (pmeK (K := K) rfl T.m_Calendar_put T.c_Calendar G_Calendar_put hr (takes_of rfl rfl rfl rfl) (pe_fldK (K := K) rfl (pv 0) rfl) (pa_cons (pe_ix (ix_anyK (K := K) rfl hu1) (pv 7) pe_int (fun _ _ => rfl)) (pa_cons (pv 7) pa_nil))))))
      (pss_one (ps_if (pt_truthK (K := K) rfl (pv 5) (by intro _; rfl)) (pss_one (ps_fldK (K := K) rfl (pv 0) (pe_tup (pa_cons pe_str (pa_cons (pv 1) pa_nil))) rfl))
      pss_nil))))))), ?_⟩
    refine w_start (σ' := [some (.ref p), none, none, none, none, none, none, none]) rfl z ?_
    dsimp only [rdS_Calendar, List.cons_append, List.nil_append] at q ⊢
    refine w_calAsc (I := I) (C := C) (c := c) (ps := ps) (by k_extra "m") fun hasc => ?_
    have hpsl : ps.length = r.pend.length := by have := hpp.length_eq; rwa [List.length_map] at this
    obtain ⟨q0, r0, hps⟩ : ∃ q0 r0, ps = q0 :: r0 := by
      cases e : ps with
      | nil => rw [e] at hpsl; exact absurd (List.length_eq_zero_iff.mp hpsl.symm) hpe
      | cons a b => exact ⟨a, b, rfl⟩
    obtain ⟨a1, hper⟩ := place_first hrk.nd (by rw [← hps]; exact hpp) (by rw [← hps]; exact hpk) (by rw [← hps]; exact hasc)
    obtain ⟨x0, m, s, a1', a2, a3, hx, hs⟩ := act_at hrr hpe
    rw [a1] at a1'
    obtain rfl := Option.some.inj a1'
    obtain ⟨hto, htl⟩ := to_nat hx
    have hpk0 : PsK r0 := fun y hy => hpk y (by rw [hps]; exact List.mem_cons_of_mem _ hy)
    refine w_calHead (I := I) (C := C) (c := c) (ps := ps) (by k_extra "m") (by k_extra "m") hpk hps fun p2 kp u e1 e2 => ?_
    k_extra "W"
    refine w_calMeth (ps := ps) (I := I) (C := C) (by k_extra "m") (by k_extra "t") (by simp) ?_
    k_extra "W"
    refine w_calLeave (ps := ps) (q := q0) (r := r0) (by k_extra "m") (by k_extra "t") hps (by omega) fun pt C1 => ?_
    rw [e1, e2]
    k_extra "W"
    obtain ⟨en0, x0⟩ := q0
    dsimp only at *
    refine w_dat (v := .ref p2) (d := .tuple [.int x0.time, .int x0.rank, .int x0.frm, .int x0.count]) (fun G b => .tup (SqT.of (b (.obj p2 (.tup [.int x0.time, .int x0.rank, .int x0.frm, .int x0.count])) (by k_extra "m"))) (.cons (.int _) (.cons (.int _) (.cons (.int _) (.cons (.int _) .nil))))) ?_
    refine w_dat (v := .ref u) (d := x0.data) (fun G b => HapX.dp ⟨u, kp, rfl, b (.obj u (.tup [.ref kp, .int x0.to, .str x0.sign, .int x0.g, .int x0.h])) (by k_extra "m"), b (.obj kp (.tup [.int x0.time, .int x0.rank, .int x0.frm, .int x0.count])) (by k_extra "m")⟩) ?_
    obtain ⟨dxm, lm, hm1, hm2⟩ := hmd
    have hesl : es.length = ms.length := by have h1 := congrArg List.length hst; rw [List.length_map] at h1; exact h1.trans hrr.len
    obtain ⟨e, he⟩ : ∃ e, es[x0.to.toNat]? = some e := ⟨_, List.getElem?_eq_getElem (by omega)⟩
    have hes : e.s = s := by
      have h1 : (es.map (·.s))[x0.to.toNat]? = some e.s := by rw [List.getElem?_map, he]; rfl
      rw [hst, a3] at h1
      exact (Option.some.inj h1).symm
    subst hes
    refine w_sub (by k_extra "at") (v := .ref e.p) (by rw [hto]; exact atI_nat (by rw [List.getElem?_map, he]; rfl)) ?_
    k_extra "W"
    refine w_segAt he (by k_extra "t") ?_
    dsimp only [stS]
    refine w_do (⟨pm, ms, m, x0.to.toNat, .ref u, x0, e.p, e.dx, e.b, e.q, e.as, e.s⟩ : DnI) (by k_extra "ts") ⟨⟨dxm, lm, by k_extra "m", by k_extra "m"⟩, a2, hto, by k_extra "m", hmr.ok m (List.mem_of_getElem? a2), hfit e (List.mem_of_getElem? he), hs.wo, hs.bs, hs.qs, hx.doC (hmr.ok m (List.mem_of_getElem? a2)).sm, hmr.np⟩ ?_ ?_
    · rintro _ Γ' S' ⟨d, o, ed, rfl, ok, rfl, rfl⟩
      dsimp only [DnO.F, DnO.S, List.cons_append, List.nil_append] at ed ⊢
      have hact := act_ok a1 a2 a3 ed
      have hnl := news_len hmr (List.mem_of_getElem? a2) ed
      have hnd : ((r.pend.eraseIdx (place r.pend) ++ d.news).map Hap.key).Nodup := by
        have := (act_k hrr hrk hpe).nd
        rw [hact] at this
        exact this
      k_extra "W"
      refine w_setL (n := x0.to.toNat) (by k_extra "sw") hto (by rw [List.length_map]; omega) ?_
      k_extra "W"
      refine w_app (by k_extra "sw") (by rw [List.length_map]; omega) ?_
      k_extra "W"
      refine w_hpLen (vs := o.nv) (hs := d.news) (by k_extra "m") fun hnv => ?_
      have hr0l : r0.length + 1 = ps.length := by rw [hps]; rfl
      refine w_loop_l (ι := Option V × Vo × List EH) o.nv (fun j a => PsK a.2.2 ∧ (a.2.2.map (·.2)).Perm (r0.map (·.2) ++ d.news.take j)) (fun _ a => [some (.ref p), some (.ref p2), some (.ref u), some (.ref o.p), some (.ref o.r), some (.bl d.ends), none, a.1])
        (fun _ a => repF I a.2.1 c (a.2.2.map (·.1)) :: cpF a.2.2 :: hpF o.nv d.news :: .dat (.ref p2) (.tuple [.int x0.time, .int x0.rank, .int x0.frm, .int x0.count]) :: .obj o.r (.tup [o.key, .int x0.to, .str x0.sign, .int x0.g, .int x0.h, .ref o.lw, .ref o.ln]) :: .dat o.key (.tuple [.int x0.time, .int x0.rank, .int x0.frm, .int x0.count]) :: qtF (d.wQ m.queues) o.ts o.qls :: .dats o.bv (wbD (d.wB m.ns)) :: .dats o.nv (d.news.map Hap.data) :: Γ)
        (fun _ a => stV K o.p o.dx o.b o.q o.as d.st :: own o.lw (.lst (o.bv ++ o.ts.map V.ref)) :: quV (d.wQ m.queues) o.qls :: own o.ln (.lst o.nv) :: segsV (stS K) (es.take x0.to.toNat) :: segsV (stS K) (es.drop (x0.to.toNat + 1)) :: a.2.1 :: own p (.ins (He.ga K "Rider") dx (fl_Rider (.ref pm) (.ref ls) (.ref c) (.ref lf) ev)) :: own ls (.lst ((es.map fun e => V.ref e.p).set x0.to.toNat (V.ref o.p))) :: own lf (.lst ((rs.map fun p => V.ref p.1.r) ++ [V.ref o.r])) :: segsV rcS rs :: S)
        (none, C1, r0) ⟨hpk0, by rw [List.take_zero, List.append_nil]⟩ rfl (by k_extra "sub") (by k_extra "dr") (fun _ _ => by k_extra "at") ?_ ?_
      · rintro j v ⟨u7, C2, ps2⟩ hv ⟨g1, g2⟩
        dsimp only at g1 g2 ⊢
        have hj := (List.getElem?_eq_some_iff.mp hv).1
        obtain ⟨h, hh⟩ : ∃ h, d.news[j]? = some h := ⟨_, List.getElem?_eq_getElem (by omega)⟩
        refine w_hpGet (vs := o.nv) (hs := d.news) (by k_extra "m") hv hh fun t kp2 e => ?_
        subst e
        have hps2 : ps2.length ≤ 4000 := by
          have := g2.length_eq
          rw [List.length_map, List.length_append, List.length_map, List.length_take] at this
          omega
        have hnk : h.key ∉ (ps2.map (·.2)).map Hap.key := fun hm => by
          have h1 : h.key ∈ (r.pend.eraseIdx (place r.pend) ++ d.news.take j).map Hap.key := ((g2.trans (hper.append_right _)).map Hap.key).mem_iff.mp hm
          have h2 : ((r.pend.eraseIdx (place r.pend) ++ d.news).map Hap.key)[(r.pend.eraseIdx (place r.pend)).length + j]? = some h.key := by
            rw [List.getElem?_map, List.getElem?_append_right (by omega), Nat.add_sub_cancel_left, hh]
            rfl
          refine nodup_take hnd h2 ?_
          rw [← List.map_take, List.take_length_add_append]
          exact h1
        k_extra "W"
        refine w_calMeth (ps := ps2) (I := I) (C := C2) (by k_extra "m") (by k_extra "t") (by simp) ?_
        k_extra "W"
        refine w_calPut (ps := ps2) (h := h) (by k_extra "m") (by k_extra "t") (by k_extra "m") (by k_extra "m") (by k_extra "m") g1 hnk hps2 fun C3 ps3 hp3 => ?_
        k_extra "W"
        refine w_again (_, C3, ps3) ⟨fun q hq => ?_, ?_⟩ rfl (by k_extra "sub") (by k_extra "dr")
        · rcases List.mem_cons.mp (hp3.mem_iff.mp hq) with rfl | hq
          · rfl
          · exact g1 q hq
        · dsimp only
          have e3 : (ps3.map (·.2)).Perm (h :: ps2.map (·.2)) := hp3.map _
          rw [List.take_add_one, hh, Option.toList_some, ← List.append_assoc]
          exact (e3.trans (List.Perm.cons h g2)).trans (List.perm_append_comm (l₁ := [h]))
      rintro ⟨u7, C2, ps2⟩ ⟨g1, g2⟩
      dsimp only at g1 g2 ⊢
      rw [hnv, List.take_length] at g2
      have g3 : (ps2.map (·.2)).Perm (r.pend.eraseIdx (place r.pend) ++ d.news) := g2.trans (hper.append_right _)
      have hfit' : ∀ e' ∈ es.set x0.to.toNat ⟨o.p, o.dx, o.b, o.q, o.as, d.st⟩, e'.s.queues.length = e'.as.length := fun e' he' => by
        rcases List.mem_or_eq_of_mem_set he' with he' | rfl
        · exact hfit e' he'
        · exact ok.as
      have hst' : (es.set x0.to.toNat (⟨o.p, o.dx, o.b, o.q, o.as, d.st⟩ : StI)).map (·.s) = r.sts.set x0.to.toNat d.st := by rw [List.map_set, hst]
      have hls : (es.map fun e => V.ref e.p).set x0.to.toNat (V.ref o.p) = (es.set x0.to.toNat (⟨o.p, o.dx, o.b, o.q, o.as, d.st⟩ : StI)).map fun e => V.ref e.p := by rw [List.map_set]
      rw [hls]
      obtain ⟨oo, hoo⟩ : ∃ oo : RcO, oo = ⟨o.r, o.key, o.lw, o.bv, o.ts, o.qls, o.ln, o.nv⟩ := ⟨_, rfl⟩
      have hook : oo.Ok (d.told m x0) := by rw [hoo]; exact ⟨ok.ts, ok.qls⟩
      refine w_allSnoc (f := rcF) (es := rs) (e := (oo, d.told m x0)) (by k_extra "m") (by rw [hoo]; show ∀ x ∈ RcO.F _ _, x ∈ _; dsimp only [RcO.F, Do.told]; k_extra "sub") ?_
      have hrs' : ∀ q ∈ rs ++ [(oo, d.told m x0)], q.1.Ok q.2 := fun q hq => by
        rcases List.mem_append.mp hq with hq | hq
        · exact hok q hq
        · rw [List.mem_singleton.mp hq]; exact hook
      have hback : ∀ (Γ2 : List Fc) (ev2 : V) (en : Option Ending), (if d.ends then some (Ending.fin x0) else none) = en → .dat ev2 (endD en) ∈ Γ2 → repF I C2 c (ps2.map (·.1)) ∈ Γ2 → cpF ps2 ∈ Γ2 → allF K rcF (rs ++ [(oo, d.told m x0)]) ∈ Γ2 → (∀ f ∈ Γ, f ∈ Γ2) →
          Wh K Γ2 (stV K o.p o.dx o.b o.q o.as d.st :: own o.lw (.lst (o.bv ++ o.ts.map V.ref)) :: quV (d.wQ m.queues) o.qls :: own o.ln (.lst o.nv) :: segsV (stS K) (es.take x0.to.toNat) :: segsV (stS K) (es.drop (x0.to.toNat + 1)) :: C2 :: own p (.ins (He.ga K "Rider") dx (fl_Rider (.ref pm) (.ref ls) (.ref c) (.ref lf) ev2)) :: own ls (.lst ((es.set x0.to.toNat (⟨o.p, o.dx, o.b, o.q, o.as, d.st⟩ : StI)).map fun e => V.ref e.p)) :: own lf (.lst ((rs.map fun p => V.ref p.1.r) ++ [V.ref o.r])) :: segsV rcS rs :: S) fun H => Q .non H := by
        intro Γ2 ev2 en e1 n1 n2 n3 n4 n5
        rw [e1] at hact
        refine fun H z => q _ _ _ H ⟨⟨p, dx, pm, ls, c, C2, lf, ev2, es.set x0.to.toNat ⟨o.p, o.dx, o.b, o.q, o.as, d.st⟩, ps2, rs ++ [(oo, d.told m x0)], (r.act ms).1, ms⟩, rfl, rfl, rfl, rfl, rfl, by dsimp only; rw [hact, List.map_append]; rfl, by dsimp only; rw [hact]; exact hst', hfit', g1, by dsimp only; rw [hact]; exact g3, hrs', rfl, rfl, rfl⟩ (z.fit (by
          dsimp only [rdF_Calendar, List.cons_append, List.nil_append]
          rw [hact]
          exact List.forall_mem_cons.mpr ⟨n2, List.forall_mem_cons.mpr ⟨n3, List.forall_mem_cons.mpr ⟨n1, List.forall_mem_cons.mpr ⟨n4, n5⟩⟩⟩⟩) (by
          dsimp only [rdS_Calendar, List.cons_append, List.nil_append]
          refine Dr.keep (by k_extra "t") (Dr.keep (by k_extra "t") (Dr.segSet he ?_))
          dsimp only [stS]
          rw [List.map_append, List.map_cons, List.map_nil]
          refine Dr.keep (by k_extra "t") (Dr.keep (by k_extra "t") (Dr.keep (by k_extra "t") (Dr.keep (by k_extra "t") (Dr.keep (by rw [hoo]; k_extra "t") (Dr.segSnoc (Dr.keep (by k_extra "t") (Dr.rc ?_)))))))
          rw [hoo]
          dsimp only [Do.told]
          k_extra "dr"))
      k_extra "W"
      refine w_iteB (fun hc => ?_) (fun hc => ?_)
      · k_extra "W"
        rename_i ev'
        refine w_sfldL (by k_extra "sw") (by k_extra "pt") (by k_extra "cl") (by k_extra "na") rfl ?_
        k_extra "W"
        exact hback _ (.ref ev') (some (.fin x0)) (by rw [hc, if_pos rfl]) (by dsimp only [endD, Ending.data, Hap.keyD]; k_extra "m") (by k_extra "m") (by k_extra "m") (by k_extra "m") (by k_extra "sub")
      · k_extra "W"
        have hevn : .dat ev (endD none) ∈ Γ := by rw [← hen]; exact f3
        exact hback _ ev none (by rw [hc, if_neg (by decide)]) (by k_extra "m") (by k_extra "m") (by k_extra "m") (by k_extra "m") (by k_extra "sub")
    · rintro _ Γ' S' ⟨f, ed, rfl, rfl, rfl⟩
      dsimp only [List.cons_append, List.nil_append] at ed ⊢
      have hact := act_err a1 a2 a3 ed
      refine w_as (flt_fault T f) fun a => ?_
      k_extra "W"
      refine w_wordS (c := f.cls) (z := f.word) (by cases f <;> decide +kernel) ?_
      k_extra "W"
      rename_i ev'
      refine w_sfldL (by k_extra "sw") (by k_extra "pt") (by k_extra "cl") (by k_extra "na") rfl ?_
      k_extra "W"
      refine fun H z => q _ _ _ H ⟨⟨p, dx, pm, ls, c, C1, lf, .ref ev', es, r0, rs, (r.act ms).1, ms⟩, rfl, rfl, rfl, rfl, rfl, by dsimp only; rw [hact]; simp, by dsimp only; rw [hact]; exact hst, hfit, hpk0, by dsimp only; rw [hact]; exact hper, hok, rfl, rfl, rfl⟩ (z.fit (by
        dsimp only [rdF_Calendar, List.cons_append, List.nil_append]
        rw [hact]
        dsimp only [endD, Ending.data, Hap.keyD]
        k_extra "sub") (by
        dsimp only [rdS_Calendar, List.cons_append, List.nil_append]
        refine Dr.keep (by k_extra "t") (Dr.keep (by k_extra "t") (Dr.segBack he ?_))
        dsimp only [stS]
        k_extra "dr"))
end
end Mo
namespace Mo
open PySem PySem.Spec PyProof.Rows L2
/-! ### the book of the run by a Calendar -/
theorem act_lenB_Calendar {B : Nat} {ms : List Mach} {sok : Str → Prop} {r : Run} (hb : ∀ m ∈ ms, ∀ sign, Dd.cnts (m.deedsFor sign) ≤ B) (hr : RunR ms sok r) (hp : r.pend ≠ []) : (r.act ms).1.pend.length + 1 ≤ r.pend.length + B := by
  obtain ⟨x, m, s, h1, h2, h3, h4, h5⟩ := act_at hr hp
  have hl := (List.getElem?_eq_some_iff.mp h1).1
  cases e : m.doing s x with
  | error f =>
    rw [act_err h1 h2 h3 e]
    dsimp only
    rw [List.length_eraseIdx_of_lt hl]
    omega
  | ok d =>
    rw [act_ok h1 h2 h3 e]
    have h6 := runs_news _ e
    have h7 := hb m (List.mem_of_getElem? h2) x.sign
    simp only [List.length_nil] at h6
    dsimp only
    rw [List.length_append, List.length_eraseIdx_of_lt hl]
    omega
def spOutNow_Calendar (n : Nat) (ss : List Str) (sok : Str → Prop) {K : PySem.W.Frag} (I : CalI K "Calendar") : Sp := SpF K (fun g : RdI_Calendar I => [.ref g.p]) (fun g Γ => g.Ok n ss sok Γ) (fun g => rdS_Calendar g) (fun g v Γ' S' => Γ' = [.dat v g.r.ending.data] ∧ S' = rdS_Calendar g) noEx
structure ByI_Calendar where
  f : FgI
  c : Addr
  C : Vo
  most : Nat
  B : Nat
def spByCal_Calendar (n : Nat) (ss : List Str) (sok : Str → Prop) {K : PySem.W.Frag} (I : CalI K "Calendar") : Sp := SpF K (fun i : ByI_Calendar => [.ref i.f.pm, .ref i.f.a, .int (i.most : Int), .ref i.c]) (fun i Γ => i.f.Ok n ss sok K Γ ∧ repF I i.C i.c [] ∈ Γ ∧ (∀ m ∈ i.f.ms, ∀ sign, Dd.cnts (m.deedsFor sign) ≤ i.B) ∧ i.f.sgs.length + i.B * i.most ≤ 3950 ∧ i.most ≤ 4000) (fun i => [i.C, own i.f.a (.lst i.f.sv)])
  (fun i v Γ' S' => ∃ (pb dxb lr ls : Addr) (e : V) (es : List StI) (rs : List (RcO × Rec)) (C' : Vo) (ps : List EH), v = .ref pb ∧ es.map (·.s) = ((firstRun i.f.ms i.f.sgs).go i.f.ms i.most).1.sts ∧ (∀ e ∈ es, e.s.queues.length = e.as.length) ∧ rs.map (·.2) = ((firstRun i.f.ms i.f.sgs).go i.f.ms i.most).2 ∧ (∀ p ∈ rs, p.1.Ok p.2) ∧ PsK ps ∧ ps.length ≤ 3950 ∧
    Γ' = [.dat e ((firstRun i.f.ms i.f.sgs).go i.f.ms i.most).1.ending.data, allF K rcF rs, repF I C' i.c (ps.map (·.1)), cpF ps] ∧
    S' = [own pb (.ins (He.ga K "Book") dxb (fl_Book (.ref lr) e (.ref ls))), own lr (.lst (rs.map fun p => V.ref p.1.r)), segsV rcS rs, own ls (.lst (es.map fun e => V.ref e.p)), segsV (stS K) es, C', own i.f.a (.lst i.f.sv)]) noEx
/-- what holds at each turn -/
structure ByC_Calendar (n B : Nat) (ss : List Str) (sok : Str → Prop) (ms : List Mach) (r0 : Run) (most : Nat) (m : Nat) (es : List StI) (r : Run) (rs : List (RcO × Rec)) (ps : List EH) : Prop where
  me : m = 2 * (most - rs.length) + (if r.ended.isSome = true then 0 else 1)
  go : r0.go ms most = ((r.go ms (most - rs.length)).1, rs.map (·.2) ++ (r.go ms (most - rs.length)).2)
  rr : RunR ms sok r
  rk : RunK r
  ln : r.pend.length + B * (most - rs.length) ≤ 3950
  rl : rs.length ≤ most
  st : es.map (·.s) = r.sts
  fit : ∀ e ∈ es, e.s.queues.length = e.as.length
  ok : ∀ p ∈ rs, p.1.Ok p.2
  pk : PsK ps
  pp : (ps.map (·.2)).Perm r.pend
section
variable {P : Program} {w : World} {K : PySem.W.Frag} {mg : Str → Option Value} {base : Heap}
theorem ok_Rider_outcome_now_Calendar (T : Tx K mg) (n : Nat) (ss : List Str) (sok : Str → Prop) (I : CalI K "Calendar") (G_Calendar_size : OkM P w K mg base 6 "Calendar" "size" ["self"] (spSizeI I)) : OkM P w K mg base 7 "Rider" "outcome_now" ["self"] (spOutNow_Calendar n ss sok I) := by
  refine T.f_Rider_outcome_now.okX sc_Rider_outcome_now (fun vs H Q E h => ?_) (fun cdv A outer s H vs Q E hr h => ?_)
  · obtain ⟨i, _, _, rfl, _⟩ := h
    rfl
  · have hu1 := hu_of hr; have hu0 := hr.units0; have hu64 := hr.units; have hu65 := hu65_of hr; have nd := sc_Rider_outcome_now.nd
    obtain ⟨⟨p, dx, pm, ls, c, C, lf, ev, es, ps, rs, r, ms⟩, Γ, S, rfl, z, ⟨hmd, hmr, hsk, hrr, hrk, hst, hfit, hpk, hpp, hok, hfs⟩, q, x⟩ := h
    dsimp only at z hmd hmr hsk hrr hrk hst hfit hpk hpp hok hfs q x
    dsimp only [rdF_Calendar] at hfs
    have f1 := hfs _ List.mem_cons_self
    have f3 := hfs _ (List.mem_cons_of_mem _ (List.mem_cons_of_mem _ List.mem_cons_self))
    refine ⟨_, (pss_cons (ps_if (pt_cmpR op_notN1 (pe_fldK (K := K) rfl (pv 0) rfl) pe_non (nomark _)) (pss_one (ps_ret (pe_fldK (K := K) rfl (pv 0) rfl)))
      pss_nil)
      (pss_cons (ps_if (pt_cmpR (op_eqK (K := K) rfl hu64) (pme0K (K := K) rfl T.m_Calendar_size T.c_Calendar G_Calendar_size hr (takes_of rfl rfl rfl rfl) (pe_fldK (K := K) rfl (pv 0) rfl)) pe_int (nomark _)) (pss_one (ps_ret (pe_tup (pa_cons pe_str pa_nil))))
      pss_nil)
      (pss_one (ps_ret (pe_tup (pa_cons pe_str pa_nil)))))), ?_⟩
    refine w_start (σ' := [some (.ref p)]) rfl z ?_
    dsimp only [rdS_Calendar, List.cons_append, List.nil_append] at q ⊢
    have hpsl : ps.length = r.pend.length := by have := hpp.length_eq; rwa [List.length_map] at this
    cases hen : r.ended with
    | some en =>
      rw [hen] at f3
      rw [ending_some hen] at q
      refine w_tupv (v := ev) (ds := match en with | .fin x => [.str "end", x.keyD] | .fault f x => [.str "fault", .str f.word, x.keyD] | .empty => [.str "empty"] | .cut => [.str "cut"]) (by cases en <;> (rw [show ∀ e, endD (some e) = e.data from fun _ => rfl, Ending.data] at f3; k_extra "m")) fun a ea => ?_
      subst ea
      k_extra "W"
      exact fun H z => q _ _ _ H ⟨rfl, rfl⟩ (z.fit (by dsimp only [endD] at f3; exact List.forall_mem_cons.mpr ⟨f3, sub_refl⟩) (by k_extra "dr"))
    | none =>
      rw [hen] at f3
      dsimp only [endD] at f3
      refine w_nonv (v := ev) (by k_extra "m") fun e0 => ?_
      subst e0
      k_extra "W"
      refine w_calMeth (ps := ps) (I := I) (C := C) (by k_extra "m") (by k_extra "t") (by simp) ?_
      k_extra "W"
      refine w_calSize (ps := ps) (C := C) (by k_extra "m") (by k_extra "t") ?_
      k_extra "W"
      refine w_ite (fun h0 => ?_) (fun h0 => ?_)
      · have hp0 : r.pend = [] := List.length_eq_zero_iff.mp (by omega)
        rw [ending_empty hen hp0] at q
        k_extra "W"
        exact fun H z => q _ _ _ H ⟨rfl, rfl⟩ (z.fit (by dsimp only [Ending.data]; k_extra "sub") (by k_extra "dr"))
      · have hp0 : r.pend ≠ [] := fun e => h0 (by rw [hpsl, e]; rfl)
        rw [ending_cut hen hp0] at q
        k_extra "W"
        exact fun H z => q _ _ _ H ⟨rfl, rfl⟩ (z.fit (by dsimp only [Ending.data]; k_extra "sub") (by k_extra "dr"))
theorem ok_by_calendar_Calendar (T : Tx K mg) (n : Nat) (ss : List Str) (sok : Str → Prop) (I : CalI K "Calendar") (G_Calendar_size : OkM P w K mg base 6 "Calendar" "size" ["self"] (spSizeI I)) (G_Calendar_put : OkM P w K mg base 6 "Calendar" "put" ["self", "key", "thing"] (spPutI I)) (G_Calendar_leave : OkM P w K mg base 6 "Calendar" "leave" ["self"] (spLeaveI I)) : OkG P w K mg base (4 * n + 12) "by_calendar" ["model", "signs", "most", "calendar"] (spByCal_Calendar n ss sok I) := by
  have G_Rider_init := ok_Rider_init_Calendar (P := P) (w := w) (base := base) T n ss sok I G_Calendar_put
  have G_Rider_ride := ok_Rider_ride_Calendar (P := P) (w := w) (base := base) T n ss sok I G_Calendar_put G_Calendar_leave
  have G_Rider_outcome_now := ok_Rider_outcome_now_Calendar (P := P) (w := w) (base := base) T n ss sok I G_Calendar_size
  have G_Book_init := ok_Book_init (P := P) (w := w) (base := base) T
  refine T.f_by_calendar.okX sc_by_calendar (fun vs H Q E h => ?_) (fun cdv A outer s H vs Q E hr h => ?_)
  · obtain ⟨i, _, _, rfl, _⟩ := h
    rfl
  · have hu1 := hu_of hr; have hu0 := hr.units0; have hu64 := hr.units; have hu65 := hu65_of hr; have nd := sc_by_calendar.nd
    obtain ⟨⟨⟨pm, ms, a, sv, sgs⟩, c, C, most, B⟩, Γ, S, rfl, z, ⟨hf, hrep, hB, hln, hmo⟩, q, x⟩ := h
    dsimp only at z hf hrep hB hln hmo q x
    have ⟨hmd, hmr, hbw, hsk, hsr, hsv, hsl⟩ := hf
    dsimp only at hmd hmr hbw hsk hsr hsv hsl
    refine ⟨_, (pss_cons (ps_set (i := 4) nd rfl (Or.inl rfl) (pmkK (K := K) rfl T.k_Rider G_Rider_init hr (takes_of rfl rfl rfl rfl) (pa_cons (pv 0) (pa_cons (pv 1) (pa_cons (pv 3) pa_nil)))))
      (pss_cons (ps_while (passes_of rfl) (PW.pt (pw_and (pt_cmpR op_isN1 (pe_fldK (K := K) rfl (pv 4) rfl) pe_non (nomark _)) (pw_and (pt_cmpR (op_gt) (pme0K (K := K) rfl T.m_Calendar_size T.c_Calendar G_Calendar_size hr (takes_of rfl rfl rfl rfl) (pv 3)) pe_int (nomark _)) (pw_and1 (pt_cmpR (op_ltK (K := K) rfl hu0) (pe_callB (call_lenK (K := K) rfl) (by rfl) T.b_len (by decide +kernel) (pa_cons (pe_fldK (K := K) rfl (pv 4) rfl) pa_nil)) (pv 2) (nomark _)))))) (pss_one (ps_expr (pme0K (K := K) rfl T.m_Rider_ride T.c_Rider G_Rider_ride hr (takes_of rfl rfl rfl rfl) (pv 4)))))
      (pss_one (ps_ret (pmkK (K := K) rfl T.k_Book G_Book_init hr (takes_of rfl rfl rfl rfl) (pa_cons (pe_fldK (K := K) rfl (pv 4) rfl) (pa_cons (pme0K (K := K) rfl T.m_Rider_outcome_now T.c_Rider G_Rider_outcome_now hr (takes_of rfl rfl rfl rfl) (pv 4)) (pa_cons (pe_fldK (K := K) rfl (pv 4) rfl) pa_nil)))))))), ?_⟩
    refine w_start (σ' := [some (.ref pm), some (.ref a), some (.int (most : Int)), some (.ref c), none]) rfl z ?_
    dsimp only [List.cons_append, List.nil_append] at q ⊢
    k_extra "W"
    refine w_made fun pr dxr => ?_
    refine w_don (⟨pr, dxr, c, C, ⟨pm, ms, a, sv, sgs⟩⟩ : RiI_Calendar I) (by k_extra "ts") ⟨hf, hrep⟩ ?_
    rintro _ Γ' S' ⟨⟨p, dx, pm', ls, c', C0, lf, ev0, es0, ps0, rs0, r0, ms'⟩, e1, e2, e3, e4, e5, e6, g1, g2, g3, g4, rfl, rfl, rfl⟩
    dsimp only at e1 e2 e3 e4 e5 e6 g1 g2 g3 g4
    subst e1 e2 e3 e4 e5 e6
    dsimp only [rdF_Calendar, rdS_Calendar, List.cons_append, List.nil_append]
    k_extra "W"
    refine w_while (ω := Unit) (ι := RdI_Calendar I) (fun k g => g.p = p ∧ g.pm = pm' ∧ g.c = c' ∧ g.ms = ms' ∧ ByC_Calendar n B ss sok ms' (firstRun ms' sgs) most k g.es g.r g.rs g.ps) (fun _ => [some (.ref pm'), some (.ref a), some (.int (most : Int)), some (.ref c'), some (.ref p)])
      (fun g => rdF_Calendar g ++ Γ) (fun g => rdS_Calendar g ++ own a (.lst sv) :: S) (2 * most + (if (firstRun ms' sgs).ended.isSome = true then 0 else 1)) ⟨p, dx, pm', ls, c', C0, lf, ev0, es0, ps0, [], firstRun ms' sgs, ms'⟩
      ⟨rfl, rfl, rfl, rfl, ⟨rfl, rfl, firstRun_ok hmr hbw hsr, firstRun_k, by show (hapsFrom 0 sgs).length + _ ≤ _; rw [haps_len]; exact hln, Nat.zero_le _, g1, g2, (fun _ h => nomatch h), g3, g4⟩⟩ rfl (by dsimp only [rdF_Calendar, List.cons_append, List.nil_append]; k_extra "sub") (by dsimp only [rdS_Calendar, List.cons_append, List.nil_append]; k_extra "dr") ?_
    rintro k ⟨p, dx, pm, ls, c, C1, lf, ev, es, ps, rs, r1, ms⟩ ⟨k1, k2, k3, k4, hC⟩
    dsimp only at k1 k2 k3 k4 hC
    subst k1 k2 k3 k4
    dsimp only [rdF_Calendar, rdS_Calendar, List.cons_append, List.nil_append]
    have hpsl : ps.length = r1.pend.length := by have := hC.pp.length_eq; rwa [List.length_map] at this
    have hdl := hC.rl
    cases hen : r1.ended with
    | some en =>
      refine w_tupv (v := ev) (ds := match en with | .fin x => [.str "end", x.keyD] | .fault f x => [.str "fault", .str f.word, x.keyD] | .empty => [.str "empty"] | .cut => [.str "cut"]) (by cases en <;> (rw [show ∀ e, endD (some e) = e.data from fun _ => rfl, Ending.data]; k_extra "m")) fun a2 ea => ?_
      subst ea
      obtain ⟨ev, hev⟩ : ∃ ev, ev = V.ref a2 := ⟨_, rfl⟩
      rw [← hev]
      have hgo := hC.go
      rw [go_over (r := r1) (.inl (by rw [hen]; rfl)), List.append_nil] at hgo
      rw [hev]
      k_extra "W"
      rw [← hev]
      refine w_don (⟨p, dx, pm, ls, c, C1, lf, ev, es, ps, rs, r1, ms⟩ : RdI_Calendar I) (by k_extra "ts") ⟨hmd.mono (by k_extra "sub"), hmr, hsk, hC.rr, hC.rk, hC.st, hC.fit, hC.pk, hC.pp, hC.ok, by dsimp only [rdF_Calendar]; rw [hen]; k_extra "sub"⟩ ?_
      rintro v Γ' S' ⟨rfl, rfl⟩
      dsimp only [rdS_Calendar, List.cons_append, List.nil_append]
      k_extra "W"
      refine w_made fun pb dxb => ?_
      refine w_bookInit ?_
      k_extra "W"
      exact fun H z => q _ _ _ H ⟨pb, dxb, lf, ls, v, es, rs, C1, ps, rfl, by rw [hgo]; exact hC.st, hC.fit, by rw [hgo], hC.ok, hC.pk, by have := hC.ln; omega, rfl, rfl⟩ (z.fit (by rw [hgo]; k_extra "sub") (by k_extra "dr"))
    | none =>
      refine w_nonv (v := ev) (by dsimp only [endD]; k_extra "m") fun e0 => ?_
      subst e0
      obtain ⟨ev, hev⟩ : ∃ ev, ev = V.non := ⟨_, rfl⟩
      k_extra "W"
      refine w_calMeth (ps := ps) (I := I) (C := C1) (by k_extra "m") (by k_extra "t") (by simp) ?_
      k_extra "W"
      refine w_calSize (ps := ps) (C := C1) (by k_extra "m") (by k_extra "t") ?_
      k_extra "W"
      refine w_ite (p := 0 < ((ps.length : Nat) : Int)) (fun hgt => ?_) (fun hng => ?_)
      · have hp1 : r1.pend ≠ [] := List.length_pos_iff.mp (by omega)
        k_extra "W"
        refine w_lenL (by k_extra "at") ?_
        rw [List.length_map]
        k_extra "W"
        refine w_ite (p := ((rs.length : Nat) : Int) < (most : Int)) (fun hlt => ?_) (fun hge => ?_)
        · refine w_turn ?_
          k_extra "W"
          refine w_don (⟨p, dx, pm, ls, c, C1, lf, .non, es, ps, rs, r1, ms⟩ : RdI_Calendar I) (by k_extra "ts") ⟨⟨hmd.mono (by k_extra "sub"), hmr, hsk, hC.rr, hC.rk, hC.st, hC.fit, hC.pk, hC.pp, hC.ok, by dsimp only [rdF_Calendar]; rw [hen]; k_extra "sub"⟩, hen, hp1, by have := hC.ln; dsimp only; omega, by dsimp only; omega⟩ ?_
          obtain ⟨k', hk'⟩ : ∃ k', most - rs.length = k' + 1 := ⟨most - rs.length - 1, by omega⟩
          have hgo := hC.go
          have hcl := hC.ln
          have hac := act_lenB_Calendar hB hC.rr hp1
          have hme := hC.me
          rw [hen] at hme
          simp only [Option.isSome_none, Bool.false_eq_true, if_false] at hme
          rw [hk'] at hcl
          have hBk : B * (k' + 1) = B * k' + B := Nat.mul_succ B k'
          rintro v Γ' S' ⟨⟨p2, dx2, pm2, ls2, c2, C2, lf2, ev2, es2, ps2, rs2, r2, ms2⟩, m1, m2, m3, m4, m5, m6, m7, m8, m9, m10, m11, rfl, rfl, rfl⟩
          dsimp only at m1 m2 m3 m4 m5 m6 m7 m8 m9 m10 m11
          subst m1 m2 m3 m4 m5
          have hrk2 := act_k hC.rr hC.rk hp1
          cases h3 : (r1.act ms2).2 with
          | none =>
            rw [h3] at m6
            have hrl : rs2.length = rs.length := by
              have := congrArg List.length m6
              rw [List.length_append, List.length_map, List.length_map] at this
              exact this
            have hs := act_none hC.rr hp1 h3
            have hac0 := act_len_none hC.rr hp1 h3
            k_extra "W"
            refine w_less (2 * (most - rs.length)) (by omega) ?_
            refine w_again ⟨p2, dx2, pm2, ls2, c2, C2, lf2, ev2, es2, ps2, rs2, (r1.act ms2).1, ms2⟩ ⟨rfl, rfl, rfl, rfl, ⟨by rw [if_pos hs, Nat.add_zero, hrl], ?_, hC.rr.act hmr hsk hp1, hrk2, by dsimp only; rw [hrl, hk']; omega, by dsimp only; omega, m7, m8, m11, m9, m10⟩⟩ rfl (by dsimp only [rdF_Calendar, List.cons_append, List.nil_append]; k_extra "sub") (by dsimp only [rdS_Calendar, List.cons_append, List.nil_append]; k_extra "dr")
            dsimp only
            rw [hgo, hk', go_none hen hp1 h3, go_over (r := (r1.act ms2).1) (.inl hs), m6]
            simp
          | some cc =>
            rw [h3] at m6
            have hrl : rs2.length = rs.length + 1 := by
              have := congrArg List.length m6
              rw [List.length_append, List.length_map, List.length_map] at this
              exact this
            have hk2 : most - rs2.length = k' := by omega
            k_extra "W"
            refine w_less (2 * k' + (if (r1.act ms2).1.ended.isSome = true then 0 else 1)) (by split <;> omega) ?_
            refine w_again ⟨p2, dx2, pm2, ls2, c2, C2, lf2, ev2, es2, ps2, rs2, (r1.act ms2).1, ms2⟩ ⟨rfl, rfl, rfl, rfl, ⟨by dsimp only; rw [hk2], ?_, hC.rr.act hmr hsk hp1, hrk2, by dsimp only; rw [hk2]; omega, by dsimp only; omega, m7, m8, m11, m9, m10⟩⟩ rfl (by dsimp only [rdF_Calendar, List.cons_append, List.nil_append]; k_extra "sub") (by dsimp only [rdS_Calendar, List.cons_append, List.nil_append]; k_extra "dr")
            dsimp only
            rw [hgo, hk', hk2, go_some hen hp1 h3, m6, List.append_assoc]
            rfl
        · have hk0 : most - rs.length = 0 := by omega
          have hgo := hC.go
          rw [hk0] at hgo
          rw [show r1.go ms 0 = (r1, []) from rfl, List.append_nil] at hgo
          k_extra "W"
          rw [← hev]
          refine w_don (⟨p, dx, pm, ls, c, C1, lf, ev, es, ps, rs, r1, ms⟩ : RdI_Calendar I) (by k_extra "ts") ⟨hmd.mono (by k_extra "sub"), hmr, hsk, hC.rr, hC.rk, hC.st, hC.fit, hC.pk, hC.pp, hC.ok, by dsimp only [rdF_Calendar]; rw [hen]; k_extra "sub"⟩ ?_
          rintro v Γ' S' ⟨rfl, rfl⟩
          dsimp only [rdS_Calendar, List.cons_append, List.nil_append]
          k_extra "W"
          refine w_made fun pb dxb => ?_
          refine w_bookInit ?_
          k_extra "W"
          exact fun H z => q _ _ _ H ⟨pb, dxb, lf, ls, v, es, rs, C1, ps, rfl, by rw [hgo]; exact hC.st, hC.fit, by rw [hgo], hC.ok, hC.pk, by have := hC.ln; omega, rfl, rfl⟩ (z.fit (by rw [hgo]; k_extra "sub") (by k_extra "dr"))
      · have hp1 : r1.pend = [] := List.length_eq_zero_iff.mp (by omega)
        have hgo := hC.go
        rw [go_over (r := r1) (.inr hp1), List.append_nil] at hgo
        k_extra "W"
        rw [← hev]
        refine w_don (⟨p, dx, pm, ls, c, C1, lf, ev, es, ps, rs, r1, ms⟩ : RdI_Calendar I) (by k_extra "ts") ⟨hmd.mono (by k_extra "sub"), hmr, hsk, hC.rr, hC.rk, hC.st, hC.fit, hC.pk, hC.pp, hC.ok, by dsimp only [rdF_Calendar]; rw [hen]; k_extra "sub"⟩ ?_
        rintro v Γ' S' ⟨rfl, rfl⟩
        dsimp only [rdS_Calendar, List.cons_append, List.nil_append]
        k_extra "W"
        refine w_made fun pb dxb => ?_
        refine w_bookInit ?_
        k_extra "W"
        exact fun H z => q _ _ _ H ⟨pb, dxb, lf, ls, v, es, rs, C1, ps, rfl, by rw [hgo]; exact hC.st, hC.fit, by rw [hgo], hC.ok, hC.pk, by have := hC.ln; omega, rfl, rfl⟩ (z.fit (by rw [hgo]; k_extra "sub") (by k_extra "dr"))
end
end Mo
namespace Mo
open PySem PySem.Spec PyProof.Rows L2
/-! ### the run by a Wheel -/
structure RdI_Wheel {K : PySem.W.Frag} (I : CalI K "Wheel") where
  p : Addr
  dx : Addr
  pm : Addr
  ls : Addr
  c : Addr
  C : Vo
  lf : Addr
  ev : V
  es : List StI
  ps : List EH
  rs : List (RcO × Rec)
  r : Run
  ms : List Mach
def rdS_Wheel {K : PySem.W.Frag} {I : CalI K "Wheel"} (g : RdI_Wheel I) : List Vo := [own g.p (.ins (He.ga K "Rider") g.dx (fl_Rider (.ref g.pm) (.ref g.ls) (.ref g.c) (.ref g.lf) g.ev)), own g.ls (.lst (g.es.map fun e => V.ref e.p)), segsV (stS K) g.es, g.C, own g.lf (.lst (g.rs.map fun p => V.ref p.1.r)), segsV rcS g.rs]
def rdF_Wheel {K : PySem.W.Frag} {I : CalI K "Wheel"} (g : RdI_Wheel I) : List Fc := [repF I g.C g.c (g.ps.map (·.1)), cpF g.ps, .dat g.ev (endD g.r.ended), allF K rcF g.rs]
structure RdI_Wheel.Ok {K : PySem.W.Frag} {I : CalI K "Wheel"} (n : Nat) (ss : List Str) (sok : Str → Prop) (g : RdI_Wheel I) (Γ : List Fc) : Prop where
  md : MdOk K Γ g.pm g.ms
  mr : MdR n ss g.ms
  sk : ∀ x ∈ ss, sok x
  rr : RunR g.ms sok g.r
  rk : RunK g.r
  sts : g.es.map (·.s) = g.r.sts
  fit : ∀ e ∈ g.es, e.s.queues.length = e.as.length
  pk : PsK g.ps
  pp : (g.ps.map (·.2)).Perm g.r.pend
  ok : ∀ p ∈ g.rs, p.1.Ok p.2
  fs : ∀ f ∈ rdF_Wheel g, f ∈ Γ
structure RiI_Wheel {K : PySem.W.Frag} (I : CalI K "Wheel") where
  p : Addr
  dx : Addr
  c : Addr
  C : Vo
  f : FgI
def spRiderInit_Wheel (n : Nat) (ss : List Str) (sok : Str → Prop) {K : PySem.W.Frag} (I : CalI K "Wheel") : Sp := SpF K (fun i : RiI_Wheel I => [.ref i.p, .ref i.f.pm, .ref i.f.a, .ref i.c]) (fun i Γ => i.f.Ok n ss sok K Γ ∧ repF I i.C i.c [] ∈ Γ) (fun i => [own i.p (.ins (He.ga K "Rider") i.dx []), i.C, own i.f.a (.lst i.f.sv)])
  (fun i v Γ' S' => ∃ g : RdI_Wheel I, g.p = i.p ∧ g.pm = i.f.pm ∧ g.c = i.c ∧ g.ms = i.f.ms ∧ g.r = firstRun i.f.ms i.f.sgs ∧ g.rs = [] ∧ g.es.map (·.s) = g.r.sts ∧ (∀ e ∈ g.es, e.s.queues.length = e.as.length) ∧ PsK g.ps ∧ (g.ps.map (·.2)).Perm g.r.pend ∧ v = .non ∧ Γ' = rdF_Wheel g ∧ S' = rdS_Wheel g ++ [own i.f.a (.lst i.f.sv)]) noEx
section
variable {P : Program} {w : World} {K : PySem.W.Frag} {mg : Str → Option Value} {base : Heap}
theorem ok_Rider_init_Wheel (T : Tx K mg) (n : Nat) (ss : List Str) (sok : Str → Prop) (I : CalI K "Wheel") (G_Wheel_put : OkM P w K mg base 6 "Wheel" "put" ["self", "key", "thing"] (spPutI I)) : OkM P w K mg base 8 "Rider" "__init__" ["self", "model", "signs", "calendar"] (spRiderInit_Wheel n ss sok I) := by
  have G_first_state := ok_first_state (P := P) (w := w) (base := base) T
  have G_pending_at_first := ok_pending_at_first (P := P) (w := w) (base := base) T
  refine T.f_Rider_init.okX sc_Rider_init (fun vs H Q E h => ?_) (fun cdv A outer s H vs Q E hr h => ?_)
  · obtain ⟨i, _, _, rfl, _⟩ := h
    rfl
  · have hu1 := hu_of hr; have hu0 := hr.units0; have hu64 := hr.units; have hu65 := hu65_of hr; have nd := sc_Rider_init.nd
    obtain ⟨⟨p, dx, c, C, ⟨pm, ms, a, sv, sgs⟩⟩, Γ, S, rfl, z, ⟨⟨hmd, hmr, hbw, hsk, hsr, hsv, hsl⟩, hrep⟩, q, x⟩ := h
    dsimp only at z hmd hmr hbw hsk hsr hsv hsl hrep q x
    refine ⟨_, (pss_cons (ps_fldK (K := K) rfl (pv 0) (pv 1) rfl)
      (pss_cons (ps_fldK (K := K) rfl (pv 0) (pe_lc (own := [("at", 5)]) rfl nd (pi_range1 rfl T.b_range (pa_cons (pe_callB (call_lenK (K := K) rfl) (by rfl) T.b_len (by decide +kernel) (pa_cons (pe_fldK (K := K) rfl (pv 1) rfl) pa_nil)) pa_nil)) (blkOk_by (own := [("at", 5)]) (N := nm_Rider_init) (sc := defScope s_Rider_init) (by decide +kernel)) (fun _ _ _ _ _ => (pg_name (i := 5) nd rfl (Or.inl rfl) (Or.inr rfl))) (fun _ _ _ _ _ => pts_nil) (fun _ _ _ _ _ => (pcl T.g_first_state G_first_state hr takes0 (pa_cons (pv 1) (pa_cons (pv 5) pa_nil))))) rfl)
      (pss_cons (ps_fldK (K := K) rfl (pv 0) (pv 3) rfl)
      (pss_cons (ps_fldK (K := K) rfl (pv 0) (pe_lst pa_nil) rfl)
      (pss_cons (ps_fldK (K := K) rfl (pv 0) pe_non rfl)
      (pss_one (ps_for (passes_of rfl) rfl (pi_seqK (K := K) rfl (pcl T.g_pending_at_first G_pending_at_first hr (takes_of rfl rfl rfl rfl) (pa_cons (pv 2) pa_nil))) (pg_name (i := 4) nd rfl (Or.inl rfl))
      (pss_one (ps_expr (pmeK (K := K) rfl T.m_Wheel_put T.c_Wheel G_Wheel_put hr (takes_of rfl rfl rfl rfl) (pv 3) (pa_cons (pe_ix (ix_anyK (K := K) rfl hu1) (pv 4) pe_int (fun _ _ => rfl)) (pa_cons (pv 4) pa_nil)))))))))))), ?_⟩
    refine w_start (σ' := [some (.ref p), some (.ref pm), some (.ref a), some (.ref c), none, none]) rfl z ?_
    dsimp only [List.cons_append, List.nil_append] at q ⊢
    obtain ⟨dxm, lm, hm1, hm2⟩ := id hmd
    have hml := hmr.ln
    k_extra "W"
    refine w_sfldL (by k_extra "sw") in_Rider_0 T.c_Rider T.n_Rider_model rfl ?_
    k_extra "W"
    rw [List.length_map]
    refine w_lcR ms.length rfl (by omega) ?_
    refine w_lc_r (ι := List StI) ms.length (fun j es => es.map (·.s) = (ms.take j).map Mach.first ∧ ∀ e ∈ es, e.s.queues.length = e.as.length) (fun _ es => es.map fun e => V.ref e.p) (fun _ _ => _) (fun _ es => segsV (stS K) es :: _) [] ⟨rfl, fun _ h => nomatch h⟩ rfl sub_refl (Dr.segNil Dr.refl) ?_ ?_
    · rintro Dl j es hj ⟨c1, c2⟩
      obtain ⟨m, hm⟩ : ∃ m, ms[j]? = some m := ⟨_, List.getElem?_eq_getElem hj⟩
      have hmm := List.mem_of_getElem? hm
      have hel := congrArg List.length c1
      rw [List.length_map, List.length_map, List.length_take] at hel
      k_extra "W"
      refine w_first (hmd.mono (by k_extra "sub")) hm (hmr.ok m hmm).nd (hmr.ok m hmm).sm fun p dx b q as hal => ?_
      k_extra "W"
      refine w_lcp (es ++ [⟨p, dx, b, q, as, m.first⟩]) ⟨?_, fun e he => ?_⟩ (by rw [List.map_append]; rfl) (by k_extra "t") (by rw [List.length_map]; omega) (by k_extra "sub") (Dr.segSnoc (by dsimp only [stS]; k_extra "dr"))
      · rw [List.map_append, c1, List.take_add_one, hm, List.map_append]
        rfl
      · rcases List.mem_append.mp he with he | he
        · exact c2 e he
        · rw [List.mem_singleton.mp he]
          show (m.queues.map _).length = as.length
          rw [List.length_map, hal]
    rintro ls es ⟨c1, c2⟩
    rw [List.take_of_length_le (Nat.le_refl _)] at c1
    k_extra "W"
    refine w_sfldL (by k_extra "sw") in_Rider_1 T.c_Rider T.n_Rider_states rfl ?_
    k_extra "W"
    refine w_sfldL (by k_extra "sw") in_Rider_2 T.c_Rider T.n_Rider_calendar rfl ?_
    k_extra "W"
    refine w_lstO fun lf => ?_
    k_extra "W"
    refine w_sfldL (by k_extra "sw") in_Rider_3 T.c_Rider T.n_Rider_found rfl ?_
    k_extra "W"
    refine w_sfldL (by k_extra "sw") in_Rider_4 T.c_Rider T.n_Rider_ended rfl ?_
    k_extra "W"
    refine w_don (a, sv, sgs) (by k_extra "ts") ⟨by k_extra "m", hsl⟩ ?_
    rintro _ Γ' S' ⟨lp, pvs, rfl, rfl, rfl⟩
    dsimp only [List.cons_append, List.nil_append]
    k_extra "W"
    obtain ⟨L, hL⟩ : ∃ L, L = hapsFrom 0 sgs := ⟨_, rfl⟩
    have hLl : L.length = sgs.length := by rw [hL, haps_len]
    have hnd : (L.map Hap.key).Nodup := by rw [hL]; exact (firstRun_k (ms := ms) (sgs := sgs)).nd
    rw [← hL]
    refine w_repPerm (es := []) (es' := ([] : List EH).map (·.1)) rfl (by k_extra "m") ?_
    refine w_cpNil ?_
    refine w_hpLen (vs := pvs) (by k_extra "m") fun hpl => ?_
    rw [show ([(Str.ofString "model", V.ref pm), (Str.ofString "states", V.ref ls), (Str.ofString "calendar", V.ref c), (Str.ofString "found", V.ref lf), (Str.ofString "ended", V.non)] : List (Str × V)) = fl_Rider (.ref pm) (.ref ls) (.ref c) (.ref lf) .non from rfl]
    refine w_loop_l (ι := Option V × Vo × List EH) pvs (fun j u => PsK u.2.2 ∧ (u.2.2.map (·.2)).Perm (L.take j)) (fun _ u => [some (.ref p), some (.ref pm), some (.ref a), some (.ref c), u.1, none]) (fun _ u => repF I u.2.1 c (u.2.2.map (·.1)) :: cpF u.2.2 :: hpF pvs L :: Γ) (fun _ u => own lp (.lst pvs) :: own a (.lst sv) :: own lf (.lst []) :: own ls (.lst (es.map fun e => V.ref e.p)) :: segsV (stS K) es :: own p (.ins (He.ga K "Rider") dx (fl_Rider (.ref pm) (.ref ls) (.ref c) (.ref lf) .non)) :: u.2.1 :: S) (none, C, []) ⟨(fun _ h => nomatch h), List.Perm.refl _⟩ rfl (by k_extra "sub") (by k_extra "dr") (fun _ _ => by k_extra "at") ?_ ?_
    · rintro j v ⟨u, C1, ps⟩ hv ⟨g1, g2⟩
      dsimp only at g1 g2 ⊢
      have hj := (List.getElem?_eq_some_iff.mp hv).1
      obtain ⟨h, hh⟩ : ∃ h, L[j]? = some h := ⟨_, List.getElem?_eq_getElem (by omega)⟩
      refine w_hpGet (vs := pvs) (hs := L) (by k_extra "m") hv hh fun t kp e => ?_
      subst e
      have hpsl : ps.length ≤ 1000 := by
        have := g2.length_eq
        rw [List.length_map, List.length_take] at this
        omega
      have hnk : h.key ∉ (ps.map (·.2)).map Hap.key := fun hm => by
        have h1 : h.key ∈ (L.take j).map Hap.key := (g2.map Hap.key).mem_iff.mp hm
        rw [List.map_take] at h1
        exact nodup_take hnd (by rw [List.getElem?_map, hh]; rfl) h1
      k_extra "W"
      refine w_calMeth (ps := ps) (I := I) (C := C1) (by k_extra "m") (by k_extra "t") (by simp) ?_
      k_extra "W"
      refine w_calPut (ps := ps) (h := h) (by k_extra "m") (by k_extra "t") (by k_extra "m") (by k_extra "m") (by k_extra "m") g1 hnk (by omega) fun C2 ps2 hp2 => ?_
      k_extra "W"
      refine w_again (_, C2, ps2) ⟨fun q hq => ?_, ?_⟩ rfl (by k_extra "sub") (by k_extra "dr")
      · rcases List.mem_cons.mp (hp2.mem_iff.mp hq) with rfl | hq
        · rfl
        · exact g1 q hq
      · dsimp only
        rw [List.take_add_one, hh, Option.toList_some]
        have e3 : (ps2.map (·.2)).Perm (h :: ps.map (·.2)) := hp2.map _
        exact (e3.trans (List.Perm.cons h g2)).trans (List.perm_append_comm (l₁ := [h]))
    rintro ⟨u, C1, ps⟩ ⟨g1, g2⟩
    dsimp only at g1 g2 ⊢
    rw [hpl, List.take_length] at g2
    refine w_dat (v := .non) (d := .none) DV.non ?_
    refine w_allNil (K := K) (f := rcF) ?_
    k_extra "W"
    exact fun H z => q _ _ _ H ⟨⟨p, dx, pm, ls, c, C1, lf, .non, es, ps, [], firstRun ms sgs, ms⟩, rfl, rfl, rfl, rfl, rfl, rfl, c1, c2, g1, by dsimp only; rw [hL] at g2; exact g2, rfl, rfl, rfl⟩ (z.fit (by dsimp only [rdF_Wheel]; rw [show (firstRun ms sgs).ended = none from rfl]; dsimp only [endD]; k_extra "sub") (by
      dsimp only [rdS_Wheel, List.cons_append, List.nil_append, List.map_nil]
      refine Dr.keep (by k_extra "t") (Dr.keep (by k_extra "t") (Dr.keep (by k_extra "t") (Dr.keep (by k_extra "t") (Dr.keep (by show Take (own lf (.lst [])) _ _; k_extra "t") (Dr.segNil (by k_extra "dr"))))))))
def spRide_Wheel (n : Nat) (ss : List Str) (sok : Str → Prop) {K : PySem.W.Frag} (I : CalI K "Wheel") : Sp := SpF K (fun g : RdI_Wheel I => [.ref g.p]) (fun g Γ => g.Ok n ss sok Γ ∧ g.r.ended = none ∧ g.r.pend ≠ [] ∧ g.r.pend.length ≤ 3950 ∧ g.rs.length ≤ 10000) (fun g => rdS_Wheel g)
  (fun g v Γ' S' => ∃ g' : RdI_Wheel I, g'.p = g.p ∧ g'.pm = g.pm ∧ g'.c = g.c ∧ g'.ms = g.ms ∧ g'.r = (g.r.act g.ms).1 ∧ g'.rs.map (·.2) = g.rs.map (·.2) ++ (g.r.act g.ms).2.toList ∧ g'.es.map (·.s) = g'.r.sts ∧ (∀ e ∈ g'.es, e.s.queues.length = e.as.length) ∧ PsK g'.ps ∧ (g'.ps.map (·.2)).Perm g'.r.pend ∧ (∀ p ∈ g'.rs, p.1.Ok p.2) ∧ v = .non ∧ Γ' = rdF_Wheel g' ∧ S' = rdS_Wheel g') noEx
theorem ok_Rider_ride_Wheel (T : Tx K mg) (n : Nat) (ss : List Str) (sok : Str → Prop) (I : CalI K "Wheel") (G_Wheel_put : OkM P w K mg base 6 "Wheel" "put" ["self", "key", "thing"] (spPutI I)) (G_Wheel_leave : OkM P w K mg base 6 "Wheel" "leave" ["self"] (spLeaveI I)) : OkM P w K mg base (4 * n + 10) "Rider" "ride" ["self"] (spRide_Wheel n ss sok I) := by
  have G_done := ok_done (P := P) (w := w) (base := base) T n
  refine T.f_Rider_ride.okX sc_Rider_ride (fun vs H Q E h => ?_) (fun cdv A outer s H vs Q E hr h => ?_)
  · obtain ⟨i, _, _, rfl, _⟩ := h
    rfl
  · have hu1 := hu_of hr; have hu0 := hr.units0; have hu64 := hr.units; have hu65 := hu65_of hr; have nd := sc_Rider_ride.nd
    obtain ⟨⟨p, dx, pm, ls, c, C, lf, ev, es, ps, rs, r, ms⟩, Γ, S, rfl, z, ⟨⟨hmd, hmr, hsk, hrr, hrk, hst, hfit, hpk, hpp, hok, hfs⟩, hen, hpe, hpl, hrl⟩, q, x⟩ := h
    dsimp only at z hmd hmr hsk hrr hrk hst hfit hpk hpp hok hfs hen hpe hpl hrl q x
    dsimp only [rdF_Wheel] at hfs
    have f1 := hfs _ List.mem_cons_self
    have f2 := hfs _ (List.mem_cons_of_mem _ List.mem_cons_self)
    have f3 := hfs _ (List.mem_cons_of_mem _ (List.mem_cons_of_mem _ List.mem_cons_self))
    have f4 := hfs _ (List.mem_cons_of_mem _ (List.mem_cons_of_mem _ (List.mem_cons_of_mem _ List.mem_cons_self)))
    refine ⟨_, (pss_cons (ps_asg (pme0K (K := K) rfl T.m_Wheel_leave T.c_Wheel G_Wheel_leave hr (takes_of rfl rfl rfl rfl) (pe_fldK (K := K) rfl (pv 0) rfl)) (pg_tupK (K := K) (n := 2) rfl rfl (pgs_cons (pg_name (i := 1) nd rfl (Or.inl rfl)) (pgs_cons (pg_name (i := 2) nd rfl (Or.inl rfl)) pgs_nil)) rfl rfl))
      (pss_cons (ps_try_as (i := 6) rfl rfl nd rfl rfl ⟨rfl, by decide, .inl T.G_Fault⟩ (takes_of rfl rfl rfl rfl) (fun W2 pn2 xe2 tk2 ho2 => (pss_one (ps_asg (pcl T.g_done G_done hr tk2 (pa_cons (pe_fldK (K := K) rfl (pv 0) rfl) (pa_cons (pe_ix (ix_anyK (K := K) rfl hu1) (pe_fldK (K := K) rfl (pv 0) rfl) (pe_ix (ix_anyK (K := K) rfl hu1) (pv 2) pe_int (fun _ _ => rfl)) (fun _ _ => rfl)) (pa_cons (pv 2) pa_nil)))) (pg_tupK (K := K) (n := 3) rfl rfl (pgs_cons (pg_name (i := 3) nd rfl (Or.inl rfl)) (pgs_cons (pg_name (i := 4) nd rfl (Or.inl rfl)) (pgs_cons (pg_name (i := 5) nd rfl (Or.inl rfl)) pgs_nil))) rfl rfl))))
      (fun ea eo ecls ed epn ez ef => (pss_cons (ps_fldK (K := K) rfl (pv 0) (pe_tup (pa_cons pe_str (pa_cons (pe_wordS (K := K) rfl ez ef (ok_words (P := P) (w := w) (base := base) T) hr (pv 6)) (pa_cons (pv 1) pa_nil)))) rfl)
      (pss_one ps_retN))))
      (pss_cons (ps_asg (pv 3) (pg_sub (pe_fldK (K := K) rfl (pv 0) rfl) (pe_ix (ix_anyK (K := K) rfl hu1) (pv 2) pe_int (fun _ _ => rfl)) (set_any hu1)))
      (pss_cons (ps_expr (pe_bmK (K := K) rfl PySem.F.plainAttrs_list PySem.F.slot_list_append PySem.F.type_list_append mt_append (pe_fldK (K := K) rfl (pv 0) rfl) (pa_cons (pv 4) pa_nil)))
      (pss_cons (ps_for (passes_of rfl) rfl (pi_seqK (K := K) rfl (pe_ix (ix_anyK (K := K) rfl hu1) (pv 4) pe_int (fun _ _ => rfl))) (pg_name (i := 7) nd rfl (Or.inl rfl))
      (pss_one (ps_expr (pmeK (K := K) rfl T.m_Wheel_put T.c_Wheel G_Wheel_put hr (takes_of rfl rfl rfl rfl) (pe_fldK (K := K) rfl (pv 0) rfl) (pa_cons (pe_ix (ix_anyK (K := K) rfl hu1) (pv 7) pe_int (fun _ _ => rfl)) (pa_cons (pv 7) pa_nil))))))
      (pss_one (ps_if (pt_truthK (K := K) rfl (pv 5) (by intro _; rfl)) (pss_one (ps_fldK (K := K) rfl (pv 0) (pe_tup (pa_cons pe_str (pa_cons (pv 1) pa_nil))) rfl))
      pss_nil))))))), ?_⟩
    refine w_start (σ' := [some (.ref p), none, none, none, none, none, none, none]) rfl z ?_
    dsimp only [rdS_Wheel, List.cons_append, List.nil_append] at q ⊢
    refine w_calAsc (I := I) (C := C) (c := c) (ps := ps) (by k_extra "m") fun hasc => ?_
    have hpsl : ps.length = r.pend.length := by have := hpp.length_eq; rwa [List.length_map] at this
    obtain ⟨q0, r0, hps⟩ : ∃ q0 r0, ps = q0 :: r0 := by
      cases e : ps with
      | nil => rw [e] at hpsl; exact absurd (List.length_eq_zero_iff.mp hpsl.symm) hpe
      | cons a b => exact ⟨a, b, rfl⟩
    obtain ⟨a1, hper⟩ := place_first hrk.nd (by rw [← hps]; exact hpp) (by rw [← hps]; exact hpk) (by rw [← hps]; exact hasc)
    obtain ⟨x0, m, s, a1', a2, a3, hx, hs⟩ := act_at hrr hpe
    rw [a1] at a1'
    obtain rfl := Option.some.inj a1'
    obtain ⟨hto, htl⟩ := to_nat hx
    have hpk0 : PsK r0 := fun y hy => hpk y (by rw [hps]; exact List.mem_cons_of_mem _ hy)
    refine w_calHead (I := I) (C := C) (c := c) (ps := ps) (by k_extra "m") (by k_extra "m") hpk hps fun p2 kp u e1 e2 => ?_
    k_extra "W"
    refine w_calMeth (ps := ps) (I := I) (C := C) (by k_extra "m") (by k_extra "t") (by simp) ?_
    k_extra "W"
    refine w_calLeave (ps := ps) (q := q0) (r := r0) (by k_extra "m") (by k_extra "t") hps (by omega) fun pt C1 => ?_
    rw [e1, e2]
    k_extra "W"
    obtain ⟨en0, x0⟩ := q0
    dsimp only at *
    refine w_dat (v := .ref p2) (d := .tuple [.int x0.time, .int x0.rank, .int x0.frm, .int x0.count]) (fun G b => .tup (SqT.of (b (.obj p2 (.tup [.int x0.time, .int x0.rank, .int x0.frm, .int x0.count])) (by k_extra "m"))) (.cons (.int _) (.cons (.int _) (.cons (.int _) (.cons (.int _) .nil))))) ?_
    refine w_dat (v := .ref u) (d := x0.data) (fun G b => HapX.dp ⟨u, kp, rfl, b (.obj u (.tup [.ref kp, .int x0.to, .str x0.sign, .int x0.g, .int x0.h])) (by k_extra "m"), b (.obj kp (.tup [.int x0.time, .int x0.rank, .int x0.frm, .int x0.count])) (by k_extra "m")⟩) ?_
    obtain ⟨dxm, lm, hm1, hm2⟩ := hmd
    have hesl : es.length = ms.length := by have h1 := congrArg List.length hst; rw [List.length_map] at h1; exact h1.trans hrr.len
    obtain ⟨e, he⟩ : ∃ e, es[x0.to.toNat]? = some e := ⟨_, List.getElem?_eq_getElem (by omega)⟩
    have hes : e.s = s := by
      have h1 : (es.map (·.s))[x0.to.toNat]? = some e.s := by rw [List.getElem?_map, he]; rfl
      rw [hst, a3] at h1
      exact (Option.some.inj h1).symm
    subst hes
    refine w_sub (by k_extra "at") (v := .ref e.p) (by rw [hto]; exact atI_nat (by rw [List.getElem?_map, he]; rfl)) ?_
    k_extra "W"
    refine w_segAt he (by k_extra "t") ?_
    dsimp only [stS]
    refine w_do (⟨pm, ms, m, x0.to.toNat, .ref u, x0, e.p, e.dx, e.b, e.q, e.as, e.s⟩ : DnI) (by k_extra "ts") ⟨⟨dxm, lm, by k_extra "m", by k_extra "m"⟩, a2, hto, by k_extra "m", hmr.ok m (List.mem_of_getElem? a2), hfit e (List.mem_of_getElem? he), hs.wo, hs.bs, hs.qs, hx.doC (hmr.ok m (List.mem_of_getElem? a2)).sm, hmr.np⟩ ?_ ?_
    · rintro _ Γ' S' ⟨d, o, ed, rfl, ok, rfl, rfl⟩
      dsimp only [DnO.F, DnO.S, List.cons_append, List.nil_append] at ed ⊢
      have hact := act_ok a1 a2 a3 ed
      have hnl := news_len hmr (List.mem_of_getElem? a2) ed
      have hnd : ((r.pend.eraseIdx (place r.pend) ++ d.news).map Hap.key).Nodup := by
        have := (act_k hrr hrk hpe).nd
        rw [hact] at this
        exact this
      k_extra "W"
      refine w_setL (n := x0.to.toNat) (by k_extra "sw") hto (by rw [List.length_map]; omega) ?_
      k_extra "W"
      refine w_app (by k_extra "sw") (by rw [List.length_map]; omega) ?_
      k_extra "W"
      refine w_hpLen (vs := o.nv) (hs := d.news) (by k_extra "m") fun hnv => ?_
      have hr0l : r0.length + 1 = ps.length := by rw [hps]; rfl
      refine w_loop_l (ι := Option V × Vo × List EH) o.nv (fun j a => PsK a.2.2 ∧ (a.2.2.map (·.2)).Perm (r0.map (·.2) ++ d.news.take j)) (fun _ a => [some (.ref p), some (.ref p2), some (.ref u), some (.ref o.p), some (.ref o.r), some (.bl d.ends), none, a.1])
        (fun _ a => repF I a.2.1 c (a.2.2.map (·.1)) :: cpF a.2.2 :: hpF o.nv d.news :: .dat (.ref p2) (.tuple [.int x0.time, .int x0.rank, .int x0.frm, .int x0.count]) :: .obj o.r (.tup [o.key, .int x0.to, .str x0.sign, .int x0.g, .int x0.h, .ref o.lw, .ref o.ln]) :: .dat o.key (.tuple [.int x0.time, .int x0.rank, .int x0.frm, .int x0.count]) :: qtF (d.wQ m.queues) o.ts o.qls :: .dats o.bv (wbD (d.wB m.ns)) :: .dats o.nv (d.news.map Hap.data) :: Γ)
        (fun _ a => stV K o.p o.dx o.b o.q o.as d.st :: own o.lw (.lst (o.bv ++ o.ts.map V.ref)) :: quV (d.wQ m.queues) o.qls :: own o.ln (.lst o.nv) :: segsV (stS K) (es.take x0.to.toNat) :: segsV (stS K) (es.drop (x0.to.toNat + 1)) :: a.2.1 :: own p (.ins (He.ga K "Rider") dx (fl_Rider (.ref pm) (.ref ls) (.ref c) (.ref lf) ev)) :: own ls (.lst ((es.map fun e => V.ref e.p).set x0.to.toNat (V.ref o.p))) :: own lf (.lst ((rs.map fun p => V.ref p.1.r) ++ [V.ref o.r])) :: segsV rcS rs :: S)
        (none, C1, r0) ⟨hpk0, by rw [List.take_zero, List.append_nil]⟩ rfl (by k_extra "sub") (by k_extra "dr") (fun _ _ => by k_extra "at") ?_ ?_
      · rintro j v ⟨u7, C2, ps2⟩ hv ⟨g1, g2⟩
        dsimp only at g1 g2 ⊢
        have hj := (List.getElem?_eq_some_iff.mp hv).1
        obtain ⟨h, hh⟩ : ∃ h, d.news[j]? = some h := ⟨_, List.getElem?_eq_getElem (by omega)⟩
        refine w_hpGet (vs := o.nv) (hs := d.news) (by k_extra "m") hv hh fun t kp2 e => ?_
        subst e
        have hps2 : ps2.length ≤ 4000 := by
          have := g2.length_eq
          rw [List.length_map, List.length_append, List.length_map, List.length_take] at this
          omega
        have hnk : h.key ∉ (ps2.map (·.2)).map Hap.key := fun hm => by
          have h1 : h.key ∈ (r.pend.eraseIdx (place r.pend) ++ d.news.take j).map Hap.key := ((g2.trans (hper.append_right _)).map Hap.key).mem_iff.mp hm
          have h2 : ((r.pend.eraseIdx (place r.pend) ++ d.news).map Hap.key)[(r.pend.eraseIdx (place r.pend)).length + j]? = some h.key := by
            rw [List.getElem?_map, List.getElem?_append_right (by omega), Nat.add_sub_cancel_left, hh]
            rfl
          refine nodup_take hnd h2 ?_
          rw [← List.map_take, List.take_length_add_append]
          exact h1
        k_extra "W"
        refine w_calMeth (ps := ps2) (I := I) (C := C2) (by k_extra "m") (by k_extra "t") (by simp) ?_
        k_extra "W"
        refine w_calPut (ps := ps2) (h := h) (by k_extra "m") (by k_extra "t") (by k_extra "m") (by k_extra "m") (by k_extra "m") g1 hnk hps2 fun C3 ps3 hp3 => ?_
        k_extra "W"
        refine w_again (_, C3, ps3) ⟨fun q hq => ?_, ?_⟩ rfl (by k_extra "sub") (by k_extra "dr")
        · rcases List.mem_cons.mp (hp3.mem_iff.mp hq) with rfl | hq
          · rfl
          · exact g1 q hq
        · dsimp only
          have e3 : (ps3.map (·.2)).Perm (h :: ps2.map (·.2)) := hp3.map _
          rw [List.take_add_one, hh, Option.toList_some, ← List.append_assoc]
          exact (e3.trans (List.Perm.cons h g2)).trans (List.perm_append_comm (l₁ := [h]))
      rintro ⟨u7, C2, ps2⟩ ⟨g1, g2⟩
      dsimp only at g1 g2 ⊢
      rw [hnv, List.take_length] at g2
      have g3 : (ps2.map (·.2)).Perm (r.pend.eraseIdx (place r.pend) ++ d.news) := g2.trans (hper.append_right _)
      have hfit' : ∀ e' ∈ es.set x0.to.toNat ⟨o.p, o.dx, o.b, o.q, o.as, d.st⟩, e'.s.queues.length = e'.as.length := fun e' he' => by
        rcases List.mem_or_eq_of_mem_set he' with he' | rfl
        · exact hfit e' he'
        · exact ok.as
      have hst' : (es.set x0.to.toNat (⟨o.p, o.dx, o.b, o.q, o.as, d.st⟩ : StI)).map (·.s) = r.sts.set x0.to.toNat d.st := by rw [List.map_set, hst]
      have hls : (es.map fun e => V.ref e.p).set x0.to.toNat (V.ref o.p) = (es.set x0.to.toNat (⟨o.p, o.dx, o.b, o.q, o.as, d.st⟩ : StI)).map fun e => V.ref e.p := by rw [List.map_set]
      rw [hls]
      obtain ⟨oo, hoo⟩ : ∃ oo : RcO, oo = ⟨o.r, o.key, o.lw, o.bv, o.ts, o.qls, o.ln, o.nv⟩ := ⟨_, rfl⟩
      have hook : oo.Ok (d.told m x0) := by rw [hoo]; exact ⟨ok.ts, ok.qls⟩
      refine w_allSnoc (f := rcF) (es := rs) (e := (oo, d.told m x0)) (by k_extra "m") (by rw [hoo]; show ∀ x ∈ RcO.F _ _, x ∈ _; dsimp only [RcO.F, Do.told]; k_extra "sub") ?_
      have hrs' : ∀ q ∈ rs ++ [(oo, d.told m x0)], q.1.Ok q.2 := fun q hq => by
        rcases List.mem_append.mp hq with hq | hq
        · exact hok q hq
        · rw [List.mem_singleton.mp hq]; exact hook
      have hback : ∀ (Γ2 : List Fc) (ev2 : V) (en : Option Ending), (if d.ends then some (Ending.fin x0) else none) = en → .dat ev2 (endD en) ∈ Γ2 → repF I C2 c (ps2.map (·.1)) ∈ Γ2 → cpF ps2 ∈ Γ2 → allF K rcF (rs ++ [(oo, d.told m x0)]) ∈ Γ2 → (∀ f ∈ Γ, f ∈ Γ2) →
          Wh K Γ2 (stV K o.p o.dx o.b o.q o.as d.st :: own o.lw (.lst (o.bv ++ o.ts.map V.ref)) :: quV (d.wQ m.queues) o.qls :: own o.ln (.lst o.nv) :: segsV (stS K) (es.take x0.to.toNat) :: segsV (stS K) (es.drop (x0.to.toNat + 1)) :: C2 :: own p (.ins (He.ga K "Rider") dx (fl_Rider (.ref pm) (.ref ls) (.ref c) (.ref lf) ev2)) :: own ls (.lst ((es.set x0.to.toNat (⟨o.p, o.dx, o.b, o.q, o.as, d.st⟩ : StI)).map fun e => V.ref e.p)) :: own lf (.lst ((rs.map fun p => V.ref p.1.r) ++ [V.ref o.r])) :: segsV rcS rs :: S) fun H => Q .non H := by
        intro Γ2 ev2 en e1 n1 n2 n3 n4 n5
        rw [e1] at hact
        refine fun H z => q _ _ _ H ⟨⟨p, dx, pm, ls, c, C2, lf, ev2, es.set x0.to.toNat ⟨o.p, o.dx, o.b, o.q, o.as, d.st⟩, ps2, rs ++ [(oo, d.told m x0)], (r.act ms).1, ms⟩, rfl, rfl, rfl, rfl, rfl, by dsimp only; rw [hact, List.map_append]; rfl, by dsimp only; rw [hact]; exact hst', hfit', g1, by dsimp only; rw [hact]; exact g3, hrs', rfl, rfl, rfl⟩ (z.fit (by
          dsimp only [rdF_Wheel, List.cons_append, List.nil_append]
          rw [hact]
          exact List.forall_mem_cons.mpr ⟨n2, List.forall_mem_cons.mpr ⟨n3, List.forall_mem_cons.mpr ⟨n1, List.forall_mem_cons.mpr ⟨n4, n5⟩⟩⟩⟩) (by
          dsimp only [rdS_Wheel, List.cons_append, List.nil_append]
          refine Dr.keep (by k_extra "t") (Dr.keep (by k_extra "t") (Dr.segSet he ?_))
          dsimp only [stS]
          rw [List.map_append, List.map_cons, List.map_nil]
          refine Dr.keep (by k_extra "t") (Dr.keep (by k_extra "t") (Dr.keep (by k_extra "t") (Dr.keep (by k_extra "t") (Dr.keep (by rw [hoo]; k_extra "t") (Dr.segSnoc (Dr.keep (by k_extra "t") (Dr.rc ?_)))))))
          rw [hoo]
          dsimp only [Do.told]
          k_extra "dr"))
      k_extra "W"
      refine w_iteB (fun hc => ?_) (fun hc => ?_)
      · k_extra "W"
        rename_i ev'
        refine w_sfldL (by k_extra "sw") (by k_extra "pt") (by k_extra "cl") (by k_extra "na") rfl ?_
        k_extra "W"
        exact hback _ (.ref ev') (some (.fin x0)) (by rw [hc, if_pos rfl]) (by dsimp only [endD, Ending.data, Hap.keyD]; k_extra "m") (by k_extra "m") (by k_extra "m") (by k_extra "m") (by k_extra "sub")
      · k_extra "W"
        have hevn : .dat ev (endD none) ∈ Γ := by rw [← hen]; exact f3
        exact hback _ ev none (by rw [hc, if_neg (by decide)]) (by k_extra "m") (by k_extra "m") (by k_extra "m") (by k_extra "m") (by k_extra "sub")
    · rintro _ Γ' S' ⟨f, ed, rfl, rfl, rfl⟩
      dsimp only [List.cons_append, List.nil_append] at ed ⊢
      have hact := act_err a1 a2 a3 ed
      refine w_as (flt_fault T f) fun a => ?_
      k_extra "W"
      refine w_wordS (c := f.cls) (z := f.word) (by cases f <;> decide +kernel) ?_
      k_extra "W"
      rename_i ev'
      refine w_sfldL (by k_extra "sw") (by k_extra "pt") (by k_extra "cl") (by k_extra "na") rfl ?_
      k_extra "W"
      refine fun H z => q _ _ _ H ⟨⟨p, dx, pm, ls, c, C1, lf, .ref ev', es, r0, rs, (r.act ms).1, ms⟩, rfl, rfl, rfl, rfl, rfl, by dsimp only; rw [hact]; simp, by dsimp only; rw [hact]; exact hst, hfit, hpk0, by dsimp only; rw [hact]; exact hper, hok, rfl, rfl, rfl⟩ (z.fit (by
        dsimp only [rdF_Wheel, List.cons_append, List.nil_append]
        rw [hact]
        dsimp only [endD, Ending.data, Hap.keyD]
        k_extra "sub") (by
        dsimp only [rdS_Wheel, List.cons_append, List.nil_append]
        refine Dr.keep (by k_extra "t") (Dr.keep (by k_extra "t") (Dr.segBack he ?_))
        dsimp only [stS]
        k_extra "dr"))
end
end Mo
namespace Mo
open PySem PySem.Spec PyProof.Rows L2
/-! ### the book of the run by a Wheel -/
theorem act_lenB_Wheel {B : Nat} {ms : List Mach} {sok : Str → Prop} {r : Run} (hb : ∀ m ∈ ms, ∀ sign, Dd.cnts (m.deedsFor sign) ≤ B) (hr : RunR ms sok r) (hp : r.pend ≠ []) : (r.act ms).1.pend.length + 1 ≤ r.pend.length + B := by
  obtain ⟨x, m, s, h1, h2, h3, h4, h5⟩ := act_at hr hp
  have hl := (List.getElem?_eq_some_iff.mp h1).1
  cases e : m.doing s x with
  | error f =>
    rw [act_err h1 h2 h3 e]
    dsimp only
    rw [List.length_eraseIdx_of_lt hl]
    omega
  | ok d =>
    rw [act_ok h1 h2 h3 e]
    have h6 := runs_news _ e
    have h7 := hb m (List.mem_of_getElem? h2) x.sign
    simp only [List.length_nil] at h6
    dsimp only
    rw [List.length_append, List.length_eraseIdx_of_lt hl]
    omega
def spOutNow_Wheel (n : Nat) (ss : List Str) (sok : Str → Prop) {K : PySem.W.Frag} (I : CalI K "Wheel") : Sp := SpF K (fun g : RdI_Wheel I => [.ref g.p]) (fun g Γ => g.Ok n ss sok Γ) (fun g => rdS_Wheel g) (fun g v Γ' S' => Γ' = [.dat v g.r.ending.data] ∧ S' = rdS_Wheel g) noEx
structure ByI_Wheel where
  f : FgI
  c : Addr
  C : Vo
  most : Nat
  B : Nat
def spByCal_Wheel (n : Nat) (ss : List Str) (sok : Str → Prop) {K : PySem.W.Frag} (I : CalI K "Wheel") : Sp := SpF K (fun i : ByI_Wheel => [.ref i.f.pm, .ref i.f.a, .int (i.most : Int), .ref i.c]) (fun i Γ => i.f.Ok n ss sok K Γ ∧ repF I i.C i.c [] ∈ Γ ∧ (∀ m ∈ i.f.ms, ∀ sign, Dd.cnts (m.deedsFor sign) ≤ i.B) ∧ i.f.sgs.length + i.B * i.most ≤ 3950 ∧ i.most ≤ 4000) (fun i => [i.C, own i.f.a (.lst i.f.sv)])
  (fun i v Γ' S' => ∃ (pb dxb lr ls : Addr) (e : V) (es : List StI) (rs : List (RcO × Rec)) (C' : Vo) (ps : List EH), v = .ref pb ∧ es.map (·.s) = ((firstRun i.f.ms i.f.sgs).go i.f.ms i.most).1.sts ∧ (∀ e ∈ es, e.s.queues.length = e.as.length) ∧ rs.map (·.2) = ((firstRun i.f.ms i.f.sgs).go i.f.ms i.most).2 ∧ (∀ p ∈ rs, p.1.Ok p.2) ∧ PsK ps ∧ ps.length ≤ 3950 ∧
    Γ' = [.dat e ((firstRun i.f.ms i.f.sgs).go i.f.ms i.most).1.ending.data, allF K rcF rs, repF I C' i.c (ps.map (·.1)), cpF ps] ∧
    S' = [own pb (.ins (He.ga K "Book") dxb (fl_Book (.ref lr) e (.ref ls))), own lr (.lst (rs.map fun p => V.ref p.1.r)), segsV rcS rs, own ls (.lst (es.map fun e => V.ref e.p)), segsV (stS K) es, C', own i.f.a (.lst i.f.sv)]) noEx
/-- what holds at each turn -/
structure ByC_Wheel (n B : Nat) (ss : List Str) (sok : Str → Prop) (ms : List Mach) (r0 : Run) (most : Nat) (m : Nat) (es : List StI) (r : Run) (rs : List (RcO × Rec)) (ps : List EH) : Prop where
  me : m = 2 * (most - rs.length) + (if r.ended.isSome = true then 0 else 1)
  go : r0.go ms most = ((r.go ms (most - rs.length)).1, rs.map (·.2) ++ (r.go ms (most - rs.length)).2)
  rr : RunR ms sok r
  rk : RunK r
  ln : r.pend.length + B * (most - rs.length) ≤ 3950
  rl : rs.length ≤ most
  st : es.map (·.s) = r.sts
  fit : ∀ e ∈ es, e.s.queues.length = e.as.length
  ok : ∀ p ∈ rs, p.1.Ok p.2
  pk : PsK ps
  pp : (ps.map (·.2)).Perm r.pend
section
variable {P : Program} {w : World} {K : PySem.W.Frag} {mg : Str → Option Value} {base : Heap}
theorem ok_Rider_outcome_now_Wheel (T : Tx K mg) (n : Nat) (ss : List Str) (sok : Str → Prop) (I : CalI K "Wheel") (G_Wheel_size : OkM P w K mg base 6 "Wheel" "size" ["self"] (spSizeI I)) : OkM P w K mg base 7 "Rider" "outcome_now" ["self"] (spOutNow_Wheel n ss sok I) := by
  refine T.f_Rider_outcome_now.okX sc_Rider_outcome_now (fun vs H Q E h => ?_) (fun cdv A outer s H vs Q E hr h => ?_)
  · obtain ⟨i, _, _, rfl, _⟩ := h
    rfl
  · have hu1 := hu_of hr; have hu0 := hr.units0; have hu64 := hr.units; have hu65 := hu65_of hr; have nd := sc_Rider_outcome_now.nd
    obtain ⟨⟨p, dx, pm, ls, c, C, lf, ev, es, ps, rs, r, ms⟩, Γ, S, rfl, z, ⟨hmd, hmr, hsk, hrr, hrk, hst, hfit, hpk, hpp, hok, hfs⟩, q, x⟩ := h
    dsimp only at z hmd hmr hsk hrr hrk hst hfit hpk hpp hok hfs q x
    dsimp only [rdF_Wheel] at hfs
    have f1 := hfs _ List.mem_cons_self
    have f3 := hfs _ (List.mem_cons_of_mem _ (List.mem_cons_of_mem _ List.mem_cons_self))
    refine ⟨_, (pss_cons (ps_if (pt_cmpR op_notN1 (pe_fldK (K := K) rfl (pv 0) rfl) pe_non (nomark _)) (pss_one (ps_ret (pe_fldK (K := K) rfl (pv 0) rfl)))
      pss_nil)
      (pss_cons (ps_if (pt_cmpR (op_eqK (K := K) rfl hu64) (pme0K (K := K) rfl T.m_Wheel_size T.c_Wheel G_Wheel_size hr (takes_of rfl rfl rfl rfl) (pe_fldK (K := K) rfl (pv 0) rfl)) pe_int (nomark _)) (pss_one (ps_ret (pe_tup (pa_cons pe_str pa_nil))))
      pss_nil)
      (pss_one (ps_ret (pe_tup (pa_cons pe_str pa_nil)))))), ?_⟩
    refine w_start (σ' := [some (.ref p)]) rfl z ?_
    dsimp only [rdS_Wheel, List.cons_append, List.nil_append] at q ⊢
    have hpsl : ps.length = r.pend.length := by have := hpp.length_eq; rwa [List.length_map] at this
    cases hen : r.ended with
    | some en =>
      rw [hen] at f3
      rw [ending_some hen] at q
      refine w_tupv (v := ev) (ds := match en with | .fin x => [.str "end", x.keyD] | .fault f x => [.str "fault", .str f.word, x.keyD] | .empty => [.str "empty"] | .cut => [.str "cut"]) (by cases en <;> (rw [show ∀ e, endD (some e) = e.data from fun _ => rfl, Ending.data] at f3; k_extra "m")) fun a ea => ?_
      subst ea
      k_extra "W"
      exact fun H z => q _ _ _ H ⟨rfl, rfl⟩ (z.fit (by dsimp only [endD] at f3; exact List.forall_mem_cons.mpr ⟨f3, sub_refl⟩) (by k_extra "dr"))
    | none =>
      rw [hen] at f3
      dsimp only [endD] at f3
      refine w_nonv (v := ev) (by k_extra "m") fun e0 => ?_
      subst e0
      k_extra "W"
      refine w_calMeth (ps := ps) (I := I) (C := C) (by k_extra "m") (by k_extra "t") (by simp) ?_
      k_extra "W"
      refine w_calSize (ps := ps) (C := C) (by k_extra "m") (by k_extra "t") ?_
      k_extra "W"
      refine w_ite (fun h0 => ?_) (fun h0 => ?_)
      · have hp0 : r.pend = [] := List.length_eq_zero_iff.mp (by omega)
        rw [ending_empty hen hp0] at q
        k_extra "W"
        exact fun H z => q _ _ _ H ⟨rfl, rfl⟩ (z.fit (by dsimp only [Ending.data]; k_extra "sub") (by k_extra "dr"))
      · have hp0 : r.pend ≠ [] := fun e => h0 (by rw [hpsl, e]; rfl)
        rw [ending_cut hen hp0] at q
        k_extra "W"
        exact fun H z => q _ _ _ H ⟨rfl, rfl⟩ (z.fit (by dsimp only [Ending.data]; k_extra "sub") (by k_extra "dr"))
theorem ok_by_calendar_Wheel (T : Tx K mg) (n : Nat) (ss : List Str) (sok : Str → Prop) (I : CalI K "Wheel") (G_Wheel_size : OkM P w K mg base 6 "Wheel" "size" ["self"] (spSizeI I)) (G_Wheel_put : OkM P w K mg base 6 "Wheel" "put" ["self", "key", "thing"] (spPutI I)) (G_Wheel_leave : OkM P w K mg base 6 "Wheel" "leave" ["self"] (spLeaveI I)) : OkG P w K mg base (4 * n + 12) "by_calendar" ["model", "signs", "most", "calendar"] (spByCal_Wheel n ss sok I) := by
  have G_Rider_init := ok_Rider_init_Wheel (P := P) (w := w) (base := base) T n ss sok I G_Wheel_put
  have G_Rider_ride := ok_Rider_ride_Wheel (P := P) (w := w) (base := base) T n ss sok I G_Wheel_put G_Wheel_leave
  have G_Rider_outcome_now := ok_Rider_outcome_now_Wheel (P := P) (w := w) (base := base) T n ss sok I G_Wheel_size
  have G_Book_init := ok_Book_init (P := P) (w := w) (base := base) T
  refine T.f_by_calendar.okX sc_by_calendar (fun vs H Q E h => ?_) (fun cdv A outer s H vs Q E hr h => ?_)
  · obtain ⟨i, _, _, rfl, _⟩ := h
    rfl
  · have hu1 := hu_of hr; have hu0 := hr.units0; have hu64 := hr.units; have hu65 := hu65_of hr; have nd := sc_by_calendar.nd
    obtain ⟨⟨⟨pm, ms, a, sv, sgs⟩, c, C, most, B⟩, Γ, S, rfl, z, ⟨hf, hrep, hB, hln, hmo⟩, q, x⟩ := h
    dsimp only at z hf hrep hB hln hmo q x
    have ⟨hmd, hmr, hbw, hsk, hsr, hsv, hsl⟩ := hf
    dsimp only at hmd hmr hbw hsk hsr hsv hsl
    refine ⟨_, (pss_cons (ps_set (i := 4) nd rfl (Or.inl rfl) (pmkK (K := K) rfl T.k_Rider G_Rider_init hr (takes_of rfl rfl rfl rfl) (pa_cons (pv 0) (pa_cons (pv 1) (pa_cons (pv 3) pa_nil)))))
      (pss_cons (ps_while (passes_of rfl) (PW.pt (pw_and (pt_cmpR op_isN1 (pe_fldK (K := K) rfl (pv 4) rfl) pe_non (nomark _)) (pw_and (pt_cmpR (op_gt) (pme0K (K := K) rfl T.m_Wheel_size T.c_Wheel G_Wheel_size hr (takes_of rfl rfl rfl rfl) (pv 3)) pe_int (nomark _)) (pw_and1 (pt_cmpR (op_ltK (K := K) rfl hu0) (pe_callB (call_lenK (K := K) rfl) (by rfl) T.b_len (by decide +kernel) (pa_cons (pe_fldK (K := K) rfl (pv 4) rfl) pa_nil)) (pv 2) (nomark _)))))) (pss_one (ps_expr (pme0K (K := K) rfl T.m_Rider_ride T.c_Rider G_Rider_ride hr (takes_of rfl rfl rfl rfl) (pv 4)))))
      (pss_one (ps_ret (pmkK (K := K) rfl T.k_Book G_Book_init hr (takes_of rfl rfl rfl rfl) (pa_cons (pe_fldK (K := K) rfl (pv 4) rfl) (pa_cons (pme0K (K := K) rfl T.m_Rider_outcome_now T.c_Rider G_Rider_outcome_now hr (takes_of rfl rfl rfl rfl) (pv 4)) (pa_cons (pe_fldK (K := K) rfl (pv 4) rfl) pa_nil)))))))), ?_⟩
    refine w_start (σ' := [some (.ref pm), some (.ref a), some (.int (most : Int)), some (.ref c), none]) rfl z ?_
    dsimp only [List.cons_append, List.nil_append] at q ⊢
    k_extra "W"
    refine w_made fun pr dxr => ?_
    refine w_don (⟨pr, dxr, c, C, ⟨pm, ms, a, sv, sgs⟩⟩ : RiI_Wheel I) (by k_extra "ts") ⟨hf, hrep⟩ ?_
    rintro _ Γ' S' ⟨⟨p, dx, pm', ls, c', C0, lf, ev0, es0, ps0, rs0, r0, ms'⟩, e1, e2, e3, e4, e5, e6, g1, g2, g3, g4, rfl, rfl, rfl⟩
    dsimp only at e1 e2 e3 e4 e5 e6 g1 g2 g3 g4
    subst e1 e2 e3 e4 e5 e6
    dsimp only [rdF_Wheel, rdS_Wheel, List.cons_append, List.nil_append]
    k_extra "W"
    refine w_while (ω := Unit) (ι := RdI_Wheel I) (fun k g => g.p = p ∧ g.pm = pm' ∧ g.c = c' ∧ g.ms = ms' ∧ ByC_Wheel n B ss sok ms' (firstRun ms' sgs) most k g.es g.r g.rs g.ps) (fun _ => [some (.ref pm'), some (.ref a), some (.int (most : Int)), some (.ref c'), some (.ref p)])
      (fun g => rdF_Wheel g ++ Γ) (fun g => rdS_Wheel g ++ own a (.lst sv) :: S) (2 * most + (if (firstRun ms' sgs).ended.isSome = true then 0 else 1)) ⟨p, dx, pm', ls, c', C0, lf, ev0, es0, ps0, [], firstRun ms' sgs, ms'⟩
      ⟨rfl, rfl, rfl, rfl, ⟨rfl, rfl, firstRun_ok hmr hbw hsr, firstRun_k, by show (hapsFrom 0 sgs).length + _ ≤ _; rw [haps_len]; exact hln, Nat.zero_le _, g1, g2, (fun _ h => nomatch h), g3, g4⟩⟩ rfl (by dsimp only [rdF_Wheel, List.cons_append, List.nil_append]; k_extra "sub") (by dsimp only [rdS_Wheel, List.cons_append, List.nil_append]; k_extra "dr") ?_
    rintro k ⟨p, dx, pm, ls, c, C1, lf, ev, es, ps, rs, r1, ms⟩ ⟨k1, k2, k3, k4, hC⟩
    dsimp only at k1 k2 k3 k4 hC
    subst k1 k2 k3 k4
    dsimp only [rdF_Wheel, rdS_Wheel, List.cons_append, List.nil_append]
    have hpsl : ps.length = r1.pend.length := by have := hC.pp.length_eq; rwa [List.length_map] at this
    have hdl := hC.rl
    cases hen : r1.ended with
    | some en =>
      refine w_tupv (v := ev) (ds := match en with | .fin x => [.str "end", x.keyD] | .fault f x => [.str "fault", .str f.word, x.keyD] | .empty => [.str "empty"] | .cut => [.str "cut"]) (by cases en <;> (rw [show ∀ e, endD (some e) = e.data from fun _ => rfl, Ending.data]; k_extra "m")) fun a2 ea => ?_
      subst ea
      obtain ⟨ev, hev⟩ : ∃ ev, ev = V.ref a2 := ⟨_, rfl⟩
      rw [← hev]
      have hgo := hC.go
      rw [go_over (r := r1) (.inl (by rw [hen]; rfl)), List.append_nil] at hgo
      rw [hev]
      k_extra "W"
      rw [← hev]
      refine w_don (⟨p, dx, pm, ls, c, C1, lf, ev, es, ps, rs, r1, ms⟩ : RdI_Wheel I) (by k_extra "ts") ⟨hmd.mono (by k_extra "sub"), hmr, hsk, hC.rr, hC.rk, hC.st, hC.fit, hC.pk, hC.pp, hC.ok, by dsimp only [rdF_Wheel]; rw [hen]; k_extra "sub"⟩ ?_
      rintro v Γ' S' ⟨rfl, rfl⟩
      dsimp only [rdS_Wheel, List.cons_append, List.nil_append]
      k_extra "W"
      refine w_made fun pb dxb => ?_
      refine w_bookInit ?_
      k_extra "W"
      exact fun H z => q _ _ _ H ⟨pb, dxb, lf, ls, v, es, rs, C1, ps, rfl, by rw [hgo]; exact hC.st, hC.fit, by rw [hgo], hC.ok, hC.pk, by have := hC.ln; omega, rfl, rfl⟩ (z.fit (by rw [hgo]; k_extra "sub") (by k_extra "dr"))
    | none =>
      refine w_nonv (v := ev) (by dsimp only [endD]; k_extra "m") fun e0 => ?_
      subst e0
      obtain ⟨ev, hev⟩ : ∃ ev, ev = V.non := ⟨_, rfl⟩
      k_extra "W"
      refine w_calMeth (ps := ps) (I := I) (C := C1) (by k_extra "m") (by k_extra "t") (by simp) ?_
      k_extra "W"
      refine w_calSize (ps := ps) (C := C1) (by k_extra "m") (by k_extra "t") ?_
      k_extra "W"
      refine w_ite (p := 0 < ((ps.length : Nat) : Int)) (fun hgt => ?_) (fun hng => ?_)
      · have hp1 : r1.pend ≠ [] := List.length_pos_iff.mp (by omega)
        k_extra "W"
        refine w_lenL (by k_extra "at") ?_
        rw [List.length_map]
        k_extra "W"
        refine w_ite (p := ((rs.length : Nat) : Int) < (most : Int)) (fun hlt => ?_) (fun hge => ?_)
        · refine w_turn ?_
          k_extra "W"
          refine w_don (⟨p, dx, pm, ls, c, C1, lf, .non, es, ps, rs, r1, ms⟩ : RdI_Wheel I) (by k_extra "ts") ⟨⟨hmd.mono (by k_extra "sub"), hmr, hsk, hC.rr, hC.rk, hC.st, hC.fit, hC.pk, hC.pp, hC.ok, by dsimp only [rdF_Wheel]; rw [hen]; k_extra "sub"⟩, hen, hp1, by have := hC.ln; dsimp only; omega, by dsimp only; omega⟩ ?_
          obtain ⟨k', hk'⟩ : ∃ k', most - rs.length = k' + 1 := ⟨most - rs.length - 1, by omega⟩
          have hgo := hC.go
          have hcl := hC.ln
          have hac := act_lenB_Wheel hB hC.rr hp1
          have hme := hC.me
          rw [hen] at hme
          simp only [Option.isSome_none, Bool.false_eq_true, if_false] at hme
          rw [hk'] at hcl
          have hBk : B * (k' + 1) = B * k' + B := Nat.mul_succ B k'
          rintro v Γ' S' ⟨⟨p2, dx2, pm2, ls2, c2, C2, lf2, ev2, es2, ps2, rs2, r2, ms2⟩, m1, m2, m3, m4, m5, m6, m7, m8, m9, m10, m11, rfl, rfl, rfl⟩
          dsimp only at m1 m2 m3 m4 m5 m6 m7 m8 m9 m10 m11
          subst m1 m2 m3 m4 m5
          have hrk2 := act_k hC.rr hC.rk hp1
          cases h3 : (r1.act ms2).2 with
          | none =>
            rw [h3] at m6
            have hrl : rs2.length = rs.length := by
              have := congrArg List.length m6
              rw [List.length_append, List.length_map, List.length_map] at this
              exact this
            have hs := act_none hC.rr hp1 h3
            have hac0 := act_len_none hC.rr hp1 h3
            k_extra "W"
            refine w_less (2 * (most - rs.length)) (by omega) ?_
            refine w_again ⟨p2, dx2, pm2, ls2, c2, C2, lf2, ev2, es2, ps2, rs2, (r1.act ms2).1, ms2⟩ ⟨rfl, rfl, rfl, rfl, ⟨by rw [if_pos hs, Nat.add_zero, hrl], ?_, hC.rr.act hmr hsk hp1, hrk2, by dsimp only; rw [hrl, hk']; omega, by dsimp only; omega, m7, m8, m11, m9, m10⟩⟩ rfl (by dsimp only [rdF_Wheel, List.cons_append, List.nil_append]; k_extra "sub") (by dsimp only [rdS_Wheel, List.cons_append, List.nil_append]; k_extra "dr")
            dsimp only
            rw [hgo, hk', go_none hen hp1 h3, go_over (r := (r1.act ms2).1) (.inl hs), m6]
            simp
          | some cc =>
            rw [h3] at m6
            have hrl : rs2.length = rs.length + 1 := by
              have := congrArg List.length m6
              rw [List.length_append, List.length_map, List.length_map] at this
              exact this
            have hk2 : most - rs2.length = k' := by omega
            k_extra "W"
            refine w_less (2 * k' + (if (r1.act ms2).1.ended.isSome = true then 0 else 1)) (by split <;> omega) ?_
            refine w_again ⟨p2, dx2, pm2, ls2, c2, C2, lf2, ev2, es2, ps2, rs2, (r1.act ms2).1, ms2⟩ ⟨rfl, rfl, rfl, rfl, ⟨by dsimp only; rw [hk2], ?_, hC.rr.act hmr hsk hp1, hrk2, by dsimp only; rw [hk2]; omega, by dsimp only; omega, m7, m8, m11, m9, m10⟩⟩ rfl (by dsimp only [rdF_Wheel, List.cons_append, List.nil_append]; k_extra "sub") (by dsimp only [rdS_Wheel, List.cons_append, List.nil_append]; k_extra "dr")
            dsimp only
            rw [hgo, hk', hk2, go_some hen hp1 h3, m6, List.append_assoc]
            rfl
        · have hk0 : most - rs.length = 0 := by omega
          have hgo := hC.go
          rw [hk0] at hgo
          rw [show r1.go ms 0 = (r1, []) from rfl, List.append_nil] at hgo
          k_extra "W"
          rw [← hev]
          refine w_don (⟨p, dx, pm, ls, c, C1, lf, ev, es, ps, rs, r1, ms⟩ : RdI_Wheel I) (by k_extra "ts") ⟨hmd.mono (by k_extra "sub"), hmr, hsk, hC.rr, hC.rk, hC.st, hC.fit, hC.pk, hC.pp, hC.ok, by dsimp only [rdF_Wheel]; rw [hen]; k_extra "sub"⟩ ?_
          rintro v Γ' S' ⟨rfl, rfl⟩
          dsimp only [rdS_Wheel, List.cons_append, List.nil_append]
          k_extra "W"
          refine w_made fun pb dxb => ?_
          refine w_bookInit ?_
          k_extra "W"
          exact fun H z => q _ _ _ H ⟨pb, dxb, lf, ls, v, es, rs, C1, ps, rfl, by rw [hgo]; exact hC.st, hC.fit, by rw [hgo], hC.ok, hC.pk, by have := hC.ln; omega, rfl, rfl⟩ (z.fit (by rw [hgo]; k_extra "sub") (by k_extra "dr"))
      · have hp1 : r1.pend = [] := List.length_eq_zero_iff.mp (by omega)
        have hgo := hC.go
        rw [go_over (r := r1) (.inr hp1), List.append_nil] at hgo
        k_extra "W"
        rw [← hev]
        refine w_don (⟨p, dx, pm, ls, c, C1, lf, ev, es, ps, rs, r1, ms⟩ : RdI_Wheel I) (by k_extra "ts") ⟨hmd.mono (by k_extra "sub"), hmr, hsk, hC.rr, hC.rk, hC.st, hC.fit, hC.pk, hC.pp, hC.ok, by dsimp only [rdF_Wheel]; rw [hen]; k_extra "sub"⟩ ?_
        rintro v Γ' S' ⟨rfl, rfl⟩
        dsimp only [rdS_Wheel, List.cons_append, List.nil_append]
        k_extra "W"
        refine w_made fun pb dxb => ?_
        refine w_bookInit ?_
        k_extra "W"
        exact fun H z => q _ _ _ H ⟨pb, dxb, lf, ls, v, es, rs, C1, ps, rfl, by rw [hgo]; exact hC.st, hC.fit, by rw [hgo], hC.ok, hC.pk, by have := hC.ln; omega, rfl, rfl⟩ (z.fit (by rw [hgo]; k_extra "sub") (by k_extra "dr"))
end
end Mo
namespace Mo
open PySem PySem.Spec PyProof.Rows L2
/-! ### calendar.py -/
def calO (K : PySem.W.Frag) (P : CalP) : HO := .ins (He.ga K "Calendar") P.dx (fl_Calendar (.ref P.row) (.ref P.th))
/-- a calendar's objects -/
def calV (K : PySem.W.Frag) (P : CalP) (b : Bool) (es : List Ent) : Vo := [(P.c, Eq (calO K P)), (P.row, Eq (.lst (es.map (·.v)))), (P.th, Thg b es)]
def spCalInit (K : PySem.W.Frag) : Sp := fun vs H Q _ => ∃ (G : Hp) (L : Vo) (c dx : Addr) (b : Bool), vs = [.ref c] ∧ Hd G H ((c, Eq (.ins (He.ga K "Calendar") dx [])) :: L) ∧
  ∀ P H', P.c = c → Hd G H' (calV K P b [] ++ L) → (∀ a o, a ≠ c → H a = some o → H' a = some o) → Q .non H'
def spPlace (K : PySem.W.Frag) : Sp := fun vs H Q _ => ∃ (b : Bool) (G : Hp) (P : CalP) (es : List Ent) (x : Ent), vs = [.ref P.c, x.v] ∧ Ext G H ∧ H P.c = some (calO K P) ∧ H P.row = some (.lst (es.map (·.v))) ∧ EsOk b G es ∧ GoodK b G x ∧ es.length ≤ 10000 ∧
  ∀ n : Nat, n ≤ es.length → (∀ i y, i < n → es[i]? = some y → HT.lexLt y.k x.k = true) → (∀ i y, n ≤ i → es[i]? = some y → HT.lexLt y.k x.k = false) → Q (.int (n : Int)) H
def spPutC (K : PySem.W.Frag) : Sp := fun vs H Q _ => ∃ (b : Bool) (G : Hp) (L : Vo) (P : CalP) (es : List Ent) (x : Ent), vs = [.ref P.c, x.v, x.t] ∧ Hd G H (calV K P b es ++ L) ∧ EsOk b G es ∧ GoodK b G x ∧ x.k ∉ es.map (·.k) ∧ es.length ≤ 5000 ∧
  ∀ H', Hd G H' (calV K P b (insE x es) ++ L) → (∀ a o, a ≠ P.row → a ≠ P.th → H a = some o → H' a = some o) → Q .non H'
def spSize (K : PySem.W.Frag) : Sp := fun vs H Q _ => ∃ (P : CalP) (es : List Ent), vs = [.ref P.c] ∧ H P.c = some (calO K P) ∧ H P.row = some (.lst (es.map (·.v))) ∧ Q (.int (es.length : Int)) H
def spLeast (K : PySem.W.Frag) : Sp := fun vs H Q _ => ∃ (P : CalP) (es : List Ent), vs = [.ref P.c] ∧ H P.c = some (calO K P) ∧ H P.row = some (.lst (es.map (·.v))) ∧ Q (leastV es) H
def spLeave (K : PySem.W.Frag) : Sp := fun vs H Q _ => ∃ (b : Bool) (G : Hp) (L : Vo) (P : CalP) (es : List Ent), vs = [.ref P.c] ∧ Hd G H (calV K P b es ++ L) ∧ EsOk b G es ∧ es.length ≤ 10000 ∧
  (es = [] → Q .non H) ∧ (∀ e r, es = e :: r → ∀ p H', Hd (upd G p (.tup [e.v, e.t])) H' (calV K P b r ++ L) → G p = none → Q (.ref p) H')
section
variable {P : Program} {w : World} {K : PySem.W.Frag} {mg : Str → Option Value} {base : Heap}
theorem ok_Calendar_init (T : Tx K mg) : OkM P w K mg base 1 "Calendar" "__init__" ["self"] (spCalInit K) := by
  refine T.f_Calendar_init.okX sc_Calendar_init (fun vs H Q E h => ?_) (fun cdv A outer s H vs Q E hr h => ?_)
  · obtain ⟨G, L, c, dx, b, rfl, _⟩ := h
    rfl
  · have hu1 := hu_of hr; have hu0 := hr.units0; have hu64 := hr.units; have hu65 := hu65_of hr; have nd := sc_Calendar_init.nd
    obtain ⟨G, L, c, dx, b, rfl, z, q⟩ := h
    refine ⟨_, (pss_cons (ps_fldK (K := K) rfl (pv 0) (pe_lst pa_nil) rfl)
      (pss_one (ps_fldK (K := K) rfl (pv 0) pe_dnew rfl))), ?_⟩
    refine go_start (σ' := [some (.ref c)]) rfl ?_
    k_extra "we"
    refine go_sz rfl fun l hl => ?_
    have z1 := z.new hl (φ := Eq (.lst [])) rfl
    k_extra "we"
    refine go_sfldL (z1.eq (List.mem_cons_of_mem _ List.mem_cons_self)) T.c_Calendar T.n_Calendar_row rfl ?_
    rw [in_Calendar_0]
    have z2 := z1.set (o' := .ins (He.ga K "Calendar") dx [(("row" : Str), V.ref l)]) (ψ := Eq (.ins (He.ga K "Calendar") dx [(("row" : Str), V.ref l)])) 1 rfl rfl
    have k2 : ∀ a o, a ≠ c → H a = some o → (upd (upd H l (.lst [])) c (.ins (He.ga K "Calendar") dx [(("row" : Str), V.ref l)])) a = some o := fun a o n e => by rw [upd_ne n, upd_ne (ne_of_none e hl)]; exact e
    revert z2 k2
    generalize upd (upd H l (.lst [])) c (.ins (He.ga K "Calendar") dx [(("row" : Str), V.ref l)]) = H2
    intro z2 k2
    k_extra "we"
    have fin : ∀ d o, H2 d = none → Thg b [] o → tSeq tNext tNext { nx := fun _ H' => Q .non H', rt := Q } [some (.ref c)] (upd (upd H2 d o) c (.ins (He.ga K "Calendar") dx (fl_Calendar (.ref l) (.ref d)))) := fun d o hd ht => by
      have z3 := z2.new hd (φ := Thg b []) ht
      have z4 := z3.set (o' := .ins (He.ga K "Calendar") dx (fl_Calendar (.ref l) (.ref d))) (ψ := Eq (.ins (He.ga K "Calendar") dx (fl_Calendar (.ref l) (.ref d)))) 2 rfl rfl
      k_extra "we"
      refine q ⟨c, l, d, dx⟩ _ rfl (z4.perm ?_) fun a o n e => ?_
      · exact (List.Perm.swap _ _ _).trans (((List.Perm.swap _ _ _).cons _).trans (List.Perm.swap _ _ _))
      · have e2 := k2 a o n e
        rw [upd_ne n, upd_ne (ne_of_none e2 hd)]
        exact e2
    cases b with
    | true =>
      refine go_dT fun d hd => ?_
      k_extra "we"
      have z3 := z2.new hd (φ := Eq (.dT [])) rfl
      refine go_sfldL (z3.eq (List.mem_cons_of_mem _ (List.mem_cons_of_mem _ List.mem_cons_self))) T.c_Calendar T.n_Calendar_things rfl ?_
      rw [in_Calendar_1]
      exact fin d (.dT []) hd ⟨[], rfl, .refl _⟩
    | false =>
      refine go_dK fun d hd => ?_
      k_extra "we"
      have z3 := z2.new hd (φ := Eq (.dK [])) rfl
      refine go_sfldL (z3.eq (List.mem_cons_of_mem _ (List.mem_cons_of_mem _ List.mem_cons_self))) T.c_Calendar T.n_Calendar_things rfl ?_
      rw [in_Calendar_1]
      exact fin d (.dK []) hd ⟨[], rfl, .refl _⟩
theorem ok_Calendar_place (T : Tx K mg) : OkM P w K mg base 1 "Calendar" "place" ["self", "key"] (spPlace K) := by
  refine T.f_Calendar_place.okX sc_Calendar_place (fun vs H Q E h => ?_) (fun cdv A outer s H vs Q E hr h => ?_)
  · obtain ⟨b, G, P, es, x, rfl, _⟩ := h
    rfl
  · have hu1 := hu_of hr; have hu0 := hr.units0; have hu64 := hr.units; have hu65 := hu65_of hr; have nd := sc_Calendar_place.nd
    obtain ⟨b, G, P, es, x, rfl, xG, hc, hr0, he, hx, hl, q⟩ := h
    refine ⟨_, (pss_cons (ps_set (i := 2) nd rfl (Or.inl rfl) pe_int)
      (pss_cons (ps_set (i := 3) nd rfl (Or.inl rfl) (pe_callB (call_lenK (K := K) rfl) (by rfl) T.b_len (by decide +kernel) (pa_cons (pe_fldK (K := K) rfl (pv 0) rfl) pa_nil)))
      (pss_cons (ps_while (passes_of rfl) (pt_cmpR (op_ltK (K := K) rfl hu0) (pv 2) (pv 3) (nomark _)) (pss_cons (ps_set (i := 4) nd rfl (Or.inl rfl) (pe_op op_fdivX (pe_op (op_addK (K := K) rfl) (pv 2) (pv 3)) pe_int))
      (pss_one (ps_if (pt_cmpR (op_ltK (K := K) rfl hu0) (pe_ix (ix_anyK (K := K) rfl hu1) (pe_fldK (K := K) rfl (pv 0) rfl) (pv 4) (fun _ _ => rfl)) (pv 1) (nomark _)) (pss_one (ps_set (i := 2) nd rfl (Or.inl rfl) (pe_op (op_addK (K := K) rfl) (pv 4) pe_int)))
      (pss_one (ps_set (i := 3) nd rfl (Or.inl rfl) (pv 4)))))))
      (pss_one (ps_ret (pv 2)))))), ?_⟩
    refine go_start (σ' := [some (.ref P.c), some x.v, none, none, none]) rfl ?_
    k_extra "we"
    refine go_fldL hc T.c_Calendar T.n_Calendar_row lk_Calendar_row ?_
    k_extra "we"
    refine go_lenL (SqL.of hr0) ?_
    rw [List.length_map]
    k_extra "we"
    refine go_while (fun m σ H' => H' = H ∧ ∃ (lo hi : Nat) (u : Option V), σ = [some (.ref P.c), some x.v, some (.int (lo : Int)), some (.int (hi : Int)), u] ∧ lo ≤ hi ∧ hi ≤ es.length ∧ m = hi - lo ∧
      (∀ i y, i < lo → es[i]? = some y → HT.lexLt y.k x.k = true) ∧ (∀ i y, hi ≤ i → es[i]? = some y → HT.lexLt y.k x.k = false)) es.length
      ⟨rfl, 0, es.length, none, rfl, Nat.zero_le _, Nat.le_refl _, rfl, fun i y h => absurd h (Nat.not_lt_zero _), fun i y h e => by rw [List.getElem?_eq_none h] at e; cases e⟩ ?_
    rintro m σ' H' ⟨rfl, lo, hi, u, rfl, h1, h2, rfl, h3, h4⟩
    k_extra "we"
    refine go_ite (fun hlt => ?_) (fun hge => ?_)
    · have hlt2 : lo < hi := by omega
      refine ⟨_, fun _ _ h => h, ?_⟩
      k_extra "we"
      refine go_div 2 (by decide) (by decide) ?_
      rw [half]
      have hm : (lo + hi) / 2 < es.length := by omega
      have em : es[(lo + hi) / 2]? = some es[(lo + hi) / 2] := List.getElem?_eq_getElem hm
      k_extra "we"
      refine go_fldL hc T.c_Calendar T.n_Calendar_row lk_Calendar_row ?_
      k_extra "we"
      refine go_subL (SqL.of hr0) (atI_nat (v := es[(lo + hi) / 2].v) (by rw [List.getElem?_map, em]; rfl)) ?_
      k_extra "we"
      refine go_ltE xG (he.good _ (List.mem_of_getElem? em)) hx ?_
      k_extra "we"
      cases hb : HT.lexLt es[(lo + hi) / 2].k x.k with
      | true =>
        k_extra "we"
        refine ⟨_, by omega, rfl, (lo + hi) / 2 + 1, hi, _, rfl, by omega, h2, rfl, fun i y hi2 hy => ?_, h4⟩
        rcases Nat.lt_or_ge i ((lo + hi) / 2) with z | z
        · obtain ⟨hil, hie⟩ := List.getElem?_eq_some_iff.mp hy
          have := List.pairwise_iff_getElem.mp he.asc i ((lo + hi) / 2) hil hm z
          rw [hie] at this
          exact lex_trans this hb
        · have : i = (lo + hi) / 2 := by omega
          subst this
          rw [em] at hy
          cases hy
          exact hb
      | false =>
        k_extra "we"
        refine ⟨_, by omega, rfl, lo, (lo + hi) / 2, _, rfl, by omega, by omega, rfl, h3, fun i y hi2 hy => ?_⟩
        rcases Nat.lt_or_ge ((lo + hi) / 2) i with z | z
        · obtain ⟨hil, hie⟩ := List.getElem?_eq_some_iff.mp hy
          have := List.pairwise_iff_getElem.mp he.asc ((lo + hi) / 2) i hm hil z
          rw [hie] at this
          cases q2 : HT.lexLt y.k x.k with
          | false => rfl
          | true =>
            have := lex_trans this q2
            rw [hb] at this
            cases this
        · have : i = (lo + hi) / 2 := by omega
          subst this
          rw [em] at hy
          cases hy
          exact hb
    · have : lo = hi := by omega
      subst this
      k_extra "we"
      exact q lo h2 h3 h4
theorem ok_Calendar_put (T : Tx K mg) : OkM P w K mg base 2 "Calendar" "put" ["self", "key", "thing"] (spPutC K) := by
  have G_Calendar_place := ok_Calendar_place (P := P) (w := w) (base := base) T
  refine T.f_Calendar_put.okX sc_Calendar_put (fun vs H Q E h => ?_) (fun cdv A outer s H vs Q E hr h => ?_)
  · obtain ⟨b, G, L, P, es, x, rfl, _⟩ := h
    rfl
  · have hu1 := hu_of hr; have hu0 := hr.units0; have hu64 := hr.units; have hu65 := hu65_of hr; have nd := sc_Calendar_put.nd
    obtain ⟨b, G, L, P, es, x, rfl, z, he, hx, hn, hl, q⟩ := h
    refine ⟨_, (pss_cons (ps_expr (pe_bmK (K := K) rfl PySem.F.plainAttrs_list PySem.F.slot_list_insert PySem.F.type_list_insert mt_insertN (pe_fldK (K := K) rfl (pv 0) rfl) (pa_cons (pmeK (K := K) rfl T.m_Calendar_place T.c_Calendar G_Calendar_place hr (takes_of rfl rfl rfl rfl) (pv 0) (pa_cons (pv 1) pa_nil)) (pa_cons (pv 1) pa_nil))))
      (pss_one (ps_asg (pv 2) (pg_sub (pe_fldK (K := K) rfl (pv 0) rfl) (pv 1) (set_any hu1))))), ?_⟩
    refine go_start (σ' := [some (.ref P.c), some x.v, some x.t]) rfl ?_
    have hc : H P.c = some (calO K P) := z.eq List.mem_cons_self
    have hr0 : H P.row = some (.lst (es.map (·.v))) := z.eq (List.mem_cons_of_mem _ List.mem_cons_self)
    k_extra "we"
    refine go_fldL hc T.c_Calendar T.n_Calendar_row lk_Calendar_row ?_
    k_extra "we"
    refine go_tyL (SqL.of hr0) ?_
    k_extra "we"
    refine go_methL hc no_Calendar_place ?_
    k_extra "we"
    refine ⟨b, G, P, es, x, rfl, z.ex, hc, hr0, he, hx, by omega, fun n n1 n2 n3 => ?_⟩
    k_extra "we"
    refine go_insert hr0 (by rw [List.length_map]; exact n1) (by rw [List.length_map]; omega) ?_
    have e1 : (es.map (·.v)).take n ++ [x.v] ++ (es.map (·.v)).drop n = (insE x es).map (·.v) := by
      rw [insE_at n1 n2 n3, List.map_append, List.map_take, List.map_cons, List.map_drop, List.append_assoc]
      rfl
    rw [e1]
    have z1 := z.set (o' := .lst ((insE x es).map (·.v))) (ψ := Eq (.lst ((insE x es).map (·.v)))) 1 rfl rfl
    have k1 : ∀ a o, a ≠ P.row → H a = some o → upd H P.row (.lst ((insE x es).map (·.v))) a = some o := fun a o n e => by rw [upd_ne n]; exact e
    revert z1 k1
    generalize upd H P.row (.lst ((insE x es).map (·.v))) = H1
    intro z1 k1
    have hc1 : H1 P.c = some (calO K P) := z1.eq List.mem_cons_self
    k_extra "we"
    refine go_fldL hc1 T.c_Calendar T.n_Calendar_things lk_Calendar_things ?_
    k_extra "we"
    obtain ⟨o, ho, ht⟩ := z1.get (p := P.th) (φ := Thg b es) (List.mem_cons_of_mem _ (List.mem_cons_of_mem _ List.mem_cons_self))
    obtain ⟨o', t1, t2⟩ := thg_put z1.ex ho ht he.asc he.good hx hn (by omega)
    refine go_setD t2 ?_
    refine q _ (z1.set (o' := o') (ψ := Thg b (insE x es)) 2 rfl t1) fun a o n1 n2 e => ?_
    rw [upd_ne n2]
    exact k1 a o n1 e
theorem ok_Calendar_size (T : Tx K mg) : OkM P w K mg base 1 "Calendar" "size" ["self"] (spSize K) := by
  refine T.f_Calendar_size.okX sc_Calendar_size (fun vs H Q E h => ?_) (fun cdv A outer s H vs Q E hr h => ?_)
  · obtain ⟨P, es, rfl, _⟩ := h
    rfl
  · have hu1 := hu_of hr; have hu0 := hr.units0; have hu64 := hr.units; have hu65 := hu65_of hr; have nd := sc_Calendar_size.nd
    obtain ⟨P, es, rfl, hc, hr0, q⟩ := h
    refine ⟨_, (pss_one (ps_ret (pe_callB (call_lenK (K := K) rfl) (by rfl) T.b_len (by decide +kernel) (pa_cons (pe_fldK (K := K) rfl (pv 0) rfl) pa_nil)))), ?_⟩
    refine go_start (σ' := [some (.ref P.c)]) rfl ?_
    k_extra "we"
    refine go_fldL hc T.c_Calendar T.n_Calendar_row lk_Calendar_row ?_
    k_extra "we"
    refine go_lenL (SqL.of hr0) ?_
    rw [List.length_map]
    exact q
theorem ok_Calendar_least (T : Tx K mg) : OkM P w K mg base 1 "Calendar" "least" ["self"] (spLeast K) := by
  refine T.f_Calendar_least.okX sc_Calendar_least (fun vs H Q E h => ?_) (fun cdv A outer s H vs Q E hr h => ?_)
  · obtain ⟨P, es, rfl, _⟩ := h
    rfl
  · have hu1 := hu_of hr; have hu0 := hr.units0; have hu64 := hr.units; have hu65 := hu65_of hr; have nd := sc_Calendar_least.nd
    obtain ⟨P, es, rfl, hc, hr0, q⟩ := h
    refine ⟨_, (pss_cons (ps_if (pt_cmpR (op_eqK (K := K) rfl hu64) (pe_callB (call_lenK (K := K) rfl) (by rfl) T.b_len (by decide +kernel) (pa_cons (pe_fldK (K := K) rfl (pv 0) rfl) pa_nil)) pe_int (nomark _)) (pss_one (ps_ret pe_non))
      pss_nil)
      (pss_one (ps_ret (pe_ix (ix_anyK (K := K) rfl hu1) (pe_fldK (K := K) rfl (pv 0) rfl) pe_int (fun _ _ => rfl))))), ?_⟩
    refine go_start (σ' := [some (.ref P.c)]) rfl ?_
    k_extra "we"
    refine go_fldL hc T.c_Calendar T.n_Calendar_row lk_Calendar_row ?_
    k_extra "we"
    refine go_lenL (SqL.of hr0) ?_
    rw [List.length_map]
    k_extra "we"
    cases es with
    | nil =>
      refine go_ite (fun _ => ?_) (fun h => absurd rfl h)
      k_extra "we"
      exact q
    | cons e r =>
      refine go_ite (fun h => ?_) (fun _ => ?_)
      · rw [List.length_cons] at h
        omega
      · k_extra "we"
        refine go_fldL hc T.c_Calendar T.n_Calendar_row lk_Calendar_row ?_
        k_extra "we"
        exact go_subL (SqL.of hr0) (atI_nat (j := 0) rfl) q
theorem ok_Calendar_leave (T : Tx K mg) : OkM P w K mg base 1 "Calendar" "leave" ["self"] (spLeave K) := by
  refine T.f_Calendar_leave.okX sc_Calendar_leave (fun vs H Q E h => ?_) (fun cdv A outer s H vs Q E hr h => ?_)
  · obtain ⟨b, G, L, P, es, rfl, _⟩ := h
    rfl
  · have hu1 := hu_of hr; have hu0 := hr.units0; have hu64 := hr.units; have hu65 := hu65_of hr; have nd := sc_Calendar_leave.nd
    obtain ⟨b, G, L, P, es, rfl, z, he, hl, q1, q2⟩ := h
    refine ⟨_, (pss_cons (ps_if (pt_cmpR (op_eqK (K := K) rfl hu64) (pe_callB (call_lenK (K := K) rfl) (by rfl) T.b_len (by decide +kernel) (pa_cons (pe_fldK (K := K) rfl (pv 0) rfl) pa_nil)) pe_int (nomark _)) (pss_one (ps_ret pe_non))
      pss_nil)
      (pss_cons (ps_set (i := 1) nd rfl (Or.inl rfl) (pe_bmK (K := K) rfl PySem.F.plainAttrs_list PySem.F.slot_list_pop PySem.F.type_list_pop mt_popAt (pe_fldK (K := K) rfl (pv 0) rfl) (pa_cons pe_int pa_nil)))
      (pss_one (ps_ret (pe_tup (pa_cons (pv 1) (pa_cons (pe_bmK (K := K) rfl PySem.F.plainAttrs_dict PySem.F.slot_dict_pop PySem.F.type_dict_pop (mt_dpop1 hu1) (pe_fldK (K := K) rfl (pv 0) rfl) (pa_cons (pv 1) pa_nil)) pa_nil))))))), ?_⟩
    refine go_start (σ' := [some (.ref P.c), none]) rfl ?_
    have hc : H P.c = some (calO K P) := z.eq List.mem_cons_self
    have hr0 : H P.row = some (.lst (es.map (·.v))) := z.eq (List.mem_cons_of_mem _ List.mem_cons_self)
    k_extra "we"
    refine go_fldL hc T.c_Calendar T.n_Calendar_row lk_Calendar_row ?_
    k_extra "we"
    refine go_lenL (SqL.of hr0) ?_
    rw [List.length_map]
    k_extra "we"
    cases es with
    | nil =>
      refine go_ite (fun _ => ?_) (fun h => absurd rfl h)
      k_extra "we"
      exact q1 rfl
    | cons e r =>
      refine go_ite (fun h => ?_) (fun _ => ?_)
      · rw [List.length_cons] at h
        omega
      · k_extra "we"
        refine go_fldL hc T.c_Calendar T.n_Calendar_row lk_Calendar_row ?_
        k_extra "we"
        refine go_tyL (SqL.of hr0) ?_
        k_extra "we"
        refine go_popAt (n := 0) rfl hr0 (by rw [List.length_map]; exact hl) rfl ?_
        have z1 := z.set (o' := .lst (r.map (·.v))) (ψ := Eq (.lst (r.map (·.v)))) 1 rfl rfl
        have e1 : ((e :: r).map (·.v)).eraseIdx 0 = r.map (·.v) := rfl
        rw [e1]
        revert z1
        generalize upd H P.row (.lst (r.map (·.v))) = H1
        intro z1
        have hc1 : H1 P.c = some (calO K P) := z1.eq List.mem_cons_self
        k_extra "we"
        refine go_fldL hc1 T.c_Calendar T.n_Calendar_things lk_Calendar_things ?_
        obtain ⟨o, ho, ht⟩ := z1.get (p := P.th) (φ := Thg b (e :: r)) (List.mem_cons_of_mem _ (List.mem_cons_of_mem _ List.mem_cons_self))
        obtain ⟨o', t1, t2⟩ := thg_pop (x := e) z1.ex ho ht he.asc he.good (he.good e List.mem_cons_self) (getE_of (asc_nodup he.asc) List.mem_cons_self)
        rw [remE_head he.asc] at t1
        have ty : tyV K "dict" (.ref P.th) H1 := by
          rcases thg_len (n := 0) (kvs := []) ht with ⟨kvs, rfl, _⟩ | ⟨kvs, rfl, _⟩
          · exact .inr (.inr (.inl ⟨rfl, .inr ⟨kvs, ho⟩⟩))
          · exact .inr (.inr (.inl ⟨rfl, .inl ⟨kvs, ho⟩⟩))
        refine ⟨ty, ?_⟩
        k_extra "we"
        refine go_dpop t2 ?_
        have z2 := z1.set (o' := o') (ψ := Thg b r) 2 rfl t1
        k_extra "we"
        refine go_sz rfl fun p hp => ?_
        exact q2 e r rfl p _ (z2.fix hp) (z2.gno hp)
end
end Mo
namespace Mo
open PySem PySem.Spec PyProof.Rows L2
/-! ### a Calendar is one -/
def calI (K : PySem.W.Frag) : CalI K "Calendar" where
  Rep := fun G C c es => ∃ P, P.c = c ∧ C = calV K P true es ∧ EsOk true G es
  ins := fun {G C c es} h => by
    obtain ⟨P, rfl, rfl, _⟩ := h
    refine ⟨_, List.mem_cons_self, fun o ho => ⟨P.dx, _, ho.symm, fun m hm => ?_⟩⟩
    simp only [List.mem_cons, List.not_mem_nil, or_false] at hm
    rcases hm with rfl | rfl | rfl | rfl | rfl <;> kernel_rfl
  mono := fun {G G' C c es} h x => by
    obtain ⟨P, h1, h2, h3⟩ := h
    exact ⟨P, h1, h2, h3.mono x⟩
  ok := fun {G C c es} h => by
    obtain ⟨P, h1, h2, h3⟩ := h
    exact h3
section
variable {P : Program} {w : World} {K : PySem.W.Frag} {mg : Str → Option Value} {base : Heap}
theorem okI_Calendar_put (T : Tx K mg) : OkM P w K mg base 6 "Calendar" "put" ["self", "key", "thing"] (spPutI (calI K)) :=
  ((ok_Calendar_put T).mono (by decide)).imp fun vs H Q E h => by
    obtain ⟨G, C, L, c, es, x, rfl, ⟨P, rfl, rfl, he⟩, z, hx, _, hn, hl, q⟩ := h
    exact ⟨true, G, L, P, es, x, rfl, z, he, hx, hn, by omega, fun H' z' _ => q _ H' ⟨P, rfl, rfl, he.ins hx hn⟩ z'⟩
theorem okI_Calendar_size (T : Tx K mg) : OkM P w K mg base 6 "Calendar" "size" ["self"] (spSizeI (calI K)) :=
  ((ok_Calendar_size T).mono (by decide)).imp fun vs H Q E h => by
    obtain ⟨G, C, L, c, es, rfl, ⟨P, rfl, rfl, he⟩, z, q⟩ := h
    exact ⟨P, es, rfl, z.eq List.mem_cons_self, z.eq (List.mem_cons_of_mem _ List.mem_cons_self), q⟩
theorem okI_Calendar_least (T : Tx K mg) : OkM P w K mg base 6 "Calendar" "least" ["self"] (spLeastI (calI K)) :=
  ((ok_Calendar_least T).mono (by decide)).imp fun vs H Q E h => by
    obtain ⟨G, C, L, c, es, rfl, ⟨P, rfl, rfl, he⟩, z, q⟩ := h
    exact ⟨P, es, rfl, z.eq List.mem_cons_self, z.eq (List.mem_cons_of_mem _ List.mem_cons_self), q⟩
theorem okI_Calendar_leave (T : Tx K mg) : OkM P w K mg base 6 "Calendar" "leave" ["self"] (spLeaveI (calI K)) :=
  ((ok_Calendar_leave T).mono (by decide)).imp fun vs H Q E h => by
    obtain ⟨G, C, L, c, es, rfl, ⟨P, rfl, rfl, he⟩, z, hl, q1, q2⟩ := h
    refine ⟨true, G, L, P, es, rfl, z, he, by omega, q1, fun e r hr p H' z' hp => q2 e r hr p _ H' ⟨P, rfl, rfl, ?_⟩ z' hp⟩
    subst hr
    have := he.rem (k := e.k)
    rw [remE_head he.asc] at this
    exact this.mono (Ext.new hp)
end
end Mo
namespace Mo
open PySem PySem.Spec PyProof.Rows L2
/-! ### take_out -/
def spTake (K : PySem.W.Frag) : Sp := fun vs H Q _ => ∃ (b : Bool) (G : Hp) (L : Vo) (P : CalP) (es : List Ent) (x : Ent), vs = [.ref P.c, x.v] ∧ Hd G H (calV K P b es ++ L) ∧ EsOk b G es ∧ GoodK b G x ∧ es.length ≤ 10000 ∧
  (getE x.k es = none → Q .non H) ∧ (∀ t, getE x.k es = some t → ∀ H', Hd G H' (calV K P b (remE x.k es) ++ L) → Q t H')
section
variable {P : Program} {w : World} {K : PySem.W.Frag} {mg : Str → Option Value} {base : Heap}
theorem ok_Calendar_take_out (T : Tx K mg) : OkM P w K mg base 2 "Calendar" "take_out" ["self", "key"] (spTake K) := by
  have G_Calendar_place := ok_Calendar_place (P := P) (w := w) (base := base) T
  refine T.f_Calendar_take_out.okX sc_Calendar_take_out (fun vs H Q E h => ?_) (fun cdv A outer s H vs Q E hr h => ?_)
  · obtain ⟨b, G, L, P, es, x, rfl, _⟩ := h
    rfl
  · have hu1 := hu_of hr; have hu0 := hr.units0; have hu64 := hr.units; have hu65 := hu65_of hr; have nd := sc_Calendar_take_out.nd
    obtain ⟨b, G, L, P, es, x, rfl, z, he, hx, hl, q1, q2⟩ := h
    refine ⟨_, (pss_cons (ps_if (pt_cmpR (op_notInK (K := K) rfl hu65) (pv 1) (pe_fldK (K := K) rfl (pv 0) rfl) rfl) (pss_one (ps_ret pe_non))
      pss_nil)
      (pss_cons (ps_expr (pe_bmK (K := K) rfl PySem.F.plainAttrs_list PySem.F.slot_list_pop PySem.F.type_list_pop mt_popAt (pe_fldK (K := K) rfl (pv 0) rfl) (pa_cons (pmeK (K := K) rfl T.m_Calendar_place T.c_Calendar G_Calendar_place hr (takes_of rfl rfl rfl rfl) (pv 0) (pa_cons (pv 1) pa_nil)) pa_nil)))
      (pss_one (ps_ret (pe_bmK (K := K) rfl PySem.F.plainAttrs_dict PySem.F.slot_dict_pop PySem.F.type_dict_pop (mt_dpop1 hu1) (pe_fldK (K := K) rfl (pv 0) rfl) (pa_cons (pv 1) pa_nil)))))), ?_⟩
    refine go_start (σ' := [some (.ref P.c), some x.v]) rfl ?_
    have hc : H P.c = some (calO K P) := z.eq List.mem_cons_self
    have hr0 : H P.row = some (.lst (es.map (·.v))) := z.eq (List.mem_cons_of_mem _ List.mem_cons_self)
    obtain ⟨o, ho, ht⟩ := z.get (p := P.th) (φ := Thg b es) (List.mem_cons_of_mem _ (List.mem_cons_of_mem _ List.mem_cons_self))
    k_extra "we"
    refine go_fldL hc T.c_Calendar T.n_Calendar_things lk_Calendar_things ?_
    refine go_ninD (thg_get z.ex ho ht he.asc he.good hx) ?_
    k_extra "we"
    cases hg : getE x.k es with
    | none =>
      rw [Option.isSome_none]
      k_extra "we"
      exact q1 hg
    | some t =>
      rw [Option.isSome_some]
      k_extra "we"
      refine go_fldL hc T.c_Calendar T.n_Calendar_row lk_Calendar_row ?_
      k_extra "we"
      refine go_tyL (SqL.of hr0) ?_
      k_extra "we"
      refine go_methL hc no_Calendar_place ?_
      k_extra "we"
      refine ⟨b, G, P, es, x, rfl, z.ex, hc, hr0, he, hx, by omega, fun n n1 n2 n3 => ?_⟩
      obtain ⟨e, em, ek, et⟩ := getE_mem hg
      have en := place_at he.asc n2 n3 em ek
      k_extra "we"
      refine go_popAt (n := n) rfl hr0 (by rw [List.length_map]; exact hl) (by rw [List.getElem?_map, en]; rfl) ?_
      have e1 : (es.map (·.v)).eraseIdx n = (remE x.k es).map (·.v) := by
        rw [← ek, ← remE_at (asc_nodup he.asc) en, DT.map_erase]
      rw [e1]
      have z1 := z.set (o' := .lst ((remE x.k es).map (·.v))) (ψ := Eq (.lst ((remE x.k es).map (·.v)))) 1 rfl rfl
      revert z1
      generalize upd H P.row (.lst ((remE x.k es).map (·.v))) = H1
      intro z1
      have hc1 : H1 P.c = some (calO K P) := z1.eq List.mem_cons_self
      k_extra "we"
      refine go_fldL hc1 T.c_Calendar T.n_Calendar_things lk_Calendar_things ?_
      obtain ⟨o, ho, ht⟩ := z1.get (p := P.th) (φ := Thg b es) (List.mem_cons_of_mem _ (List.mem_cons_of_mem _ List.mem_cons_self))
      obtain ⟨o', t1, t2⟩ := thg_pop z1.ex ho ht he.asc he.good hx hg
      refine ⟨thg_ty ho ht, ?_⟩
      k_extra "we"
      refine go_dpop t2 ?_
      exact q2 t hg _ (z1.set (o' := o') (ψ := Thg b (remE x.k es)) 2 rfl t1)
theorem okI_Calendar_take_out (T : Tx K mg) : OkM P w K mg base 6 "Calendar" "take_out" ["self", "key"] (spTakeI (calI K)) :=
  ((ok_Calendar_take_out T).mono (by decide)).imp fun vs H Q E h => by
    obtain ⟨G, C, L, c, es, x, rfl, ⟨P, rfl, rfl, he⟩, z, hx, _, hl, q1, q2⟩ := h
    exact ⟨true, G, L, P, es, x, rfl, z, he, hx, by omega, q1, fun t ht H' z' => q2 t ht _ H' ⟨P, rfl, rfl, he.rem⟩ z'⟩
end
end Mo
namespace Mo
open PySem PySem.Spec PyProof.Rows L2
/-! ### what a wheel keeps: plain Lean -/
structure Spk where
  at_ : Int
  P : CalP
  es : List Ent
def spk (s : Int) (k : List Int) : Int := (k.headD 0).fdiv s
abbrev flat (ws : List Spk) : List Ent := ws.flatMap (·.es)
def spE (w : Spk) : Ent := ⟨[w.at_], .int w.at_, .ref w.P.c⟩
def rimE (w : Spk) : Ent := ⟨[w.at_], .int w.at_, .int w.at_⟩
structure SpkOk (s : Int) (G : Hp) (w : Spk) : Prop where
  ok : EsOk true G w.es
  at_ : ∀ e ∈ w.es, e.k ≠ [] ∧ spk s e.k = w.at_
theorem lex_one {i j : Int} : HT.lexLt [i] [j] = true ↔ i < j := by
  rw [HT.lexLt_cons, HT.lexLt_nil_nil]
  by_cases h : i = j
  · rw [if_pos h]
    constructor
    · intro z; cases z
    · intro z; omega
  · rw [if_neg h, decide_eq_true_iff]
theorem fdiv_mono {a b s : Int} (h : 0 < s) (l : b ≤ a) : b.fdiv s ≤ a.fdiv s := by
  rw [Int.fdiv_eq_ediv_of_nonneg _ (by omega), Int.fdiv_eq_ediv_of_nonneg _ (by omega)]
  exact Int.ediv_le_ediv h l
theorem lt_of_spk {s : Int} {a b : List Int} (hs : 0 < s) (ha : a ≠ []) (hb : b ≠ []) (h : spk s a < spk s b) : HT.lexLt a b = true := by
  match a, ha, b, hb with
  | x :: r, _, y :: t, _ =>
    have h2 : x.fdiv s < y.fdiv s := h
    have h3 : x < y := by
      rcases Decidable.em (x < y) with z | z
      · exact z
      · have := fdiv_mono hs (show y ≤ x by omega)
        omega
    rw [HT.lexLt_cons, if_neg (by omega)]
    exact decide_eq_true h3
abbrev AscW (ws : List Spk) : Prop := ws.Pairwise fun x y => x.at_ < y.at_
theorem ascW_spE {ws : List Spk} (h : AscW ws) : Asc (ws.map spE) := List.pairwise_map.mpr (h.imp fun q => lex_one.mpr q)
theorem ascW_rimE {ws : List Spk} (h : AscW ws) : Asc (ws.map rimE) := List.pairwise_map.mpr (h.imp fun q => lex_one.mpr q)
theorem ok_spE {G : Hp} {ws : List Spk} (h : AscW ws) : EsOk false G (ws.map spE) := ⟨ascW_spE h, fun e he => by
  obtain ⟨w, _, rfl⟩ := List.mem_map.mp he
  exact ⟨w.at_, rfl, rfl⟩⟩
theorem ok_rimE {G : Hp} {ws : List Spk} (h : AscW ws) : EsOk false G (ws.map rimE) := ⟨ascW_rimE h, fun e he => by
  obtain ⟨w, _, rfl⟩ := List.mem_map.mp he
  exact ⟨w.at_, rfl, rfl⟩⟩
theorem flat_ok {s : Int} {G : Hp} (hs : 0 < s) : ∀ {ws : List Spk}, AscW ws → (∀ w ∈ ws, SpkOk s G w) → EsOk true G (flat ws)
  | [], _, _ => EsOk.nil
  | w :: r, h, k => by
    have h2 := List.pairwise_cons.mp h
    have ih := flat_ok hs h2.2 fun x hx => k x (List.mem_cons_of_mem _ hx)
    have kw := k w List.mem_cons_self
    refine ⟨List.pairwise_append.mpr ⟨kw.ok.asc, ih.asc, fun a ha b hb => ?_⟩, fun e he => ?_⟩
    · obtain ⟨x, hx, hb⟩ := List.mem_flatMap.mp hb
      have ka := kw.at_ a ha
      have kb := (k x (List.mem_cons_of_mem _ hx)).at_ b hb
      refine lt_of_spk hs ka.1 kb.1 ?_
      rw [ka.2, kb.2]
      exact h2.1 x hx
    · rcases List.mem_append.mp he with he | he
      · exact kw.ok.good e he
      · exact ih.good e he
/-- the place of a number among the spokes -/
theorem split_at (n : Int) : ∀ ws : List Spk, AscW ws → ∃ A B, (∀ a ∈ A, a.at_ < n) ∧ (∀ b ∈ B, n < b.at_) ∧ (ws = A ++ B ∨ ∃ w : Spk, w.at_ = n ∧ ws = A ++ w :: B)
  | [], _ => ⟨[], [], fun _ h => (nomatch h), fun _ h => (nomatch h), .inl rfl⟩
  | w :: r, h => by
    have h2 := List.pairwise_cons.mp h
    rcases Int.lt_trichotomy w.at_ n with z | z | z
    · obtain ⟨A, B, hA, hB, hr⟩ := split_at n r h2.2
      refine ⟨w :: A, B, fun a ha => ?_, hB, ?_⟩
      · rcases List.mem_cons.mp ha with rfl | ha
        · exact z
        · exact hA a ha
      · rcases hr with rfl | ⟨x, hx, rfl⟩
        · exact .inl rfl
        · exact .inr ⟨x, hx, rfl⟩
    · exact ⟨[], r, fun _ h => (nomatch h), fun b hb => by rw [← z]; exact h2.1 b hb, .inr ⟨w, z, rfl⟩⟩
    · refine ⟨[], w :: r, fun _ h => (nomatch h), fun b hb => ?_, .inl rfl⟩
      rcases List.mem_cons.mp hb with rfl | hb
      · exact z
      · have := h2.1 b hb
        omega
theorem insE_left {x : Ent} : ∀ {A R : List Ent}, (∀ a ∈ A, HT.lexLt a.k x.k = true) → insE x (A ++ R) = A ++ insE x R
  | [], _, _ => rfl
  | a :: A, R, h => by
    show (if HT.lexLt a.k x.k = true then a :: insE x (A ++ R) else _) = _
    rw [if_pos (h a List.mem_cons_self), insE_left fun y hy => h y (List.mem_cons_of_mem _ hy)]
    rfl
theorem insE_right {x : Ent} : ∀ {R B : List Ent}, (∀ b ∈ B, HT.lexLt b.k x.k = false) → insE x (R ++ B) = insE x R ++ B
  | [], [], _ => rfl
  | [], b :: B, h => by
    show (if HT.lexLt b.k x.k = true then _ else x :: b :: B) = _
    rw [h b List.mem_cons_self, if_neg Bool.false_ne_true]
    rfl
  | r :: R, B, h => by
    show (if HT.lexLt r.k x.k = true then r :: insE x (R ++ B) else x :: r :: (R ++ B)) = (if HT.lexLt r.k x.k = true then r :: insE x R else x :: r :: R) ++ B
    rw [insE_right h]
    split <;> rfl
theorem remE_app {k : List Int} {A B : List Ent} : remE k (A ++ B) = remE k A ++ remE k B := List.filter_append ..
theorem getE_app {k : List Int} : ∀ {A B : List Ent}, k ∉ A.map (·.k) → getE k (A ++ B) = getE k B
  | [], _, _ => rfl
  | a :: A, B, h => by
    rw [List.map_cons, List.mem_cons, not_or] at h
    show (if a.k = k then some a.t else getE k (A ++ B)) = _
    rw [if_neg fun z => h.1 z.symm, getE_app h.2]
theorem getE_appR {k : List Int} : ∀ {A B : List Ent}, k ∉ B.map (·.k) → getE k (A ++ B) = getE k A
  | [], B, h => getE_none.mpr h
  | a :: A, B, h => by
    show (if a.k = k then some a.t else getE k (A ++ B)) = (if a.k = k then some a.t else getE k A)
    rw [getE_appR h]
theorem not_flat {s n : Int} {G : Hp} {k : List Int} {A : List Spk} (h : ∀ w ∈ A, SpkOk s G w) (ne : ∀ w ∈ A, w.at_ ≠ spk s k) : k ∉ (flat A).map (·.k) := fun m => by
  obtain ⟨e, he, rfl⟩ := List.mem_map.mp m
  obtain ⟨w, hw, he⟩ := List.mem_flatMap.mp he
  exact ne w hw ((h w hw).at_ e he).2.symm
theorem flat_ins {s : Int} {G : Hp} {x : Ent} {A B : List Spk} {w : Spk} (hs : 0 < s) (hk : x.k ≠ []) (hA : ∀ a ∈ A, SpkOk s G a ∧ a.at_ < spk s x.k) (hB : ∀ b ∈ B, SpkOk s G b ∧ spk s x.k < b.at_) :
    insE x (flat A ++ (w.es ++ flat B)) = flat A ++ (insE x w.es ++ flat B) := by
  rw [insE_left, insE_right]
  · intro e he
    obtain ⟨b, hb, he⟩ := List.mem_flatMap.mp he
    have q := (hB b hb).1.at_ e he
    exact lex_asym (lt_of_spk hs hk q.1 (by rw [q.2]; exact (hB b hb).2))
  · intro e he
    obtain ⟨a, ha, he⟩ := List.mem_flatMap.mp he
    have q := (hA a ha).1.at_ e he
    exact lt_of_spk hs q.1 hk (by rw [q.2]; exact (hA a ha).2)
theorem flat_mid (A : List Spk) (w : Spk) (B : List Spk) : flat (A ++ w :: B) = flat A ++ (w.es ++ flat B) := by
  unfold flat
  rw [List.flatMap_append, List.flatMap_cons]
theorem flat_two (A B : List Spk) : flat (A ++ B) = flat A ++ flat B := by
  unfold flat
  rw [List.flatMap_append]
/-- the spokes of one number -/
theorem getE_mid {f : Spk → Ent} (hf : ∀ w, (f w).k = [w.at_]) {A B : List Spk} {w : Spk} (h : AscW (A ++ w :: B)) : getE [w.at_] ((A ++ w :: B).map f) = some (f w).t := by
  have := getE_of (es := (A ++ w :: B).map f) (x := f w) ?_ (List.mem_map.mpr ⟨w, List.mem_append_right _ List.mem_cons_self, rfl⟩)
  · rw [hf] at this
    exact this
  · rw [List.map_map, List.nodup_iff_pairwise_ne, List.pairwise_map]
    refine h.imp fun {a b} q z => ?_
    have z' : (f a).k = (f b).k := z
    rw [hf, hf] at z'
    have := (List.cons.inj z').1
    omega
theorem getE_gone {f : Spk → Ent} (hf : ∀ w, (f w).k = [w.at_]) {A B : List Spk} {n : Int} (hA : ∀ a ∈ A, a.at_ < n) (hB : ∀ b ∈ B, n < b.at_) : [n] ∉ ((A ++ B).map f).map (·.k) := fun m => by
  rw [List.map_map] at m
  obtain ⟨w, hw, e⟩ := List.mem_map.mp m
  have e' : (f w).k = [n] := e
  rw [hf] at e'
  have := (List.cons.inj e').1
  rcases List.mem_append.mp hw with hw | hw
  · have := hA w hw; omega
  · have := hB w hw; omega
theorem ins_mid {f : Spk → Ent} (hf : ∀ w, (f w).k = [w.at_]) {A B : List Spk} {w : Spk} (hA : ∀ a ∈ A, a.at_ < w.at_) (hB : ∀ b ∈ B, w.at_ < b.at_) : insE (f w) ((A ++ B).map f) = (A ++ w :: B).map f := by
  rw [List.map_append, insE_left, List.map_append, List.map_cons]
  · have := insE_right (x := f w) (R := []) (B := B.map f) (fun e he => by
      obtain ⟨b, hb, rfl⟩ := List.mem_map.mp he
      refine lex_asym ?_
      rw [hf, hf]
      exact lex_one.mpr (hB b hb))
    rw [List.nil_append] at this
    rw [this]
    rfl
  · intro e he
    obtain ⟨a, ha, rfl⟩ := List.mem_map.mp he
    rw [hf, hf]
    exact lex_one.mpr (hA a ha)
theorem rem_mid {f : Spk → Ent} (hf : ∀ w, (f w).k = [w.at_]) {A B : List Spk} {w : Spk} (hA : ∀ a ∈ A, a.at_ < w.at_) (hB : ∀ b ∈ B, w.at_ < b.at_) : remE [w.at_] ((A ++ w :: B).map f) = (A ++ B).map f := by
  rw [List.map_append, List.map_cons, List.map_append, remE_app]
  have e1 : remE [w.at_] (A.map f) = A.map f := remE_none fun m => by
    rw [List.map_map] at m
    obtain ⟨a, ha, e⟩ := List.mem_map.mp m
    have e' : (f a).k = [w.at_] := e
    rw [hf] at e'
    have := (List.cons.inj e').1
    have := hA a ha
    omega
  have e2 : remE [w.at_] (B.map f) = B.map f := remE_none fun m => by
    rw [List.map_map] at m
    obtain ⟨b, hb, e⟩ := List.mem_map.mp m
    have e' : (f b).k = [w.at_] := e
    rw [hf] at e'
    have := (List.cons.inj e').1
    have := hB b hb
    omega
  rw [e1]
  show A.map f ++ List.filter _ (f w :: B.map f) = _
  rw [List.filter_cons_of_neg (by rw [hf]; simp)]
  show A.map f ++ remE [w.at_] (B.map f) = _
  rw [e2]
theorem ascW_mid {A B : List Spk} {w w' : Spk} (e : w'.at_ = w.at_) (h : AscW (A ++ w :: B)) : AscW (A ++ w' :: B) := by
  have h1 := List.pairwise_append.mp h
  have h2 := List.pairwise_cons.mp h1.2.1
  refine List.pairwise_append.mpr ⟨h1.1, List.pairwise_cons.mpr ⟨fun b hb => by rw [e]; exact h2.1 b hb, h2.2⟩, fun a ha b hb => ?_⟩
  rcases List.mem_cons.mp hb with rfl | hb
  · rw [e]; exact h1.2.2 a ha w List.mem_cons_self
  · exact h1.2.2 a ha b (List.mem_cons_of_mem _ hb)
theorem ascW_two {A B : List Spk} {w : Spk} (h : AscW (A ++ w :: B)) : AscW (A ++ B) := by
  have h1 := List.pairwise_append.mp h
  have h2 := List.pairwise_cons.mp h1.2.1
  exact List.pairwise_append.mpr ⟨h1.1, h2.2, fun a ha b hb => h1.2.2 a ha b (List.mem_cons_of_mem _ hb)⟩
theorem ascW_ins {A B : List Spk} {w : Spk} (h : AscW (A ++ B)) (hA : ∀ a ∈ A, a.at_ < w.at_) (hB : ∀ b ∈ B, w.at_ < b.at_) : AscW (A ++ w :: B) := by
  have h1 := List.pairwise_append.mp h
  refine List.pairwise_append.mpr ⟨h1.1, List.pairwise_cons.mpr ⟨hB, h1.2.1⟩, fun a ha b hb => ?_⟩
  rcases List.mem_cons.mp hb with rfl | hb
  · exact hA a ha
  · exact h1.2.2 a ha b hb
theorem flat_len : ∀ {ws : List Spk}, (∀ w ∈ ws, w.es ≠ []) → ws.length ≤ (flat ws).length
  | [], _ => Nat.le_refl _
  | y :: r, h => by
    have h1 := List.length_pos_iff.mpr (h y List.mem_cons_self)
    have h2 := flat_len fun v hv => h v (List.mem_cons_of_mem _ hv)
    unfold flat at h2 ⊢
    rw [List.flatMap_cons, List.length_append, List.length_cons]
    omega
end Mo
namespace Mo
open PySem PySem.Spec PyProof.Rows L2
/-! ### wheel.py -/
structure WhP where
  c : Addr
  dx : Addr
  sp : Addr
  rim : CalP
  span : Int
def whO (K : PySem.W.Frag) (W : WhP) (n : Nat) : HO := .ins (He.ga K "Wheel") W.dx (fl_Wheel (.int W.span) (.ref W.sp) (.ref W.rim.c) (.int (n : Int)))
def spkV (K : PySem.W.Frag) (ws : List Spk) : Vo := ws.flatMap fun w => calV K w.P true w.es
def whV (K : PySem.W.Frag) (W : WhP) (n : Nat) (ws : List Spk) : Vo := (W.c, Eq (whO K W n)) :: (W.sp, Thg false (ws.map spE)) :: (calV K W.rim false (ws.map rimE) ++ spkV K ws)
theorem spkV_mid (K : PySem.W.Frag) (A : List Spk) (w : Spk) (B : List Spk) : spkV K (A ++ w :: B) = spkV K A ++ (calV K w.P true w.es ++ spkV K B) := by
  unfold spkV
  rw [List.flatMap_append, List.flatMap_cons]
theorem spkV_two (K : PySem.W.Frag) (A B : List Spk) : spkV K (A ++ B) = spkV K A ++ spkV K B := by
  unfold spkV
  rw [List.flatMap_append]
structure WsOk (s : Int) (G : Hp) (ws : List Spk) : Prop where
  asc : AscW ws
  each : ∀ w ∈ ws, SpkOk s G w ∧ w.es ≠ []
def whI (K : PySem.W.Frag) : CalI K "Wheel" where
  Rep := fun G C c es => ∃ W ws, W.c = c ∧ C = whV K W es.length ws ∧ es = flat ws ∧ (0 < W.span ∧ W.span ≤ 1000) ∧ WsOk W.span G ws
  ins := fun {G C c es} h => by
    obtain ⟨W, ws, rfl, rfl, _⟩ := h
    refine ⟨_, List.mem_cons_self, fun o ho => ⟨W.dx, _, ho.symm, fun m hm => ?_⟩⟩
    simp only [List.mem_cons, List.not_mem_nil, or_false] at hm
    rcases hm with rfl | rfl | rfl | rfl | rfl <;> kernel_rfl
  mono := fun {G G' C c es} h x => by
    obtain ⟨W, ws, h1, h2, h3, h4, h5⟩ := h
    exact ⟨W, ws, h1, h2, h3, h4, h5.asc, fun w hw => ⟨⟨(h5.each w hw).1.ok.mono x, (h5.each w hw).1.at_⟩, (h5.each w hw).2⟩⟩
  ok := fun {G C c es} h => by
    obtain ⟨W, ws, _, _, rfl, h4, h5⟩ := h
    exact flat_ok h4.1 h5.asc fun w hw => (h5.each w hw).1
def spWheelInit (K : PySem.W.Frag) : Sp := fun vs H Q _ => ∃ (G : Hp) (L : Vo) (c dx : Addr) (s : Int), vs = [.ref c, .int s] ∧ (0 < s ∧ s ≤ 1000) ∧ Hd G H ((c, Eq (.ins (He.ga K "Wheel") dx [])) :: L) ∧
  ∀ C H', (whI K).Rep G C c [] → Hd G H' (C ++ L) → Q .non H'
def spSpokeOf (K : PySem.W.Frag) : Sp := fun vs H Q _ => ∃ (W : WhP) (n : Nat) (x : Ent), vs = [.ref W.c, x.v] ∧ H W.c = some (whO K W n) ∧ (0 < W.span ∧ W.span ≤ 1000) ∧ GoodK true H x ∧ x.k ≠ [] ∧ Q (.int (spk W.span x.k)) H
section
variable {P : Program} {w : World} {K : PySem.W.Frag} {mg : Str → Option Value} {base : Heap}
theorem ok_Wheel_init (T : Tx K mg) : OkM P w K mg base 3 "Wheel" "__init__" ["self", "span"] (spWheelInit K) := by
  have G_Calendar_init := ok_Calendar_init (P := P) (w := w) (base := base) T
  refine T.f_Wheel_init.okX sc_Wheel_init (fun vs H Q E h => ?_) (fun cdv A outer s H vs Q E hr h => ?_)
  · obtain ⟨G, L, c, dx, s, rfl, _⟩ := h
    rfl
  · have hu1 := hu_of hr; have hu0 := hr.units0; have hu64 := hr.units; have hu65 := hu65_of hr; have nd := sc_Wheel_init.nd
    obtain ⟨G, L, c, dx, s, rfl, hs, z, q⟩ := h
    refine ⟨_, (pss_cons (ps_fldK (K := K) rfl (pv 0) (pv 1) rfl)
      (pss_cons (ps_fldK (K := K) rfl (pv 0) pe_dnew rfl)
      (pss_cons (ps_fldK (K := K) rfl (pv 0) (pmk0K (K := K) rfl T.k_Calendar G_Calendar_init hr (takes_of rfl rfl rfl rfl)) rfl)
      (pss_one (ps_fldK (K := K) rfl (pv 0) pe_int rfl))))), ?_⟩
    refine go_start (σ' := [some (.ref c), some (.int s)]) rfl ?_
    k_extra "we"
    refine go_sfldL (z.eq List.mem_cons_self) T.c_Wheel T.n_Wheel_span rfl ?_
    rw [in_Wheel_0]
    have z1 := z.set0 (o' := .ins (He.ga K "Wheel") dx [(("span" : Str), V.int s)]) (ψ := Eq (.ins (He.ga K "Wheel") dx [(("span" : Str), V.int s)])) rfl
    revert z1
    generalize upd H c (.ins (He.ga K "Wheel") dx [(("span" : Str), V.int s)]) = H1
    intro z1
    k_extra "we"
    refine go_dK fun d hd => ?_
    have z2 := z1.new hd (φ := Eq (.dK [])) rfl
    k_extra "we"
    refine go_sfldL (z2.eq (List.mem_cons_of_mem _ List.mem_cons_self)) T.c_Wheel T.n_Wheel_spokes rfl ?_
    rw [in_Wheel_1]
    have z3 := z2.set1 (o' := .ins (He.ga K "Wheel") dx [(("span" : Str), V.int s), (("spokes" : Str), V.ref d)]) (ψ := Eq (.ins (He.ga K "Wheel") dx [(("span" : Str), V.int s), (("spokes" : Str), V.ref d)])) rfl
    revert z3
    generalize upd (upd H1 d (.dK [])) c (.ins (He.ga K "Wheel") dx [(("span" : Str), V.int s), (("spokes" : Str), V.ref d)]) = H2
    intro z3
    k_extra "we"
    intro r rdx nr ndr ne
    have z4 := z3.made (φ := Eq (.ins (He.ga K "Calendar") rdx [])) nr ndr ne rfl
    refine ⟨G, _, r, rdx, false, rfl, z4, fun P5 H5 hPc z5 _ => ⟨rfl, ?_⟩⟩
    subst hPc
    have z5c : H5 c = some (.ins (He.ga K "Wheel") dx [(("span" : Str), V.int s), (("spokes" : Str), V.ref d)]) := z5.eq (List.mem_append_right _ (List.mem_cons_of_mem _ List.mem_cons_self))
    k_extra "we"
    refine go_sfldL z5c T.c_Wheel T.n_Wheel_rim rfl ?_
    rw [in_Wheel_2]
    have z6 := (z5.perm (M := (c, Eq (.ins (He.ga K "Wheel") dx [(("span" : Str), V.int s), (("spokes" : Str), V.ref d)])) :: (d, Eq (.dK [])) :: (calV K P5 false [] ++ L)) (by k_extra "p")).set0 (o' := .ins (He.ga K "Wheel") dx [(("span" : Str), V.int s), (("spokes" : Str), V.ref d), (("rim" : Str), V.ref P5.c)]) (ψ := Eq (.ins (He.ga K "Wheel") dx [(("span" : Str), V.int s), (("spokes" : Str), V.ref d), (("rim" : Str), V.ref P5.c)])) rfl
    revert z6
    generalize upd H5 c (.ins (He.ga K "Wheel") dx [(("span" : Str), V.int s), (("spokes" : Str), V.ref d), (("rim" : Str), V.ref P5.c)]) = H6
    intro z6
    k_extra "we"
    refine go_sfldL (z6.eq List.mem_cons_self) T.c_Wheel T.n_Wheel_many rfl ?_
    rw [in_Wheel_3]
    have z7 := z6.set0 (o' := whO K ⟨c, dx, d, P5, s⟩ 0) (ψ := Eq (whO K ⟨c, dx, d, P5, s⟩ 0)) rfl
    have z8 := z7.re1 (ψ := Thg false []) fun o ho he => ⟨[], he.symm, .refl _⟩
    refine q (whV K ⟨c, dx, d, P5, s⟩ 0 []) _ ⟨⟨c, dx, d, P5, s⟩, [], rfl, rfl, rfl, hs, .nil, fun _ h => nomatch h⟩ ?_
    exact z8.perm (by
      show (((c, Eq (whO K ⟨c, dx, d, P5, s⟩ 0)) :: (d, Thg false []) :: (calV K P5 false [] ++ [])) ++ L).Perm _
      rw [List.append_nil]
      exact .refl _)
theorem ok_Wheel_spoke_of (T : Tx K mg) : OkM P w K mg base 1 "Wheel" "spoke_of" ["self", "key"] (spSpokeOf K) := by
  refine T.f_Wheel_spoke_of.okX sc_Wheel_spoke_of (fun vs H Q E h => ?_) (fun cdv A outer s H vs Q E hr h => ?_)
  · obtain ⟨W, n, x, rfl, _⟩ := h
    rfl
  · have hu1 := hu_of hr; have hu0 := hr.units0; have hu64 := hr.units; have hu65 := hu65_of hr; have nd := sc_Wheel_spoke_of.nd
    obtain ⟨W, n, x, rfl, hc, hs, hx, hk, q⟩ := h
    refine ⟨_, (pss_one (ps_ret (pe_op op_fdivX (pe_ix (ix_anyK (K := K) rfl hu1) (pv 1) pe_int (fun _ _ => rfl)) (pe_fldK (K := K) rfl (pv 0) rfl)))), ?_⟩
    refine go_start (σ' := [some (.ref W.c), some x.v]) rfl ?_
    obtain ⟨a, e1, h1⟩ := hx
    obtain ⟨y, r, e2⟩ : ∃ y r, x.k = y :: r := List.exists_cons_of_ne_nil hk
    k_extra "we"
    rw [e2, List.map_cons] at h1
    have sub : ∀ Q2 : VK, Q2 (.int y) H → rSub K x.v (.int 0) H Q2 := fun Q2 k => by
      rw [e1]
      exact go_subT (SqT.of h1) (atI_nat (j := 0) rfl) k
    refine sub _ ?_
    k_extra "we"
    refine go_fldL hc T.c_Wheel T.n_Wheel_span lk_Wheel_span ?_
    refine go_div 10 (by omega) (by show Int.natAbs _ < 1024; omega) ?_
    have e3 : y.fdiv W.span = spk W.span x.k := by
      unfold spk
      rw [e2]
      rfl
    rw [e3]
    exact q
theorem ok_Wheel_size (T : Tx K mg) : OkM P w K mg base 5 "Wheel" "size" ["self"] (spSizeI (whI K)) := by
  refine T.f_Wheel_size.okX sc_Wheel_size (fun vs H Q E h => ?_) (fun cdv A outer s H vs Q E hr h => ?_)
  · obtain ⟨G, C, L, c, es, rfl, _⟩ := h
    rfl
  · have hu1 := hu_of hr; have hu0 := hr.units0; have hu64 := hr.units; have hu65 := hu65_of hr; have nd := sc_Wheel_size.nd
    obtain ⟨G, C, L, c, es, rfl, ⟨W, ws, rfl, rfl, _⟩, z, q⟩ := h
    refine ⟨_, (pss_one (ps_ret (pe_fldK (K := K) rfl (pv 0) rfl))), ?_⟩
    refine go_start (σ' := [some (.ref W.c)]) rfl ?_
    k_extra "we"
    refine go_fldL (z.eq List.mem_cons_self) T.c_Wheel T.n_Wheel_many lk_Wheel_many ?_
    exact q
theorem ok_Wheel_least (T : Tx K mg) : OkM P w K mg base 5 "Wheel" "least" ["self"] (spLeastI (whI K)) := by
  have G_Calendar_least := ok_Calendar_least (P := P) (w := w) (base := base) T
  refine T.f_Wheel_least.okX sc_Wheel_least (fun vs H Q E h => ?_) (fun cdv A outer s H vs Q E hr h => ?_)
  · obtain ⟨G, C, L, c, es, rfl, _⟩ := h
    rfl
  · have hu1 := hu_of hr; have hu0 := hr.units0; have hu64 := hr.units; have hu65 := hu65_of hr; have nd := sc_Wheel_least.nd
    obtain ⟨G, C, L, c, es, rfl, ⟨W, ws, rfl, rfl, rfl, hs, hw⟩, z, q⟩ := h
    refine ⟨_, (pss_cons (ps_if (pt_cmpR (op_eqK (K := K) rfl hu64) (pe_fldK (K := K) rfl (pv 0) rfl) pe_int (nomark _)) (pss_one (ps_ret pe_non))
      pss_nil)
      (pss_one (ps_ret (pme0K (K := K) rfl T.m_Calendar_least T.c_Calendar G_Calendar_least hr (takes_of rfl rfl rfl rfl) (pe_ix (ix_anyK (K := K) rfl hu1) (pe_fldK (K := K) rfl (pv 0) rfl) (pme0K (K := K) rfl T.m_Calendar_least T.c_Calendar G_Calendar_least hr (takes_of rfl rfl rfl rfl) (pe_fldK (K := K) rfl (pv 0) rfl)) (fun _ _ => rfl)))))), ?_⟩
    refine go_start (σ' := [some (.ref W.c)]) rfl ?_
    have hc : H W.c = some (whO K W (flat ws).length) := z.eq List.mem_cons_self
    k_extra "we"
    refine go_fldL hc T.c_Wheel T.n_Wheel_many lk_Wheel_many ?_
    k_extra "we"
    cases ws with
    | nil =>
      refine go_ite (fun _ => ?_) (fun h => absurd rfl h)
      k_extra "we"
      exact q
    | cons x r =>
      obtain ⟨e, r', he⟩ := List.exists_cons_of_ne_nil (hw.each x List.mem_cons_self).2
      have ef : flat (x :: r) = e :: (r' ++ flat r) := by
        unfold flat
        rw [List.flatMap_cons, he]
        rfl
      refine go_ite (fun h => ?_) (fun _ => ?_)
      · rw [ef, List.length_cons] at h
        omega
      · k_extra "we"
        refine go_fldL hc T.c_Wheel T.n_Wheel_spokes lk_Wheel_spokes ?_
        k_extra "we"
        refine go_fldL hc T.c_Wheel T.n_Wheel_rim lk_Wheel_rim ?_
        have mr : ∀ y ∈ calV K W.rim false ((x :: r).map rimE), y ∈ whV K W (flat (x :: r)).length (x :: r) ++ L := fun y hy => List.mem_append_left _ (List.mem_cons_of_mem _ (List.mem_cons_of_mem _ (List.mem_append_left _ hy)))
        have h1 : H W.rim.c = some (calO K W.rim) := z.eq (mr _ List.mem_cons_self)
        have h2 : H W.rim.row = some (.lst (((x :: r).map rimE).map (·.v))) := z.eq (mr _ (List.mem_cons_of_mem _ List.mem_cons_self))
        refine go_methL h1 no_Calendar_least ?_
        k_extra "we"
        refine ⟨W.rim, (x :: r).map rimE, rfl, h1, h2, ?_⟩
        show rSub K (.ref W.sp) (.int x.at_) H _
        obtain ⟨o, ho, ht⟩ := z.get (p := W.sp) (φ := Thg false ((x :: r).map spE)) (List.mem_append_left _ (List.mem_cons_of_mem _ List.mem_cons_self))
        have ok := ok_spE (G := G) hw.asc
        have g := thg_get (x := spE x) z.ex ho ht ok.asc ok.good ⟨x.at_, rfl, rfl⟩
        have gg := getE_mid (f := spE) (fun _ => rfl) (A := []) hw.asc
        have g' : DGet H W.sp (.int x.at_) (some (.ref x.P.c)) := (show _ = some (V.ref x.P.c) from gg) ▸ g
        refine go_subD g' ?_
        have ms : ∀ y ∈ calV K x.P true x.es, y ∈ whV K W (flat (x :: r)).length (x :: r) ++ L := fun y hy => List.mem_append_left _ (List.mem_cons_of_mem _ (List.mem_cons_of_mem _ (List.mem_append_right _ (by
          unfold spkV
          rw [List.flatMap_cons]
          exact List.mem_append_left _ hy))))
        have h3 : H x.P.c = some (calO K x.P) := z.eq (ms _ List.mem_cons_self)
        have h4 : H x.P.row = some (.lst (x.es.map (·.v))) := z.eq (ms _ (List.mem_cons_of_mem _ List.mem_cons_self))
        k_extra "we"
        refine go_methL h3 no_Calendar_least ?_
        k_extra "we"
        refine ⟨x.P, x.es, rfl, h3, h4, ?_⟩
        rw [ef] at q
        rw [he]
        exact q
end
end Mo
namespace Mo
open PySem PySem.Spec PyProof.Rows L2
/-! ### a wheel: put, take_out, leave -/
theorem thg_gen {es : List Ent} {o : HO} (h : Thg false es o) {es' : List Ent} (e : es = es') : Thg false es' o := e ▸ h
theorem whI_ne {K : PySem.W.Frag} {G : Hp} {C : Vo} {c : Addr} {es : List Ent} (h : (whI K).Rep G C c es) : ∀ e ∈ es, e.k ≠ [] := fun e he => by
  obtain ⟨W, ws, _, _, rfl, _, hw⟩ := h
  obtain ⟨w, hm, he⟩ := List.mem_flatMap.mp he
  exact ((hw.each w hm).1.at_ e he).1
section
variable {P : Program} {w : World} {K : PySem.W.Frag} {mg : Str → Option Value} {base : Heap}
theorem ok_Wheel_put (T : Tx K mg) : OkM P w K mg base 6 "Wheel" "put" ["self", "key", "thing"] (spPutI (whI K)) := by
  have G_Calendar_put := ok_Calendar_put (P := P) (w := w) (base := base) T; have G_Calendar_init := ok_Calendar_init (P := P) (w := w) (base := base) T; have G_Wheel_spoke_of := ok_Wheel_spoke_of (P := P) (w := w) (base := base) T
  refine T.f_Wheel_put.okX sc_Wheel_put (fun vs H Q E h => ?_) (fun cdv A outer s H vs Q E hr h => ?_)
  · obtain ⟨G, C, L, c, es, x, rfl, _⟩ := h
    rfl
  · have hu1 := hu_of hr; have hu0 := hr.units0; have hu64 := hr.units; have hu65 := hu65_of hr; have nd := sc_Wheel_put.nd
    obtain ⟨G, C, L, c, es, x, rfl, ⟨W, ws, rfl, rfl, rfl, hs, hw⟩, z, hx, hk, hn, hl, q⟩ := h
    refine ⟨_, (pss_cons (ps_set (i := 3) nd rfl (Or.inl rfl) (pmeK (K := K) rfl T.m_Wheel_spoke_of T.c_Wheel G_Wheel_spoke_of hr (takes_of rfl rfl rfl rfl) (pv 0) (pa_cons (pv 1) pa_nil)))
      (Evl.pss_cut (ps_if (pt_cmpR (op_notInK (K := K) rfl hu65) (pv 3) (pe_fldK (K := K) rfl (pv 0) rfl) rfl) (pss_cons (ps_asg (pmk0K (K := K) rfl T.k_Calendar G_Calendar_init hr (takes_of rfl rfl rfl rfl)) (pg_sub (pe_fldK (K := K) rfl (pv 0) rfl) (pv 3) (set_any hu1)))
      (pss_one (ps_expr (pmeK (K := K) rfl T.m_Calendar_put T.c_Calendar G_Calendar_put hr (takes_of rfl rfl rfl rfl) (pe_fldK (K := K) rfl (pv 0) rfl) (pa_cons (pv 3) (pa_cons (pv 3) pa_nil))))))
      pss_nil)
      (pss_cons (ps_expr (pmeK (K := K) rfl T.m_Calendar_put T.c_Calendar G_Calendar_put hr (takes_of rfl rfl rfl rfl) (pe_ix (ix_anyK (K := K) rfl hu1) (pe_fldK (K := K) rfl (pv 0) rfl) (pv 3) (fun _ _ => rfl)) (pa_cons (pv 1) (pa_cons (pv 2) pa_nil))))
      (pss_one (ps_fldaugK (K := K) rfl (pv 0) pe_int in_add))))), ?_⟩
    refine go_start (σ' := [some (.ref W.c), some x.v, some x.t, none]) rfl ?_
    have hc : H W.c = some (whO K W (flat ws).length) := z.eq List.mem_cons_self
    have nk : ∀ y ∈ flat ws, y.k ≠ x.k := fun y hy e => hn (by rw [← e]; exact List.mem_map_of_mem hy)
    k_extra "we"
    refine go_methL hc no_Wheel_spoke_of ?_
    k_extra "we"
    refine ⟨W, _, x, rfl, hc, hs, hx.mono z.ex, hk, ?_⟩
    k_extra "we"
    refine ⟨fun σ' H' => ∃ A B w, σ' = [some (.ref W.c), some x.v, some x.t, some (.int (spk W.span x.k))] ∧ w.at_ = spk W.span x.k ∧ flat (A ++ w :: B) = flat ws ∧ AscW (A ++ w :: B) ∧ SpkOk W.span G w ∧ (∀ a ∈ A, (SpkOk W.span G a ∧ a.es ≠ []) ∧ a.at_ < spk W.span x.k) ∧
      (∀ b ∈ B, (SpkOk W.span G b ∧ b.es ≠ []) ∧ spk W.span x.k < b.at_) ∧ Hd G H' (whV K W (flat ws).length (A ++ w :: B) ++ L), ?_, ?_⟩
    · obtain ⟨A, B, hA, hB, hr⟩ := split_at (spk W.span x.k) ws hw.asc
      k_extra "we"
      refine go_fldL hc T.c_Wheel T.n_Wheel_spokes lk_Wheel_spokes ?_
      obtain ⟨o, ho, ht⟩ := z.get (p := W.sp) (φ := Thg false (ws.map spE)) (List.mem_append_left _ (List.mem_cons_of_mem _ List.mem_cons_self))
      have ok := ok_spE (G := G) hw.asc
      have g : DGet H W.sp (.int (spk W.span x.k)) (getE [spk W.span x.k] (ws.map spE)) := thg_get (x := ⟨[spk W.span x.k], .int (spk W.span x.k), .non⟩) z.ex ho ht ok.asc ok.good ⟨_, rfl, rfl⟩
      rcases hr with rfl | ⟨w, hwa, rfl⟩
      · have gn := getE_gone (f := spE) (fun _ => rfl) hA hB
        rw [getE_none.mpr gn] at g
        refine go_ninD g ?_
        rw [Option.isSome_none]
        k_extra "we"
        intro r rdx nr ndr ne
        have z4 := z.made (φ := Eq (.ins (He.ga K "Calendar") rdx [])) nr ndr ne rfl
        refine ⟨G, _, r, rdx, true, rfl, z4, fun P5 H5 hPc z5 _ => ⟨rfl, ?_⟩⟩
        subst hPc
        have z6 := z5.perm (M := (W.sp, Thg false ((A ++ B).map spE)) :: ((W.c, Eq (whO K W (flat (A ++ B)).length)) :: (calV K W.rim false ((A ++ B).map rimE) ++ (spkV K (A ++ B) ++ (calV K P5 true [] ++ L))))) (by
          unfold whV
          k_extra "p")
        have hc6 : H5 W.c = some (whO K W (flat (A ++ B)).length) := z6.eq (List.mem_cons_of_mem _ List.mem_cons_self)
        k_extra "we"
        refine go_fldL hc6 T.c_Wheel T.n_Wheel_spokes lk_Wheel_spokes ?_
        k_extra "we"
        obtain ⟨o, ho, ht⟩ := z6.get (p := W.sp) (φ := Thg false ((A ++ B).map spE)) List.mem_cons_self
        have hl2 := flat_len fun w h => (hw.each w h).2
        have hlen : ((A ++ B).map spE).length ≤ 10000 := by
          rw [List.length_map]
          omega
        obtain ⟨o', t1, t2⟩ := thg_put (x := spE ⟨spk W.span x.k, P5, []⟩) z6.ex ho ht ok.asc ok.good ⟨_, rfl, rfl⟩ gn hlen
        refine go_setD t2 ?_
        rw [ins_mid (f := spE) (fun _ => rfl) (w := ⟨spk W.span x.k, P5, []⟩) hA hB] at t1
        have z7 := z6.set0 t1
        revert z7
        generalize upd H5 W.sp o' = H7
        intro z7
        have hc7 : H7 W.c = some (whO K W (flat (A ++ B)).length) := z7.eq (List.mem_cons_of_mem _ List.mem_cons_self)
        k_extra "we"
        refine go_fldL hc7 T.c_Wheel T.n_Wheel_rim lk_Wheel_rim ?_
        have z8 := z7.perm (M := calV K W.rim false ((A ++ B).map rimE) ++ ((W.sp, Thg false ((A ++ ⟨spk W.span x.k, P5, []⟩ :: B).map spE)) :: (W.c, Eq (whO K W (flat (A ++ B)).length)) :: (spkV K (A ++ B) ++ (calV K P5 true [] ++ L)))) (by k_extra "p")
        have h8 : H7 W.rim.c = some (calO K W.rim) := z8.eq List.mem_cons_self
        refine go_methL h8 no_Calendar_put ?_
        k_extra "we"
        have okr := ok_rimE (G := G) hw.asc
        refine ⟨false, G, _, W.rim, (A ++ B).map rimE, rimE ⟨spk W.span x.k, P5, []⟩, rfl, z8, okr, ⟨_, rfl, rfl⟩, getE_gone (f := rimE) (fun _ => rfl) hA hB, by rw [List.length_map]; omega, fun H9 z9 _ => ?_⟩
        rw [ins_mid (f := rimE) (fun _ => rfl) (w := ⟨spk W.span x.k, P5, []⟩) hA hB] at z9
        k_extra "we"
        refine ⟨A, B, ⟨spk W.span x.k, P5, []⟩, rfl, rfl, by rw [flat_mid, flat_two]; rfl, ascW_ins hw.asc hA hB, ⟨EsOk.nil, fun e he => nomatch he⟩, fun a ha => ⟨hw.each a (List.mem_append_left _ ha), hA a ha⟩, fun b hb => ⟨hw.each b (List.mem_append_right _ hb), hB b hb⟩, z9.perm ?_⟩
        unfold whV
        rw [spkV_mid, spkV_two]
        k_extra "p"
      · have gs := getE_mid (f := spE) (fun _ => rfl) hw.asc
        rw [← hwa, gs] at g
        rw [← hwa]
        refine go_ninD g ?_
        rw [Option.isSome_some]
        k_extra "we"
        have hew := hw.each w (List.mem_append_right _ List.mem_cons_self)
        refine ⟨A, B, w, rfl, rfl, rfl, hw.asc, hew.1, fun a ha => ⟨hw.each a (List.mem_append_left _ ha), by rw [hwa]; exact hA a ha⟩, fun b hb => ⟨hw.each b (List.mem_append_right _ (List.mem_cons_of_mem _ hb)), by rw [hwa]; exact hB b hb⟩, z⟩
    · rintro σ' H' ⟨A, B, w, rfl, hwa, hf, hasc, hwo, hA, hB, z1⟩
      have hc1 : H' W.c = some (whO K W (flat ws).length) := z1.eq List.mem_cons_self
      k_extra "we"
      refine go_fldL hc1 T.c_Wheel T.n_Wheel_spokes lk_Wheel_spokes ?_
      k_extra "we"
      obtain ⟨o, ho, ht⟩ := z1.get (p := W.sp) (φ := Thg false ((A ++ w :: B).map spE)) (List.mem_append_left _ (List.mem_cons_of_mem _ List.mem_cons_self))
      have ok := ok_spE (G := G) hasc
      have g : DGet H' W.sp (.int (spk W.span x.k)) (getE [spk W.span x.k] ((A ++ w :: B).map spE)) := thg_get (x := ⟨[spk W.span x.k], .int (spk W.span x.k), .non⟩) z1.ex ho ht ok.asc ok.good ⟨_, rfl, rfl⟩
      have gs := getE_mid (f := spE) (fun _ => rfl) hasc
      rw [← hwa, gs] at g
      rw [← hwa]
      refine go_subD g ?_
      have z2 := z1.perm (M := calV K w.P true w.es ++ ((W.c, Eq (whO K W (flat ws).length)) :: (W.sp, Thg false ((A ++ w :: B).map spE)) :: (calV K W.rim false ((A ++ w :: B).map rimE) ++ (spkV K A ++ (spkV K B ++ L))))) (by
        unfold whV
        rw [spkV_mid]
        k_extra "p")
      have h2 : H' w.P.c = some (calO K w.P) := z2.eq List.mem_cons_self
      refine go_methL h2 no_Calendar_put ?_
      k_extra "we"
      have hfl : (flat ws).length = (flat A ++ (w.es ++ flat B)).length := by rw [← hf, flat_mid]
      rw [List.length_append, List.length_append] at hfl
      have hnw : x.k ∉ w.es.map (·.k) := fun m => by
        obtain ⟨e, he, ek⟩ := List.mem_map.mp m
        refine nk e ?_ ek
        rw [← hf, flat_mid]
        exact List.mem_append_right _ (List.mem_append_left _ he)
      refine ⟨true, G, _, w.P, w.es, x, rfl, z2, hwo.ok, hx, hnw, by omega, fun H3 z3 _ => ?_⟩
      have z4 := z3.perm (M := (W.c, Eq (whO K W (flat ws).length)) :: (W.sp, Thg false ((A ++ w :: B).map spE)) :: (calV K W.rim false ((A ++ w :: B).map rimE) ++ (spkV K A ++ (calV K w.P true (insE x w.es) ++ (spkV K B ++ L))))) (by k_extra "p")
      have hc4 : H3 W.c = some (whO K W (flat ws).length) := z4.eq List.mem_cons_self
      k_extra "we"
      refine go_fldaugL hc4 T.c_Wheel T.n_Wheel_many lk_Wheel_many ?_
      k_extra "we"
      refine go_putL hc4 rfl ?_
      have en : ((flat ws).length : Int) + 1 = (((flat ws).length + 1 : Nat) : Int) := by omega
      rw [pt_Wheel_many, en]
      have z5 := z4.set0 (o' := whO K W ((flat ws).length + 1)) (ψ := Eq (whO K W ((flat ws).length + 1))) rfl
      have e5 : insE x (flat ws) = flat (A ++ ⟨w.at_, w.P, insE x w.es⟩ :: B) := by
        rw [← hf, flat_mid, flat_mid]
        exact flat_ins hs.1 hk (fun a ha => ⟨(hA a ha).1.1, (hA a ha).2⟩) (fun b hb => ⟨(hB b hb).1.1, (hB b hb).2⟩)
      have ew : ∀ (f : Spk → Ent), (∀ u v : Spk, u.at_ = v.at_ → u.P = v.P → f u = f v) → (A ++ ⟨w.at_, w.P, insE x w.es⟩ :: B).map f = (A ++ w :: B).map f := fun f hf => by
        rw [List.map_append, List.map_append, List.map_cons, List.map_cons, hf ⟨w.at_, w.P, insE x w.es⟩ w rfl rfl]
      refine q (whV K W ((flat ws).length + 1) (A ++ ⟨w.at_, w.P, insE x w.es⟩ :: B)) _ ⟨W, _, rfl, by rw [insE_len], e5, hs, ascW_mid (w := w) rfl hasc, fun v hv => ?_⟩ (z5.perm ?_)
      · rcases List.mem_append.mp hv with hv | hv
        · exact (hA v hv).1
        · rcases List.mem_cons.mp hv with rfl | hv
          · refine ⟨⟨hwo.ok.ins hx hnw, fun e he => ?_⟩, fun h => ?_⟩
            · rcases mem_insE.mp he with rfl | he
              · exact ⟨hk, hwa.symm⟩
              · exact hwo.at_ e he
            · have := insE_len x w.es
              rw [show insE x w.es = [] from h] at this
              cases this
          · exact (hB v hv).1
      · unfold whV
        rw [spkV_mid, ew spE fun u v h1 h2 => by unfold spE; rw [h1, h2], ew rimE fun u v h1 _ => by unfold rimE; rw [h1]]
        k_extra "p"
theorem ok_Wheel_take_out (T : Tx K mg) : OkM P w K mg base 5 "Wheel" "take_out" ["self", "key"] (spTakeI (whI K)) := by
  have G_Calendar_size := ok_Calendar_size (P := P) (w := w) (base := base) T; have G_Calendar_take_out := ok_Calendar_take_out (P := P) (w := w) (base := base) T; have G_Wheel_spoke_of := ok_Wheel_spoke_of (P := P) (w := w) (base := base) T
  refine T.f_Wheel_take_out.okX sc_Wheel_take_out (fun vs H Q E h => ?_) (fun cdv A outer s H vs Q E hr h => ?_)
  · obtain ⟨G, C, L, c, es, x, rfl, _⟩ := h
    rfl
  · have hu1 := hu_of hr; have hu0 := hr.units0; have hu64 := hr.units; have hu65 := hu65_of hr; have nd := sc_Wheel_take_out.nd
    obtain ⟨G, C, L, c, es, x, rfl, ⟨W, ws, rfl, rfl, rfl, hs, hw⟩, z, hx, hk, hl, q1, q2⟩ := h
    refine ⟨_, (pss_cons (ps_set (i := 2) nd rfl (Or.inl rfl) (pmeK (K := K) rfl T.m_Wheel_spoke_of T.c_Wheel G_Wheel_spoke_of hr (takes_of rfl rfl rfl rfl) (pv 0) (pa_cons (pv 1) pa_nil)))
      (pss_cons (ps_if (PW.pt (pw_or (pt_cmpR (op_notInK (K := K) rfl hu65) (pv 2) (pe_fldK (K := K) rfl (pv 0) rfl) rfl) (pw_or1 (pt_cmpR (op_notInK (K := K) rfl hu65) (pv 1) (pe_fldK (K := K) rfl (pe_ix (ix_anyK (K := K) rfl hu1) (pe_fldK (K := K) rfl (pv 0) rfl) (pv 2) (fun _ _ => rfl)) rfl) rfl)))) (pss_one (ps_ret pe_non))
      pss_nil)
      (pss_cons (ps_set (i := 3) nd rfl (Or.inl rfl) (pmeK (K := K) rfl T.m_Calendar_take_out T.c_Calendar G_Calendar_take_out hr (takes_of rfl rfl rfl rfl) (pe_ix (ix_anyK (K := K) rfl hu1) (pe_fldK (K := K) rfl (pv 0) rfl) (pv 2) (fun _ _ => rfl)) (pa_cons (pv 1) pa_nil)))
      (pss_cons (ps_fldaugK (K := K) rfl (pv 0) pe_int in_sub)
      (Evl.pss_cut (ps_if (pt_cmpR (op_eqK (K := K) rfl hu64) (pme0K (K := K) rfl T.m_Calendar_size T.c_Calendar G_Calendar_size hr (takes_of rfl rfl rfl rfl) (pe_ix (ix_anyK (K := K) rfl hu1) (pe_fldK (K := K) rfl (pv 0) rfl) (pv 2) (fun _ _ => rfl))) pe_int (nomark _)) (pss_cons (ps_expr (pe_bmK (K := K) rfl PySem.F.plainAttrs_dict PySem.F.slot_dict_pop PySem.F.type_dict_pop (mt_dpop1 hu1) (pe_fldK (K := K) rfl (pv 0) rfl) (pa_cons (pv 2) pa_nil)))
      (pss_one (ps_expr (pmeK (K := K) rfl T.m_Calendar_take_out T.c_Calendar G_Calendar_take_out hr (takes_of rfl rfl rfl rfl) (pe_fldK (K := K) rfl (pv 0) rfl) (pa_cons (pv 2) pa_nil)))))
      pss_nil)
      (pss_one (ps_ret (pv 3)))))))), ?_⟩
    refine go_start (σ' := [some (.ref W.c), some x.v, none, none]) rfl ?_
    have hc : H W.c = some (whO K W (flat ws).length) := z.eq List.mem_cons_self
    k_extra "we"
    refine go_methL hc no_Wheel_spoke_of ?_
    k_extra "we"
    refine ⟨W, _, x, rfl, hc, hs, hx.mono z.ex, hk, ?_⟩
    k_extra "we"
    refine go_fldL hc T.c_Wheel T.n_Wheel_spokes lk_Wheel_spokes ?_
    obtain ⟨A, B, hA, hB, hr⟩ := split_at (spk W.span x.k) ws hw.asc
    obtain ⟨o, ho, ht⟩ := z.get (p := W.sp) (φ := Thg false (ws.map spE)) (List.mem_append_left _ (List.mem_cons_of_mem _ List.mem_cons_self))
    have ok := ok_spE (G := G) hw.asc
    have g : DGet H W.sp (.int (spk W.span x.k)) (getE [spk W.span x.k] (ws.map spE)) := thg_get (x := ⟨[spk W.span x.k], .int (spk W.span x.k), .non⟩) z.ex ho ht ok.asc ok.good ⟨_, rfl, rfl⟩
    rcases hr with rfl | ⟨w, hwa, rfl⟩
    · have gn := getE_gone (f := spE) (fun _ => rfl) hA hB
      rw [getE_none.mpr gn] at g
      refine go_ninD g ?_
      rw [Option.isSome_none]
      k_extra "we"
      refine q1 (getE_none.mpr (not_flat (n := 0) (s := W.span) (G := G) (fun w h => (hw.each w h).1) fun w h => ?_))
      rcases List.mem_append.mp h with h | h
      · have := hA w h; omega
      · have := hB w h; omega
    · have gs := getE_mid (f := spE) (fun _ => rfl) hw.asc
      rw [← hwa, gs] at g
      have hwo := hw.each w (List.mem_append_right _ List.mem_cons_self)
      have hA2 : ∀ a ∈ A, SpkOk W.span G a ∧ a.es ≠ [] := fun a ha => hw.each a (List.mem_append_left _ ha)
      have hB2 : ∀ b ∈ B, SpkOk W.span G b ∧ b.es ≠ [] := fun b hb => hw.each b (List.mem_append_right _ (List.mem_cons_of_mem _ hb))
      have nA : x.k ∉ (flat A).map (·.k) := not_flat (n := 0) (s := W.span) (G := G) (fun w h => (hA2 w h).1) fun w h => by have := hA w h; omega
      have nB : x.k ∉ (flat B).map (·.k) := not_flat (n := 0) (s := W.span) (G := G) (fun w h => (hB2 w h).1) fun w h => by have := hB w h; omega
      have eg : getE x.k (flat (A ++ w :: B)) = getE x.k w.es := by
        rw [flat_mid, getE_app nA, getE_appR nB]
      have er : remE x.k (flat (A ++ w :: B)) = flat A ++ (remE x.k w.es ++ flat B) := by
        rw [flat_mid, remE_app, remE_app, remE_none nA, remE_none nB]
      rw [← hwa]
      refine go_ninD g ?_
      rw [Option.isSome_some]
      k_extra "we"
      refine go_fldL hc T.c_Wheel T.n_Wheel_spokes lk_Wheel_spokes ?_
      k_extra "we"
      refine go_subD g ?_
      have z2 := z.perm (M := calV K w.P true w.es ++ ((W.c, Eq (whO K W (flat (A ++ w :: B)).length)) :: (W.sp, Thg false ((A ++ w :: B).map spE)) :: (calV K W.rim false ((A ++ w :: B).map rimE) ++ (spkV K A ++ (spkV K B ++ L))))) (by
        unfold whV
        rw [spkV_mid]
        k_extra "p")
      have h2 : H w.P.c = some (calO K w.P) := z2.eq List.mem_cons_self
      refine go_fldL h2 T.c_Calendar T.n_Calendar_things lk_Calendar_things ?_
      obtain ⟨o2, ho2, ht2⟩ := z2.get (p := w.P.th) (φ := Thg true w.es) (List.mem_cons_of_mem _ (List.mem_cons_of_mem _ List.mem_cons_self))
      have g2 := thg_get z.ex ho2 ht2 hwo.1.ok.asc hwo.1.ok.good hx
      refine go_ninD g2 ?_
      k_extra "we"
      have hfl : (flat (A ++ w :: B)).length = (flat A ++ (w.es ++ flat B)).length := by rw [flat_mid]
      rw [List.length_append, List.length_append] at hfl
      cases hg : getE x.k w.es with
      | none =>
        rw [Option.isSome_none]
        k_extra "we"
        exact q1 (eg.trans hg)
      | some t =>
        rw [Option.isSome_some]
        k_extra "we"
        refine go_fldL hc T.c_Wheel T.n_Wheel_spokes lk_Wheel_spokes ?_
        k_extra "we"
        refine go_subD g ?_
        refine go_methL h2 no_Calendar_take_out ?_
        k_extra "we"
        refine ⟨true, G, _, w.P, w.es, x, rfl, z2, hwo.1.ok, hx, by omega, fun h => (by rw [hg] at h; cases h), fun t' ht' H3 z3 => ?_⟩
        rw [hg] at ht'
        obtain rfl := Option.some.inj ht'
        have z4 := z3.perm (M := (W.c, Eq (whO K W (flat (A ++ w :: B)).length)) :: (W.sp, Thg false ((A ++ w :: B).map spE)) :: (calV K W.rim false ((A ++ w :: B).map rimE) ++ (spkV K A ++ (calV K w.P true (remE x.k w.es) ++ (spkV K B ++ L))))) (by k_extra "p")
        have hc4 : H3 W.c = some (whO K W (flat (A ++ w :: B)).length) := z4.eq List.mem_cons_self
        k_extra "we"
        refine go_fldaugL hc4 T.c_Wheel T.n_Wheel_many lk_Wheel_many ?_
        k_extra "we"
        refine go_putL hc4 rfl ?_
        obtain ⟨e, em, ek, et⟩ := getE_mem hg
        have hlr : (remE x.k w.es).length + 1 = w.es.length := by
          obtain ⟨i, hi⟩ := List.mem_iff_getElem?.mp em
          have hil := (List.getElem?_eq_some_iff.mp hi).1
          rw [← ek, ← remE_at (asc_nodup hwo.1.ok.asc) hi, List.length_eraseIdx, if_pos hil]
          omega
        have en : ((flat (A ++ w :: B)).length : Int) - 1 = (((remE x.k (flat (A ++ w :: B))).length : Nat) : Int) := by
          rw [er, List.length_append, List.length_append]
          omega
        rw [pt_Wheel_many, en, show (HO.ins (He.ga K "Wheel") W.dx (fl_Wheel (.int W.span) (.ref W.sp) (.ref W.rim.c) (.int (((remE x.k (flat (A ++ w :: B))).length : Nat) : Int)))) = whO K W (remE x.k (flat (A ++ w :: B))).length from rfl]
        have z5 := z4.set0 (o' := whO K W (remE x.k (flat (A ++ w :: B))).length) (ψ := Eq (whO K W (remE x.k (flat (A ++ w :: B))).length)) rfl
        revert z5
        generalize upd H3 W.c _ = H5
        intro z5
        k_extra "we"
        refine ⟨fun σ' H' => ∃ C', σ' = [some (.ref W.c), some x.v, some (.int w.at_), some t] ∧ (whI K).Rep G C' W.c (remE x.k (flat (A ++ w :: B))) ∧ Hd G H' (C' ++ L), ?_, ?_⟩
        · have hc5 : H5 W.c = some (whO K W (remE x.k (flat (A ++ w :: B))).length) := z5.eq List.mem_cons_self
          k_extra "we"
          refine go_fldL hc5 T.c_Wheel T.n_Wheel_spokes lk_Wheel_spokes ?_
          k_extra "we"
          obtain ⟨o5, ho5, ht5⟩ := z5.get (p := W.sp) (φ := Thg false ((A ++ w :: B).map spE)) (List.mem_cons_of_mem _ List.mem_cons_self)
          have g5 : DGet H5 W.sp (.int w.at_) (getE [w.at_] ((A ++ w :: B).map spE)) := thg_get (x := spE w) z5.ex ho5 ht5 ok.asc ok.good ⟨_, rfl, rfl⟩
          rw [gs] at g5
          refine go_subD g5 ?_
          have m5 : ∀ y ∈ calV K w.P true (remE x.k w.es), y ∈ (W.c, Eq (whO K W (remE x.k (flat (A ++ w :: B))).length)) :: (W.sp, Thg false ((A ++ w :: B).map spE)) :: (calV K W.rim false ((A ++ w :: B).map rimE) ++ (spkV K A ++ (calV K w.P true (remE x.k w.es) ++ (spkV K B ++ L)))) := fun y hy =>
            List.mem_cons_of_mem _ (List.mem_cons_of_mem _ (List.mem_append_right _ (List.mem_append_right _ (List.mem_append_left _ hy))))
          have h5 : H5 w.P.c = some (calO K w.P) := z5.eq (m5 _ List.mem_cons_self)
          have h6 : H5 w.P.row = some (.lst ((remE x.k w.es).map (·.v))) := z5.eq (m5 _ (List.mem_cons_of_mem _ List.mem_cons_self))
          refine go_methL h5 no_Calendar_size ?_
          k_extra "we"
          refine ⟨w.P, remE x.k w.es, rfl, h5, h6, ?_⟩
          k_extra "we"
          refine go_ite (fun h0 => ?_) (fun h0 => ?_)
          · have e0 : remE x.k w.es = [] := List.length_eq_zero_iff.mp (by omega)
            k_extra "we"
            refine go_fldL hc5 T.c_Wheel T.n_Wheel_spokes lk_Wheel_spokes ?_
            refine ⟨thg_ty ho5 ht5, ?_⟩
            k_extra "we"
            obtain ⟨o7, t1, t2⟩ := thg_pop (x := spE w) z5.ex ho5 ht5 ok.asc ok.good ⟨_, rfl, rfl⟩ gs
            refine go_dpop t2 ?_
            rw [show (spE w).k = [w.at_] from rfl, rem_mid (f := spE) (fun _ => rfl) (fun a ha => by rw [hwa]; exact hA a ha) (fun b hb => by rw [hwa]; exact hB b hb)] at t1
            have z7 := z5.set1 t1
            revert z7
            generalize upd H5 W.sp o7 = H7
            intro z7
            have hc7 : H7 W.c = some (whO K W (remE x.k (flat (A ++ w :: B))).length) := z7.eq List.mem_cons_self
            k_extra "we"
            refine go_fldL hc7 T.c_Wheel T.n_Wheel_rim lk_Wheel_rim ?_
            have z8 := z7.perm (M := calV K W.rim false ((A ++ w :: B).map rimE) ++ (calV K w.P true (remE x.k w.es) ++ ((W.c, Eq (whO K W (remE x.k (flat (A ++ w :: B))).length)) :: (W.sp, Thg false ((A ++ B).map spE)) :: (spkV K A ++ (spkV K B ++ L))))) (by k_extra "p")
            have h8 : H7 W.rim.c = some (calO K W.rim) := z8.eq List.mem_cons_self
            refine go_methL h8 no_Calendar_take_out ?_
            k_extra "we"
            have okr := ok_rimE (G := G) hw.asc
            have gr := getE_mid (f := rimE) (fun _ => rfl) hw.asc
            have hl2 := flat_len fun w h => (hw.each w h).2
            refine ⟨false, G, _, W.rim, (A ++ w :: B).map rimE, rimE w, rfl, z8, okr, ⟨_, rfl, rfl⟩, by rw [List.length_map]; omega, fun h => ?_, fun t9 ht9 H9 z9 => ?_⟩
            · rw [show (rimE w).k = [w.at_] from rfl, gr] at h
              cases h
            · rw [show (rimE w).k = [w.at_] from rfl, rem_mid (f := rimE) (fun _ => rfl) (fun a ha => by rw [hwa]; exact hA a ha) (fun b hb => by rw [hwa]; exact hB b hb)] at z9
              have z10 := (z9.perm (M := calV K w.P true (remE x.k w.es) ++ (calV K W.rim false ((A ++ B).map rimE) ++ ((W.c, Eq (whO K W (remE x.k (flat (A ++ w :: B))).length)) :: (W.sp, Thg false ((A ++ B).map spE)) :: (spkV K A ++ (spkV K B ++ L))))) (by k_extra "p")).dropA
              k_extra "we"
              refine ⟨whV K W (remE x.k (flat (A ++ w :: B))).length (A ++ B), rfl, ⟨W, A ++ B, rfl, rfl, ?_, hs, ascW_two hw.asc, fun v hv => ?_⟩, z10.perm ?_⟩
              · rw [er, e0, flat_two]
                rfl
              · rcases List.mem_append.mp hv with hv | hv
                · exact hA2 v hv
                · exact hB2 v hv
              · unfold whV
                rw [spkV_two]
                k_extra "p"
          · k_extra "we"
            have ew : ∀ (f : Spk → Ent), (∀ u v : Spk, u.at_ = v.at_ → u.P = v.P → f u = f v) → (A ++ ⟨w.at_, w.P, remE x.k w.es⟩ :: B).map f = (A ++ w :: B).map f := fun f hf => by
              rw [List.map_append, List.map_append, List.map_cons, List.map_cons, hf ⟨w.at_, w.P, remE x.k w.es⟩ w rfl rfl]
            refine ⟨whV K W (remE x.k (flat (A ++ w :: B))).length (A ++ ⟨w.at_, w.P, remE x.k w.es⟩ :: B), by rw [hwa]; rfl, ⟨W, A ++ ⟨w.at_, w.P, remE x.k w.es⟩ :: B, rfl, rfl, ?_, hs, ascW_mid (w := w) rfl hw.asc, fun v hv => ?_⟩, z5.perm ?_⟩
            · rw [er, flat_mid]
            · rcases List.mem_append.mp hv with hv | hv
              · exact hA2 v hv
              · rcases List.mem_cons.mp hv with rfl | hv
                · exact ⟨⟨hwo.1.ok.rem, fun e he => hwo.1.at_ e (mem_remE.mp he).1⟩, fun h => h0 (by rw [show remE x.k w.es = [] from h]; rfl)⟩
                · exact hB2 v hv
            · unfold whV
              rw [spkV_mid, ew spE fun u v h1 h2 => by unfold spE; rw [h1, h2], ew rimE fun u v h1 _ => by unfold rimE; rw [h1]]
              k_extra "p"
        · rintro σ' H' ⟨C', rfl, rep, z6⟩
          k_extra "we"
          exact q2 t (eg.trans hg) C' _ rep z6
theorem ok_Wheel_leave (T : Tx K mg) : OkM P w K mg base 6 "Wheel" "leave" ["self"] (spLeaveI (whI K)) := by
  have G_Wheel_take_out := ok_Wheel_take_out (P := P) (w := w) (base := base) T; have G_Wheel_least := ok_Wheel_least (P := P) (w := w) (base := base) T
  refine T.f_Wheel_leave.okX sc_Wheel_leave (fun vs H Q E h => ?_) (fun cdv A outer s H vs Q E hr h => ?_)
  · obtain ⟨G, C, L, c, es, rfl, _⟩ := h
    rfl
  · have hu1 := hu_of hr; have hu0 := hr.units0; have hu64 := hr.units; have hu65 := hu65_of hr; have nd := sc_Wheel_leave.nd
    obtain ⟨G, C, L, c, es, rfl, rep, z, hl, q1, q2⟩ := h
    refine ⟨_, (pss_cons (ps_set (i := 1) nd rfl (Or.inl rfl) (pme0K (K := K) rfl T.m_Wheel_least T.c_Wheel G_Wheel_least hr (takes_of rfl rfl rfl rfl) (pv 0)))
      (pss_cons (ps_if (pt_cmpR op_isN1 (pv 1) pe_non (nomark _)) (pss_one (ps_ret pe_non))
      pss_nil)
      (pss_one (ps_ret (pe_tup (pa_cons (pv 1) (pa_cons (pmeK (K := K) rfl T.m_Wheel_take_out T.c_Wheel G_Wheel_take_out hr (takes_of rfl rfl rfl rfl) (pv 0) (pa_cons (pv 1) pa_nil)) pa_nil))))))), ?_⟩
    refine go_start (σ' := [some (.ref c), none]) rfl ?_
    obtain ⟨dx, fs, hc, hno⟩ := (whI K).at_ rep z fun x hx => List.mem_append_left _ hx
    have he := (whI K).ok rep
    k_extra "we"
    refine go_methL hc (hno _ (by decide +kernel)) ?_
    k_extra "we"
    refine ⟨G, C, L, c, es, rfl, rep, z, ?_⟩
    cases es with
    | nil =>
      dsimp only [leastV]
      k_extra "we"
      exact q1 rfl
    | cons e r =>
      obtain ⟨a, e1, h1⟩ := he.good e List.mem_cons_self
      dsimp only [leastV]
      rw [e1]
      k_extra "we"
      refine go_methL hc (hno _ (by decide +kernel)) ?_
      k_extra "we"
      have gg : getE e.k (e :: r) = some e.t := getE_of (asc_nodup he.asc) List.mem_cons_self
      refine ⟨G, C, L, c, e :: r, ⟨e.k, .ref a, e.t⟩, rfl, rep, z, ⟨a, rfl, h1⟩, whI_ne rep e List.mem_cons_self, hl, fun h => (by rw [show getE e.k (e :: r) = none from h] at gg; cases gg), fun t ht C' H' rep' z' => ?_⟩
      have et : t = e.t := by
        have ht' : getE e.k (e :: r) = some t := ht
        rw [gg] at ht'
        exact (Option.some.inj ht').symm
      subst et
      have rep2 : (whI K).Rep G C' c r := by
        have := remE_head he.asc
        have rep3 : (whI K).Rep G C' c (remE e.k (e :: r)) := rep'
        rw [this] at rep3
        exact rep3
      k_extra "we"
      refine go_sz rfl fun p hp => ?_
      rw [← e1]
      exact q2 e r rfl p C' _ ((whI K).mono rep2 (Ext.new (z'.gno hp))) (z'.fix hp) (z'.gno hp)
end
end Mo
namespace Mo
open PySem PySem.Spec PyProof.Rows L2
/-! ### calendars made -/
section
variable {K : PySem.W.Frag} {Γ : List Fc} {S : List Vo} {Q : VK} {E : XK}
theorem w_mkCal (k : ∀ c C, Wh K (repF (calI K) C c [] :: Γ) (C :: S) fun H => Q (.ref c) H) : Wh K Γ S fun H => mkI (He.ga K "Calendar") (spCalInit K) [] H Q E := by
  refine w_made fun c dx => fun H z => ?_
  obtain ⟨G, a, b⟩ := z
  refine ⟨G, S.flatten, c, dx, true, rfl, a, fun P H' hP z' _ => ⟨rfl, k c (calV K P true []) H' ⟨G, z', fun f hf => ?_⟩⟩⟩
  rcases List.mem_cons.mp hf with rfl | hf
  · exact ⟨P, hP, rfl, EsOk.nil⟩
  · exact b f hf
theorem w_mkWheel {s : Int} (h : 0 < s ∧ s ≤ 1000) (k : ∀ c C, Wh K (repF (whI K) C c [] :: Γ) (C :: S) fun H => Q (.ref c) H) : Wh K Γ S fun H => mkI (He.ga K "Wheel") (spWheelInit K) [.int s] H Q E := by
  refine w_made fun c dx => fun H z => ?_
  obtain ⟨G, a, b⟩ := z
  refine ⟨G, S.flatten, c, dx, s, rfl, h, a, fun C H' rep z' => ⟨rfl, k c C H' ⟨G, z', fun f hf => ?_⟩⟩⟩
  rcases List.mem_cons.mp hf with rfl | hf
  · exact rep
  · exact b f hf
theorem w_orL {a b : Sp} {vs : List V} (k : Wh K Γ S fun H => a vs H Q E) : Wh K Γ S fun H => spOr a b vs H Q E := fun H z => .inl (k H z)
theorem w_orR {a b : Sp} {vs : List V} (k : Wh K Γ S fun H => b vs H Q E) : Wh K Γ S fun H => spOr a b vs H Q E := fun H z => .inr (k H z)
end
end Mo
namespace Mo
open PySem PySem.Spec PyProof.Rows L2
/-! ### the purse: numbers drawn, whatever they are -/
section
variable {P : Program} {w : World} {K : PySem.W.Frag} {mg : Str → Option Value} {base : Heap}
theorem ok__law_mixed (T : Tx K mg) : OkG P w K mg base 1 "_law_mixed" ["_law_cell", "_law_k"] spMixed := by
  refine T.f__law_mixed.okX sc__law_mixed (fun vs H Q E h => ?_) (fun cdv A outer s H vs Q E hr h => ?_)
  · obtain ⟨c, k, rfl, _⟩ := h
    rfl
  · have hu1 := hu_of hr; have hu0 := hr.units0; have hu64 := hr.units; have hu65 := hu65_of hr; have nd := sc__law_mixed.nd
    obtain ⟨c, k, rfl, hc, hk, q⟩ := h
    refine ⟨_, (pss_cons (ps_set (i := 2) nd rfl (Or.inl rfl) (pe_op op_modX (pe_op op_mulX (pe_op (op_addK (K := K) rfl) (pe_op (op_addK (K := K) rfl) (pe_op (op_addK (K := K) rfl) (pe_op op_mulX (pv 0) (pv 0)) (pe_op op_mulX pe_int (pv 0))) (pe_op op_mulX pe_int (pv 1))) pe_int) pe_int) pe_int))
      (pss_one (ps_ret (pe_op op_modX (pe_op (op_addK (K := K) rfl) (pe_op op_mulX (pv 2) (pv 2)) pe_int) pe_int)))), ?_⟩
    refine go_start (σ' := [some (.int c), some (.int k), none]) rfl ?_
    have b1 : Bd (1048576 + 1048576) (c * c) := hc.mul hc
    have b2 : Bd (2 + 1048576) (3 * c) := Bd.mul (by decide) hc
    have b3 : Bd (13 + 8) (7919 * k) := Bd.mul (by decide) hk
    have b4 : Bd 2097155 (c * c + 3 * c + 7919 * k + 1) := (((b1.add (b2.mono (by decide))).add (b3.mono (by decide))).add (Bd.mono (a := 1) (by decide) (by decide)))
    k_extra "w"
    refine go_I (hc.cmul hc) ?_
    k_extra "w"
    refine go_I (Bd.cmul (a := 2) (by decide) hc) ?_
    k_extra "w"
    refine go_I (Bd.cmul (a := 13) (by decide) hk) ?_
    k_extra "w"
    refine go_I (Bd.cmul (b := 16) b4 (by decide)) ?_
    k_extra "w"
    refine go_mod (by decide) ?_
    generalize hz : Int.fmod _ _ = z
    have hz2 := fmod_range (a := (c * c + 3 * c + 7919 * k + 1) * 48271) (n := 2147483629) (by decide)
    rw [hz] at hz2
    have b5 : Bd 31 z := bd_range hz2.1 hz2.2 (by decide)
    k_extra "w"
    refine go_I (b5.cmul b5) ?_
    k_extra "w"
    refine go_mod (by decide) ?_
    k_extra "w"
    have hy := fmod_range (a := z * z + 7) (n := 2147483587) (by decide)
    exact q _ (bd_range hy.1 hy.2 (by decide))
theorem ok__law_purse (T : Tx K mg) : OkG P w K mg base 2 "_law_purse" ["_law_script"] (spPurse K) := by
  have G__law_mixed := ok__law_mixed (P := P) (w := w) (base := base) T
  refine T.f__law_purse.okX sc__law_purse (fun vs H Q E h => ?_) (fun cdv A outer s H vs Q E hr h => ?_)
  · obtain ⟨a, ns, rfl, _⟩ := h
    rfl
  · have hu1 := hu_of hr; have hu0 := hr.units0; have hu64 := hr.units; have hu65 := hu65_of hr; have nd := sc__law_purse.nd
    obtain ⟨a, ns, rfl, hS, hl, hb, q⟩ := h
    refine ⟨_, (pss_cons (ps_set (i := 1) nd rfl (Or.inl rfl) (pe_op (op_addK (K := K) rfl) (pe_slice (sl_anyK (K := K) rfl) (pv 0) po_none (po_some pe_int)) (pe_lst (pa_cons pe_int pa_nil))))
      (pss_cons (ps_set (i := 2) nd rfl (Or.inl rfl) pe_int)
      (pss_cons (ps_for (passes_of rfl) rfl (pi_range1 rfl T.b_range (pa_cons pe_int pa_nil)) (pg_name (i := 3) nd rfl (Or.inl rfl))
      (pss_one (ps_set (i := 2) nd rfl (Or.inl rfl) (pe_op (op_addK (K := K) rfl) (pe_op op_mulX (pv 2) pe_int) (pcl T.g__law_mixed G__law_mixed hr (takes_of rfl rfl rfl rfl) (pa_cons (pe_ix (ix_anyK (K := K) rfl hu1) (pv 1) (pe_op op_modX (pv 3) (pe_callB (call_lenK (K := K) rfl) (by rfl) T.b_len (by decide +kernel) (pa_cons (pv 1) pa_nil))) (fun _ _ => rfl)) (pa_cons (pv 3) pa_nil)))))))
      (pss_cons (ps_if (pt_cmpR (op_eqK (K := K) rfl hu64) (pe_op op_modX (pe_ix (ix_anyK (K := K) rfl hu1) (pv 1) pe_int (fun _ _ => rfl)) pe_int) pe_int (nomark _)) (pss_one (ps_ret (pe_lst (pa_cons (pe_callB (call_max2 rfl) (by rfl) T.b_max (by decide +kernel) (pa_cons (pe_op op_fdivX (pe_ix (ix_anyK (K := K) rfl hu1) (pv 1) pe_int (fun _ _ => rfl)) pe_int) (pa_cons (pe_op op_sub (pe_un un_neg pe_int) (pe_op op_fdivX (pe_ix (ix_anyK (K := K) rfl hu1) (pv 1) pe_int (fun _ _ => rfl)) pe_int)) pa_nil))) (pa_cons (pv 2) pa_nil)))))
      pss_nil)
      (pss_one (ps_ret (pe_lst (pa_cons (pv 2) (pa_cons (pv 2) pa_nil))))))))), ?_⟩
    refine go_start (σ' := [some (.ref a), none, none, none]) rfl ?_
    k_extra "w"
    refine .inl ⟨a, _, rfl, hS, fun c hc => ?_⟩
    have ec : cutV (ns.map V.int) none (some 63) = ns.map V.int := by
      unfold cutV
      have e1 : HT.sIx (ns.map V.int).length 0 none = 0 := rfl
      have e2 : HT.sIx (ns.map V.int).length (ns.map V.int).length (some 63) = ns.length := by
        have := HT.sIx_nat (ns.map V.int).length (ns.map V.int).length 63
        rw [List.length_map] at this
        rw [List.length_map]
        rw [show (some (63 : Int)) = some ((63 : Nat) : Int) from rfl, this]
        omega
      rw [e1, e2, List.drop_zero, Nat.sub_zero, List.take_of_length_le (by rw [List.length_map]; exact Nat.le_refl _)]
    rw [ec]
    k_extra "w"
    refine go_size (by decide) fun z hz => ?_
    have ncz : c ≠ z := ne_of_none upd_same hz
    refine go_addL (by rw [upd_ne ncz]; exact upd_same) upd_same (by rw [List.length_map, sizeLine_eq]; simp only [List.length_cons, List.length_nil]; omega) fun d hd => ?_
    have eH : Hd H (upd (upd (upd H c (.lst (ns.map V.int))) z (.lst [.int 0])) d (.lst (ns.map V.int ++ [.int 0]))) [] := Hd.nil (((Ext.new hc).trans (Ext.new hz)).trans (Ext.new hd))
    have hcs : (upd (upd (upd H c (.lst (ns.map V.int))) z (.lst [.int 0])) d (.lst (ns.map V.int ++ [.int 0]))) d = some (.lst ((ns ++ [0]).map V.int)) := by
      rw [upd_same, List.map_append]
      rfl
    revert hcs eH
    generalize (upd (upd (upd H c (.lst (ns.map V.int))) z (.lst [.int 0])) d (.lst (ns.map V.int ++ [.int 0]))) = H1
    intro eH hcs
    have hb' : ∀ y ∈ ns ++ [0], Bd 1048576 y := fun y hy => by
      rcases List.mem_append.mp hy with hy | hy
      · exact hb y hy
      · rw [List.mem_singleton.mp hy]
        exact Nat.pow_pos (by decide)
    have hpos : 0 < (ns ++ [0]).length := by rw [List.length_append, List.length_singleton]; omega
    have hlen : (ns ++ [0]).length ≤ 64 := by rw [List.length_append, List.length_singleton]; omega
    revert hcs hb' hpos hlen
    generalize ns ++ [0] = cs
    intro hcs hb' hpos hlen
    k_extra "w"
    refine go_r1 (j := 150) 150 rfl (by decide) ?_
    refine loop_r 150 (fun i σ H' => H' = H1 ∧ ∃ x v, Bd (33 * i + 1) x ∧ σ = [some (.ref a), some (.ref d), some (.int x), v]) ⟨rfl, 1, none, by decide, rfl⟩ ?_ ?_
    · rintro i σ H' hi ⟨rfl, x, v, hx, rfl⟩
      k_extra "w"
      refine go_I (Bd.cmul (b := 31) hx (by decide) (by omega) (by decide) (by omega)) ?_
      k_extra "w"
      refine go_lenL (SqL.of hcs) ?_
      rw [List.length_map]
      refine go_mod (by omega) ?_
      have hm := fmod_range (a := (i : Int)) (n := (cs.length : Int)) (by omega)
      obtain ⟨j, hj⟩ : ∃ j : Nat, (i : Int).fmod (cs.length : Int) = (j : Int) := ⟨_, (Int.toNat_of_nonneg hm.1).symm⟩
      rw [hj]
      have hjl : j < cs.length := by omega
      refine go_subL (SqL.of hcs) (atI_nat (v := .int cs[j]) (by rw [List.getElem?_map, List.getElem?_eq_getElem hjl]; rfl)) ?_
      k_extra "w"
      refine ⟨_, _, rfl, hb' _ (List.getElem_mem hjl), ?_, fun r hr => ?_⟩
      · show (i : Int).natAbs < 2 ^ 8
        rw [Int.natAbs_natCast]
        omega
      · k_extra "w"
        refine ⟨rfl, _, _, ?_, rfl⟩
        have h1 : Bd (33 * i + 1 + 31) (x * 2147483587) := hx.mul (by decide)
        exact Bd.mono (Bd.add h1 (hr.mono (by omega))) (by omega)
    · rintro σ H' ⟨rfl, x, v, hx, rfl⟩
      have e0 : cs[0]? = some cs[0] := List.getElem?_eq_getElem hpos
      have es : atI (cs.map V.int) 0 = some (.int cs[0]) := atI_nat (j := 0) (by rw [List.getElem?_map, e0]; rfl)
      k_extra "w"
      refine go_subL (SqL.of hcs) es ?_
      k_extra "w"
      refine go_mod (by decide) ?_
      k_extra "w"
      refine go_ite (fun _ => ?_) (fun _ => ?_)
      · k_extra "w"
        refine go_subL (SqL.of hcs) es ?_
        k_extra "w"
        refine go_div 2 (by decide) (by decide) ?_
        k_extra "w"
        refine go_subL (SqL.of hcs) es ?_
        k_extra "w"
        refine go_div 2 (by decide) (by decide) ?_
        k_extra "w"
        refine ⟨_, _, rfl, ?_⟩
        k_extra "w"
        refine go_sz rfl fun p hp => ?_
        exact q p _ (eH.new hp ⟨_, _, rfl⟩)
      · k_extra "w"
        refine go_sz rfl fun p hp => ?_
        exact q p _ (eH.new hp ⟨_, _, rfl⟩)
theorem ok__law_draw (T : Tx K mg) : OkG P w K mg base 1 "_law_draw" ["_law_purse_here", "_law_out_of"] spDraw := by
  refine T.f__law_draw.okX sc__law_draw (fun vs H Q E h => ?_) (fun cdv A outer s H vs Q E hr h => ?_)
  · obtain ⟨G, L, p, n, rfl, _⟩ := h
    rfl
  · have hu1 := hu_of hr; have hu0 := hr.units0; have hu64 := hr.units; have hu65 := hu65_of hr; have nd := sc__law_draw.nd
    obtain ⟨G, L, p, n, rfl, hH, hm, hn, hb, q⟩ := h
    refine ⟨_, (pss_cons (ps_if (pt_cmpR (op_eqK (K := K) rfl hu64) (pe_ix (ix_anyK (K := K) rfl hu1) (pv 0) pe_int (fun _ _ => rfl)) pe_int (nomark _)) (pss_one (ps_asg (pe_ix (ix_anyK (K := K) rfl hu1) (pv 0) pe_int (fun _ _ => rfl)) (pg_sub (pv 0) pe_int (set_any hu1))))
      pss_nil)
      (pss_cons (ps_set (i := 2) nd rfl (Or.inl rfl) (pe_op op_modX (pe_ix (ix_anyK (K := K) rfl hu1) (pv 0) pe_int (fun _ _ => rfl)) (pv 1)))
      (pss_cons (ps_asg (pe_op op_fdivX (pe_ix (ix_anyK (K := K) rfl hu1) (pv 0) pe_int (fun _ _ => rfl)) (pv 1)) (pg_sub (pv 0) pe_int (set_any hu1)))
      (pss_one (ps_ret (pv 2)))))), ?_⟩
    refine go_start (σ' := [some (.ref p), some (.int n), none]) rfl ?_
    obtain ⟨o, hp, x, y, rfl⟩ := hH.get hm
    k_extra "w"
    refine go_subL (SqL.of hp) rfl ?_
    k_extra "w"
    have fin : ∀ (H1 : Hp) (x y : Int), Hd G H1 L → H1 p = some (.lst [.int x, .int y]) → tSeq (tAsg (tOp (rI CMod fun i j => .int (i.fmod j)) (tOp (rSub K) (tVar 0) (tC (.int 0))) (tVar 1)) (gName 2))
        (tSeq (tAsg (tOp (rI CDivX fun i j => .int (i.fdiv j)) (tOp (rSub K) (tVar 0) (tC (.int 0))) (tVar 1)) (gSub (tVar 0) (tC (.int 0)) rSet)) (tRet (tVar 2))) { nx := fun _ H' => Q .non H', rt := Q } [some (.ref p), some (.int n), none] H1 := by
      intro H1 x y hH1 hp1
      k_extra "w"
      refine go_subL (SqL.of hp1) rfl ?_
      k_extra "w"
      refine go_mod (by omega) ?_
      k_extra "w"
      refine go_subL (SqL.of hp1) rfl ?_
      k_extra "w"
      refine go_div 8000 (by omega) hb ?_
      k_extra "w"
      refine go_setL hp1 rfl ?_
      k_extra "w"
      have hr := fmod_range (a := x) hn
      exact q _ _ hr.1 hr.2 (hH1.put hm ⟨_, _, rfl⟩)
    refine go_ite (fun _ => ?_) (fun _ => ?_)
    · k_extra "w"
      refine go_subL (SqL.of hp) rfl ?_
      k_extra "w"
      refine go_setL hp rfl ?_
      exact fin _ _ _ (hH.put hm ⟨_, _, rfl⟩) upd_same
    · exact fin _ _ _ hH hp
end
end Mo
namespace Mo
open PySem PySem.Spec PyProof.Rows L2
/-! ### law_k27 -/
theorem cnt27 {last : Nat} {span : Int} {w : Nat} : ∀ m ∈ [m27 last span w, two27], ∀ sign, Dd.cnts (m.deedsFor sign) ≤ 5 := by
  intro m hm sign
  simp only [List.mem_cons, List.not_mem_nil, or_false] at hm
  rcases hm with rfl | rfl
  · have h1 : Dd.cnts (deeds27 last span w) ≤ 5 := by
      match w with
      | 0 => simp only [deeds27, stop27, again27, Dd.cnts, Dd.cnt]; omega
      | 1 => simp only [deeds27, stop27, again27, Dd.cnts, Dd.cnt]; omega
      | w + 2 => simp only [deeds27, stop27, again27, Dd.cnts, Dd.cnt]; omega
    unfold Mach.deedsFor m27
    rw [List.find?_cons]
    by_cases e : ("tick" : Str) = sign
    · rw [decide_eq_true e]; exact h1
    · rw [decide_eq_false e]
      show Dd.cnts [] ≤ 5
      rw [Dd.cnts]; omega
  · show Dd.cnts [] ≤ 5
    rw [Dd.cnts]; omega
section
variable {P : Program} {w : World} {K : PySem.W.Frag} {mg : Str → Option Value} {base : Heap}
theorem ok_law (T : Tx K mg) : OkG P w K mg base 60 "law" ["_law_script"] (spLaw K) := by
  have G__law_purse := ok__law_purse (P := P) (w := w) (base := base) T
  have G__law_draw := ok__law_draw (P := P) (w := w) (base := base) T
  have G__law_machine := ok__law_machine (P := P) (w := w) (base := base) T
  have G__law_due := ok__law_due (P := P) (w := w) (base := base) T
  have G_Model_init := ok_Model_init (P := P) (w := w) (base := base) T 10
  have G_Calendar_init := ok_Calendar_init (P := P) (w := w) (base := base) T
  have G_Wheel_init := ok_Wheel_init (P := P) (w := w) (base := base) T
  have G_by_calendar := fn_or (ok_by_calendar_Calendar (P := P) (w := w) (base := base) T 10 ["tick"] SOk (calI K) (okI_Calendar_size T) (okI_Calendar_put T) (okI_Calendar_leave T)) (ok_by_calendar_Wheel (P := P) (w := w) (base := base) T 10 ["tick"] SOk (whI K) ((ok_Wheel_size T).mono (by decide)) (ok_Wheel_put T) (ok_Wheel_leave T))
  refine T.f_law.okX sc_law (fun vs H Q E h => ?_) (fun cdv A outer s H vs Q E hr h => ?_)
  · obtain ⟨a, ns, rfl, _⟩ := h
    rfl
  · have hu1 := hu_of hr; have hu0 := hr.units0; have hu64 := hr.units; have hu65 := hu65_of hr; have nd := sc_law.nd
    obtain ⟨a0, ns, rfl, _, hS, hl, hb, q⟩ := h
    refine ⟨_, (pss_cons (ps_set (i := 1) nd rfl (Or.inr rfl) (pcl T.g__law_purse G__law_purse hr (takes_of rfl rfl rfl rfl) (pa_cons (pv 0) pa_nil)))
      (pss_cons (ps_set (i := 2) nd rfl (Or.inl rfl) (pe_op (op_addK (K := K) rfl) pe_int (pcl T.g__law_draw G__law_draw hr (takes_of rfl rfl rfl rfl) (pa_cons (pv 1) (pa_cons pe_int pa_nil)))))
      (pss_cons (ps_set (i := 3) nd rfl (Or.inl rfl) (pe_ix (ix_anyK (K := K) rfl hu1) (pe_lst (pa_cons pe_str (pa_cons pe_str (pa_cons pe_str pa_nil)))) (pcl T.g__law_draw G__law_draw hr (takes_of rfl rfl rfl rfl) (pa_cons (pv 1) (pa_cons pe_int pa_nil))) (fun _ _ => rfl)))
      (pss_cons (ps_set (i := 4) nd rfl (Or.inr rfl) (pe_op (op_addK (K := K) rfl) pe_int (pcl T.g__law_draw G__law_draw hr (takes_of rfl rfl rfl rfl) (pa_cons (pv 1) (pa_cons pe_int pa_nil)))))
      (pss_cons (ps_setLc (i := 5) rfl nd rfl rfl (sw_true rfl rfl rfl (by decide +kernel)) (own := [("_law_k", 13)]) (pi_range1 rfl T.b_range (pa_cons (pcl T.g__law_draw G__law_draw hr (takes_of rfl rfl rfl rfl) (pa_cons (pv 1) (pa_cons pe_int pa_nil))) pa_nil)) (blkOk_by (own := [("_law_k", 13)]) (N := nm_law) (sc := defScope s_law) (by decide +kernel)) (fun _ _ _ _ _ => (pg_name (i := 13) nd rfl (Or.inl rfl) (Or.inr rfl))) (fun _ _ _ _ _ => pts_nil) (fun _ _ _ _ _ => (pe_op (op_addK (K := K) rfl) (pe_op op_mulX (pv 4) (pcl T.g__law_draw G__law_draw hr takes0 (pa_cons (pv 1) (pa_cons pe_int pa_nil)))) (pcl T.g__law_draw G__law_draw hr takes0 (pa_cons (pv 1) (pa_cons pe_int pa_nil))))))
      (pss_cons (ps_set (i := 6) nd rfl (Or.inl rfl) (pe_callB (call_max2 rfl) (by rfl) T.b_max (by decide +kernel) (pa_cons pe_int (pa_cons (pe_op op_sub (pe_op (op_addK (K := K) rfl) (pe_op (op_addK (K := K) rfl) (pv 2) (pe_callB (call_lenK (K := K) rfl) (by rfl) T.b_len (by decide +kernel) (pa_cons (pv 5) pa_nil))) (pcl T.g__law_draw G__law_draw hr (takes_of rfl rfl rfl rfl) (pa_cons (pv 1) (pa_cons pe_int pa_nil)))) pe_int) pa_nil))))
      (pss_cons (ps_set (i := 7) nd rfl (Or.inl rfl) (pe_lst (pa_cons (pcl T.g__law_machine G__law_machine hr (takes_of rfl rfl rfl rfl) (pa_cons (pv 2) (pa_cons (pv 3) (pa_cons (pv 4) pa_nil)))) (pa_cons (pe_tup (pa_cons pe_str (pa_cons (pe_lst pa_nil) (pa_cons (pe_lst pa_nil) (pa_cons (pe_lst pa_nil) (pa_cons (pe_lst pa_nil) pa_nil)))))) pa_nil))))
      (pss_cons (ps_set (i := 8) nd rfl (Or.inl rfl) (pe_op (op_addK (K := K) rfl) (pe_lst (pa_cons (pe_tup (pa_cons pe_int (pa_cons pe_int (pa_cons pe_int (pa_cons pe_str (pa_cons pe_int (pa_cons pe_int pa_nil))))))) pa_nil)) (pe_lc (own := [("_law_time", 14)]) rfl nd (pi_seqK (K := K) rfl (pv 5)) (blkOk_by (own := [("_law_time", 14)]) (N := nm_law) (sc := defScope s_law) (by decide +kernel)) (fun _ _ _ _ _ => (pg_name (i := 14) nd rfl (Or.inl rfl) (Or.inr rfl))) (fun _ _ _ _ _ => pts_nil) (fun _ _ _ _ _ => (pe_tup (pa_cons (pv 14) (pa_cons pe_int (pa_cons pe_int (pa_cons pe_str (pa_cons pe_int (pa_cons pe_int pa_nil)))))))))))
      (pss_cons (ps_set (i := 9) nd rfl (Or.inl rfl) (pcl T.g__law_due G__law_due hr (takes_of rfl rfl rfl rfl) (pa_cons (pv 2) (pa_cons (pv 3) (pa_cons (pv 4) (pa_cons (pv 5) (pa_cons (pv 6) pa_nil)))))))
      (pss_cons (ps_for (passes_of rfl) rfl (pi_seqK (K := K) rfl (pe_lst (pa_cons (pmk0K (K := K) rfl T.k_Calendar G_Calendar_init hr (takes_of rfl rfl rfl rfl)) (pa_cons (pmkK (K := K) rfl T.k_Wheel G_Wheel_init hr (takes_of rfl rfl rfl rfl) (pa_cons (pe_op (op_addK (K := K) rfl) pe_int (pcl T.g__law_draw G__law_draw hr (takes_of rfl rfl rfl rfl) (pa_cons (pv 1) (pa_cons pe_int pa_nil)))) pa_nil)) pa_nil)))) (pg_name (i := 10) nd rfl (Or.inl rfl))
      (Evl.pss_cut (ps_set (i := 11) nd rfl (Or.inl rfl) (pcl T.g_by_calendar G_by_calendar hr (takes_of rfl rfl rfl rfl) (pa_cons (pmkK (K := K) rfl T.k_Model G_Model_init hr (takes_of rfl rfl rfl rfl) (pa_cons (pv 7) pa_nil)) (pa_cons (pv 8) (pa_cons (pv 6) (pa_cons (pv 10) pa_nil))))))
      (pss_cons (ps_if (PW.pt (pw_or (pt_cmpR (op_neK (K := K) rfl hu64) (pe_lc (own := [("_law_record", 15)]) rfl nd (pi_seqK (K := K) rfl (pe_fldK (K := K) rfl (pv 11) rfl)) (blkOk_by (own := [("_law_record", 15)]) (N := nm_law) (sc := defScope s_law) (by decide +kernel)) (fun _ _ _ _ _ => (pg_name (i := 15) nd rfl (Or.inl rfl) (Or.inr rfl))) (fun _ _ _ _ _ => pts_nil) (fun _ _ _ _ _ => (pe_ix (ix_anyK (K := K) rfl hu1) (pv 15) pe_int (fun _ _ => rfl)))) (pe_ix (ix_anyK (K := K) rfl hu1) (pv 9) pe_int (fun _ _ => rfl)) (nomark _)) (pw_or1 (pt_cmpR (op_neK (K := K) rfl hu64) (pe_fldK (K := K) rfl (pv 11) rfl) (pe_ix (ix_anyK (K := K) rfl hu1) (pv 9) pe_int (fun _ _ => rfl)) (nomark _))))) (pss_one (ps_ret pe_bl))
      pss_nil)
      (pss_cons (ps_set (i := 12) nd rfl (Or.inl rfl) (pe_ix (ix_anyK (K := K) rfl hu1) (pe_fldK (K := K) rfl (pv 11) rfl) pe_int (fun _ _ => rfl)))
      (pss_one (ps_if (PW.pt (pw_or (pt_cmpR (op_neK (K := K) rfl hu64) (pe_ix (ix_anyK (K := K) rfl hu1) (pe_fldK (K := K) rfl (pv 12) rfl) pe_str (fun _ _ => rfl)) (pe_ix (ix_anyK (K := K) rfl hu1) (pv 9) pe_int (fun _ _ => rfl)) (nomark _)) (pw_or (pt_cmpR (op_neK (K := K) rfl hu64) (pe_fldK (K := K) rfl (pv 12) rfl) (pe_callB (call_min2 rfl) (by rfl) T.b_min (by decide +kernel) (pa_cons (pe_ix (ix_anyK (K := K) rfl hu1) (pv 9) pe_int (fun _ _ => rfl)) (pa_cons (pe_op op_sub (pv 2) pe_int) pa_nil))) (nomark _)) (pw_or1 (pt_cmpR (op_neK (K := K) rfl hu64) (pe_fldK (K := K) rfl (pv 12) rfl) pe_int (nomark _)))))) (pss_one (ps_ret pe_bl))
      pss_nil))))))
      (pss_one (ps_ret pe_bl)))))))))))), ?_⟩
    refine go_start (σ' := [some (.ref a0), none, none, none, none, none, none, none, none, none, none, none, none, none, none, none]) rfl ?_
    k_extra "we"
    refine ⟨a0, ns, rfl, hS, hl, fun z hz => bd_bits (hb z hz), fun pu H1 z1 => ?_⟩
    refine Hg.go (K := K) (Γ := []) (S := [pur pu]) ⟨H, z1, fun _ m => nomatch m⟩ ?_
    k_extra "W"
    intro d1 hd1
    k_extra "W"
    rw [show (1 : Int) + (d1 : Int) = ((1 + d1 : Nat) : Int) by omega]
    obtain ⟨last, hlast⟩ : ∃ last, last = 1 + d1 := ⟨_, rfl⟩
    rw [← hlast]
    refine w_lstO fun l1 => ?_
    k_extra "W"
    intro wy hwy
    have hw3 : wy = 0 ∨ wy = 1 ∨ wy = 2 := by omega
    refine w_sub (v := .str (stopS wy)) (by k_extra "at") (by rcases hw3 with rfl | rfl | rfl <;> rfl) ?_
    k_extra "W"
    intro d2 hd2
    k_extra "W"
    rw [show (1 : Int) + (d2 : Int) = ((1 + d2 : Nat) : Int) by omega]
    obtain ⟨span, hspan⟩ : ∃ span, span = 1 + d2 := ⟨_, rfl⟩
    rw [← hspan]
    intro n3 hn3
    k_extra "W"
    refine w_lcR n3 rfl (by omega) ?_
    refine w_lc_r (ι := List Int) n3 (fun j a => a.length = j ∧ ∀ t ∈ a, 0 ≤ t ∧ t ≤ 100000) (fun _ a => a.map V.int) (fun _ _ => []) (fun _ _ => [pur pu]) [] ⟨rfl, fun _ h => nomatch h⟩ rfl (by k_extra "sub") (by k_extra "dr") ?_ ?_
    · rintro Dl j a hj ⟨g1, g2⟩
      k_extra "W"
      intro d hd
      k_extra "W"
      have hp : 0 ≤ (span : Int) * (d : Int) ∧ (span : Int) * (d : Int) ≤ 9 * 40 := ⟨Int.mul_nonneg (by omega) (by omega), Int.mul_le_mul (by omega) (by omega) (by omega) (by omega)⟩
      refine w_mul (m := 4) (n := 6) (by show (span : Int).natAbs < 16; omega) (by show (d : Int).natAbs < 64; omega) ?_
      k_extra "W"
      intro d' hd'
      k_extra "W"
      refine w_lcp (a ++ [(span : Int) * (d : Int) + (d' : Int)]) ⟨by rw [List.length_append, g1]; rfl, fun t ht => ?_⟩ (by rw [List.map_append]; rfl) (by k_extra "t") (by rw [List.length_map]; omega) (by k_extra "sub") (by k_extra "dr")
      rcases List.mem_append.mp ht with ht | ht
      · exact g2 t ht
      · rw [List.mem_singleton.mp ht]; omega
    rintro lo os ⟨g1, g2⟩
    refine w_freezeO (p := lo) (by k_extra "t") ?_
    k_extra "W"
    refine w_lenL (by k_extra "at") ?_
    rw [List.length_map]
    k_extra "W"
    intro d4 hd4
    k_extra "W"
    refine w_ij ?_
    obtain ⟨most, hmo, hmi⟩ : ∃ n : Nat, n ≤ 200 ∧ (if (last : Int) + ((os.length : Nat) : Int) + (d4 : Int) - 4 > 0 then (last : Int) + ((os.length : Nat) : Int) + (d4 : Int) - 4 else 0) = (n : Int) := ⟨((last : Int) + ((os.length : Nat) : Int) + (d4 : Int) - 4).toNat, by omega, by split <;> omega⟩
    rw [hmi]
    k_extra "W"
    refine w_don ((last, wy, span) : Nat × Nat × Nat) (by k_extra "ts") (by dsimp only; omega) ?_
    rintro _ Γ' S' ⟨tm, rfl, rfl, rfl⟩
    dsimp only [List.cons_append, List.nil_append]
    k_extra "W"
    refine w_lstO fun lC => ?_
    refine w_freeze (p := lC) (ds := []) (by k_extra "t") .nil ?_
    k_extra "W"
    refine w_lstO fun lD => ?_
    refine w_freeze (p := lD) (ds := []) (by k_extra "t") .nil ?_
    k_extra "W"
    refine w_lstO fun lE => ?_
    refine w_freeze (p := lE) (ds := []) (by k_extra "t") .nil ?_
    k_extra "W"
    refine w_lstO fun lF => ?_
    refine w_freeze (p := lF) (ds := []) (by k_extra "t") .nil ?_
    k_extra "W"
    refine w_lstO fun lm => ?_
    refine w_freeze (p := lm) (ds := [m27 (last : Int) (span : Int) wy, two27].map Mach.data) (by k_extra "t") (.cons (DV.mem (by k_extra "m")) (.cons (DV.mem (by show Fc.dat _ (.tuple [.str "two", .list [], .list [], .list [], .list []]) ∈ _; k_extra "m")) .nil)) ?_
    k_extra "W"
    rename_i pt0
    refine w_lstO fun ls0 => ?_
    k_extra "W"
    refine w_dats (vs := []) (ds := ((os.take 0).map nz27).map Sg.data) DL.nil ?_
    refine w_lc_l (ι := List V) (os.map V.int) (fun j a => a.length = j) (fun _ a => a) (fun j a => .dats a (((os.take j).map nz27).map Sg.data) :: _) (fun _ _ => _) [] rfl rfl sub_refl Dr.refl (fun _ _ => by k_extra "at") ?_ ?_
    · rintro Dl j v a hv ha
      rw [List.getElem?_map] at hv
      obtain ⟨tv, htv, rfl⟩ := Option.map_eq_some_iff.mp hv
      have hj := (List.getElem?_eq_some_iff.mp htv).1
      k_extra "W"
      rename_i pt
      refine w_dats (vs := a ++ [.ref pt]) (ds := ((os.take (j + 1)).map nz27).map Sg.data) ?_ ?_
      · rw [show ((os.take (j + 1)).map nz27).map Sg.data = ((os.take j).map nz27).map Sg.data ++ [(nz27 tv).data] by
          rw [List.take_add_one, htv, Option.toList_some, List.map_append, List.map_append, List.map_cons, List.map_nil, List.map_cons, List.map_nil]]
        exact DL.snoc (DL.mem (by k_extra "m")) (DV.mem (by show Fc.dat _ (.tuple [.int tv, .int 2, .int 1, .str "noise", .int 1, .int 2]) ∈ _; k_extra "m"))
      refine w_lcp (a ++ [.ref pt]) (by rw [List.length_append, ha]; rfl) rfl (by k_extra "t") (by omega) (by k_extra "sub") (by k_extra "dr")
    rintro lsc a ha
    rw [List.length_map] at ha
    rw [List.length_map, List.take_length]
    k_extra "W"
    refine w_addL (by k_extra "at") (by k_extra "at") (by rw [List.length_cons, List.length_nil]; omega) fun lsg => ?_
    obtain ⟨sv, hsv⟩ : ∃ sv, sv = [V.ref pt0] ++ a := ⟨_, rfl⟩
    refine w_dats (vs := sv) (ds := (sgs27 os).map Sg.data) (by rw [hsv]; exact DL.cons (DV.mem (by show Fc.dat _ (.tuple [.int 0, .int 0, .int 0, .str "tick", .int 0, .int 0]) ∈ _; k_extra "m")) (DL.mem (by k_extra "m"))) ?_
    rw [show [V.ref pt0] ++ a = sv from hsv.symm]
    k_extra "W"
    refine w_don (⟨last, wy, span, lo, os, most⟩ : Du27) (by k_extra "ts") ⟨by k_extra "m", ⟨by show 1 ≤ last; omega, by show last ≤ 100; omega, by show wy < 3; omega, by show 1 ≤ span; omega, by show span ≤ 9; omega, by show os.length ≤ 50; omega, g2, hmo⟩⟩ ?_
    rintro _ Γ' S' ⟨u, t, rfl, hsts, rfl, rfl⟩
    obtain ⟨r, hr⟩ : ∃ r, r = Du27.run ⟨last, wy, span, lo, os, most⟩ := ⟨_, rfl⟩
    rw [← hr] at hsts ⊢
    dsimp only [List.cons_append, List.nil_append]
    k_extra "W"
    refine w_mkCal fun c1 C1 => ?_
    k_extra "W"
    intro d5 hd5
    k_extra "W"
    refine w_mkWheel ⟨by omega, by omega⟩ fun c2 C2 => ?_
    k_extra "W"
    refine w_lstO fun lcs => ?_
    k_extra "W"
    obtain ⟨ms, hms⟩ : ∃ ms, ms = [m27 (last : Int) (span : Int) wy, two27] := ⟨_, rfl⟩
    have hmR : MdR 10 ["tick"] ms := by rw [hms]; exact mdR27 (last := last) (span := (span : Int)) (w := wy) (by omega) (by omega) (by omega) (by omega)
    have hml : ms.length = 2 := by rw [hms]; rfl
    have hsR : ∀ s ∈ sgs27 os, SgR ms.length SOk s := by rw [hml]; exact sgR27 g2
    have hcn : ∀ m ∈ ms, ∀ sign, Dd.cnts (m.deedsFor sign) ≤ 5 := by rw [hms]; exact cnt27
    have hbw : ∀ m ∈ ms, ∀ p ∈ m.boxes, Worth p.2 := fun m hm p hp => by
      rw [hms] at hm
      simp only [List.mem_cons, List.not_mem_nil, or_false] at hm
      rcases hm with rfl | rfl
      · rw [List.mem_singleton.mp hp]; constructor <;> decide
      · exact nomatch hp
    have hsk : ∀ x ∈ [("tick" : Str)], SOk x := fun x hx => by rw [List.mem_singleton.mp hx]; show PyData.strOk _ = true; decide +kernel
    have hsl : (sgs27 os).length ≤ 15 := by unfold sgs27; rw [List.length_cons, List.length_map]; omega
    have hdp : ∀ m ∈ ms, m.depth < 10 ∧ m.Sm := fun m hm => ⟨by
      rw [hms] at hm
      simp only [List.mem_cons, List.not_mem_nil, or_false] at hm
      rcases hm with rfl | rfl
      · have h3 : wy = 0 ∨ wy = 1 ∨ wy = 2 := hw3
        rcases h3 with rfl | rfl | rfl
        all_goals
          simp only [Mach.depth, m27, deeds27, stop27, again27, List.foldr_cons, List.foldr_nil, Dd.depths, Dd.depth]
          omega
      · simp only [Mach.depth, two27, List.foldr_nil]
        omega, (hmR.ok m hm).sm⟩
    have hrun : r = (firstRun ms (sgs27 os)).go ms most := by rw [hr, hms]; rfl
    have hfr := firstRun_ok hmR hbw hsR
    have hkd : SeqAt.shaped (.list (r.2.map fun c => c.hap.keyD)) = true := (Shp.lst (n := 1) (.map fun y _ => keyD_shp y.hap)).shaped (by decide)
    rw [← hms]
    refine w_loop_l (ι := (Option V × Option V × Option V) × List Fc × List Vo) [.ref c1, .ref c2] (fun i x => (i = 0 ∧ x.2 = ([repF (whI K) C2 c2 [], repF (calI K) C1 c1 [], .dat (.ref u) (.tuple [.list (r.2.map fun c => c.hap.keyD), r.1.ending.data, .int (t : Int)]), .dats sv ((sgs27 os).map Sg.data), .dat (.ref lm) (.list (ms.map Mach.data))], [C2, C1, own lsg (.lst sv)])) ∨ (i = 1 ∧ x.2 = ([repF (whI K) C2 c2 [], .dat (.ref u) (.tuple [.list (r.2.map fun c => c.hap.keyD), r.1.ending.data, .int (t : Int)]), .dats sv ((sgs27 os).map Sg.data), .dat (.ref lm) (.list (ms.map Mach.data))], [C2, own lsg (.lst sv)])) ∨ (i = 2 ∧ x.2 = ([.dat (.ref u) (.tuple [.list (r.2.map fun c => c.hap.keyD), r.1.ending.data, .int (t : Int)]), .dats sv ((sgs27 os).map Sg.data), .dat (.ref lm) (.list (ms.map Mach.data))], [own lsg (.lst sv)])))
      (fun _ x => [some (.ref a0), some (.ref pu), some (.int (last : Int)), some (.str (stopS wy)), some (.int (span : Int)), some (.ref lo), some (.int (most : Int)), some (.ref lm), some (.ref lsg), some (.ref u), x.1.1, x.1.2.1, x.1.2.2, none, none, none]) (fun _ x => x.2.1) (fun _ x => own lcs (.lst [.ref c1, .ref c2]) :: x.2.2) ((none, none, none), ([repF (whI K) C2 c2 [], repF (calI K) C1 c1 [], .dat (.ref u) (.tuple [.list (r.2.map fun c => c.hap.keyD), r.1.ending.data, .int (t : Int)]), .dats sv ((sgs27 os).map Sg.data), .dat (.ref lm) (.list (ms.map Mach.data))], [C2, C1, own lsg (.lst sv)])) (.inl ⟨rfl, rfl⟩) rfl (by dsimp only; k_extra "sub") (by dsimp only; k_extra "dr") ?_ ?_ ?_
    · exact fun i x => by k_extra "at"
    · rintro i v ⟨⟨x10, x11, x12⟩, Γ2, S2⟩ hv hC
      dsimp only at hC ⊢
      k_extra "W"
      refine w_cut (ι := (Addr × Addr × Addr × V × Addr × List StI × List (RcO × Rec)) × List Fc × List Vo) (fun b => b.1.2.2.2.2.2.1.map (·.s) = r.1.sts ∧ (∀ e ∈ b.1.2.2.2.2.2.1, e.s.queues.length = e.as.length) ∧ b.1.2.2.2.2.2.2.map (·.2) = r.2 ∧ (∀ p ∈ b.1.2.2.2.2.2.2, p.1.Ok p.2) ∧ ((i = 0 ∧ b.2 = ([repF (whI K) C2 c2 [], .dat (.ref u) (.tuple [.list (r.2.map fun c => c.hap.keyD), r.1.ending.data, .int (t : Int)]), .dats sv ((sgs27 os).map Sg.data), .dat (.ref lm) (.list (ms.map Mach.data))], [C2, own lsg (.lst sv)])) ∨ (i = 1 ∧ b.2 = ([.dat (.ref u) (.tuple [.list (r.2.map fun c => c.hap.keyD), r.1.ending.data, .int (t : Int)]), .dats sv ((sgs27 os).map Sg.data), .dat (.ref lm) (.list (ms.map Mach.data))], [own lsg (.lst sv)]))))
        (fun b => [some (.ref a0), some (.ref pu), some (.int (last : Int)), some (.str (stopS wy)), some (.int (span : Int)), some (.ref lo), some (.int (most : Int)), some (.ref lm), some (.ref lsg), some (.ref u), some v, some (.ref b.1.1), x12, none, none, none]) (fun b => .dat b.1.2.2.2.1 r.1.ending.data :: allF K rcF b.1.2.2.2.2.2.2 :: b.2.1)
        (fun b => own b.1.1 (.ins (He.ga K "Book") b.1.2.1 (fl_Book (.ref b.1.2.2.1) b.1.2.2.2.1 (.ref b.1.2.2.2.2.1))) :: own b.1.2.2.1 (.lst (b.1.2.2.2.2.2.2.map fun p => V.ref p.1.r)) :: segsV rcS b.1.2.2.2.2.2.2 :: own b.1.2.2.2.2.1 (.lst (b.1.2.2.2.2.2.1.map fun e => V.ref e.p)) :: segsV (stS K) b.1.2.2.2.2.2.1 :: own lcs (.lst [.ref c1, .ref c2]) :: b.2.2) ?_ ?_
      · rcases hC with ⟨rfl, hx⟩ | ⟨rfl, hx⟩ | ⟨rfl, hx⟩
        · cases hx
          cases hv
          k_extra "W"
          refine w_mkModel (n := 10) (ms := ms) (by k_extra "m") hdp (by omega) fun pm dxm lm2 => ?_
          k_extra "W"
          refine w_orL ?_
          refine w_don (⟨⟨pm, ms, lsg, sv, sgs27 os⟩, c1, C1, most, 5⟩ : ByI_Calendar) (by k_extra "ts") ⟨⟨⟨dxm, lm2, by k_extra "m", by k_extra "m"⟩, hmR, hbw, hsk, hsR, by k_extra "m", by dsimp only; omega⟩, by k_extra "m", hcn, by dsimp only; omega, by dsimp only; omega⟩ ?_
          rintro _ Γ' S' ⟨pb, dxb, lr, ls, e, es, rs, C', ps, rfl, k1, k2, k3, k4, _, _, rfl, rfl⟩
          dsimp only [List.cons_append, List.nil_append] at k1 k3 ⊢
          rw [← hrun] at k1 k3 ⊢
          k_extra "W"
          exact w_again ((pb, dxb, lr, e, ls, es, rs), _, _) ⟨k1, k2, k3, k4, .inl ⟨rfl, rfl⟩⟩ rfl (by dsimp only; k_extra "sub") (by dsimp only; k_extra "dr")
        · cases hx
          cases hv
          k_extra "W"
          refine w_mkModel (n := 10) (ms := ms) (by k_extra "m") hdp (by omega) fun pm dxm lm2 => ?_
          k_extra "W"
          refine w_orR ?_
          refine w_don (⟨⟨pm, ms, lsg, sv, sgs27 os⟩, c2, C2, most, 5⟩ : ByI_Wheel) (by k_extra "ts") ⟨⟨⟨dxm, lm2, by k_extra "m", by k_extra "m"⟩, hmR, hbw, hsk, hsR, by k_extra "m", by dsimp only; omega⟩, by k_extra "m", hcn, by dsimp only; omega, by dsimp only; omega⟩ ?_
          rintro _ Γ' S' ⟨pb, dxb, lr, ls, e, es, rs, C', ps, rfl, k1, k2, k3, k4, _, _, rfl, rfl⟩
          dsimp only [List.cons_append, List.nil_append] at k1 k3 ⊢
          rw [← hrun] at k1 k3 ⊢
          k_extra "W"
          exact w_again ((pb, dxb, lr, e, ls, es, rs), _, _) ⟨k1, k2, k3, k4, .inr ⟨rfl, rfl⟩⟩ rfl (by dsimp only; k_extra "sub") (by dsimp only; k_extra "dr")
        · simp at hv
      · rintro ⟨⟨pb, dxb, lr, e, ls, es, rs⟩, Γ3, S3⟩ ⟨k1, k2, k3, k4, hB⟩
        dsimp only at k1 k2 k3 k4 hB ⊢
        obtain ⟨hrl, hel⟩ : rs.length ≤ 100000 ∧ es.length = 2 := by
          refine ⟨?_, ?_⟩
          · have h1 := go_len (ms := ms) most (firstRun ms (sgs27 os))
            rw [← hrun, ← k3, List.length_map] at h1
            omega
          · have h1 := congrArg List.length k1
            rw [List.length_map, hsts] at h1
            exact h1
        obtain ⟨e0, e1, rfl⟩ : ∃ e0 e1, es = [e0, e1] := by
          match es, hel with
          | [e0, e1], _ => exact ⟨e0, e1, rfl⟩
        rw [hsts] at k1
        have hs0 : e0.s = s17 t (min t (last - 1) : Nat) := (List.cons.inj k1).1
        have hdue : Fc.dat (.ref u) (.tuple [.list (r.2.map fun c => c.hap.keyD), r.1.ending.data, .int (t : Int)]) ∈ Γ3 := by
          rcases hB with ⟨_, hB⟩ | ⟨_, hB⟩
          · cases hB; k_extra "m"
          · cases hB; k_extra "m"
        have hkeys : (rs.map fun p => p.2.hap.keyD) = r.2.map fun c => c.hap.keyD := by rw [← k3, List.map_map]; rfl
        k_extra "W"
        refine w_dats (vs := []) (ds := (rs.take 0).map fun p => p.2.hap.keyD) DL.nil ?_
        refine w_lc_l (ι := List V) (rs.map fun p => V.ref p.1.r) (fun j a => a.length = j) (fun _ a => a) (fun j a => .dats a ((rs.take j).map fun p => p.2.hap.keyD) :: _) (fun _ _ => _) [] rfl rfl sub_refl Dr.refl (fun _ _ => by k_extra "at") ?_ ?_
        · rintro Dl j v a hv ha
          rw [List.getElem?_map] at hv
          obtain ⟨⟨o, c⟩, hoc, rfl⟩ := Option.map_eq_some_iff.mp hv
          have hj := (List.getElem?_eq_some_iff.mp hoc).1
          refine w_allGet (f := rcF) (es := rs) (e := (o, c)) (by k_extra "m") (List.mem_of_getElem? hoc) ?_
          dsimp only [rcF, RcO.F, List.cons_append, List.nil_append]
          k_extra "W"
          refine w_dats (vs := a ++ [o.key]) (ds := (rs.take (j + 1)).map fun p => p.2.hap.keyD) ?_ ?_
          · rw [show ((rs.take (j + 1)).map fun p => p.2.hap.keyD) = ((rs.take j).map fun p => p.2.hap.keyD) ++ [c.hap.keyD] by
              rw [List.take_add_one, hoc, Option.toList_some, List.map_append, List.map_cons, List.map_nil]]
            exact DL.snoc (DL.mem (by k_extra "m")) (DV.mem (by show Fc.dat _ (.tuple [.int c.hap.time, .int c.hap.rank, .int c.hap.frm, .int c.hap.count]) ∈ _; k_extra "m"))
          refine w_lcp (a ++ [o.key]) (by rw [List.length_append, ha]; rfl) rfl (by k_extra "t") (by omega) (by k_extra "sub") (by k_extra "dr")
        rintro lk a ha
        rw [List.length_map, List.take_length, hkeys]
        refine w_freeze (p := lk) (ds := r.2.map fun c => c.hap.keyD) (by k_extra "t") (DL.mem (by k_extra "m")) ?_
        k_extra "W"
        refine w_neD (DV.mem (by k_extra "m")) (DV.mem (by k_extra "m")) hkd hkd ?_
        rw [eqv_self hkd]
        obtain ⟨dse, hdse⟩ := ending_tup r.1.ending
        rw [hdse] at hdue
        k_extra "W"
        refine w_neD (d := r.1.ending.data) (e := .tuple dse) (DV.mem (by k_extra "m")) (DV.mem (by k_extra "m")) (ending_shaped _) (by rw [← hdse]; exact ending_shaped _) ?_
        rw [← hdse, eqv_self (ending_shaped _)]
        k_extra "W"
        dsimp only
        refine w_segOpen (f := stS K) (A := []) (B := [e1]) (e := e0) (by rw [List.nil_append]; k_extra "t") ?_
        have hst0 : stS K e0 = stV K e0.p e0.dx e0.b e0.q e0.as (s17 (t : Int) (min t (last - 1) : Nat)) := by rw [← hs0]; rfl
        rw [hst0]
        k_extra "W"
        refine w_subK (by k_extra "at") (val_boxes (x := "n") (bs := (s17 (t : Int) (min t (last - 1) : Nat)).boxes) List.mem_cons_self) ?_
        rw [look17]
        k_extra "W"
        rw [decide_eq_true (show (t : Int) = (t : Int) from rfl)]
        k_extra "W"
        refine w_ij ?_
        rw [show (if (last : Int) - 1 < (t : Int) then (last : Int) - 1 else (t : Int)) = ((min t (last - 1) : Nat) : Int) by split <;> omega]
        k_extra "W"
        rw [decide_eq_true (show (s17 (t : Int) (min t (last - 1) : Nat)).sent = ((min t (last - 1) : Nat) : Int) from rfl)]
        k_extra "W"
        rw [decide_eq_true (show (s17 (t : Int) (min t (last - 1) : Nat)).drawn = 0 from rfl)]
        k_extra "W"
        rcases hB with ⟨rfl, hB⟩ | ⟨rfl, hB⟩
        · cases hB
          exact w_again ((some v, some (.ref pb), some (.ref e0.p)), _, _) (.inr (.inl ⟨rfl, rfl⟩)) rfl (by dsimp only; k_extra "sub") (by dsimp only; k_extra "dr")
        · cases hB
          exact w_again ((some v, some (.ref pb), some (.ref e0.p)), _, _) (.inr (.inr ⟨rfl, rfl⟩)) rfl (by dsimp only; k_extra "sub") (by dsimp only; k_extra "dr")
    · rintro ⟨⟨x10, x11, x12⟩, Γ2, S2⟩ _
      k_extra "W"
      exact fun H z => q _
end
end Mo
open PySem PySem.W PySem.Calls PyProof.Rows
theorem PySem.Challenge.cw_momentloom_k27_runs_by_calendars_end_holds : PySem.Challenge.rw_momentloom_k27_runs_by_calendars_end.Holds := by
  w_on; o_law
  refine HandSHeadRun.head_any (r := Mo.Rr) (q := view Mo.Rr.prog [43]) (H := Mo.hk) (ob := Mo.ob) (M := 20000) (loose := Mo.loose) (d := HandSHeadRun.topDef Mo.Rr.prog 43) (kwd := []) Mo.ob_eq
    (by kernel_rfl) (fun s => by kernel_rfl) Mo.run (by kernel_rfl) (by kernel_rfl) (by kernel_rfl) (by rfl) (by first | assumption | decide +kernel) (by decide +kernel) ⟨rfl, rfl, rfl, rfl, rfl, by decide +kernel⟩ ?hw ?hc
  case hw => w_witness2
  case hc =>
    refine Mo.walk_ofEB (l := PySem.Challenge.rw_momentloom_k27_runs_by_calendars_end) (n := 63) (k := 60) (x := "_law_script") (CX := fun w => L2.CX PySem.Challenge.rw_momentloom_k27_runs_by_calendars_end.prog w) rfl (by decide) (by kernel_rfl) ⟨rfl, by decide, by decide⟩ ?F (fun _ _ _ _ _ z => Mo.cx_false z)
    intro w mg fa h Y G hmg0
    obtain ⟨K, KX, c⟩ := Y
    have hmg : mg ("law" : PySem.Str) = some (.ref fa) := by
      have e : (HandSHeadRun.topDef Mo.Rr.prog 43).name = ("law" : PySem.Str) := by kernel_rfl
      rw [← e]
      exact hmg0
    have T := Mo.tx_of KX G c
    have e := hmg.symm.trans T.g_law.gl
    cases e
    exact ⟨K, _, Mo.spLaw K, KX, fun s u => Mo.fun_bindsTo T.f_law (ps := ["_law_script"]) (fun _ _ _ _ _ _ us hl => match us, hl with | [_], _ => rfl) s [u] rfl, fun H a ns hl hb hO hS => ⟨a, ns, rfl, hO, hS, hl, hb, fun _ => rfl⟩, fun base _ _ => Mo.ok_law T⟩
