import PyProof.Rows.All
import Wide.All
import OpenK.AllK
import Wide.FinOn
import KE.KStateDown
import Lean
import HandS.ForMost
import HandS.Exc
import HandS.Finally
import HandS.EndBits
import HandS.WordsExc
import HandS.Defaults
import HandS.DictTup
import HandS.TupLen
import HandS.Deep
import HandS.Wide
import HandS.TryOnly
import HandS.TryMany
import HandS.IsInst
import HandS.ExcIs
import HandS.ExcValue
import HandS.Sort
import HandS.SortInts
import HandS.Head0
import HandS.Head1
import HandS.Head2
import HandS.HeadEnd
import HandS.HeadHook1
import HandS.HeadHook2
import HandS.Conv
import HandS.Style
import PyProof.DictMoreH
import KE.DataMinMax
import HandS.More
import HandS.Evl
import HandS.DeepEq
import HandS.TupLe
import HandS.Text
import HandS.SetFor
import HandS.Strs
import HandS.ExcInit
import KE.KExcIs
import HandS.ExcField
import HandS.RaiseMore
import HandS.TupAny
import PySem.Challenge.RW_momentloom_k01_models_kept
set_option Elab.async false
set_option linter.all false
set_option maxRecDepth 100000
set_option maxHeartbeats 4000000
namespace Mo
open PySem PySem.Spec PyProof.Rows L2
/-! ### heaps: a part of a heap, what is tracked and may change -/
def Ext (G H : Hp) : Prop := ∀ a o, G a = some o → H a = some o
theorem Ext.refl (H : Hp) : Ext H H := fun _ _ h => h
theorem Ext.trans {H H1 H2 : Hp} (a : Ext H H1) (b : Ext H1 H2) : Ext H H2 := fun x o h => b x o (a x o h)
theorem Ext.new {H : Hp} {p : Addr} {o : HO} (h : H p = none) : Ext H (upd H p o) := fun a u e => by
  rw [upd_ne (ne_of_none e h)]
  exact e
theorem Ext.put {G H : Hp} {p : Addr} {o : HO} (e : Ext G H) (h : G p = none) : Ext G (upd H p o) := fun a u ha => by
  rw [upd_ne (ne_of_none ha h)]
  exact e a u ha
theorem Ext.made {H : Hp} {x dx C : Addr} {fs : List (Str × V)} (nx : H x = none) (nd : H dx = none) : Ext H (upd (upd H dx (.own x)) x (.ins C dx fs)) := fun a u e => by
  rw [upd_ne (ne_of_none e nx), upd_ne (ne_of_none e nd)]
  exact e
theorem Ext.free {H H' : Hp} (e : Ext H H') {p : Addr} (h : H' p = none) : H p = none := by
  cases q : H p with
  | none => rfl
  | some o =>
    rw [e p o q] at h
    cases h
theorem ext_rd {H H' : Hp} {a : Addr} {u : HO} (e : Ext H H') (h : Rd H a u) : Rd H' a u := by
  rcases h with h | ⟨o, h⟩
  · exact Or.inl (e a _ h)
  · exact Or.inr ⟨o, e a _ h⟩
theorem ext_l {K : PySem.W.Frag} {H H' : Hp} {a : Addr} {xs : List V} (e : Ext H H') (h : SqL K H a xs) : SqL K H' a xs := by
  rcases h with h | h
  · exact Or.inl (ext_rd e h)
  · exact Or.inr h
theorem ext_t {K : PySem.W.Frag} {H H' : Hp} {a : Addr} {xs : List V} (e : Ext H H') (h : SqT K H a xs) : SqT K H' a xs := by
  rcases h with h | h
  · exact Or.inl (ext_rd e h)
  · exact Or.inr h
/-- the volatile objects: addresses, and what is true of what stands there -/
abbrev Vo : Type := List (Addr × (HO → Prop))
structure Hd (G H : Hp) (L : Vo) : Prop where
  ex : Ext G H
  at_ : ∀ p ∈ L, ∃ o, H p.1 = some o ∧ p.2 o
  out : ∀ p ∈ L, G p.1 = none
  nd : (L.map (·.1)).Nodup
section
variable {G H H' : Hp} {L : Vo} {p : Addr} {o o' : HO} {φ ψ : HO → Prop}
theorem Hd.get (h : Hd G H L) (m : (p, φ) ∈ L) : ∃ o, H p = some o ∧ φ o := h.at_ _ m
theorem Hd.eq (h : Hd G H L) (m : (p, Eq o) ∈ L) : H p = some o := by
  obtain ⟨u, h1, h2⟩ := h.at_ _ m
  have h3 : o = u := h2
  rw [h3]
  exact h1
theorem Hd.no (h : Hd G H L) (m : (p, φ) ∈ L) : G p = none := h.out _ m
theorem Hd.nil (e : Ext G H) : Hd G H [] := ⟨e, fun _ z => (nomatch z), fun _ z => (nomatch z), List.nodup_nil⟩
theorem Hd.grow (h : Hd G H L) (e : Ext H H') : Hd G H' L := ⟨h.ex.trans e, fun q m => let ⟨o, a, b⟩ := h.at_ q m; ⟨o, e _ _ a, b⟩, h.out, h.nd⟩
theorem nodup_same : ∀ {L : Vo}, (L.map (·.1)).Nodup → ∀ {p : Addr} {φ ψ : HO → Prop}, (p, φ) ∈ L → (p, ψ) ∈ L → φ = ψ
  | [], _, _, _, _, m, _ => nomatch m
  | (q, χ) :: L, nd, p, φ, ψ, m, n => by
    rw [List.map_cons, List.nodup_cons] at nd
    rcases List.mem_cons.mp m with e | m
    · rcases List.mem_cons.mp n with f | n
      · cases e
        cases f
        rfl
      · cases e
        exact absurd (List.mem_map_of_mem (f := (·.1)) n) nd.1
    · rcases List.mem_cons.mp n with f | n
      · cases f
        exact absurd (List.mem_map_of_mem (f := (·.1)) m) nd.1
      · exact nodup_same nd.2 m n
/-- the object at p is changed, within what is told of it -/
theorem Hd.put (h : Hd G H L) (m : (p, φ) ∈ L) (hφ : φ o') : Hd G (upd H p o') L := by
  refine ⟨h.ex.put (h.no m), fun q n => ?_, h.out, h.nd⟩
  obtain ⟨a, χ⟩ := q
  by_cases e : a = p
  · subst e
    have z := nodup_same h.nd n m
    subst z
    exact ⟨o', upd_same, hφ⟩
  · obtain ⟨u, h1, h2⟩ := h.at_ _ n
    exact ⟨u, by rw [upd_ne e]; exact h1, h2⟩
theorem mem_set_ne : ∀ {L : Vo} {i : Nat} {p : Addr} {φ ψ : HO → Prop}, (L.map (·.1)).Nodup → L[i]? = some (p, φ) → ∀ q ∈ L.set i (p, ψ), q = (p, ψ) ∨ (q ∈ L ∧ q.1 ≠ p)
  | [], _, _, _, _, _, e, _, _ => by simp at e
  | x :: L, 0, p, φ, ψ, nd, e, q, hq => by
    simp only [List.getElem?_cons_zero, Option.some.injEq] at e
    subst e
    rw [List.map_cons, List.nodup_cons] at nd
    rw [List.set_cons_zero] at hq
    rcases List.mem_cons.mp hq with h | h
    · exact Or.inl h
    · refine Or.inr ⟨List.mem_cons_of_mem _ h, fun z => ?_⟩
      have w : q.1 ∈ L.map (·.1) := List.mem_map_of_mem (f := (·.1)) h
      rw [z] at w
      exact nd.1 w
  | x :: L, i + 1, p, φ, ψ, nd, e, q, hq => by
    rw [List.getElem?_cons_succ] at e
    rw [List.map_cons, List.nodup_cons] at nd
    rw [List.set_cons_succ] at hq
    rcases List.mem_cons.mp hq with h | h
    · refine Or.inr ⟨by rw [h]; exact List.mem_cons_self, fun z => ?_⟩
      have w : p ∈ L.map (·.1) := List.mem_map_of_mem (f := (·.1)) (List.mem_of_getElem? e)
      rw [h] at z
      rw [z] at nd
      exact nd.1 w
    · rcases mem_set_ne nd.2 e q h with r | ⟨r, s⟩
      · exact Or.inl r
      · exact Or.inr ⟨List.mem_cons_of_mem _ r, s⟩
theorem map_set_fst : ∀ {L : Vo} {i : Nat} {p : Addr} {φ ψ : HO → Prop}, L[i]? = some (p, φ) → (L.set i (p, ψ)).map (·.1) = L.map (·.1)
  | [], _, _, _, _, e => by simp at e
  | x :: L, 0, p, φ, ψ, e => by
    simp only [List.getElem?_cons_zero, Option.some.injEq] at e
    subst e
    rfl
  | x :: L, i + 1, p, φ, ψ, e => by
    rw [List.getElem?_cons_succ] at e
    rw [List.set_cons_succ, List.map_cons, List.map_cons, map_set_fst e]
theorem Hd.set (h : Hd G H L) (i : Nat) (m : L[i]? = some (p, φ)) (hψ : ψ o') : Hd G (upd H p o') (L.set i (p, ψ)) :=
  ⟨h.ex.put (h.no (List.mem_of_getElem? m)), fun q n => by
    rcases mem_set_ne h.nd m q n with e | ⟨n', e⟩
    · subst e
      exact ⟨o', upd_same, hψ⟩
    · obtain ⟨u, h1, h2⟩ := h.at_ _ n'
      exact ⟨u, by rw [upd_ne e]; exact h1, h2⟩, fun q n => by
    rcases mem_set_ne h.nd m q n with e | ⟨n', e⟩
    · subst e
      exact h.no (List.mem_of_getElem? m)
    · exact h.out _ n', by rw [map_set_fst m]; exact h.nd⟩
/-- what is told of the object at place i is told otherwise -/
theorem Hd.re (h : Hd G H L) (i : Nat) (m : L[i]? = some (p, φ)) (hψ : ∀ o, H p = some o → φ o → ψ o) : Hd G H (L.set i (p, ψ)) :=
  ⟨h.ex, fun q n => by
    rcases mem_set_ne h.nd m q n with e | ⟨n', e⟩
    · subst e
      obtain ⟨u, h1, h2⟩ := h.at_ _ (List.mem_of_getElem? m)
      exact ⟨u, h1, hψ u h1 h2⟩
    · exact h.at_ _ n', fun q n => by
    rcases mem_set_ne h.nd m q n with e | ⟨n', e⟩
    · subst e
      exact h.no (List.mem_of_getElem? m)
    · exact h.out _ n', by rw [map_set_fst m]; exact h.nd⟩
theorem Hd.set0 (h : Hd G H ((p, φ) :: L)) (hψ : ψ o') : Hd G (upd H p o') ((p, ψ) :: L) := h.set 0 rfl hψ
theorem Hd.set1 {x : Addr × (HO → Prop)} (h : Hd G H (x :: (p, φ) :: L)) (hψ : ψ o') : Hd G (upd H p o') (x :: (p, ψ) :: L) := h.set 1 rfl hψ
theorem Hd.set2 {x y : Addr × (HO → Prop)} (h : Hd G H (x :: y :: (p, φ) :: L)) (hψ : ψ o') : Hd G (upd H p o') (x :: y :: (p, ψ) :: L) := h.set 2 rfl hψ
theorem Hd.re0 (h : Hd G H ((p, φ) :: L)) (hψ : ∀ o, H p = some o → φ o → ψ o) : Hd G H ((p, ψ) :: L) := h.re 0 rfl hψ
theorem Hd.re1 {x : Addr × (HO → Prop)} (h : Hd G H (x :: (p, φ) :: L)) (hψ : ∀ o, H p = some o → φ o → ψ o) : Hd G H (x :: (p, ψ) :: L) := h.re 1 rfl hψ
theorem Hd.setA {A : Vo} (h : Hd G H (A ++ (p, φ) :: L)) (hψ : ψ o') : Hd G (upd H p o') (A ++ (p, ψ) :: L) := by
  have e : (A ++ (p, φ) :: L)[A.length]? = some (p, φ) := by rw [List.getElem?_append_right (Nat.le_refl _), Nat.sub_self]; rfl
  have z := h.set A.length e hψ
  rw [List.set_append_right A.length _ (Nat.le_refl _), Nat.sub_self] at z
  exact z
theorem Hd.getA {A : Vo} (h : Hd G H (A ++ (p, φ) :: L)) : ∃ o, H p = some o ∧ φ o := h.get (List.mem_append_right _ List.mem_cons_self)
theorem Hd.fresh (h : Hd G H L) (hp : H p = none) : p ∉ L.map (·.1) := fun m => by
  obtain ⟨q, n, e⟩ := List.mem_map.mp m
  obtain ⟨u, h1, _⟩ := h.at_ q n
  rw [e, hp] at h1
  cases h1
/-- a new object that may change -/
theorem Hd.new (h : Hd G H L) (hp : H p = none) (hφ : φ o) : Hd G (upd H p o) ((p, φ) :: L) :=
  ⟨h.ex.trans (Ext.new hp), fun q n => by
    rcases List.mem_cons.mp n with e | n
    · subst e
      exact ⟨o, upd_same, hφ⟩
    · obtain ⟨u, h1, h2⟩ := h.at_ q n
      exact ⟨u, by rw [upd_ne (ne_of_none h1 hp)]; exact h1, h2⟩, fun q n => by
    rcases List.mem_cons.mp n with e | n
    · subst e
      exact h.ex.free hp
    · exact h.out q n, by rw [List.map_cons, List.nodup_cons]; exact ⟨h.fresh hp, h.nd⟩⟩
/-- a new object that stays -/
theorem Hd.fix (h : Hd G H L) (hp : H p = none) : Hd (upd G p o) (upd H p o) L :=
  ⟨fun a u e => by
    by_cases z : a = p
    · subst z
      rw [upd_same] at e ⊢
      exact e
    · rw [upd_ne z] at e ⊢
      exact h.ex a u e, fun q n => by
    obtain ⟨u, h1, h2⟩ := h.at_ q n
    exact ⟨u, by rw [upd_ne (ne_of_none h1 hp)]; exact h1, h2⟩, fun q n => by
    obtain ⟨u, h1, _⟩ := h.at_ q n
    rw [upd_ne (ne_of_none h1 hp)]
    exact h.out q n, h.nd⟩
/-- the first volatile object is to stay as it is -/
theorem Hd.freeze (h : Hd G H ((p, φ) :: L)) (e : H p = some o) : Hd (upd G p o) H L :=
  ⟨fun a u q => by
    by_cases z : a = p
    · subst z
      rw [upd_same] at q
      rw [e]
      exact q
    · rw [upd_ne z] at q
      exact h.ex a u q, fun q n => h.at_ q (List.mem_cons_of_mem _ n), fun q n => by
    have nd := h.nd
    rw [List.map_cons, List.nodup_cons] at nd
    have z : q.1 ≠ p := fun z => by
      have w : q.1 ∈ L.map (·.1) := List.mem_map_of_mem (f := (·.1)) n
      rw [z] at w
      exact nd.1 w
    rw [upd_ne z]
    exact h.out q (List.mem_cons_of_mem _ n), by
    have nd := h.nd
    rw [List.map_cons, List.nodup_cons] at nd
    exact nd.2⟩
theorem Hd.made {x dx C : Addr} {fs : List (Str × V)} (h : Hd G H L) (nx : H x = none) (nd : H dx = none) (ne : dx ≠ x) (hφ : φ (.ins C dx fs)) : Hd G (upd (upd H dx (.own x)) x (.ins C dx fs)) ((x, φ) :: L) :=
  (h.grow (Ext.new nd)).new (by rw [upd_ne (fun z => ne z.symm)]; exact nx) hφ
theorem Hd.drop {x : Addr × (HO → Prop)} (h : Hd G H (x :: L)) : Hd G H L :=
  ⟨h.ex, fun q n => h.at_ q (List.mem_cons_of_mem _ n), fun q n => h.out q (List.mem_cons_of_mem _ n), by
    have nd := h.nd
    rw [List.map_cons, List.nodup_cons] at nd
    exact nd.2⟩
theorem Hd.perm {M : Vo} (h : Hd G H L) (q : M.Perm L) : Hd G H M :=
  ⟨h.ex, fun x n => h.at_ x (q.mem_iff.mp n), fun x n => h.out x (q.mem_iff.mp n), (List.Perm.nodup_iff (q.map (·.1))).mpr h.nd⟩
theorem Hd.swap {x y : Addr × (HO → Prop)} (h : Hd G H (x :: y :: L)) : Hd G H (y :: x :: L) := h.perm (List.Perm.swap x y L)
theorem Hd.ext {G0 : Hp} (h : Hd G H L) (e : Ext G0 G) : Hd G0 H L := ⟨e.trans h.ex, h.at_, fun q n => e.free (h.out q n), h.nd⟩
theorem Hd.newG (_ : Hd G H L) (hG : G p = none) : Ext G (upd G p o) := Ext.new hG
theorem Hd.gno (h : Hd G H L) (hp : H p = none) : G p = none := h.ex.free hp
theorem Hd.ne (h : Hd G H L) {q : Addr} {i j : Nat} (m : L[i]? = some (p, φ)) (n : L[j]? = some (q, ψ)) (hij : i ≠ j) : p ≠ q := fun e => by
  have h1 : (L.map (·.1))[i]? = some p := by rw [List.getElem?_map, m]; rfl
  have h2 : (L.map (·.1))[j]? = some q := by rw [List.getElem?_map, n]; rfl
  rw [← e] at h2
  have l1 : i < (L.map (·.1)).length := (List.getElem?_eq_some_iff.mp h1).1
  have l2 : j < (L.map (·.1)).length := (List.getElem?_eq_some_iff.mp h2).1
  exact hij ((List.getElem?_inj l1 h.nd).mp (h1.trans h2.symm))
end
/-! ### data that stands in a heap -/
section
variable {K : PySem.W.Frag} {G H : Hp}
mutual
theorem dp_mono (e : Ext G H) : ∀ {v : V} {d : PyData}, Dp K G v d → Dp K H v d
  | _, _, .non => .non
  | _, _, .bl b => .bl b
  | _, _, .int i => .int i
  | _, _, .str x => .str x
  | _, _, .lst h r => .lst (ext_l e h) (dpa_mono e r)
  | _, _, .tup h r => .tup (ext_t e h) (dpa_mono e r)
theorem dpa_mono (e : Ext G H) : ∀ {vs : List V} {ds : List PyData}, DpAll K G vs ds → DpAll K H vs ds
  | _, _, .nil => .nil
  | _, _, .cons h r => .cons (dp_mono e h) (dpa_mono e r)
end
theorem dp_int {v : V} {i : Int} (h : Dp K H v (.int i)) : v = .int i := by cases h; rfl
theorem dp_str {v : V} {x : Str} (h : Dp K H v (.str x)) : v = .str x := by cases h; rfl
theorem dp_bl {v : V} {b : Bool} (h : Dp K H v (.bool b)) : v = .bl b := by cases h; rfl
theorem dp_non {v : V} (h : Dp K H v .none) : v = .non := by cases h; rfl
theorem dp_tup {v : V} {ds : List PyData} (h : Dp K H v (.tuple ds)) : ∃ a xs, v = .ref a ∧ SqT K H a xs ∧ DpAll K H xs ds := by
  cases h with
  | tup a b => exact ⟨_, _, rfl, a, b⟩
theorem dp_lst {v : V} {ds : List PyData} (h : Dp K H v (.list ds)) : ∃ a xs, v = .ref a ∧ SqL K H a xs ∧ DpAll K H xs ds := by
  cases h with
  | lst a b => exact ⟨_, _, rfl, a, b⟩
theorem dpa_len : ∀ {vs : List V} {ds : List PyData}, DpAll K H vs ds → vs.length = ds.length
  | _, _, .nil => rfl
  | _, _, .cons _ r => by rw [List.length_cons, List.length_cons, dpa_len r]
theorem dpa_get : ∀ {vs : List V} {ds : List PyData} {i : Nat} {d : PyData}, DpAll K H vs ds → ds[i]? = some d → ∃ v, vs[i]? = some v ∧ Dp K H v d
  | _, _, _, _, .nil, e => by simp at e
  | _, _, 0, _, .cons h _, e => by
    simp only [List.getElem?_cons_zero, Option.some.injEq] at e
    subst e
    exact ⟨_, rfl, h⟩
  | _, _, i + 1, _, .cons _ r, e => by
    rw [List.getElem?_cons_succ] at e
    obtain ⟨v, h1, h2⟩ := dpa_get r e
    exact ⟨v, by rw [List.getElem?_cons_succ]; exact h1, h2⟩
theorem dpa_get' : ∀ {vs : List V} {ds : List PyData} {i : Nat} {v : V}, DpAll K H vs ds → vs[i]? = some v → ∃ d, ds[i]? = some d ∧ Dp K H v d
  | _, _, _, _, .nil, e => by simp at e
  | _, _, 0, _, .cons h _, e => by
    simp only [List.getElem?_cons_zero, Option.some.injEq] at e
    subst e
    exact ⟨_, rfl, h⟩
  | _, _, i + 1, _, .cons _ r, e => by
    rw [List.getElem?_cons_succ] at e
    obtain ⟨v, h1, h2⟩ := dpa_get' r e
    exact ⟨v, by rw [List.getElem?_cons_succ]; exact h1, h2⟩
theorem dpa_app : ∀ {vs ws : List V} {ds es : List PyData}, DpAll K H vs ds → DpAll K H ws es → DpAll K H (vs ++ ws) (ds ++ es)
  | _, _, _, _, .nil, s => s
  | _, _, _, _, .cons h r, s => .cons h (dpa_app r s)
theorem dpa_one {v : V} {d : PyData} (h : Dp K H v d) : DpAll K H [v] [d] := .cons h .nil
theorem dpa_ints : ∀ ns : List Int, DpAll K H (ns.map V.int) (ns.map PyData.int)
  | [] => .nil
  | n :: ns => .cons (.int n) (dpa_ints ns)
end
theorem nodup_take {α : Type} {l : List α} {i : Nat} {x : α} (h : l.Nodup) (hi : l[i]? = some x) : x ∉ l.take i := fun m => by
  obtain ⟨j, hj, e⟩ := List.mem_iff_getElem.mp m
  rw [List.length_take] at hj
  rw [List.getElem_take] at e
  have h1 : l[j]? = some x := by rw [List.getElem?_eq_getElem (by omega), e]
  have h2 : j < l.length := by omega
  have := (List.getElem?_inj h2 h).mp (h1.trans hi.symm)
  omega
end Mo
namespace Mo
open PySem PySem.Spec PyProof.Rows L2
abbrev St := L2.St
/-! ### rules: any subscript, any store, any in, any ==, len of anything, calls that may raise -/
section
variable {X : Cx}
def CMulX (i j : Int) : Prop := i.natAbs.log2 + j.natAbs.log2 < 134000000
theorem CMulX.ok {i j : Int} (h : CMulX i j) : IntMulOk i j := by
  have b : ∀ x : Int, Builtin.Int.intBits x ≤ x.natAbs.log2 + 1 := fun x => by
    unfold Builtin.Int.intBits
    split <;> omega
  have h1 := b i
  have h2 := b j
  have h3 : i.natAbs.log2 + j.natAbs.log2 < 134000000 := h
  have e : bitsLine = 134217728 := by decide
  unfold IntMulOk
  intro z
  rw [Bool.and_eq_true] at z
  have z2 := z.2
  unfold Builtin.Int.intTooBig at z2
  have z3 := of_decide_eq_true z2
  rw [e] at z3
  omega
theorem log2_bd {x : Int} {a : Nat} (h : x.natAbs < 2 ^ a) (h0 : 0 < a) : x.natAbs.log2 < a := PySem.Flt.log2_lt_of h0 h
theorem mulX_of {i j : Int} (a b : Nat) (hi : i.natAbs < 2 ^ a) (hj : j.natAbs < 2 ^ b) (h0 : 0 < a) (h1 : 0 < b) (h : a + b ≤ 134000000) : CMulX i j := by
  have x := log2_bd hi h0
  have y := log2_bd hj h1
  unfold CMulX
  omega
theorem op_mulX : OpR X (binaryOp .Mult) (rI CMulX fun i j => .int (i * j)) := opI fun _ _ _ _ _ _ _ hc q => mul_int q hc.ok
def CDivX (_ j : Int) : Prop := j ≠ 0 ∧ j.natAbs.log2 < 9000
theorem op_fdivX : OpR X (binaryOp .FloorDiv) (rI CDivX fun i j => .int (i.fdiv j)) := opI fun _ _ _ _ _ _ _ hc q => floordiv_int hc.1 q (.inl (PyProof.noPylong_of_log2 hc.2))
def CMod (_ j : Int) : Prop := j ≠ 0
theorem op_modX : OpR X (binaryOp .Mod) (rI CMod fun i j => .int (i.fmod j)) := opI fun _ _ _ _ _ _ _ hc q => mod_int' hc q
/-- d[y] by values -/
def rDGet : R2 := fun x y H Q => ∃ a v, x = .ref a ∧ DGet H a y (some v) ∧ Q v H
theorem ix_dict (hu : X.A.units + 1 < cLine) : IxR X rDGet := by
  intro value slice pins s σ H x y v u Q I rx ry h hs
  obtain ⟨a, z, rfl, g, q⟩ := h
  obtain rfl : v = Value.ref a := rx
  have hT := dict_typeIs I g
  unfold subscriptTail
  refine wpAny_bind ?_
  rw [getitemInPython_of_ne hT.not_modules]
  refine wpAny_bind (wpAny_specialOf hT PySem.F.slot_dict_getitem.lookup ?_)
  have fin : wpAny (model X.prog X.w) X.A (subscripted slice false (Value.ref a) u) (fun r s₃ => wpAny (model X.prog X.w) X.A (letTemporaryGo value (Value.ref a) r >>= fun _ => pure r) (EP X pins σ Q) X.xe s₃) X.xe s := by
    rw [hs]
    refine wpAny_operating (d_getItem hu I g ry fun w' s3 I3 rw' => wpAny_bind (wpAny_letTemporaryGo (wpAny_pure ⟨z, H, I3, rw', q⟩)))
  first
    | exact wpAny_pure (wpAny_bind fin)
    | exact wpAny_bind (wpAny_pure (wpAny_bind fin))
    | exact wpAny_bind fin
def rSub (K : PySem.W.Frag) : R2 := fun x y H Q => (rIxL K x y H Q ∨ rIxT K x y H Q) ∨ (rIxS x y H Q ∨ rDGet x y H Q)
theorem ix_any (hu : X.A.units + 1 < cLine) : IxR X (rSub X.K) := (ix_list.or ix_tup).or (ix_str.or (ix_dict hu))
def rSli (K : PySem.W.Frag) : V → Option Int → Option Int → Hp → VK → Prop := fun x lo hi H Q => rSlL K x lo hi H Q ∨ (rSlT K x lo hi H Q ∨ rSlS x lo hi H Q)
theorem sl_any : SlR X (rSli X.K) := sl_list.or (SlR.or (r' := rSlS) sl_tup sl_str)
def rSet : TSet := fun o i v H Q => rSetL o i v H Q ∨ ∃ a H', o = .ref a ∧ DPut H a i v H' ∧ Q H'
theorem set_any (hu : X.A.units + 1 < cLine) : PSet X rSet := by
  intro pins s σ H o i v ov iv u Q I ro ri rv h
  rcases h with h | ⟨a, H', rfl, g, q⟩
  · exact set_list pins s σ H o i v ov iv u Q I ro ri rv h
  · obtain rfl : ov = Value.ref a := ro
    exact d_setItem hu I g ri rv fun s' I' => ⟨H', I', q⟩
/-- y in d, by values -/
def rDIn : R2 := fun y x H Q => ∃ a o, x = .ref a ∧ DGet H a y o ∧ Q (.bl o.isSome) H
def rDNotIn : R2 := fun y x H Q => ∃ a o, x = .ref a ∧ DGet H a y o ∧ Q (.bl (!o.isSome)) H
theorem op_inDict (hu : X.A.units + 1 < cLine) : OpR X (compareOp .In) rDIn := by
  intro pins s σ H x y v u Q I rx ry h
  obtain ⟨a, o, rfl, g, q⟩ := h
  obtain rfl : u = Value.ref a := ry
  exact d_in hu I g rx fun s3 I3 => ⟨.bl o.isSome, H, I3, rfl, q⟩
theorem op_notInDict (hu : X.A.units + 1 < cLine) : OpR X (compareOp .NotIn) rDNotIn := by
  intro pins s σ H x y v u Q I rx ry h
  obtain ⟨a, o, rfl, g, q⟩ := h
  obtain rfl : u = Value.ref a := ry
  exact d_notIn hu I g rx fun s3 I3 => ⟨.bl (!o.isSome), H, I3, rfl, q⟩
def rInA (K : PySem.W.Frag) : R2 := fun x y H Q => rDIn x y H Q ∨ (rIn K false x y H Q ∨ rInD K x y H Q)
def rNotInA (K : PySem.W.Frag) : R2 := fun x y H Q => rDNotIn x y H Q ∨ (rIn K true x y H Q ∨ rNotInD K x y H Q)
theorem op_inA (hu : X.A.units + 65 < cLine) : OpR X (compareOp .In) (rInA X.K) := (op_inDict (by omega)).or (op_in_seq.or (op_inD hu))
theorem op_notInA (hu : X.A.units + 65 < cLine) : OpR X (compareOp .NotIn) (rNotInA X.K) := (op_notInDict (by omega)).or (op_notIn_seq.or (op_notInD hu))
def rEqA (K : PySem.W.Frag) : R2 := fun x y H Q => rEq x y H Q ∨ (rEqD K x y H Q ∨ rEqV K x y H Q)
/-- a != b, two dicts that are equal -/
def rNeV (K : PySem.W.Frag) : R2 := fun x y H Q => ∃ n a b ks ls, n ≤ 60 ∧ x = .ref a ∧ y = .ref b ∧ H a = some (.dK ks) ∧ H b = some (.dK ls) ∧ ks.length = ls.length ∧ (∀ p ∈ ks, ∃ u, valV ls p.1 = some u ∧ EqV K H n p.2 u) ∧ Q (.bl false) H
theorem ne_dicts {prog : Program} {w : World} {K : Type} [DecidableEq K] {knd : KeyKind prog w K} {A : Around} {E : Value → Shared → Prop} {s : Shared} {a b : Addr} {ka kb : List (K × Value)} {r : Bool} {Q : Value → Shared → Prop} (ha : (a == sysModules) = false) (hb : (b == sysModules) = false)
    (da : s.heap.DictOf knd a ka) (db : s.heap.DictOf knd b kb) (hu : A.units < cLine) (hits : ka.length = kb.length → PySem.W.KeqHitsP prog w A.in1 s kb ka r) (h : Q (.bool (!(ka.length == kb.length && r))) s) :
    wpAny (model prog w) A (compareOp .NotEq (.ref a) (.ref b)) Q E s := by
  refine wpAny_richCompare_same_room (op := .NotEq) da.typeIs db.typeIs PySem.F.slot_dict_ne (wpAny_call_entry PySem.F.slot_dict_ne da.typeIs PySem.F.entry_dict_ne ?_ (PySem.F.args_dict_ne_2 _ _)) hu
  show wpAny _ _ (Builtin.Dict.dictSlotArgs "__ne__" ⟨[.ref a, .ref b], []⟩ >>= _) _ _ s
  refine wpAny_bind ?_
  unfold Builtin.Dict.dictSlotArgs
  refine wpAny_bind (wpAny_notOrdered_dict da.typeIs ?_)
  show wpAny _ _ (pure (Value.ref a, Value.ref b)) _ _ s
  refine wpAny_pure ?_
  refine wpAny_bind (wpAny_isInstance (T := "dict") db.typeIs PySem.F.sub_dict_dict ?_)
  simp only [Bool.not_true, Bool.false_eq_true, if_false]
  refine wpAny_bind (wpAny_pure (wpAny_bind (wpAny_pure ?_)))
  refine wpAny_bind (PySem.W.samePairsP ha hb da db hits ?_)
  refine wpAny_pure ⟨_, rfl, ?_, ?_⟩
  · exact fun x => nomatch x
  · simpa using h
theorem op_neV (hu : X.A.units + 64 < cLine) : OpR X (compareOp .NotEq) (rNeV X.K) := by
  intro pins s σ H x y v u Q I rx ry h
  obtain ⟨n, a, b, ks, ls, hn, rfl, rfl, ha, hb, hl, hp, q⟩ := h
  obtain rfl : v = Value.ref a := rx
  obtain rfl : u = Value.ref b := ry
  obtain ⟨_, ya, va, ra, da⟩ := (show ObjOk X.prog X.w H s.heap a (.dK ks) from I.hok a _ ha)
  obtain ⟨_, yb, vb, rb, db⟩ := (show ObjOk X.prog X.w H s.heap b (.dK ls) from I.hok b _ hb)
  refine ne_dicts (knd := mixKind X.prog X.w) (r := true) ya yb da db (by omega) (fun _ => hits_run (fun x y v u h r1 r2 => eqV_run I n X.A.in1 (by show X.A.units + 1 + n < cLine; omega) x y v u h r1 r2) rb ra hp) ?_
  have e : va.length = vb.length := by rw [← ra.length, ← rb.length]; exact hl
  exact fin_bl I q (by simp [e])
def rNeA (K : PySem.W.Frag) : R2 := fun x y H Q => rNe x y H Q ∨ (rNeD K x y H Q ∨ rNeV K x y H Q)
theorem op_eqA (hu : X.A.units + 64 < cLine) : OpR X (compareOp .Eq) (rEqA X.K) := op_eq.or ((op_eqD hu).or (op_eqV hu))
theorem op_neA (hu : X.A.units + 64 < cLine) : OpR X (compareOp .NotEq) (rNeA X.K) := op_ne.or ((op_neD hu).or (op_neV hu))
def rLenA (K : PySem.W.Frag) : List V → Hp → VK → Prop := fun xs H Q =>
  ((∃ p ys, xs = [.ref p] ∧ (SqL K H p ys ∨ SqT K H p ys) ∧ Q (.int ys.length) H) ∨ (∃ z, xs = [.str z] ∧ z.length ≤ sizeLine ∧ Q (.int z.length) H)) ∨ ((∃ a kvs, xs = [V.ref a] ∧ H a = some (.dK kvs) ∧ Q (.int kvs.length) H) ∨ rLenT xs H Q)
theorem call_lenA : CallR X (.builtin "len") (rLenA X.K) := (call_len_seq.or call_len_str).or (call_lenD.or call_len_dT)
/-- {}: of the one kind or the other -/
def tDNew : TE := fun σ H Q => tDNewK σ H Q ∨ tDNewT σ H Q
theorem pe_dnew {pos : Pos} : PE X (.Dict [] [] pos) tDNew := ⟨fun pins s σ H Q I h => by
  rcases h with h | h
  · exact pe_dnewK.run pins s σ H Q I h
  · exact pe_dnewT.run pins s σ H Q I h⟩
end
/-! ### calls, what is raised wished for at the caller's slots -/
section
variable {X : Cx} {CX : CXT} {k : Nat} {f C : Addr} {fd : FuncData} {ps : List Str} {sp : Sp} {E : St → XK} {x m : Str} {p pos apos : Pos} {e o : Expr} {es : List Expr} {ta : TE} {t : TA}
theorem pe_call0S (F : FnOk X.prog X.w X.K X.mg X.base CX k f fd ps sp) (hr : Room k X.A) (hg : Gl X x) (hm : X.mg x = some (.ref f)) (hk : PySem.W.keepIn X.K (.ref f) = true) (hb : Binds X.K fd ps []) (hx : ∀ σ, PassesAt CX X σ (E σ))
    (hdb : (x == ("__debug__" : Str)) = false := by decide) : PE X (.Call (.Name x p) [] [] pos) (tCallS sp E tNil) := by
  refine ⟨fun pins s σ H Q I h => ?_⟩
  refine wpAny_Call_Name_kw (ld_glob I hg hm ?_ hdb)
  exact PySem.W.callWith_K0 I.kIn hk (run_fnS (us := []) F hr hb (hx σ) I .nil h)
def tMethS (C : Addr) (m : Str) (sp : Sp) (E : St → XK) (ta : TE) (t : TA) : TE := fun σ H Q => ta σ H fun x H1 => ∃ a dx fs, x = .ref a ∧ H1 a = some (.ins C dx fs) ∧ fs.lookup m = none ∧
  t σ H1 fun vs H2 => sp (x :: vs) H2 Q (E σ)
theorem pe_methS {pl : Sem Bool} (he : PE X o ta) (c : Cls X.K C) (hm : Meth X.K C m f) (F : FnOk X.prog X.w X.K X.mg X.base CX k f fd ps sp) (hr : Room k X.A) (hb : Binds X.K fd ps []) (hx : ∀ σ, PassesAt CX X σ (E σ)) (ha : PA X (e :: es) t)
    (hst : starEach (e :: es) X.env = (false, eval e X.env) :: starEach es X.env := by rfl) (hpl : (backTo pos (starEach es X.env)).any (·.1) = false := by rfl)
    (ht : eval (.Call (.Attribute o m apos) (e :: es) [] pos) X.env = (do
      let ov ← eval o X.env
      standAt apos.atName
      let (f, first) ← holding [ov] (getMethod ov m pl)
      callWith pos f first (backTo pos (starEach (e :: es) X.env)) (backToKw pos (keywordEach [] X.env))) := by rfl) :
    PE X (.Call (.Attribute o m apos) (e :: es) [] pos) (tMethS C m sp E ta t) := by
  refine ⟨fun pins s σ H Q I h => ?_⟩
  refine PySem.W.methodCall_KW (pl := pl) (thn (he.run pins s σ H _ I h) fun u s1 ⟨x, H1, I1, rx, a, dx, fs, ex, ea, l, q⟩ => ?_) ht
  subst ex
  obtain rfl : u = Value.ref a := rx
  refine getmeth_ok I1 ea c hm l ?_
  refine PySem.W.callWith_K (first := [.ref a]) (h₀ := X.base) I.ok.mod.kin hm.kp (thn (ha.run pos pins s1 σ H1 _ I1 q) fun us s2 ⟨vs, H2, I2, r, q2⟩ => ⟨I2.kIn, ?_⟩) hst hpl
  exact run_fnS (us := .ref a :: us) (vs := .ref a :: vs) F hr hb (hx σ) I2 (.cons rfl r) q2
theorem pe_meth0S {pl : Sem Bool} (he : PE X o ta) (c : Cls X.K C) (hm : Meth X.K C m f) (F : FnOk X.prog X.w X.K X.mg X.base CX k f fd ps sp) (hr : Room k X.A) (hb : Binds X.K fd ps []) (hx : ∀ σ, PassesAt CX X σ (E σ))
    (ht : eval (.Call (.Attribute o m apos) [] [] pos) X.env = (do
      let ov ← eval o X.env
      standAt apos.atName
      let (f, first) ← holding [ov] (getMethod ov m pl)
      callWith pos f first (backTo pos (starEach [] X.env)) (backToKw pos (keywordEach [] X.env))) := by rfl) :
    PE X (.Call (.Attribute o m apos) [] [] pos) (tMethS C m sp E ta tNil) := by
  refine ⟨fun pins s σ H Q I h => ?_⟩
  refine PySem.W.methodCall_KW (pl := pl) (thn (he.run pins s σ H _ I h) fun u s1 ⟨x, H1, I1, rx, a, dx, fs, ex, ea, l, q⟩ => ?_) ht
  subst ex
  obtain rfl : u = Value.ref a := rx
  refine getmeth_ok I1 ea c hm l ?_
  exact PySem.W.callWith_K0 (first := [.ref a]) I1.kIn hm.kp (run_fnS (us := [.ref a]) (vs := [.ref a]) F hr hb (hx σ) I1 (.cons rfl .nil) q)
def tMakeS (C : Addr) (sp : Sp) (E : St → XK) (t : TA) : TE := fun σ H Q => t σ H fun vs H1 => ∀ x dx, H1 x = none → H1 dx = none → dx ≠ x →
  sp (.ref x :: vs) (upd (upd H1 dx (.own x)) x (.ins C dx [])) (fun v H2 => v = .non ∧ Q (.ref x) H2) (E σ)
theorem passes_of_at {σ0 : St} (hx : ∀ σ, PassesAt CX X σ (E σ)) (pins : List (Addr × Obj)) (H : Hp) (s : Shared) (e : Value) (s' : Shared) (I : Inv X pins σ0 H s) (h : CX X.stack H s (E σ0) e s') : X.xe e s' := hx σ0 pins H s e s' I h
theorem run_makeS {pins : List (Addr × Obj)} {σ : St} {H : Hp} {s : Shared} {Q : VK} {us : List Value} {vs : List V} (M : Mk X.K C f) (F : FnOk X.prog X.w X.K X.mg X.base CX k f fd ps sp) (hr : Room (k + 1) X.A) (hb : Binds X.K fd ps [])
    (hx : PassesAt CX X σ (E σ)) (I : Inv X pins σ H s) (r : Vals vs us)
    (h : ∀ x dx, H x = none → H dx = none → dx ≠ x → sp (.ref x :: vs) (upd (upd H dx (.own x)) x (.ins C dx [])) (fun v H2 => v = .non ∧ Q (.ref x) H2) (E σ)) :
    wpAny (model X.prog X.w) X.A (call (.ref C) us) (EP X pins σ Q) X.xe s := by
  have hq := h (s.heap.objs.size + 1) s.heap.objs.size (I.hok.fresh (Nat.le_succ _)) (I.hok.fresh (Nat.le_refl _)) (Nat.ne_of_lt (Nat.lt_succ_self _))
  have I2 := Inv.made (C := C) I
  have r2 : Vals (V.ref (s.heap.objs.size + 1) :: vs) (Value.ref (s.heap.objs.size + 1) :: us) := .cons rfl r
  have hl : (Value.ref (s.heap.objs.size + 1) :: us).length = ps.length := by
    have e := r2.length
    rw [F.len _ _ _ _ hq] at e
    exact e.symm
  have b := hb _ (Value.ref (s.heap.objs.size + 1) :: us) I2.kIn (by rw [List.append_nil]; exact hl)
  rw [List.append_nil] at b
  refine wpAny_call (make_map (f := f) I.kIn M.makes M.init (beq_iff_eq.mp M.fn) (codeAny_mono (F.run _ X.stack _ _ ⟨Value.ref (s.heap.objs.size + 1) :: us, []⟩ (Value.ref (s.heap.objs.size + 1) :: us) _ _ (E σ) (hr.make C us [])
    (I2.env0.make C us []) b r2 hq) fun r s' hq' => ?_))
  cases r with
  | error e => exact hx pins _ _ e s' I2 hq'
  | ok fl =>
    cases fl with
    | ret u =>
      obtain ⟨v, H', I3, rv, ev, q3⟩ := I2.after hq'
      subst ev
      exact ⟨rv, ⟨V.ref (s.heap.objs.size + 1), H', I3, rfl, q3⟩⟩
    | next => exact False.elim hq'
    | brk => exact False.elim hq'
    | cont => exact False.elim hq'
theorem pe_makeS (M : Mk X.K C f) (F : FnOk X.prog X.w X.K X.mg X.base CX k f fd ps sp) (hr : Room (k + 1) X.A) (hg : Gl X x) (hm : X.mg x = some (.ref C)) (hb : Binds X.K fd ps []) (hx : ∀ σ, PassesAt CX X σ (E σ))
    (ha : PA X (e :: es) t) (hdb : (x == ("__debug__" : Str)) = false := by decide) (he : starEach (e :: es) X.env = (false, eval e X.env) :: starEach es X.env := by rfl) (hpl : (backTo pos (starEach es X.env)).any (·.1) = false := by rfl) :
    PE X (.Call (.Name x p) (e :: es) [] pos) (tMakeS C sp E t) := by
  refine ⟨fun pins s σ H Q I h => ?_⟩
  refine wpAny_Call_Name_kw (ld_glob I hg hm ?_ hdb)
  refine PySem.W.callWith_K (h₀ := X.base) I.ok.mod.kin M.kp (thn (ha.run pos pins s σ H _ I h) fun us s1 ⟨vs, H1, I1, r, q⟩ => ⟨I1.kIn, ?_⟩) he hpl
  exact run_makeS M F hr hb (hx σ) I1 r q
theorem pe_make0S (M : Mk X.K C f) (F : FnOk X.prog X.w X.K X.mg X.base CX k f fd ps sp) (hr : Room (k + 1) X.A) (hg : Gl X x) (hm : X.mg x = some (.ref C)) (hb : Binds X.K fd ps []) (hx : ∀ σ, PassesAt CX X σ (E σ))
    (hdb : (x == ("__debug__" : Str)) = false := by decide) : PE X (.Call (.Name x p) [] [] pos) (tMakeS C sp E tNil) := by
  refine ⟨fun pins s σ H Q I h => ?_⟩
  refine wpAny_Call_Name_kw (ld_glob I hg hm ?_ hdb)
  exact PySem.W.callWith_K0 I.kIn M.kp (run_makeS (us := []) M F hr hb (hx σ) I .nil h)
end
/-! ### what the top has written -/
def fdA (K : PySem.W.Frag) (a : Addr) : FuncData := match K.lookup a with
  | some ⟨_, _, .func fd, _⟩ => fd
  | _ => default
theorem fun_of {K : PySem.W.Frag} {x qual : PySem.Str} {st : Stmt} {f : Addr} {kws : List (PySem.Str × L2.V)} (h : ∃ fd, L2.FunD K x qual (L2.defArgs st) (L2.defBody st) (L2.defScope st) [] kws f fd) : L2.Fun K x qual st f (fdA K f) := by
  obtain ⟨fd, F⟩ := h
  obtain ⟨oc, od, dV, kV, doc, pm, an, cdv, ct, osl, e, l, c, hd, _⟩ := F.ex
  have e2 : fdA K f = fd := by
    unfold fdA
    rw [l]
  rw [e2]
  rcases hd with ⟨_, e2⟩ | ⟨e2, _⟩
  · subst e2
    exact ⟨⟨oc, od, kV, doc, pm, an, cdv, ct, osl, e, l, c⟩, F.kp⟩
  · exact absurd rfl e2
/-- a global def as its callers need it -/
structure GF (K : PySem.W.Frag) (mg : Str → Option Value) (x : Str) (ps : List Str) : Prop where
  gl : mg x = some (.ref (He.fAd K (x, none)))
  kp : PySem.W.keepIn K (.ref (He.fAd K (x, none))) = true
  bd : Binds K (fdA K (He.fAd K (x, none))) ps []
/-- a method -/
structure MF (K : PySem.W.Frag) (C m : Str) (ps : List Str) : Prop where
  me : Meth K (He.ga K C) m (He.fAd K (C, some m))
  bd : Binds K (fdA K (He.fAd K (C, some m))) ps []
/-- a class that is made -/
structure KF (K : PySem.W.Frag) (mg : Str → Option Value) (C : Str) (ps : List Str) : Prop where
  gl : mg C = some (.ref (He.ga K C))
  mker : Mk K (He.ga K C) (He.fAd K (C, some "__init__"))
  bd : Binds K (fdA K (He.fAd K (C, some "__init__"))) ps []
section
variable {P : Program} {w : World} {K : PySem.W.Frag} {mg : Str → Option Value} {base : Heap}
/-- a global def of level k keeps a promise -/
abbrev OkG (P : Program) (w : World) (K : PySem.W.Frag) (mg : Str → Option Value) (base : Heap) (k : Nat) (x : Str) (ps : List Str) (sp : Sp) : Prop := FnOk P w K mg base (L2.CX P w) k (He.fAd K (x, none)) (fdA K (He.fAd K (x, none))) ps sp
abbrev OkM (P : Program) (w : World) (K : PySem.W.Frag) (mg : Str → Option Value) (base : Heap) (k : Nat) (C m : Str) (ps : List Str) (sp : Sp) : Prop := FnOk P w K mg base (L2.CX P w) k (He.fAd K (C, some m)) (fdA K (He.fAd K (C, some m))) ps sp
end
section
variable {X : Cx} {k j : Nat} {C m x : Str} {ps : List Str} {sp : Sp} {W : WX} {p pos apos : Pos} {e o : Expr} {es : List Expr} {ta : TE} {t : TA}
/-- f(e, ..) -/
theorem pcl (G : GF X.K X.mg x ps) (F : OkG X.prog X.w X.K X.mg X.base k x ps sp) (hr : Room j X.A) (tk : Takes X W) (ha : PA X (e :: es) t) (hj : k ≤ j := by omega) (hg : Gl X x := by rfl)
    (hdb : (x == ("__debug__" : Str)) = false := by decide) (he : starEach (e :: es) X.env = (false, eval e X.env) :: starEach es X.env := by rfl) (hpl : (backTo pos (starEach es X.env)).any (·.1) = false := by rfl) :
    PE X (.Call (.Name x p) (e :: es) [] pos) (tCallS sp (WE W) t) := pe_callS F (hr.mono hj) hg G.gl G.kp G.bd (passAt tk) ha hdb he hpl
theorem pcl0 (G : GF X.K X.mg x ps) (F : OkG X.prog X.w X.K X.mg X.base k x ps sp) (hr : Room j X.A) (tk : Takes X W) (hj : k ≤ j := by omega) (hg : Gl X x := by rfl)
    (hdb : (x == ("__debug__" : Str)) = false := by decide) : PE X (.Call (.Name x p) [] [] pos) (tCallS sp (WE W) tNil) := pe_call0S F (hr.mono hj) hg G.gl G.kp G.bd (passAt tk) hdb
theorem pme {pl : Sem Bool} (G : MF X.K C m ps) (c : Cls X.K (He.ga X.K C)) (F : OkM X.prog X.w X.K X.mg X.base k C m ps sp) (hr : Room j X.A) (tk : Takes X W) (he : PE X o ta) (ha : PA X (e :: es) t) (hj : k ≤ j := by omega)
    (hst : starEach (e :: es) X.env = (false, eval e X.env) :: starEach es X.env := by rfl) (hpl : (backTo pos (starEach es X.env)).any (·.1) = false := by rfl)
    (ht : eval (.Call (.Attribute o m apos) (e :: es) [] pos) X.env = (do
      let ov ← eval o X.env
      standAt apos.atName
      let (f, first) ← holding [ov] (getMethod ov m pl)
      callWith pos f first (backTo pos (starEach (e :: es) X.env)) (backToKw pos (keywordEach [] X.env))) := by rfl) :
    PE X (.Call (.Attribute o m apos) (e :: es) [] pos) (tMethS (He.ga X.K C) m sp (WE W) ta t) := pe_methS (pl := pl) he c G.me F (hr.mono hj) G.bd (passAt tk) ha hst hpl ht
theorem pme0 {pl : Sem Bool} (G : MF X.K C m ps) (c : Cls X.K (He.ga X.K C)) (F : OkM X.prog X.w X.K X.mg X.base k C m ps sp) (hr : Room j X.A) (tk : Takes X W) (he : PE X o ta) (hj : k ≤ j := by omega)
    (ht : eval (.Call (.Attribute o m apos) [] [] pos) X.env = (do
      let ov ← eval o X.env
      standAt apos.atName
      let (f, first) ← holding [ov] (getMethod ov m pl)
      callWith pos f first (backTo pos (starEach [] X.env)) (backToKw pos (keywordEach [] X.env))) := by rfl) :
    PE X (.Call (.Attribute o m apos) [] [] pos) (tMethS (He.ga X.K C) m sp (WE W) ta tNil) := pe_meth0S (pl := pl) he c G.me F (hr.mono hj) G.bd (passAt tk) ht
theorem pmk (G : KF X.K X.mg C ps) (F : OkM X.prog X.w X.K X.mg X.base k C "__init__" ps sp) (hr : Room j X.A) (tk : Takes X W) (ha : PA X (e :: es) t) (hj : k + 1 ≤ j := by omega) (hg : Gl X C := by rfl)
    (hdb : (C == ("__debug__" : Str)) = false := by decide) (he : starEach (e :: es) X.env = (false, eval e X.env) :: starEach es X.env := by rfl) (hpl : (backTo pos (starEach es X.env)).any (·.1) = false := by rfl) :
    PE X (.Call (.Name C p) (e :: es) [] pos) (tMakeS (He.ga X.K C) sp (WE W) t) := pe_makeS G.mker F (hr.mono hj) hg G.gl G.bd (passAt tk) ha hdb he hpl
theorem pmk0 (G : KF X.K X.mg C ps) (F : OkM X.prog X.w X.K X.mg X.base k C "__init__" ps sp) (hr : Room j X.A) (tk : Takes X W) (hj : k + 1 ≤ j := by omega) (hg : Gl X C := by rfl)
    (hdb : (C == ("__debug__" : Str)) = false := by decide) : PE X (.Call (.Name C p) [] [] pos) (tMakeS (He.ga X.K C) sp (WE W) tNil) := pe_make0S G.mker F (hr.mono hj) hg G.gl G.bd (passAt tk) hdb
end
/-! ### more rules by values -/
section
variable {X : Cx}
theorem hu65_of {A : Around} {k : Nat} (hr : Room k A) : A.units + 65 < cLine := by
  have := hr.un
  omega
def rAddS : R2 := fun x y H Q => ∃ i j, x = .str i ∧ y = .str j ∧ i.length + j.length ≤ sizeLine ∧ Q (.str (i ++ j)) H
def rAddA (K : PySem.W.Frag) : R2 := fun x y H Q => rI0 (fun i j => .int (i + j)) x y H Q ∨ (rCat x y H Q ∨ (rAddS x y H Q ∨ rCatT K x y H Q))
theorem op_addA : OpR X (binaryOp .Add) (rAddA X.K) := op_add.or (op_cat.or (OpR.or (r := rAddS) op_add_str op_catT))
def rLtA (K : PySem.W.Frag) : R2 := fun x y H Q => rI0 (fun i j => .bl (decide (i < j))) x y H Q ∨ rLtT K x y H Q
theorem op_ltA (hu : X.A.units < cLine) : OpR X (compareOp .Lt) (rLtA X.K) := op_lt.or (op_ltT hu)
theorem lexAt_shift {e r : Nat → Bool} {z : Bool} : ∀ {k i : Nat}, Ob.lexAt e r z (i + 1) k = Ob.lexAt (fun j => e (j + 1)) (fun j => r (j + 1)) z i k
  | 0, _ => rfl
  | k + 1, i => by rw [Ob.lexAt_succ, Ob.lexAt_succ, lexAt_shift (k := k) (i := i + 1)]
theorem lexAt_le : ∀ ns ms : List Int, Ob.lexAt (fun j => decide (ns.getD j 0 = ms.getD j 0)) (fun j => decide (ns.getD j 0 ≤ ms.getD j 0)) (decide (ns.length ≤ ms.length)) 0 (min ns.length ms.length) = !HT.lexLt ms ns
  | [], [] => rfl
  | [], y :: ms => by
    rw [HT.lexLt_cons_nil]
    show decide (0 ≤ (y :: ms).length) = true
    exact decide_eq_true (Nat.zero_le _)
  | x :: ns, [] => by
    rw [HT.lexLt_nil_cons]
    show decide ((x :: ns).length ≤ 0) = false
    exact decide_eq_false (by rw [List.length_cons]; omega)
  | x :: ns, y :: ms => by
    have ih := lexAt_le ns ms
    rw [HT.lexLt_cons, List.length_cons, List.length_cons, Nat.succ_min_succ, Ob.lexAt_succ, lexAt_shift]
    have e1 : ((x :: ns).getD 0 0 = (y :: ms).getD 0 0) = (x = y) := rfl
    by_cases e : x = y
    · rw [if_pos (show decide ((x :: ns).getD 0 0 = (y :: ms).getD 0 0) = true from decide_eq_true e), if_pos e.symm, ← ih]
      have e2 : decide (ns.length + 1 ≤ ms.length + 1) = decide (ns.length ≤ ms.length) := by by_cases h : ns.length ≤ ms.length <;> simp [h]
      rw [e2]
      rfl
    · rw [if_neg (show ¬ decide ((x :: ns).getD 0 0 = (y :: ms).getD 0 0) = true from by rw [decide_eq_true_iff]; exact e), if_neg (fun z => e z.symm)]
      show decide (x ≤ y) = !decide (y < x)
      by_cases h : x ≤ y
      · rw [decide_eq_true h, decide_eq_false (by omega)]; rfl
      · rw [decide_eq_false h, decide_eq_true (by omega)]; rfl
theorem lexAt_ge : ∀ ns ms : List Int, Ob.lexAt (fun j => decide (ns.getD j 0 = ms.getD j 0)) (fun j => decide (ms.getD j 0 ≤ ns.getD j 0)) (decide (ns.length ≥ ms.length)) 0 (min ns.length ms.length) = !HT.lexLt ns ms
  | [], [] => rfl
  | [], y :: ms => by
    rw [HT.lexLt_nil_cons]
    show decide (0 ≥ (y :: ms).length) = false
    exact decide_eq_false (by rw [List.length_cons]; omega)
  | x :: ns, [] => by
    rw [HT.lexLt_cons_nil]
    show decide ((x :: ns).length ≥ 0) = true
    exact decide_eq_true (Nat.zero_le _)
  | x :: ns, y :: ms => by
    have ih := lexAt_ge ns ms
    rw [HT.lexLt_cons, List.length_cons, List.length_cons, Nat.succ_min_succ, Ob.lexAt_succ, lexAt_shift]
    by_cases e : x = y
    · rw [if_pos (show decide ((x :: ns).getD 0 0 = (y :: ms).getD 0 0) = true from decide_eq_true e), if_pos e, ← ih]
      have e2 : decide (ns.length + 1 ≥ ms.length + 1) = decide (ns.length ≥ ms.length) := by by_cases h : ms.length ≤ ns.length <;> simp [h]
      rw [e2]
      rfl
    · rw [if_neg (show ¬ decide ((x :: ns).getD 0 0 = (y :: ms).getD 0 0) = true from by rw [decide_eq_true_iff]; exact e), if_neg e]
      show decide (y ≤ x) = !decide (x < y)
      by_cases h : y ≤ x
      · rw [decide_eq_true h, decide_eq_false (by omega)]; rfl
      · rw [decide_eq_false h, decide_eq_true (by omega)]; rfl
def rGeT (K : PySem.W.Frag) : R2 := fun x y H Q => ∃ (a b : Addr) (ns ms : List Int), x = .ref a ∧ y = .ref b ∧ SqT K H a (ns.map V.int) ∧ SqT K H b (ms.map V.int) ∧ Q (.bl (!HT.lexLt ns ms)) H
theorem op_geT {X : Cx} (hu : X.A.units < cLine) : OpR X (compareOp .GtE) (rGeT X.K) := by
  intro pins s σ H x y v u Q I rx ry h
  obtain ⟨a, b, ns, ms, rfl, rfl, ha, hb, q⟩ := h
  cases rx
  cases ry
  obtain ⟨its, r1, p1, _⟩ := I.tuple ha
  obtain ⟨its2, r2, p2, _⟩ := I.tuple hb
  have i1 : IntsAre its ns := Vals.ints r1
  have i2 : IntsAre its2 ms := Vals.ints r2
  have e1 : its.toArray.size = ns.length := by rw [List.size_toArray]; exact i1.length
  have e2 : its2.toArray.size = ms.length := by rw [List.size_toArray]; exact i2.length
  have at1 : ∀ j (h1 : j < its.toArray.size), ∃ t, its.toArray[j] = .int (ns.getD j 0) t := fun j h1 => PyProof.Rows.IntsAre.int_at i1 _ _ (by simp at h1; simp [h1])
  have at2 : ∀ j (h1 : j < its2.toArray.size), ∃ t, its2.toArray[j] = .int (ms.getD j 0) t := fun j h1 => PyProof.Rows.IntsAre.int_at i2 _ _ (by simp at h1; simp [h1])
  have R := Ob.RcOp.tuples_ge (A := X.A) (s := s) (e := fun j => decide (ns.getD j 0 = ms.getD j 0)) (r := fun j => decide (ms.getD j 0 ≤ ns.getD j 0)) p1 p2 hu (fun j h1 h2 => by
    obtain ⟨t, et⟩ := at1 j h1
    obtain ⟨t', et'⟩ := at2 j h2
    rw [et, et']
    have z : (ns.getD j 0 == ms.getD j 0) = decide (ns.getD j 0 = ms.getD j 0) := by
      by_cases q : ns.getD j 0 = ms.getD j 0
      · rw [decide_eq_true q]; exact beq_iff_eq.mpr q
      · rw [decide_eq_false q]; exact beq_eq_false_iff_ne.mpr q
    rw [← z]
    exact SeqAt.EqAt.int_int _ _ _ _) (fun j h1 h2 _ => by
    obtain ⟨t, et⟩ := at1 j h1
    obtain ⟨t', et'⟩ := at2 j h2
    rw [et, et']
    exact Ob.RcOp.ge_int _ _ _ _)
  rw [e1, e2, lexAt_ge] at R
  have z : wpAny (model X.prog X.w) X.A (compareOp .GtE (.ref a) (.ref b)) (EP X pins σ Q) X.xe s := R X.prog X.w X.xe (EP X pins σ Q) ⟨.bl _, H, I, rfl, q⟩
  exact z
def rLeA (K : PySem.W.Frag) : R2 := fun x y H Q => rI0 (fun i j => .bl (decide (i ≤ j))) x y H Q ∨ rLeT K x y H Q
theorem op_leA (hu : X.A.units < cLine) : OpR X (compareOp .LtE) (rLeA X.K) := op_le.or (op_leT hu)
theorem op_leK {K : PySem.W.Frag} (hK : X.K = K) (hu : X.A.units < cLine) : OpR X (compareOp .LtE) (rLeA K) := hK ▸ op_leA hu
def rGeA (K : PySem.W.Frag) : R2 := fun x y H Q => rI0 (fun i j => .bl (decide (j ≤ i))) x y H Q ∨ rGeT K x y H Q
theorem op_geA (hu : X.A.units < cLine) : OpR X (compareOp .GtE) (rGeA X.K) := op_ge.or (op_geT hu)
theorem op_geK {K : PySem.W.Frag} (hK : X.K = K) (hu : X.A.units < cLine) : OpR X (compareOp .GtE) (rGeA K) := hK ▸ op_geA hu
def rIsN1 : R2 := fun x y H Q => y = .non ∧ Q (.bl (decide (x = .non))) H
def rNotN1 : R2 := fun x y H Q => y = .non ∧ Q (.bl (!decide (x = .non))) H
theorem op_isN1 : OpR X (compareOp .Is) rIsN1 := op_isN
theorem op_notN1 : OpR X (compareOp .IsNot) rNotN1 := op_notN
def iSeq (K : PySem.W.Frag) (tl : TE) : TI := fun σ H R => tl σ H fun x H1 => ∃ a, x = .ref a ∧ (((∃ xs, SqL K H1 a xs) ∧ R (Itl K a) H1) ∨ ((∃ xs, SqT K H1 a xs) ∧ R (Itt K a) H1))
theorem pi_seq {tg l : Expr} {tl : TE} (hl : PE X l tl) : PI X tg l (iSeq X.K tl) := by
  refine ⟨fun pins s σ H R I h => ?_⟩
  refine thn (hl.run pins s σ H _ I h) fun v s1 ⟨x, H1, I1, r1, q1⟩ => ?_
  obtain ⟨a, e, q⟩ := q1
  subst e
  cases r1
  rcases q with ⟨⟨xs, hq⟩, q⟩ | ⟨⟨xs, hq⟩, q⟩
  · obtain ⟨its, rv, p, hz⟩ := I1.list hq
    refine wpAny_pyIter_list p.isList ?_
    refine ⟨s1.heap.objs.size, [s1.heap.objs.size], _, _, H1, rfl, I1.kept (t' := s1.toks) fun b o e => Heap.get?_push_of_some _ e, turn_list a _, ⟨_, Heap.get?_push_size _ rfl, rfl, rfl⟩, fun b hb => ?_, q⟩
    have e : b = s1.heap.objs.size := by simpa using hb
    subst e
    exact I1.fpOk (Nat.le_refl _) (I1.hok.fresh (Nat.le_refl _))
  · obtain ⟨its, rv, p, hz⟩ := I1.tuple hq
    refine wpAny_pyIter_tuple (show s1.heap.IsTuple a its.toArray from p) ?_
    refine ⟨s1.heap.objs.size, [s1.heap.objs.size], _, _, H1, rfl, I1.kept (t' := s1.toks) fun b o e => Heap.get?_push_of_some _ e, turn_tuple a _, ⟨_, Heap.get?_push_size _ rfl, rfl, rfl⟩, fun b hb => ?_, q⟩
    have e : b = s1.heap.objs.size := by simpa using hb
    subst e
    exact I1.fpOk (Nat.le_refl _) (I1.hok.fresh (Nat.le_refl _))
theorem call_isiA : CallR X (.builtin "isinstance") (rIsi X.K) := call_isi
end
/-- an own exception -/
structure ExF (K : PySem.W.Frag) (mg : Str → Option Value) (c : Str) : Prop where
  gl : mg c = some (.ref (He.ga K c))
  ex : PySem.W.excIn K (He.ga K c) He.veBase "ValueError.__new__" = true
  kp : PySem.W.keepIn K (.ref (He.ga K c)) = true
  sb : PySem.W.subIn K (.ref (He.ga K c)) (.type "BaseException") = some true
  ty : PySem.W.typeIn K (.ref (He.ga K c)) = some (.type "type")
/-! ### the rules, the written part named -/
section
variable {X : Cx} {K : PySem.W.Frag} {o e value a b : Expr} {es : List Expr} {f m : Str} {pos pos' tpos apos : Pos} {ta tb tv te : TE} {t : TA} {T name id : String} {r : V → List V → Hp → VK → Prop}
theorem op_addK (hK : X.K = K) : OpR X (binaryOp .Add) (rAddA K) := hK ▸ op_addA
theorem op_ltK (hK : X.K = K) (hu : X.A.units < cLine) : OpR X (compareOp .Lt) (rLtA K) := hK ▸ op_ltA hu
theorem op_eqK (hK : X.K = K) (hu : X.A.units + 64 < cLine) : OpR X (compareOp .Eq) (rEqA K) := hK ▸ op_eqA hu
theorem op_neK (hK : X.K = K) (hu : X.A.units + 64 < cLine) : OpR X (compareOp .NotEq) (rNeA K) := hK ▸ op_neA hu
theorem op_inK (hK : X.K = K) (hu : X.A.units + 65 < cLine) : OpR X (compareOp .In) (rInA K) := hK ▸ op_inA hu
theorem op_notInK (hK : X.K = K) (hu : X.A.units + 65 < cLine) : OpR X (compareOp .NotIn) (rNotInA K) := hK ▸ op_notInA hu
theorem ix_anyK (hK : X.K = K) (hu : X.A.units + 1 < cLine) : IxR X (rSub K) := hK ▸ ix_any hu
theorem sl_anyK (hK : X.K = K) : SlR X (rSli K) := hK ▸ sl_any
theorem call_lenK (hK : X.K = K) : CallR X (.builtin "len") (rLenA K) := hK ▸ call_lenA
theorem call_isiKK (hK : X.K = K) : CallR X (.builtin "isinstance") (rIsi K) := hK ▸ call_isiA
def rListOf (K : PySem.W.Frag) : List V → Hp → VK → Prop := fun xs H Q => ∃ p ys, xs = [.ref p] ∧ (SqL K H p ys ∨ SqT K H p ys) ∧ ∀ l, H l = none → Q (.ref l) (upd H l (.lst ys))
theorem call_listK (hK : X.K = K) : CallR X (.type "list") (rListOf K) := hK ▸ call_list_of
def rTupleOf (K : PySem.W.Frag) : List V → Hp → VK → Prop := fun xs H Q => ∃ p ys, xs = [.ref p] ∧ ((SqL K H p ys ∧ ∀ l, H l = none → Q (.ref l) (upd H l (.tup ys))) ∨ (SqT K H p ys ∧ Q (.ref p) H))
theorem call_tupleK (hK : X.K = K) : CallR X (.type "tuple") (rTupleOf K) := hK ▸ call_tuple_of
theorem pe_fldK (hK : X.K = K) (he : PE X e ta) (hb : attributeBase e f X.env (eval e X.env) = eval e X.env) : PE X (.Attribute e f pos) (tFld K ta f) := hK ▸ pe_fld he hb
theorem ps_fldK (hK : X.K = K) (ha : PE X o ta) (hv : PE X value tv) (hs : swapsWith value (some (.Attribute o f pos')) pos.line X.env = pure false) : PS X (.Assign [.Attribute o f pos'] value pos) (sFld K ta tv f) := hK ▸ ps_fld ha hv hs
theorem ps_fldaugK {op : Operator} {rd : V → V → Hp → VK → Prop} (hK : X.K = K) (ha : PE X o ta) (hv : PE X value tv) (hop : InOp X op rd) : PS X (.AugAssign (.Attribute o f tpos) op value pos) (sFldAug K ta tv rd f) := hK ▸ ps_fldaug ha hv hop
theorem pi_seqK {tg l : Expr} {tl : TE} (hK : X.K = K) (hl : PE X l tl) : PI X tg l (iSeq K tl) := hK ▸ pi_seq hl
theorem pg_tupK {es : List Expr} {k : Nat} {t : TGs} {n : Nat} (hK : X.K = K) (hc : X.calm = true) (h : PGs X es t) (hn : (assignEach es X.env).length = n) (hst : (assignEach es X.env).findIdx? (·.1) = none) : PG X (.Tuple es k pos) (gTup K n t) := hK ▸ pg_tup hc h hn hst
theorem pe_bm0K {cpos : Pos} (hK : X.K = K) (pa : PlainAttrs T) (slot : Slot T name id) (hty : typeOf (.builtin id) = pure (.type "method_descriptor")) (hm : MtR X id r) (ho : PE X o ta)
    (hbase : attributeBase o name X.env (eval o X.env) = eval o X.env := by rfl) (hline : (apos.endLine == cpos.line) = true := by rfl) : PE X (.Call (.Attribute o name apos) [] [] cpos) (tBM0 K T r ta) := hK ▸ pe_bm0 pa slot hty hm ho hbase hline
theorem pe_bmK {cpos : Pos} (hK : X.K = K) (pa : PlainAttrs T) (slot : Slot T name id) (hty : typeOf (.builtin id) = pure (.type "method_descriptor")) (hm : MtR X id r) (ho : PE X o ta) (ha : PA X (e :: es) t)
    (hbase : attributeBase o name X.env (eval o X.env) = eval o X.env := by rfl)
    (hfew : ((backTo cpos (starEach (e :: es) X.env)).all (fun x => !x.1) && (backToKw cpos (keywordEach [] X.env)).all (fun x => x.1.isSome)
      && decide ((e :: es).length + ([] : List Keyword).length + (if ([] : List Keyword).isEmpty then 0 else 1) < 30)) = true := by rfl)
    (hline : (apos.endLine == cpos.line) = true := by rfl) (hs : starEach (e :: es) X.env = (false, eval e X.env) :: starEach es X.env := by rfl) (hplain : (backTo cpos (starEach es X.env)).any (·.1) = false := by rfl) :
    PE X (.Call (.Attribute o name apos) (e :: es) [] cpos) (tBM K T r ta t) := hK ▸ pe_bm pa slot hty hm ho ha hbase hfew hline hs hplain
end
section
variable {X : Cx} {K : PySem.W.Frag} {k j : Nat} {C m x : Str} {ps : List Str} {sp : Sp} {W : WX} {p pos apos : Pos} {e o : Expr} {es : List Expr} {ta : TE} {t : TA}
theorem pmeK {pl : Sem Bool} (hK : X.K = K) (G : MF X.K C m ps) (c : Cls X.K (He.ga X.K C)) (F : OkM X.prog X.w X.K X.mg X.base k C m ps sp) (hr : Room j X.A) (tk : Takes X W) (he : PE X o ta) (ha : PA X (e :: es) t) (hj : k ≤ j := by omega)
    (hst : starEach (e :: es) X.env = (false, eval e X.env) :: starEach es X.env := by rfl) (hpl : (backTo pos (starEach es X.env)).any (·.1) = false := by rfl)
    (ht : eval (.Call (.Attribute o m apos) (e :: es) [] pos) X.env = (do
      let ov ← eval o X.env
      standAt apos.atName
      let (f, first) ← holding [ov] (getMethod ov m pl)
      callWith pos f first (backTo pos (starEach (e :: es) X.env)) (backToKw pos (keywordEach [] X.env))) := by rfl) :
    PE X (.Call (.Attribute o m apos) (e :: es) [] pos) (tMethS (He.ga K C) m sp (WE W) ta t) := hK ▸ pme (pl := pl) G c F hr tk he ha hj hst hpl ht
theorem pme0K {pl : Sem Bool} (hK : X.K = K) (G : MF X.K C m ps) (c : Cls X.K (He.ga X.K C)) (F : OkM X.prog X.w X.K X.mg X.base k C m ps sp) (hr : Room j X.A) (tk : Takes X W) (he : PE X o ta) (hj : k ≤ j := by omega)
    (ht : eval (.Call (.Attribute o m apos) [] [] pos) X.env = (do
      let ov ← eval o X.env
      standAt apos.atName
      let (f, first) ← holding [ov] (getMethod ov m pl)
      callWith pos f first (backTo pos (starEach [] X.env)) (backToKw pos (keywordEach [] X.env))) := by rfl) :
    PE X (.Call (.Attribute o m apos) [] [] pos) (tMethS (He.ga K C) m sp (WE W) ta tNil) := hK ▸ pme0 (pl := pl) G c F hr tk he hj ht
theorem pmkK (hK : X.K = K) (G : KF X.K X.mg C ps) (F : OkM X.prog X.w X.K X.mg X.base k C "__init__" ps sp) (hr : Room j X.A) (tk : Takes X W) (ha : PA X (e :: es) t) (hj : k + 1 ≤ j := by omega) (hg : Gl X C := by rfl)
    (hdb : (C == ("__debug__" : Str)) = false := by decide) (he : starEach (e :: es) X.env = (false, eval e X.env) :: starEach es X.env := by rfl) (hpl : (backTo pos (starEach es X.env)).any (·.1) = false := by rfl) :
    PE X (.Call (.Name C p) (e :: es) [] pos) (tMakeS (He.ga K C) sp (WE W) t) := hK ▸ pmk G F hr tk ha hj hg hdb he hpl
theorem pmk0K (hK : X.K = K) (G : KF X.K X.mg C ps) (F : OkM X.prog X.w X.K X.mg X.base k C "__init__" ps sp) (hr : Room j X.A) (tk : Takes X W) (hj : k + 1 ≤ j := by omega) (hg : Gl X C := by rfl)
    (hdb : (C == ("__debug__" : Str)) = false := by decide) : PE X (.Call (.Name C p) [] [] pos) (tMakeS (He.ga K C) sp (WE W) tNil) := hK ▸ pmk0 G F hr tk hj hg hdb
end
/-! ### isinstance of an own instance -/
structure IsC (K : PySem.W.Frag) (C : Str) : Prop where
  ha : PySem.W.findIn K (.ref (He.ga K C)) "__class__" = some (some (.builtin "object.__class__"))
  hn : PySem.W.specialIn K (.builtin "object.__class__") "__get__" = some (some (.builtin "getset_descriptor.__get__"))
  htk : PySem.W.takesIn K (.builtin "object.__class__") = some true
  hm : PySem.W.mroIn K (He.ga K C) (.type "object") = some true
def isCB (K : PySem.W.Frag) (C : Str) : Bool := He.eqO (PySem.W.findIn K (.ref (He.ga K C)) "__class__") (some (some (.builtin "object.__class__"))) && (He.eqO (PySem.W.specialIn K (.builtin "object.__class__") "__get__") (some (some (.builtin "getset_descriptor.__get__"))) &&
  (decide (PySem.W.takesIn K (.builtin "object.__class__") = some true) && decide (PySem.W.mroIn K (He.ga K C) (.type "object") = some true)))
theorem isC_of {K : PySem.W.Frag} {C : Str} (h : isCB K C = true) : IsC K C := by
  unfold isCB at h
  rw [Bool.and_eq_true, Bool.and_eq_true, Bool.and_eq_true] at h
  exact ⟨He.eqO_ok h.1, He.eqO_ok h.2.1, of_decide_eq_true h.2.2.1, of_decide_eq_true h.2.2.2⟩
def kitB (K : PySem.W.Frag) (C D : Str) (b : Bool) : Bool := decide (PySem.W.kitOne K (.ref (He.ga K C)) (.ref (He.ga K D)) = some b)
theorem kit_of' {K : PySem.W.Frag} {C D : Str} {b : Bool} (h : kitB K C D b = true) : PySem.W.kitOne K (.ref (He.ga K C)) (.ref (He.ga K D)) = some b := of_decide_eq_true h
/-- an instance and its class -/
theorem go_isi_ins {K : PySem.W.Frag} {H : Hp} {Q : VK} {a dx : Addr} {C D : Str} {fs : List (Str × V)} {b : Bool} (h : H a = some (.ins (He.ga K C) dx fs)) (c : Cls K (He.ga K C)) (i : IsC K C) (k : PySem.W.kitOne K (.ref (He.ga K C)) (.ref (He.ga K D)) = some b) (q : Q (.bl b) H) : rIsi K [.ref a, .ref (He.ga K D)] H Q :=
  ⟨_, _, _, _, b, rfl, .own _, .base (.ins h c i.ha i.hn i.htk i.hm), k, q⟩
/-! ### one of two promises -/
def tAlt (t u : TE) : TE := fun σ H Q => t σ H Q ∨ u σ H Q
theorem pe_alt {X : Cx} {e : Expr} {t u : TE} (h : PE X e t) (k : PE X e u) : PE X e (tAlt t u) := ⟨fun pins s σ H Q I q => by
  rcases q with q | q
  · exact h.run pins s σ H Q I q
  · exact k.run pins s σ H Q I q⟩
theorem go_alt1 {t u : TE} {σ : L2.St} {H : Hp} {Q : VK} (k : t σ H Q) : tAlt t u σ H Q := .inl k
theorem go_alt2 {t u : TE} {σ : L2.St} {H : Hp} {Q : VK} (k : u σ H Q) : tAlt t u σ H Q := .inr k
def spOr (a b : Sp) : Sp := fun vs H Q E => a vs H Q E ∨ b vs H Q E
theorem fn_or {P : Program} {w : World} {K : PySem.W.Frag} {mg : Str → Option Value} {base : Heap} {CX : CXT} {k : Nat} {f : Addr} {fd : FuncData} {ps : List Str} {a b : Sp} (F : FnOk P w K mg base CX k f fd ps a) (G : FnOk P w K mg base CX k f fd ps b) : FnOk P w K mg base CX k f fd ps (spOr a b) :=
  ⟨fun vs H Q E h => by
    rcases h with h | h
    · exact F.len vs H Q E h
    · exact G.len vs H Q E h, fun A outer s H args us vs Q E hr he hb hv hs => by
    rcases hs with hs | hs
    · exact F.run A outer s H args us vs Q E hr he hb hv hs
    · exact G.run A outer s H args us vs Q E hr he hb hv hs⟩
end Mo
namespace Mo
open PySem PySem.Spec PyProof.Rows L2
/-! ### steps through a reading -/
section
variable {K : PySem.W.Frag} {σ σ' : St} {H : Hp} {Q : VK} {ta tb te tc : TE} {t u c : TT} {tA tB1 : TA} {D : Ends} {s1 s2 : TS} {v x y : V} {i : Nat} {r : R2} {g : TG}
theorem go_start {f : TS} (h : σ = σ') (k : f D σ' H) : f D σ H := by
  rw [h]
  exact k
theorem go_var (h : σ[i]? = some (some v)) (k : Q v H) : tVar i σ H Q := ⟨v, h, k⟩
theorem go_c (k : Q v H) : tC v σ H Q := k
theorem go_op (k : ta σ H fun x H1 => tb σ H1 fun y H2 => r x y H2 Q) : tOp r ta tb σ H Q := k
theorem go_un {r : V → Hp → VK → Prop} (k : ta σ H fun x H1 => r x H1 Q) : tUn r ta σ H Q := k
theorem go_cb {r : List V → Hp → VK → Prop} (k : tA σ H fun vs H1 => r vs H1 Q) : tCB r tA σ H Q := k
theorem go_nil {Q : List V → Hp → Prop} (k : Q [] H) : tNil σ H Q := k
theorem go_cons {Q : List V → Hp → Prop} (k : ta σ H fun x H1 => tA σ H1 fun xs H2 => Q (x :: xs) H2) : tCons ta tA σ H Q := k
theorem go_tup (k : tA σ H fun xs H1 => xs.length ≤ sizeLine ∧ ∀ p, H1 p = none → Q (.ref p) (upd H1 p (.tup xs))) : tTup tA σ H Q := k
theorem go_lst (k : tA σ H fun xs H1 => xs.length ≤ sizeLine ∧ ∀ p, H1 p = none → Q (.ref p) (upd H1 p (.lst xs))) : tLst tA σ H Q := k
theorem go_test {Q : Bool → Hp → Prop} (k : te σ H fun x H1 => ∃ b, x = .bl b ∧ Q b H1) : tTest te σ H Q := k
theorem go_tb {Q : Bool → Hp → Prop} (k : te σ H fun x H1 => ∃ b, x = .bl b ∧ Q b H1) : tB te σ H Q := k
theorem go_bl {b : Bool} {Q : Bool → Prop} (k : Q b) : ∃ d, V.bl b = V.bl d ∧ Q d := ⟨b, rfl, k⟩
theorem go_and {Q : Bool → Hp → Prop} (k : t σ H fun d H1 => if d = true then u σ H1 Q else Q false H1) : tAnd t u σ H Q := k
theorem go_or {Q : Bool → Hp → Prop} (k : t σ H fun d H1 => if d = true then Q true H1 else u σ H1 Q) : tOr t u σ H Q := k
theorem go_not {Q : Bool → Hp → Prop} (k : t σ H fun d H1 => Q (!d) H1) : tNot t σ H Q := k
theorem go_andV (k : ta σ H fun x H1 => ∃ d, x = .bl d ∧ if d = true then tb σ H1 Q else Q (.bl false) H1) : tAndV ta tb σ H Q := k
theorem go_orV (k : ta σ H fun x H1 => ∃ d, x = .bl d ∧ if d = true then Q (.bl true) H1 else tb σ H1 Q) : tOrV ta tb σ H Q := k
theorem go_notV (k : ta σ H fun x H1 => ∃ d, x = .bl d ∧ Q (.bl (!d)) H1) : tNotV ta σ H Q := k
theorem go_ifE (k : c σ H fun d H1 => if d = true then ta σ H1 Q else tb σ H1 Q) : tIf c ta tb σ H Q := k
theorem go_seq (k : s1 { D with nx := s2 D } σ H) : tSeq s1 s2 D σ H := k
theorem go_next (k : D.nx σ H) : tNext D σ H := k
theorem go_brk (k : D.bk σ H) : tBreak D σ H := k
theorem go_cont (k : D.ct σ H) : tCont D σ H := k
theorem go_ifS (k : c σ H fun d H1 => if d = true then s1 D σ H1 else s2 D σ H1) : tIfS c s1 s2 D σ H := k
theorem go_asg (k : te σ H fun x H1 => g x σ H1 D.nx) : tAsg te g D σ H := k
theorem go_gn {Q : St → Hp → Prop} (k : Q (σ.set i (some v)) H) : gName i v σ H Q := k
theorem go_gsub {st : TSet} {Q : St → Hp → Prop} (k : ta σ H fun o H1 => tb σ H1 fun j H2 => st o j v H2 fun H3 => Q σ H3) : gSub ta tb st v σ H Q := k
theorem go_gcons {tg : TG} {tgs : TGs} {vs : List V} {Q : St → Hp → Prop} (k : tg v σ H fun σ1 H1 => tgs vs σ1 H1 Q) : gCons tg tgs (v :: vs) σ H Q := ⟨v, vs, rfl, k⟩
theorem go_gnil {Q : St → Hp → Prop} (k : Q σ H) : gNil [] σ H Q := ⟨rfl, k⟩
theorem go_gtup {n : Nat} {tgs : TGs} {a : Addr} {xs : List V} {Q : St → Hp → Prop} (h : SqT K H a xs) (hn : xs.length = n) (k : tgs xs σ H Q) : gTup K n tgs (.ref a) σ H Q := ⟨a, xs, rfl, h, hn, k⟩
theorem go_ret (k : te σ H D.rt) : tRet te D σ H := k
theorem go_drop (k : te σ H fun _ H1 => D.nx σ H1) : tDrop te D σ H := k
theorem go_fld {f : Str} (k : ta σ H fun x H1 => ∃ a C dx fs v, x = .ref a ∧ H1 a = some (.ins C dx fs) ∧ Cls K C ∧ NoAttr K C f ∧ fs.lookup f = some v ∧ Q v H1) : tFld K ta f σ H Q := k
theorem go_fldL {a C dx : Addr} {fs : List (Str × V)} {f : Str} {v : V} {Q : V → Prop} (h : H a = some (.ins C dx fs)) (hc : Cls K C) (hn : NoAttr K C f) (hl : fs.lookup f = some v) (k : Q v) :
    ∃ b C' dx' fs' v', V.ref a = .ref b ∧ H b = some (.ins C' dx' fs') ∧ Cls K C' ∧ NoAttr K C' f ∧ fs'.lookup f = some v' ∧ Q v' := ⟨a, C, dx, fs, v, rfl, h, hc, hn, hl, k⟩
theorem go_sfld {f : Str} (k : tb σ H fun y H1 => ta σ H1 fun x H2 => ∃ a C dx fs, x = .ref a ∧ H2 a = some (.ins C dx fs) ∧ Cls K C ∧ NoAttr K C f ∧ fs.length < 1000 ∧ D.nx σ (upd H2 a (.ins C dx (putF f y fs)))) : sFld K ta tb f D σ H := k
theorem go_sfldL {a C dx : Addr} {fs : List (Str × V)} {f : Str} {y : V} {Q : Hp → Prop} (h : H a = some (.ins C dx fs)) (hc : Cls K C) (hn : NoAttr K C f) (hl : Nat.blt fs.length 1000 = true) (k : Q (upd H a (.ins C dx (putF f y fs)))) :
    ∃ b C' dx' fs', V.ref a = .ref b ∧ H b = some (.ins C' dx' fs') ∧ Cls K C' ∧ NoAttr K C' f ∧ fs'.length < 1000 ∧ Q (upd H b (.ins C' dx' (putF f y fs'))) := ⟨a, C, dx, fs, rfl, h, hc, hn, Nat.blt_eq.mp hl, k⟩
theorem go_fldaug {rd : V → V → Hp → VK → Prop} {f : Str} (k : ta σ H fun x H1 => ∃ a C dx fs v, x = .ref a ∧ H1 a = some (.ins C dx fs) ∧ Cls K C ∧ NoAttr K C f ∧ fs.lookup f = some v ∧ tb σ H1 fun y H2 => rd v y H2 fun z H3 => ∃ dx' fs', H3 a = some (.ins C dx' fs') ∧ fs'.length < 1000 ∧ D.nx σ (upd H3 a (.ins C dx' (putF f z fs')))) : sFldAug K ta tb rd f D σ H := k
theorem go_fldaugL {a C dx : Addr} {fs : List (Str × V)} {f : Str} {v : V} {Q : Addr → Addr → V → Prop} (h : H a = some (.ins C dx fs)) (hc : Cls K C) (hn : NoAttr K C f) (hl : fs.lookup f = some v) (k : Q a C v) :
    ∃ b C' dx' fs' v', V.ref a = .ref b ∧ H b = some (.ins C' dx' fs') ∧ Cls K C' ∧ NoAttr K C' f ∧ fs'.lookup f = some v' ∧ Q b C' v' := ⟨a, C, dx, fs, v, rfl, h, hc, hn, hl, k⟩
theorem go_addR {a b : Int} (k : Q (.int (a + b)) H) : rAdd (.int a) (.int b) H Q := ⟨a, b, rfl, rfl, k⟩
theorem go_subR {a b : Int} (k : Q (.int (a - b)) H) : L2.rSub (.int a) (.int b) H Q := ⟨a, b, rfl, rfl, k⟩
theorem go_putL {a C dx : Addr} {fs : List (Str × V)} {f : Str} {z : V} {R : Hp → Prop} (h : H a = some (.ins C dx fs)) (hl : Nat.blt fs.length 1000 = true) (k : R (upd H a (.ins C dx (putF f z fs)))) :
    ∃ dx' fs', H a = some (.ins C dx' fs') ∧ fs'.length < 1000 ∧ R (upd H a (.ins C dx' (putF f z fs'))) := ⟨dx, fs, h, Nat.blt_eq.mp hl, k⟩
theorem go_call {sp : Sp} {E : St → XK} (k : tA σ H fun vs H1 => sp vs H1 Q (E σ)) : tCallS sp E tA σ H Q := k
theorem go_meth {C : Addr} {m : Str} {sp : Sp} {E : St → XK} (k : ta σ H fun x H1 => ∃ a dx fs, x = .ref a ∧ H1 a = some (.ins C dx fs) ∧ fs.lookup m = none ∧ tA σ H1 fun vs H2 => sp (x :: vs) H2 Q (E σ)) : tMethS C m sp E ta tA σ H Q := k
theorem go_methL {a C dx : Addr} {fs : List (Str × V)} {m : Str} {R : Prop} (h : H a = some (.ins C dx fs)) (hl : fs.lookup m = none) (k : R) :
    ∃ b dx' fs', V.ref a = .ref b ∧ H b = some (.ins C dx' fs') ∧ fs'.lookup m = none ∧ R := ⟨a, dx, fs, rfl, h, hl, k⟩
theorem go_make {C : Addr} {sp : Sp} {E : St → XK} (k : tA σ H fun vs H1 => ∀ x dx, H1 x = none → H1 dx = none → dx ≠ x → sp (.ref x :: vs) (upd (upd H1 dx (.own x)) x (.ins C dx [])) (fun v H2 => v = .non ∧ Q (.ref x) H2) (E σ)) : tMakeS C sp E tA σ H Q := k
theorem go_bm0 {T : String} {r : V → List V → Hp → VK → Prop} (k : ta σ H fun x H1 => tyV K T x H1 ∧ r x [] H1 Q) : tBM0 K T r ta σ H Q := k
theorem go_bm {T : String} {r : V → List V → Hp → VK → Prop} (k : ta σ H fun x H1 => tyV K T x H1 ∧ tA σ H1 fun xs H2 => r x xs H2 Q) : tBM K T r ta tA σ H Q := k
theorem go_sl {r : V → Option Int → Option Int → Hp → VK → Prop} {tl th : TO} (k : te σ H fun x H1 => tl σ H1 fun l H2 => th σ H2 fun u H3 => r x l u H3 Q) : tSl r te tl th σ H Q := k
theorem go_nopart {Q : Option Int → Hp → Prop} (k : Q none H) : tNoPart σ H Q := k
theorem go_part {Q : Option Int → Hp → Prop} (k : te σ H fun x H1 => ∃ i, x = .int i ∧ Q (some i) H1) : tPart te σ H Q := k
theorem go_int {j : Int} {Q : Int → Prop} (k : Q j) : ∃ i, V.int j = .int i ∧ Q i := ⟨j, rfl, k⟩
theorem go_aug {ti : TIp} (h : σ[i]? = some (some x)) (k : te σ H fun y H1 => ti x y H1 fun z H2 => D.nx (σ.set i (some z)) H2) : tAug i te ti D σ H := ⟨x, h, k⟩
theorem go_ipI {f : Int → Int → Int} {a b : Int} (k : Q (.int (f a b)) H) : ipI f (.int a) (.int b) H Q := ⟨a, b, rfl, rfl, k⟩
/-! #### operations on values -/
theorem go_I0 {f : Int → Int → V} {a b : Int} (k : Q (f a b) H) : rI0 f (.int a) (.int b) H Q := ⟨a, b, rfl, rfl, k⟩
theorem go_I {C : Int → Int → Prop} {f : Int → Int → V} {a b : Int} (hc : C a b) (k : Q (f a b) H) : rI C f (.int a) (.int b) H Q := ⟨a, b, rfl, rfl, hc, k⟩
theorem go_rU {f : Int → V} {a : Int} (k : Q (f a) H) : rU f (.int a) H Q := ⟨a, rfl, k⟩
theorem dec_i {a b : Int} : decide (V.int a = V.int b) = decide (a = b) := by simp
theorem dec_s {a b : Str} : decide (V.str a = V.str b) = decide (a = b) := by simp
theorem dec_b {a b : Bool} : decide (V.bl a = V.bl b) = decide (a = b) := by simp
theorem go_eqi {a b : Int} (k : Q (.bl (decide (a = b))) H) : rEqA K (.int a) (.int b) H Q := .inl ⟨rfl, by rw [dec_i]; exact k⟩
theorem go_nei {a b : Int} (k : Q (.bl (!decide (a = b))) H) : rNeA K (.int a) (.int b) H Q := .inl ⟨rfl, by rw [dec_i]; exact k⟩
theorem go_eqb {a b : Bool} (k : Q (.bl (decide (a = b))) H) : rEqA K (.bl a) (.bl b) H Q := .inl ⟨rfl, by rw [dec_b]; exact k⟩
theorem go_neb {a b : Bool} (k : Q (.bl (!decide (a = b))) H) : rNeA K (.bl a) (.bl b) H Q := .inl ⟨rfl, by rw [dec_b]; exact k⟩
theorem go_eqsT {a b : Str} (h : a = b) (k : Q (.bl true) H) : rEqA K (.str a) (.str b) H Q := .inl ⟨rfl, by rw [dec_s, decide_eq_true h]; exact k⟩
theorem go_eqsF {a b : Str} (h : ¬ a = b) (k : Q (.bl false) H) : rEqA K (.str a) (.str b) H Q := .inl ⟨rfl, by rw [dec_s, decide_eq_false h]; exact k⟩
theorem go_eqs {a b : Str} (k : Q (.bl (decide (a = b))) H) : rEqA K (.str a) (.str b) H Q := .inl ⟨rfl, by rw [dec_s]; exact k⟩
theorem go_nes {a b : Str} (k : Q (.bl (!decide (a = b))) H) : rNeA K (.str a) (.str b) H Q := .inl ⟨rfl, by rw [dec_s]; exact k⟩
theorem go_eqD {a b : V} {d e : PyData} (ha : Dp K H a d) (hb : Dp K H b e) (sa : SeqAt.shaped d = true) (sb : SeqAt.shaped e = true) (k : Q (.bl (PyData.eqv d e)) H) : rEqA K a b H Q := .inr (.inl ⟨d, e, ha, hb, sa, sb, k⟩)
theorem go_neD {a b : V} {d e : PyData} (ha : Dp K H a d) (hb : Dp K H b e) (sa : SeqAt.shaped d = true) (sb : SeqAt.shaped e = true) (k : Q (.bl (!PyData.eqv d e)) H) : rNeA K a b H Q := .inr (.inl ⟨d, e, ha, hb, sa, sb, k⟩)
theorem go_neV {a b : Addr} {ks ls : List (Key × V)} (n : Nat) (hn : n ≤ 60) (ha : H a = some (.dK ks)) (hb : H b = some (.dK ls)) (hl : ks.length = ls.length) (hp : ∀ p ∈ ks, ∃ u, valV ls p.1 = some u ∧ EqV K H n p.2 u) (k : Q (.bl false) H) : rNeA K (.ref a) (.ref b) H Q := .inr (.inr ⟨n, a, b, ks, ls, hn, rfl, rfl, ha, hb, hl, hp, k⟩)
theorem go_isN (k : Q (.bl (decide (x = .non))) H) : rIsN1 x .non H Q := ⟨rfl, k⟩
theorem go_notN (k : Q (.bl (!decide (x = .non))) H) : rNotN1 x .non H Q := ⟨rfl, k⟩
theorem go_isN_t (k : Q (.bl true) H) : rIsN1 .non .non H Q := ⟨rfl, k⟩
theorem go_notN_t (k : Q (.bl false) H) : rNotN1 .non .non H Q := ⟨rfl, k⟩
theorem go_isN_r {a : Addr} (k : Q (.bl false) H) : rIsN1 (.ref a) .non H Q := ⟨rfl, k⟩
theorem go_notN_r {a : Addr} (k : Q (.bl true) H) : rNotN1 (.ref a) .non H Q := ⟨rfl, k⟩
theorem go_isN_i {a : Int} (k : Q (.bl false) H) : rIsN1 (.int a) .non H Q := ⟨rfl, k⟩
theorem go_notN_i {a : Int} (k : Q (.bl true) H) : rNotN1 (.int a) .non H Q := ⟨rfl, k⟩
theorem go_addI {a b : Int} (k : Q (.int (a + b)) H) : rAddA K (.int a) (.int b) H Q := .inl ⟨a, b, rfl, rfl, k⟩
theorem go_addS {a b : Str} (h : a.length + b.length ≤ sizeLine) (k : Q (.str (a ++ b)) H) : rAddA K (.str a) (.str b) H Q := .inr (.inr (.inl ⟨a, b, rfl, rfl, h, k⟩))
theorem go_addL {a b : Addr} {xs ys : List V} (ha : H a = some (.lst xs)) (hb : H b = some (.lst ys)) (hl : xs.length + ys.length ≤ sizeLine) (k : ∀ p, H p = none → Q (.ref p) (upd H p (.lst (xs ++ ys)))) : rAddA K (.ref a) (.ref b) H Q :=
  .inr (.inl ⟨a, b, xs, ys, rfl, rfl, ha, hb, hl, k⟩)
theorem go_ltI {a b : Int} (k : Q (.bl (decide (a < b))) H) : rLtA K (.int a) (.int b) H Q := .inl ⟨a, b, rfl, rfl, k⟩
theorem go_ltT {a b : Addr} {ns ms : List Int} (ha : SqT K H a (ns.map V.int)) (hb : SqT K H b (ms.map V.int)) (k : Q (.bl (HT.lexLt ns ms)) H) : rLtA K (.ref a) (.ref b) H Q := .inr ⟨a, b, ns, ms, rfl, rfl, ha, hb, k⟩
/-- truth of a value -/
theorem go_truB {b : Bool} {Q : Bool → Prop} (k : Q b) : ∃ d, TruV K (.bl b) H d ∧ Q d := ⟨b, rfl, k⟩
theorem go_truN {Q : Bool → Prop} (k : Q false) : ∃ d, TruV K .non H d ∧ Q d := ⟨false, rfl, k⟩
theorem go_isi {x c : V} {t u : Value} {b : Bool} (hc : ClsV c u) (ht : TyX K H x t) (hk : PySem.W.kitOne K t u = some b) (k : Q (.bl b) H) : rIsi K [x, c] H Q := ⟨x, c, t, u, b, rfl, hc, ht, hk, k⟩
theorem go_isi_ii {r1 : Int} (k : Q (.bl true) H) : rIsi K [.int r1, .ty "int"] H Q := go_isi (.ty _) (.base (.int _)) (kit_ty (by decide +kernel)) k
theorem go_isi_ib {r1 : Int} (k : Q (.bl false) H) : rIsi K [.int r1, .ty "bool"] H Q := go_isi (.ty _) (.base (.int _)) (kit_ty (by decide +kernel)) k
theorem go_isi_is {r1 : Int} (k : Q (.bl false) H) : rIsi K [.int r1, .ty "str"] H Q := go_isi (.ty _) (.base (.int _)) (kit_ty (by decide +kernel)) k
theorem go_isi_ss {z : Str} (k : Q (.bl true) H) : rIsi K [.str z, .ty "str"] H Q := go_isi (.ty _) (.base (.str _)) (kit_ty (by decide +kernel)) k
theorem go_isi_si {z : Str} (k : Q (.bl false) H) : rIsi K [.str z, .ty "int"] H Q := go_isi (.ty _) (.base (.str _)) (kit_ty (by decide +kernel)) k
theorem go_isi_bi {z : Bool} (k : Q (.bl true) H) : rIsi K [.bl z, .ty "int"] H Q := go_isi (.ty _) (.base (.bl _)) (kit_ty (by decide +kernel)) k
theorem go_isi_bb {z : Bool} (k : Q (.bl true) H) : rIsi K [.bl z, .ty "bool"] H Q := go_isi (.ty _) (.base (.bl _)) (kit_ty (by decide +kernel)) k
theorem go_isi_ni (k : Q (.bl false) H) : rIsi K [.non, .ty "int"] H Q := go_isi (.ty _) (.base .non) (kit_ty (by decide +kernel)) k
theorem go_pow15 (k : Q (.int 1000000000000000) H) : rI CPow (fun i j => .int (i ^ j.toNat)) (.int 10) (.int 15) H Q := ⟨10, 15, rfl, rfl, ⟨by decide, by decide, by decide⟩, k⟩
theorem go_pow12 (k : Q (.int 1000000000000) H) : rI CPow (fun i j => .int (i ^ j.toNat)) (.int 10) (.int 12) H Q := ⟨10, 12, rfl, rfl, ⟨by decide, by decide, by decide⟩, k⟩
theorem go_pow6 (k : Q (.int 1000000) H) : rI CPow (fun i j => .int (i ^ j.toNat)) (.int 10) (.int 6) H Q := ⟨10, 6, rfl, rfl, ⟨by decide, by decide, by decide⟩, k⟩
theorem go_abs {r1 : Int} {Q1 : Int → Prop} (k : Q1 r1) : ∃ i, [V.int r1] = [V.int i] ∧ Q1 i := ⟨r1, rfl, k⟩
theorem go_max {r1 r2 : Int} {Q1 : Int → Int → Prop} (k : Q1 r1 r2) : ∃ i j, [V.int r1, V.int r2] = [V.int i, V.int j] ∧ Q1 i j := ⟨r1, r2, rfl, k⟩
theorem go_listL {p : Addr} {xs : List V} (h : SqL K H p xs) (k : ∀ l, H l = none → Q (.ref l) (upd H l (.lst xs))) : rListOf K [.ref p] H Q := ⟨p, xs, rfl, .inl h, k⟩
theorem go_listT {p : Addr} {xs : List V} (h : SqT K H p xs) (k : ∀ l, H l = none → Q (.ref l) (upd H l (.lst xs))) : rListOf K [.ref p] H Q := ⟨p, xs, rfl, .inr h, k⟩
theorem go_intI {a : Int} {Q1 : Int → Prop} {Q2 : Bool → Prop} (k : Q1 a) : (∃ i, [V.int a] = [V.int i] ∧ Q1 i) ∨ (∃ d, [V.int a] = [V.bl d] ∧ Q2 d) := .inl ⟨a, rfl, k⟩
theorem go_intB {b : Bool} {Q1 : Int → Prop} {Q2 : Bool → Prop} (k : Q2 b) : (∃ i, [V.bl b] = [V.int i] ∧ Q1 i) ∨ (∃ d, [V.bl b] = [V.bl d] ∧ Q2 d) := .inr ⟨b, rfl, k⟩
theorem go_subL {p : Addr} {xs : List V} {j : Int} {v : V} (h : SqL K H p xs) (e : atI xs j = some v) (k : Q v H) : rSub K (.ref p) (.int j) H Q := .inl (.inl ⟨p, xs, j, v, rfl, rfl, h, e, k⟩)
theorem go_subT {p : Addr} {xs : List V} {j : Int} {v : V} (h : SqT K H p xs) (e : atI xs j = some v) (k : Q v H) : rSub K (.ref p) (.int j) H Q := .inl (.inr ⟨p, xs, j, v, rfl, rfl, h, e, k⟩)
theorem go_subS {z : Str} {j : Int} {c : Nat} (h : z.length ≤ sizeLine) (e : atI z.cps.toList j = some c) (k : Q (.str ⟨#[c]⟩) H) : rSub K (.str z) (.int j) H Q := .inr (.inl ⟨z, j, c, rfl, rfl, h, e, k⟩)
theorem go_subD {p : Addr} {v : V} (g : DGet H p y (some v)) (k : Q v H) : rSub K (.ref p) y H Q := .inr (.inr ⟨p, v, rfl, g, k⟩)
theorem go_subK {p : Addr} {kvs : List (Key × V)} {z : Str} {v : V} (h : H p = some (.dK kvs)) (e : valV kvs (Sum.inr z) = some v) (k : Q v H) : rSub K (.ref p) (.str z) H Q := go_subD (y := .str z) (by have q := DGet.k (k := Sum.inr z) h; rw [e] at q; exact q) k
/-- an item of a told tuple, of a told list -/
theorem go_subDT {ds : List PyData} {j : Int} {n : Nat} {d : PyData} (h : Dp K H x (.tuple ds)) (hj : j = (n : Int)) (e : ds[n]? = some d) (k : ∀ v, Dp K H v d → Q v H) : rSub K x (.int j) H Q := by
  obtain ⟨a, xs, rfl, h1, h2⟩ := dp_tup h
  obtain ⟨v, e1, e2⟩ := dpa_get h2 e
  subst hj
  exact go_subT h1 (atI_nat e1) (k v e2)
theorem go_subDL {ds : List PyData} {j : Int} {n : Nat} {d : PyData} (h : Dp K H x (.list ds)) (hj : j = (n : Int)) (e : ds[n]? = some d) (k : ∀ v, Dp K H v d → Q v H) : rSub K x (.int j) H Q := by
  obtain ⟨a, xs, rfl, h1, h2⟩ := dp_lst h
  obtain ⟨v, e1, e2⟩ := dpa_get h2 e
  subst hj
  exact go_subL h1 (atI_nat e1) (k v e2)
/-- the same, of data that stays (in G) -/
theorem go_gT {G : Hp} {ds : List PyData} {j : Int} {n : Nat} {d : PyData} (e : Ext G H) (h : Dp K G x (.tuple ds)) (hj : j = (n : Int)) (hd : ds[n]? = some d) (k : ∀ v, Dp K G v d → Q v H) : rSub K x (.int j) H Q := by
  obtain ⟨a, xs, rfl, h1, h2⟩ := dp_tup h
  obtain ⟨v, e1, e2⟩ := dpa_get h2 hd
  subst hj
  exact go_subT (ext_t e h1) (atI_nat e1) (k v e2)
theorem go_gL {G : Hp} {ds : List PyData} {j : Int} {n : Nat} {d : PyData} (e : Ext G H) (h : Dp K G x (.list ds)) (hj : j = (n : Int)) (hd : ds[n]? = some d) (k : ∀ v, Dp K G v d → Q v H) : rSub K x (.int j) H Q := by
  obtain ⟨a, xs, rfl, h1, h2⟩ := dp_lst h
  obtain ⟨v, e1, e2⟩ := dpa_get h2 hd
  subst hj
  exact go_subL (ext_l e h1) (atI_nat e1) (k v e2)
theorem go_setL {p : Addr} {xs : List V} {j : Int} {n : Nat} {Q : Hp → Prop} (h : H p = some (.lst xs)) (e : ixN xs.length j = some n) (k : Q (upd H p (.lst (xs.set n v)))) : rSet (.ref p) (.int j) v H Q := .inl ⟨p, xs, j, n, rfl, rfl, h, e, k⟩
theorem go_setD {p : Addr} {H' : Hp} {Q : Hp → Prop} (g : DPut H p y v H') (k : Q H') : rSet (.ref p) y v H Q := .inr ⟨p, H', rfl, g, k⟩
theorem go_setK {p : Addr} {kvs : List (Key × V)} {z : Str} {Q : Hp → Prop} (h : H p = some (.dK kvs)) (hl : kvs.length < sizeLine) (k : Q (upd H p (.dK (putK kvs (Sum.inr z) v)))) : rSet (.ref p) (.str z) v H Q := go_setD (y := .str z) (DPut.k (k := Sum.inr z) h hl) k
theorem go_lenL {p : Addr} {xs : List V} (h : SqL K H p xs) (k : Q (.int (xs.length : Int)) H) : rLenA K [.ref p] H Q := .inl (.inl ⟨p, xs, rfl, .inl h, k⟩)
theorem go_lenT {p : Addr} {xs : List V} (h : SqT K H p xs) (k : Q (.int (xs.length : Int)) H) : rLenA K [.ref p] H Q := .inl (.inl ⟨p, xs, rfl, .inr h, k⟩)
theorem go_lenS {z : Str} (h : z.length ≤ sizeLine) (k : Q (.int (z.length : Int)) H) : rLenA K [.str z] H Q := .inl (.inr ⟨z, rfl, h, k⟩)
theorem go_lenK {p : Addr} {kvs : List (Key × V)} (h : H p = some (.dK kvs)) (k : Q (.int (kvs.length : Int)) H) : rLenA K [.ref p] H Q := .inr (.inl ⟨p, kvs, rfl, h, k⟩)
theorem go_lenDT {p : Addr} {kvs : List (List Key × V)} (h : H p = some (.dT kvs)) (k : Q (.int (kvs.length : Int)) H) : rLenA K [.ref p] H Q := .inr (.inr ⟨p, kvs, rfl, h, k⟩)
theorem go_app {p : Addr} {xs : List V} (h : H p = some (.lst xs)) (hl : xs.length < sizeLine) (k : Q .non (upd H p (.lst (xs ++ [y])))) : rAppend (.ref p) [y] H Q := ⟨p, xs, y, rfl, rfl, h, hl, k⟩
theorem go_tyL {p : Addr} {xs : List V} {R : Prop} (h : SqL K H p xs) (k : R) : tyV K "list" (.ref p) H ∧ R := ⟨.inl ⟨rfl, xs, h⟩, k⟩
theorem go_dK (k : ∀ p, H p = none → Q (.ref p) (upd H p (.dK []))) : tDNew σ H Q := .inl k
theorem go_dT (k : ∀ p, H p = none → Q (.ref p) (upd H p (.dT []))) : tDNew σ H Q := .inr k
theorem go_size {n : Nat} {R : Prop} (h : n ≤ 100000) (k : R) : n ≤ sizeLine ∧ R := ⟨by rw [sizeLine_eq]; omega, k⟩
theorem go_sz {n : Nat} {R : Prop} (h : Nat.ble n 100000 = true) (k : R) : n ≤ sizeLine ∧ R := go_size (Nat.le_of_ble_eq_true h) k
theorem go_iteT {A B : Prop} (h : A) : if true = true then A else B := iteT h
theorem go_iteF {A B : Prop} (h : B) : if false = true then A else B := iteF h
theorem go_iteFn {A B : Prop} (h : A) : if (!false) = true then A else B := h
theorem go_iteTn {A B : Prop} (h : B) : if (!true) = true then A else B := h
theorem go_ite {p : Prop} [Decidable p] {A B : Prop} (h1 : p → A) (h2 : ¬ p → B) : if decide p = true then A else B := by
  by_cases h : p
  · rw [decide_eq_true h]
    exact iteT (h1 h)
  · rw [decide_eq_false h]
    exact iteF (h2 h)
theorem go_iteN {p : Prop} [Decidable p] {A B : Prop} (h1 : ¬ p → A) (h2 : p → B) : if (!decide p) = true then A else B := by
  by_cases h : p
  · rw [decide_eq_true h]
    exact iteF (h2 h)
  · rw [decide_eq_false h]
    exact iteT (h1 h)
end
theorem ixN_nat {n : Nat} {i : Int} {j : Nat} (h : i = (j : Int)) (hj : j < n) : ixN n i = some j := by
  unfold ixN
  subst h
  rw [if_pos (by omega), if_pos (by omega)]
  simp
end Mo
namespace Mo
open PySem PySem.Spec PyProof.Rows L2
/-! #### loops -/
section
variable {K : PySem.W.Frag} {σ : St} {H : Hp} {tl : TE} {tA : TA} {D : Ends} {g : TG} {tb : TS} {c : TT}
def LoopX (g : TG) (tb : TS) (D : Ends) (σ : St) (H : Hp) (J : It) : Prop := ∃ W : Nat → Nat → St → Hp → Prop, (∃ m, W 0 m σ H) ∧ ∀ i m σ H, W i m σ H →
  (J.stop i H ∧ D.nx σ H) ∨ (J.go i H ∧ ∃ N : St → Hp → Prop, (∀ σ' H', N σ' H' → ∃ m', m' < m ∧ W (i + 1) m' σ' H') ∧ ∀ x H', J.yld i H x H' → g x σ H' fun σ2 H2 => tb { D with nx := N, ct := N, bk := D.nx } σ2 H2)
theorem go_for {wi : TI} (k : wi σ H fun J H1 => LoopX g tb D σ H1 J) : tFor wi g tb D σ H := k
theorem go_iR1 {R : It → Hp → Prop} (k : tA σ H fun vs H1 => ∃ j : Int, vs = [.int j] ∧ -(2 ^ 62) ≤ j ∧ j < 2 ^ 62 ∧ R (Itr 0 j.toNat) H1) : iRng1 tA σ H R := k
theorem go_iSeq {R : It → Hp → Prop} (k : tl σ H fun x H1 => ∃ a, x = .ref a ∧ (((∃ xs, SqL K H1 a xs) ∧ R (Itl K a) H1) ∨ ((∃ xs, SqT K H1 a xs) ∧ R (Itt K a) H1))) : iSeq K tl σ H R := k
theorem go_r1 {j : Int} {R : It → Prop} (n : Nat) (hj : j = (n : Int)) (hn : (n : Int) < 2 ^ 62) (k : R (Itr 0 n)) : ∃ j' : Int, [V.int j] = [V.int j'] ∧ -(2 ^ 62) ≤ j' ∧ j' < 2 ^ 62 ∧ R (Itr 0 j'.toNat) := by
  subst hj
  exact ⟨(n : Int), rfl, by omega, hn, by rw [Int.toNat_natCast]; exact k⟩
theorem loop_r (n : Nat) (Pv : Nat → St → Hp → Prop) (h0 : Pv 0 σ H)
    (hs : ∀ (i : Nat) σ' H', i < n → Pv i σ' H' → g (.int (i : Int)) σ' H' fun σ2 H2 => tb { D with nx := Pv (i + 1), ct := Pv (i + 1), bk := D.nx } σ2 H2) (hd : ∀ σ' H', Pv n σ' H' → D.nx σ' H') : LoopX g tb D σ H (Itr 0 n) :=
  for_range (lo := 0) (n := n) Pv h0 (fun i σ' H' hi p => by
    have q := hs i σ' H' hi p
    rw [Int.zero_add]
    exact q) hd
theorem go_sqL {p : Addr} {xs : List V} {R : It → Prop} (h : SqL K H p xs) (k : R (Itl K p)) : ∃ a, V.ref p = .ref a ∧ (((∃ xs, SqL K H a xs) ∧ R (Itl K a)) ∨ ((∃ xs, SqT K H a xs) ∧ R (Itt K a))) := ⟨p, rfl, .inl ⟨⟨xs, h⟩, k⟩⟩
theorem go_sqT {p : Addr} {xs : List V} {R : It → Prop} (h : SqT K H p xs) (k : R (Itt K p)) : ∃ a, V.ref p = .ref a ∧ (((∃ xs, SqL K H a xs) ∧ R (Itl K a)) ∨ ((∃ xs, SqT K H a xs) ∧ R (Itt K a))) := ⟨p, rfl, .inr ⟨⟨xs, h⟩, k⟩⟩
theorem loop_l {p : Addr} {xs : List V} (Pv : Nat → St → Hp → Prop) (h0 : Pv 0 σ H) (hl : ∀ i σ' H', i ≤ xs.length → Pv i σ' H' → SqL K H' p xs)
    (hs : ∀ i x σ' H', xs[i]? = some x → Pv i σ' H' → g x σ' H' fun σ2 H2 => tb { D with nx := Pv (i + 1), ct := Pv (i + 1), bk := D.nx } σ2 H2) (hd : ∀ σ' H', Pv xs.length σ' H' → D.nx σ' H') : LoopX g tb D σ H (Itl K p) :=
  for_list (xs := xs) Pv h0 hl hs hd
theorem loop_t {p : Addr} {xs : List V} (Pv : Nat → St → Hp → Prop) (h0 : Pv 0 σ H) (hl : ∀ i σ' H', i ≤ xs.length → Pv i σ' H' → SqT K H' p xs)
    (hs : ∀ i x σ' H', xs[i]? = some x → Pv i σ' H' → g x σ' H' fun σ2 H2 => tb { D with nx := Pv (i + 1), ct := Pv (i + 1), bk := D.nx } σ2 H2) (hd : ∀ σ' H', Pv xs.length σ' H' → D.nx σ' H') : LoopX g tb D σ H (Itt K p) :=
  for_tup (xs := xs) Pv h0 hl hs hd
theorem go_while (W : Nat → St → Hp → Prop) (m0 : Nat) (h0 : W m0 σ H)
    (hs : ∀ m σ' H', W m σ' H' → c σ' H' fun b H1 => if b = true then ∃ N : St → Hp → Prop, (∀ σ2 H2, N σ2 H2 → ∃ m', m' < m ∧ W m' σ2 H2) ∧ tb { D with nx := N, ct := N, bk := D.nx } σ' H1 else D.nx σ' H1) : tWhile c tb D σ H := ⟨W, ⟨m0, h0⟩, hs⟩
/-! #### list comprehensions -/
def LcX (J : It) (g : TG) (tt : TT) (te : TE) (vs : List Nat) (σ : St) (Dl : Addr) (Q : VK) (H : Hp) : Prop := ∃ W : Nat → Nat → Hp → Prop, (∃ m, W 0 m (upd H Dl (.lst []))) ∧ ∀ i m H, W i m H →
  (J.stop i H ∧ Q (.ref Dl) H) ∨ (J.go i H ∧ ∃ Nx : Hp → Prop, (∀ H', Nx H' → ∃ m', m' < m ∧ W (i + 1) m' H') ∧ ∀ x H', J.yld i H x H' → g x (wipe σ vs) H' fun σ2 H2 => wipe σ2 vs = wipe σ vs ∧ tt σ2 H2 fun b H3 =>
    if b = true then te σ2 H3 fun y H4 => ∃ acc, H4 Dl = some (.lst acc) ∧ acc.length < sizeLine ∧ Nx (upd H4 Dl (.lst (acc ++ [y]))) else Nx H3)
def LcA (g : TG) (tt : TT) (te : TE) (vs : List Nat) (σ : St) (Q : VK) (H : Hp) (J : It) : Prop := ∀ Dl, H Dl = none → LcX J g tt te vs σ Dl Q H
theorem go_lcA {tt : TT} {te : TE} {vs : List Nat} {Q : VK} {J : It} (k : ∀ Dl, H Dl = none → LcX J g tt te vs σ Dl Q H) : LcA g tt te vs σ Q H J := k
theorem go_lc {wi : TI} {tt : TT} {te : TE} {vs : List Nat} {Q : VK} (k : wi σ H fun J H1 => LcA g tt te vs σ Q H1 J) : tLc wi g tt te vs σ H Q := k
theorem lcx_r (n : Nat) {tt : TT} {te : TE} {vs : List Nat} {Dl : Addr} {Q : VK} (Pv : Nat → Hp → Prop) (h0 : Pv 0 (upd H Dl (.lst [])))
    (hs : ∀ (i : Nat) H', i < n → Pv i H' → g (.int (i : Int)) (wipe σ vs) H' fun σ2 H2 => wipe σ2 vs = wipe σ vs ∧ tt σ2 H2 fun b H3 =>
      if b = true then te σ2 H3 fun y H4 => ∃ acc, H4 Dl = some (.lst acc) ∧ acc.length < sizeLine ∧ Pv (i + 1) (upd H4 Dl (.lst (acc ++ [y]))) else Pv (i + 1) H3) (hd : ∀ H', Pv n H' → Q (.ref Dl) H') : LcX (Itr 0 n) g tt te vs σ Dl Q H :=
  lc_range (lo := 0) (n := n) Pv h0 (fun i H' hi p => by
    have q := hs i H' hi p
    rw [Int.zero_add]
    exact q) hd
theorem lcx_l {p : Addr} {xs : List V} {tt : TT} {te : TE} {vs : List Nat} {Dl : Addr} {Q : VK} (Pv : Nat → Hp → Prop) (h0 : Pv 0 (upd H Dl (.lst []))) (hl : ∀ i H', i ≤ xs.length → Pv i H' → SqL K H' p xs)
    (hs : ∀ i x H', xs[i]? = some x → Pv i H' → g x (wipe σ vs) H' fun σ2 H2 => wipe σ2 vs = wipe σ vs ∧ tt σ2 H2 fun b H3 =>
      if b = true then te σ2 H3 fun y H4 => ∃ acc, H4 Dl = some (.lst acc) ∧ acc.length < sizeLine ∧ Pv (i + 1) (upd H4 Dl (.lst (acc ++ [y]))) else Pv (i + 1) H3) (hd : ∀ H', Pv xs.length H' → Q (.ref Dl) H') : LcX (Itl K p) g tt te vs σ Dl Q H :=
  lc_list (xs := xs) Pv h0 hl hs hd
theorem lcx_t {p : Addr} {xs : List V} {tt : TT} {te : TE} {vs : List Nat} {Dl : Addr} {Q : VK} (Pv : Nat → Hp → Prop) (h0 : Pv 0 (upd H Dl (.lst []))) (hl : ∀ i H', i ≤ xs.length → Pv i H' → SqT K H' p xs)
    (hs : ∀ i x H', xs[i]? = some x → Pv i H' → g x (wipe σ vs) H' fun σ2 H2 => wipe σ2 vs = wipe σ vs ∧ tt σ2 H2 fun b H3 =>
      if b = true then te σ2 H3 fun y H4 => ∃ acc, H4 Dl = some (.lst acc) ∧ acc.length < sizeLine ∧ Pv (i + 1) (upd H4 Dl (.lst (acc ++ [y]))) else Pv (i + 1) H3) (hd : ∀ H', Pv xs.length H' → Q (.ref Dl) H') : LcX (Itt K p) g tt te vs σ Dl Q H :=
  lc_tup (xs := xs) Pv h0 hl hs hd
theorem go_yes {Q : Bool → Hp → Prop} (k : Q true H) : tYes σ H Q := k
theorem go_acc {Dl : Addr} {acc : List V} {y : V} {Q : Hp → Prop} (h : H Dl = some (.lst acc)) (hl : acc.length < sizeLine) (k : Q (upd H Dl (.lst (acc ++ [y])))) : ∃ acc', H Dl = some (.lst acc') ∧ acc'.length < sizeLine ∧ Q (upd H Dl (.lst (acc' ++ [y]))) := ⟨acc, h, hl, k⟩
end
/-! #### how large a number is -/
def Bd (n : Nat) (x : Int) : Prop := x.natAbs < 2 ^ n
instance {n : Nat} {x : Int} : Decidable (Bd n x) := inferInstanceAs (Decidable (x.natAbs < 2 ^ n))
theorem Bd.mono {a b : Nat} {x : Int} (h : Bd a x) (e : a ≤ b) : Bd b x := Nat.lt_of_lt_of_le h (Nat.pow_le_pow_right (by decide) e)
theorem Bd.mul {a b : Nat} {x y : Int} (h : Bd a x) (k : Bd b y) : Bd (a + b) (x * y) := by
  unfold Bd at *
  rw [Int.natAbs_mul, Nat.pow_add]
  exact Nat.mul_lt_mul'' h k
theorem Bd.add {a : Nat} {x y : Int} (h : Bd a x) (k : Bd a y) : Bd (a + 1) (x + y) := by
  unfold Bd at *
  have e : (2 : Nat) ^ (a + 1) = 2 ^ a + 2 ^ a := by rw [Nat.pow_succ]; omega
  rw [e]
  have := Int.natAbs_add_le x y
  omega
theorem Bd.cmul {a b : Nat} {x y : Int} (h : Bd a x) (k : Bd b y) (h0 : 0 < a := by decide) (h1 : 0 < b := by decide) (e : a + b ≤ 134000000 := by decide) : CMulX x y := mulX_of a b h k h0 h1 e
theorem bd_bits {x : Int} (h : Builtin.Int.intBits x ≤ 1048576) : Bd 1048576 x := by
  unfold Builtin.Int.intBits at h
  show x.natAbs < 2 ^ 1048576
  generalize 1048576 = n at h
  by_cases e : x.natAbs = 0
  · rw [e]
    exact Nat.pow_pos (by decide)
  · refine (Nat.log2_lt e).mp ?_
    have z : (x == 0) = false := beq_eq_false_iff_ne.mpr (by omega)
    rw [z, if_neg Bool.false_ne_true] at h
    omega
theorem go_mod {H : Hp} {Q : VK} {f : Int → Int → V} {a b : Int} (hb : b ≠ 0) (k : Q (f a b) H) : rI CMod f (.int a) (.int b) H Q := go_I hb k
theorem go_div {H : Hp} {Q : VK} {f : Int → Int → V} {a b : Int} (n : Nat) (hb : b ≠ 0) (h : Bd n b) (k : Q (f a b) H) (h0 : 0 < n := by decide) (h9 : n ≤ 9000 := by decide) : rI CDivX f (.int a) (.int b) H Q := go_I ⟨hb, Nat.lt_of_lt_of_le (log2_bd h h0) h9⟩ k
theorem bd_range {n : Nat} {x m : Int} (h0 : 0 ≤ x) (h : x < m) (k : Bd n m) : Bd n x := Nat.lt_trans (by omega) k
end Mo
local macro_rules | `(tactic| k_extra "s0") => `(tactic| with_reducible first
  | refine Mo.go_seq ?_
  | refine Mo.go_asg ?_
  | refine Mo.go_op ?_
  | refine Mo.go_c ?_
  | refine Mo.go_gn ?_
  | refine Mo.go_test ?_
  | refine Mo.go_bl ?_
  | refine Mo.go_iteT ?_
  | refine Mo.go_iteF ?_
  | refine Mo.go_I0 ?_
  | refine Mo.go_cons ?_
  | refine Mo.go_nil ?_
  | refine Mo.go_call ?_
  | refine Mo.go_ret ?_
  | refine Mo.go_eqi ?_
  | refine Mo.go_addI ?_
  | refine Mo.go_ltI ?_
  | refine Mo.go_truB ?_
  | refine Mo.go_truN ?_
  | refine Mo.go_intB ?_
  | refine Mo.go_isN_t ?_
  | refine Mo.go_notN_t ?_
  | refine Mo.go_isN_r ?_
  | refine Mo.go_notN_r ?_
  | refine Mo.go_nei ?_
  | refine Mo.go_cb ?_
  | refine Mo.go_drop ?_
  | refine Mo.go_tup ?_
  | refine Mo.go_lst ?_
  | refine Mo.go_next ?_
  | refine Mo.go_fld ?_
  | refine Mo.go_sfld ?_
  | refine Mo.go_meth ?_
  | refine Mo.go_make ?_
  | refine Mo.go_bm ?_
  | refine Mo.go_bm0 ?_
  | refine Mo.go_gsub ?_
  | refine Mo.go_gcons ?_
  | refine Mo.go_gnil ?_
  | refine Mo.go_and ?_
  | refine Mo.go_or ?_
  | refine Mo.go_not ?_
  | refine Mo.go_andV ?_
  | refine Mo.go_orV ?_
  | refine Mo.go_notV ?_
  | refine Mo.go_un ?_
  | refine Mo.go_rU ?_
  | refine Mo.go_sl ?_
  | refine Mo.go_nopart ?_
  | refine Mo.go_part ?_
  | refine Mo.go_int ?_
  | refine Mo.go_ifE ?_
  | refine Mo.go_tb ?_
  | refine Mo.go_ipI ?_
  | refine Mo.go_iteFn ?_
  | refine Mo.go_iteTn ?_
  | refine Mo.go_eqb ?_
  | refine Mo.go_neb ?_
  | refine Mo.go_brk ?_
  | refine Mo.go_for ?_
  | refine Mo.go_iR1 ?_
  | refine Mo.go_iSeq ?_
  | refine Mo.go_lc ?_
  | refine Mo.go_yes ?_
  | refine Mo.go_cont ?_
  | refine Mo.go_isi_ii ?_
  | refine Mo.go_isi_ib ?_
  | refine Mo.go_isi_is ?_
  | refine Mo.go_isi_ss ?_
  | refine Mo.go_isi_si ?_
  | refine Mo.go_isi_bi ?_
  | refine Mo.go_isi_bb ?_
  | refine Mo.go_isi_ni ?_
  | refine Mo.go_pow15 ?_
  | refine Mo.go_pow12 ?_
  | refine Mo.go_pow6 ?_
  | refine Mo.go_fldaug ?_
  | refine Mo.go_addR ?_
  | refine Mo.go_subR ?_)
local macro_rules | `(tactic| k_extra "s") => `(tactic| first
  | k_extra "s0"
  | (with_reducible refine Mo.go_ifS ?_))
local macro_rules | `(tactic| k_extra "v") => `(tactic| ((with_reducible refine' Mo.go_var ?k1 ?_); (case k1 => exact rfl)))
local macro_rules | `(tactic| k_extra "e") => `(tactic| first
  | ((with_reducible refine Mo.go_eqsT ?k1 ?_); (case k1 => with_reducible exact rfl))
  | ((with_reducible refine Mo.go_eqsF ?k1 ?_); (case k1 => decide +kernel)))
local macro_rules | `(tactic| k_extra "w") => `(tactic| repeat (first | k_extra "v" | k_extra "s"))
local macro_rules | `(tactic| k_extra "we") => `(tactic| repeat (first | k_extra "v" | k_extra "s" | k_extra "e"))
local macro_rules | `(tactic| k_extra "w0") => `(tactic| repeat (first | k_extra "v" | k_extra "s0" | k_extra "e"))
namespace Mo
open PySem PySem.Spec PyProof.Rows L2
/-! ### exceptions that are held as values -/
/-- an exception of the class at D, at a -/
def ExG (D a : Addr) (dd : Option Addr) : HO := .ext fun h => ∃ (oe : Obj) (vs : Array Value), h.get? a = some oe ∧ Zc (.ref D) dd oe ∧ oe.data = .fields vs
abbrev ExV (D a : Addr) : HO := ExG D a none
/-- an object that is such a one -/
def IsEx (D a : Addr) (o : HO) : Prop := ∃ φ : Heap → Prop, o = .ext φ ∧ ∀ h, φ h → ∃ (oe : Obj) (vs : Array Value), h.get? a = some oe ∧ Zc (.ref D) none oe ∧ oe.data = .fields vs
theorem isEx_V {D a : Addr} : IsEx D a (ExV D a) := ⟨_, rfl, fun _ h => h⟩
theorem isEx_inst {D a : Addr} {h : Heap} {oe : Obj} {vs : Array Value} (e : h.get? a = some oe) (z : Zc (.ref D) none oe) (d : oe.data = .fields vs) : PySem.W.InstAt h a oe D none := by
  obtain ⟨oc, od, oda, osl⟩ := oe
  obtain ⟨h1, h2⟩ := z
  dsimp only at h1 h2 d
  subst h1 h2 d
  exact ⟨e, rfl, rfl, trivial⟩
theorem IsEx.inst {P : Program} {w : World} {H : Hp} {h : Heap} {D a : Addr} {o : HO} (x : IsEx D a o) (k : ObjOk P w H h a o) : ∃ oe, PySem.W.InstAt h a oe D none := by
  obtain ⟨φ, rfl, f⟩ := x
  obtain ⟨oe, vs, e, z, d⟩ := f h k.1
  exact ⟨oe, isEx_inst e z d⟩
/-- the exception that a suite held is tracked behind it -/
theorem inv_track {X : Cx} {pins : List (Addr × Obj)} {σ : St} {H : Hp} {s : Shared} {a D : Addr} {dd : Option Addr} {oe : Obj} {vs : Array Value} (I : Inv X ((a, oe) :: pins) σ H s) (n0 : X.s_0.heap.get? a = none) (np : ∀ p ∈ X.pn ++ pins, p.1 ≠ a) (z : Zc (.ref D) dd oe) (d : oe.data = .fields vs) :
    Inv X pins σ (upd H a (ExG D a dd)) s := by
  obtain ⟨ga, na, nL, nF, nc⟩ := I.pin (a, oe) (List.mem_append_right _ List.mem_cons_self)
  have ga : s.heap.get? a = some oe := ga
  have na : H a = none := na
  have ne0 : ∀ b o, X.s_0.heap.get? b = some o → b ≠ a := fun b o e q => by rw [q, n0] at e; cases e
  refine ⟨I.ok, I.os, I.bare, ⟨I.base.keep, I.base.slot, fun b o e n hx => ?_, I.base.there, fun b xs e => ?_, fun b o u e => ?_, fun b ps e => ?_⟩, I.loc, I.cell, ?_, fun x c e => ?_, fun p hp => ?_, fun b u e => ?_, I.len⟩
  · rw [upd_ne (ne0 b o e)]
    exact I.base.free b o e n hx
  · rw [upd_ne (ne_of_none (I.base.tups b xs e) na)]
    exact I.base.tups b xs e
  · rw [upd_ne (ne_of_none (I.base.frzs b o u e) na)]
    exact I.base.frzs b o u e
  · obtain ⟨m, q⟩ := I.base.tbls b ps e
    exact ⟨m, by rw [upd_ne (ne_of_none q na)]; exact q⟩
  · rw [upd_ne (fun q => nL q.symm)]
    exact I.free
  · have hc : c ≠ a := fun q => by
      obtain ⟨v, o, ho, hd⟩ := I.cell x c e
      rw [q, ga] at ho
      cases ho
      exact nc v hd
    rw [upd_ne hc]
    exact I.freeC x c e
  · obtain ⟨e, n, r⟩ := I.pin p (by
      rcases List.mem_append.mp hp with h | h
      · exact List.mem_append_left _ h
      · exact List.mem_append_right _ (List.mem_cons_of_mem _ h))
    exact ⟨e, by rw [upd_ne (np p hp)]; exact n, r⟩
  · by_cases hb : b = a
    · subst hb
      rw [upd_same] at e
      cases e
      exact ⟨⟨oe, vs, ga, z, d⟩, ⟨oe, ga⟩, fun _ _ ⟨o, v, q, r⟩ k => ⟨o, v, k o q, r⟩⟩
    · rw [upd_ne hb] at e
      exact (I.hok b u e).stay (fun c v _ q => q) (fun c q => by rw [upd_ne (ne_of_none q na)]; exact q) fun c xs q => by rw [upd_ne (ne_of_none q na)]; exact q
/-- what the clause 'except x as n' wishes: behind it the exception is kept -/
def wKeep (K : PySem.W.Frag) (c : Value) (i : Nat) (ts : Addr → Value → Option Addr → TS) (Wout : WX) (D : Ends) : WX := fun cls d σ H =>
  ∃ b, PySem.W.exmOne K cls c = some b ∧ (b = true → ∃ C, cls = .ref C ∧ ∀ a, H a = none → ts a cls d { nx := fun σ' H' => H' a = none → D.nx (σ'.set i none) (upd H' a (ExG C a d)), rt := fun v H' => H' a = none → D.rt v (upd H' a (ExG C a d)), bk := fun σ' H' => H' a = none → D.bk (σ'.set i none) (upd H' a (ExG C a d)), ct := fun σ' H' => H' a = none → D.ct (σ'.set i none) (upd H' a (ExG C a d)) } (σ.set i (some (.ref a))) H) ∧
    (b = false → Wout cls d σ H)
section
variable {X : Cx} {x n : Str} {c : Value} {i : Nat} {body suite : List Stmt} {b₀ : Stmt} {np pos pos' : Pos} {tb : WX → TS} {ts : Addr → Value → Option Addr → TS} {Wout : WX}
theorem ps_try_keep (hs : X.stack = X.env :: X.outer) (hf : X.env.frame = some X.env.locals) (hex : X.ex = []) (hN : X.N.Nodup) (hi : X.N[i]? = some n) (hln : X.env.kindOf n = some .local) (hc : Names X x c) (tk : Takes X Wout)
    (hb : ∀ (W : WX) (pn : List (Addr × Obj)) (xe : Value → Shared → Prop), Takes (X.tr pn xe) W → PassesOwn (model X.prog X.w) X.A X.env xe → PSs (X.tr pn xe) body (tb W))
    (hsu : ∀ (a : Addr) (oe : Obj) (cls : Value) (d : Option Addr) (pn : List (Addr × Obj)), Zc cls d oe → (∃ vs, oe.data = .fields vs) → PSs (X.suite a ((a, oe) :: pn)) (b₀ :: suite) (ts a cls d)) :
    PS X (.Try body [.ExceptHandler (some (.Name x np)) (some n) (b₀ :: suite) pos'] [] [] pos) (fun D σ H => tb (wKeep X.K c i ts Wout D) D σ H) := by
  refine ⟨fun pins s σ H D I h => ?_⟩
  have ok := I.ok
  have hfr : X.A.frames = some (X.env :: X.outer) := by rw [ok.frames, hs]
  have hloc : Loc X.env.scope n := .inl hln
  refine wpAny_Try_except ?_
  refine wpAny_mono ((hb (wKeep X.K c i ts Wout D) (X.pn ++ pins) (fun e s₁ => wpAny (model X.prog X.w) X.A (noteFrame e X.env) (fun _ s₂ => wpAny (model X.prog X.w) X.A (setFlight e none) (fun _ s₃ =>
    wpAny (model X.prog X.w) X.A (handleBy e X.env [.ExceptHandler (some (.Name x np)) (some n) (b₀ :: suite) pos']) (SP X pins D) X.xe s₃) X.xe s₂) X.xe s₁) (fun u s' xx => ?_) PassesOwn.looking).run [] s σ H D (I.toTry _) h) (fun f s1 hsp => ?_) (fun e s1 he => he)
  · -- the catch
    obtain ⟨a, B, sI, pins', σ', H', cls, d, rfl, J', nb, up, sky, na, os, ag, b, hb1, hyes, hno⟩ := xx
    have J : Inv X pins σ' H' sI := J'.ofTry ok
    have sky' : Sky B (X.env :: X.outer) a (Zc cls d) X.env.locals s'.heap := by rw [← hs]; exact sky
    show wpAny (model X.prog X.w) X.A (noteFrame (.ref a) X.env) _ _ _
    refine Sky.land Zc.steady hfr hf sky' fun h3 fl3 up3 => ?_
    have J3 : Inv X pins σ' H' { s' with heap := h3 } := J.landed nb fl3.1 (up.trans up3) os ag
    obtain ⟨oe3, vs3, he3, hz3, hd3⟩ := fl3.there
    have notFr : ∀ {h : Heap} {o : Obj} {vs : Array Value}, h.FunFrames B (X.env :: X.outer) → h.get? a = some o → o.data = .fields vs → a ∉ frs (X.env :: X.outer) := fun {h o vs} ff e dd hm => by
      obtain ⟨_, o', e', hnf⟩ := ff.mem hm
      rw [e] at e'; cases e'
      exact hnf _ dd
    have nfr := notFr fl3.2.2.1 he3 hd3
    have nL : a ≠ X.env.locals := fun z => nfr (List.mem_filterMap.mpr ⟨X.env, List.mem_cons_self, by rw [hf, z]⟩)
    have nF : a ∉ X.fs := fun hm => by
      obtain ⟨e, he, q⟩ := List.mem_filterMap.mp hm
      exact nfr (List.mem_filterMap.mpr ⟨e, List.mem_cons_of_mem _ he, q⟩)
    have gI : ∀ o, sI.heap.get? a ≠ some o := fun o e => by
      have z := nb a o e (by rw [hs]; exact nfr)
      rw [fl3.2.1] at z
      cases z
    have n0 : X.s_0.heap.get? a = none := by
      cases e : X.s_0.heap.get? a with
      | none => rfl
      | some o =>
        obtain ⟨o', e'⟩ := J.base.there a o e (by rw [hex]; exact fun z => nomatch z)
        exact absurd e' (gI o')
    have np' : ∀ p ∈ X.pn ++ pins, p.1 ≠ a := fun p hp z => by
      obtain ⟨e, _⟩ := J.pin p hp
      rw [z] at e
      exact gI _ e
    have S3 := J3.suite he3 hd3 na nL nF
    refine wpAny_handleBy_cons (codeAny_handlers_test ?_) (by intro q; cases q)
    have LT : PySem.W.Looks (model X.prog X.w) h3 (typeOf (.ref a)) cls := fun A Q E s k q => wpAny_typeOf_ref (k _ _ he3) (by rw [hz3.1]; exact q)
    have LM := PySem.W.exm_one (M := model X.prog X.w) (J3.kIn) LT hb1
    have test : ∀ {Q : Value → Shared → Prop} {E : Value → Shared → Prop}, Q c { s' with heap := h3 } → wpAny (model X.prog X.w) (X.A.mark (some (.ref a))) (eval (.Name x np) X.env) Q E { s' with heap := h3 } := fun {Q E} q => by
      obtain ⟨hg, hdbg, hm | ⟨hm, hv, hnn⟩⟩ := hc
      · exact ld_glob (X := X.suite a ((a, oe3) :: (X.pn ++ pins))) S3 hg hm q hdbg
      · exact ld_blt (X := X.suite a ((a, oe3) :: (X.pn ++ pins))) S3 hg hm hv q hnn hdbg
    refine test (LM.here ?_)
    cases b with
    | true =>
      obtain ⟨C, rfl, hyes⟩ := hyes rfl
      refine codeAny_handlers_suite_as ?_
      refine HandSPX.lands_againZ fl3 fun h4 fl4 up4 => ?_
      have J4 : Inv X pins σ' H' { s' with heap := h4 } := J.landed nb fl4.1 ((up.trans up3).trans up4) os ag
      obtain ⟨oe4, vs4, he4, hz4, hd4⟩ := fl4.there
      have S4 := J4.suite he4 hd4 na nL nF
      refine store_ok (X := X.suite a ((a, oe4) :: (X.pn ++ pins))) (v := .ref a) S4 hN hi hloc rfl (fun s5 S5 => ?_) (.inr hln)
      refine wpAny_mono ((hsu a oe4 _ d (X.pn ++ pins) hz4 ⟨_, hd4⟩).run [] s5 _ H' _ S5 (hyes a na)) (fun f s6 hsp => ?_) (fun _ _ z => False.elim z)
      have end_ : ∀ {σ6 : St} {H6 : Hp} {Q : Shared → Prop}, Inv (X.suite a ((a, oe4) :: (X.pn ++ pins))) [] σ6 H6 s6 → (∀ s7, H6 a = none → Inv X pins (σ6.set i none) (upd H6 a (ExG C a d)) s7 → Q s7) →
          wpAny (model X.prog X.w) X.A (do bindName X.env n .none; unbindBehindTheSuite X.env n pos') (fun _ s7 => Q s7) X.xe s6 := fun {σ6 H6 Q} S6 hq => by
        have S6' : Inv X ((a, oe4) :: pins) σ6 H6 s6 := ⟨ok, S6.os, S6.bare, S6.base, S6.loc, S6.cell, S6.free, S6.freeC, fun p hp => S6.pin p (List.mem_append_left _ (by
          rcases List.mem_append.mp hp with h | h
          · exact List.mem_cons_of_mem _ (List.mem_append_left _ h)
          · rcases List.mem_cons.mp h with h | h
            · rw [h]; exact List.mem_cons_self
            · exact List.mem_cons_of_mem _ (List.mem_append_right _ h))), S6.hok, S6.len⟩
        exact gone_ok S6' hN hi hln fun s7 J7 => hq s7 (J7.pin (a, oe4) (List.mem_append_right _ List.mem_cons_self)).2.1 (inv_track J7 n0 np' hz4 hd4)
      cases f with
      | next =>
        obtain ⟨σ6, H6, S6, q6⟩ := hsp
        exact end_ S6 fun s7 e7 J7 => ⟨_, _, J7, q6 e7⟩
      | brk =>
        obtain ⟨σ6, H6, S6, q6⟩ := hsp
        exact end_ S6 fun s7 e7 J7 => ⟨_, _, J7, q6 e7⟩
      | cont =>
        obtain ⟨σ6, H6, S6, q6⟩ := hsp
        exact end_ S6 fun s7 e7 J7 => ⟨_, _, J7, q6 e7⟩
      | ret u =>
        obtain ⟨v6, σ6, H6, S6, r6, q6⟩ := hsp
        exact end_ S6 fun s7 e7 J7 => ⟨_, _, _, J7, r6, q6 e7⟩
    | false =>
      show wpAny _ X.A (handleBy (.ref a) X.env []) _ _ _
      refine wpAny_handleBy_nil ?_
      obtain ⟨k1, k2, k3, oe, vs, T, oT, ts', he, hz, hd, h1, hr⟩ := id fl3
      unfold PySem.passOn
      refine wpAny_bind (wpAny_field he hd h1 ?_)
      rw [if_neg (show ¬ ((Value.ref T == Value.none) = true) from by simp)]
      have fin : wpAny (model X.prog X.w) X.A (setFlight (.ref a) X.env.frame) (fun _ s4 => wpAny (model X.prog X.w) X.A (throw (.ref a) : Sem Flow) (SP X pins D) X.xe s4) X.xe { s' with heap := h3 } := by
        rw [hf]
        refine HandSPX.setFlight_upZ fl3 fun h4 hh4 up4 => wpAny_throw (tk _ _ ?_)
        exact ⟨a, B, sI, pins, σ', H', cls, d, rfl, J, nb, (up.trans up3).trans up4, .inr (.inr (by rw [hs]; exact hh4)), na, os, ag, hno rfl⟩
      first
        | exact wpAny_bind (wpAny_pure (wpAny_bind fin))
        | exact wpAny_bind fin
  · cases f with
    | next =>
      obtain ⟨σ', H', J', q⟩ := hsp
      exact wpAny_execs_nil ⟨σ', H', J'.ofTry ok, q⟩
    | brk =>
      obtain ⟨σ', H', J', q⟩ := hsp
      exact ⟨σ', H', J'.ofTry ok, q⟩
    | cont =>
      obtain ⟨σ', H', J', q⟩ := hsp
      exact ⟨σ', H', J'.ofTry ok, q⟩
    | ret u =>
      obtain ⟨v, σ', H', J', r, q⟩ := hsp
      exact ⟨v, σ', H', J'.ofTry ok, r, q⟩
end
def tTruK (K : PySem.W.Frag) (ta : TE) : TT := fun σ H Q => ta σ H fun x H' => ∃ k, TruV K x H' k ∧ Q k H'
theorem pt_truthK {X : Cx} {K : PySem.W.Frag} {a : Expr} {ta : TE} (hK : X.K = K) (ha : PE X a ta) (he : ∀ whole, isTrue a X.env whole = (do let v ← whole; standAt a.pos; holding [v] (truthy v))) : PT X a (fun σ H Q => ta σ H fun x H' => ∃ k, TruV K x H' k ∧ Q k H') := hK ▸ pt_truth ha he
/-! #### what an exception's class says -/
def excCB (K : PySem.W.Frag) (C : Str) : Bool := He.eqO (PySem.W.findIn K (.ref (He.ga K C)) "__getattribute__") (some (some (.builtin "BaseException.__getattribute__"))) && (He.eqO (PySem.W.findIn K (.ref (He.ga K C)) "__getattr__") (some none) && (decide (PySem.W.subIn K (.ref (He.ga K C)) (.type "BaseException") = some true) && (PySem.W.hasDictIn K (He.ga K C) && (
  He.eqO (PySem.W.findIn K (.ref (He.ga K C)) "__class__") (some (some (.builtin "object.__class__"))) && (He.eqO (PySem.W.specialIn K (.builtin "object.__class__") "__get__") (some (some (.builtin "getset_descriptor.__get__"))) &&
  (decide (PySem.W.takesIn K (.builtin "object.__class__") = some true) && decide (PySem.W.mroIn K (He.ga K C) (.type "object") = some true)))))))
theorem excC_of {K : PySem.W.Frag} {C : Str} (h : excCB K C = true) : ExcC K (He.ga K C) := by
  unfold excCB at h
  simp only [Bool.and_eq_true] at h
  obtain ⟨h1, h2, h3, h4, h5, h6, h7, h8⟩ := h
  exact ⟨He.eqO_ok h1, He.eqO_ok h2, of_decide_eq_true h3, h4, He.eqO_ok h5, He.eqO_ok h6, of_decide_eq_true h7, of_decide_eq_true h8⟩
def kitTB (K : PySem.W.Frag) (C : Str) (n : String) (b : Bool) : Bool := decide (PySem.W.kitOne K (.ref (He.ga K C)) (.type n) = some b)
theorem kitT_of {K : PySem.W.Frag} {C : Str} {n : String} {b : Bool} (h : kitTB K C n b = true) : PySem.W.kitOne K (.ref (He.ga K C)) (.type n) = some b := of_decide_eq_true h
/-- isinstance of a kept exception -/
def rIsX (K : PySem.W.Frag) : List V → Hp → VK → Prop := fun xs H Q => ∃ (a D : Addr) (o : HO) (c : V) (cv : Value) (b : Bool), xs = [.ref a, c] ∧ H a = some o ∧ IsEx D a o ∧ ExcC K D ∧ ClsV c cv ∧ PySem.W.kitOne K (.ref D) cv = some b ∧ Q (.bl b) H
theorem call_isX {X : Cx} : CallR X (.builtin "isinstance") (rIsX X.K) := by
  intro pins s σ H xs us Q I r h
  obtain ⟨a, D, o, c, cv, b, rfl, ha, x, C, hc, e, q⟩ := h
  obtain ⟨u1, u2, rfl, r1, r2⟩ := vals2 r
  cases (show u1 = Value.ref a from r1)
  have e2 := hc.eq r2
  subst e2
  obtain ⟨oe, J⟩ := x.inst (I.hok a o ha)
  exact PySem.W.kia_one (PySem.W.handS_kitx_exc C.hg C.hk C.hs C.hd C.ha C.hn C.ht C.hm) I.kIn J e (fun z => nomatch z) fun tk => ⟨.bl b, H, I.kept (t' := tk) fun _ _ z => z, rfl, q⟩
def rIsiX (K : PySem.W.Frag) : List V → Hp → VK → Prop := fun xs H Q => rIsi K xs H Q ∨ rIsX K xs H Q
theorem call_isiXK {X : Cx} {K : PySem.W.Frag} (hK : X.K = K) : CallR X (.builtin "isinstance") (rIsiX K) := hK ▸ call_isi.or call_isX
/-- X(e): a new exception as a value -/
def tExc (D : Addr) (ta : TE) : TE := fun σ H Q => ta σ H fun _ H1 => ∀ a, H1 a = none → Q (.ref a) (upd H1 a (ExO (.ref D) a))
theorem pe_excK {X : Cx} {K : PySem.W.Frag} {x : Str} {e : Expr} {ta : TE} {p pos : Pos} (hK : X.K = K) (F : ExF K X.mg x) (he : PE X e ta) (hg : Gl X x := by rfl) (hs : starEach [e] X.env = (false, eval e X.env) :: starEach [] X.env := by rfl) (hdb : (x == ("__debug__" : Str)) = false := by decide) :
    PE X (.Call (.Name x p) [e] [] pos) (tExc (He.ga K x) ta) := by
  subst hK
  exact pe_exc1 PySem.F.excBase_ValueError F.ex F.gl F.kp hg he hs hdb
/-! #### a method of an exception -/
theorem exc_meth {K : PySem.W.Frag} {prog : Program} {w : World} {A : Around} {E : Value → Shared → Prop} {s : Shared} {x C f : Addr} {ox : Obj} {name : Str} {pl : Sem Bool} {Q : Value × List Value → Shared → Prop} (X : K.In s.heap) (I : PySem.W.InstAt s.heap x ox C none) (c : ExcC K C)
    (hf : PySem.W.findIn K (.ref C) name = some (some (.ref f))) (ht : PySem.W.isFn K (.ref f) = true) (h : Q (.ref f, [.ref x]) s) : wpAny (model prog w) A (getMethod (.ref x) name pl) Q E s := by
  have hcan : Manifest.canonical "BaseException.__getattribute__" = "object.__getattribute__" := by first | kernel_rfl | decide +kernel
  unfold getMethod specialOf
  refine wpAny_bind (wpAny_bind (I.type.here ((PySem.W.looks_findIn X c.hg).here ?_)))
  dsimp only
  rw [hcan, if_neg (by decide)]
  refine wpAny_bind (wpAny_bind (I.type.here ((PySem.W.looks_findIn X c.hk).here ?_)))
  refine wpAny_bind (wpAny_bind (I.type.here ((PySem.W.looks_findIn X hf).here (wpAny_bind ((PySem.W.looks_typeIn X (beq_iff_eq.mp ht)).here ?_)))))
  rw [if_neg (by decide +kernel)]
  refine wpAny_bind (wpAny_loadPart I.at_ ?_)
  have hd := I.dict
  cases e : ox.dict with
  | none => exact wpAny_bind (wpAny_rule (wpAny_pure h))
  | some dx =>
    rw [e] at hd
    exact hd.elim
/-! #### a def that raises nothing and calls nothing: in any context -/
structure FnA (P : Program) (w : World) (K : PySem.W.Frag) (mg : Str → Option Value) (base : Heap) (f : Addr) (fd : FuncData) (ps : List Str) (sp : Sp) : Prop where
  len : ∀ vs H Q E, sp vs H Q E → vs.length = ps.length
  run : ∀ (A : Around) (outer : List Env) (s : Shared) (H : Hp) (args : Args) (us : List Value) (vs : List V) (Q : VK) (E : XK), A.depth < recursionLimit → Env0 P w K mg base A outer s H → BindsTo s fd args (ps.zip us) → Vals vs us → sp vs H Q E →
    codeAny (model P w) A (.call (.ref f) args) (CR (L2.CX P w) outer P w H s Q E) s
def cxA (P : Program) (w : World) (K : PySem.W.Frag) (mg : Str → Option Value) (base : Heap) (N : List Str) (qual : Str) (scope : Scope) (f : Addr) (cd : Value) (A : Around) (outer : List Env) (s : Shared) (H : Hp) (E : XK) : Cx :=
  { cxOf (L2.CX P w) P w K mg base N qual scope f cd A outer s H E with calm := false }
theorem inv_startA {P : Program} {w : World} {K : PySem.W.Frag} {mg : Str → Option Value} {base : Heap} {N ps : List Str} {qual : Str} {scope : Scope} {f : Addr} {cd : Value} {A : Around} {outer : List Env} {s s1 : Shared} {H : Hp} {E : XK} {us : List Value} {vs : List V}
    (S : FnScope N ps scope) (e0 : Env0 P w K mg base A outer s H) (hl : vs.length = ps.length) (r : Vals vs us)
    (x : InCallC s s.heap.objs.size (bindL (envOfC qual scope s.heap.objs.size f cd).kindOf (ps.zip us) fun _ => none) (cellsFrom (s.heap.objs.size + 1) scope.names []) (bindC (envOfC qual scope s.heap.objs.size f cd).kindOf (ps.zip us) fun _ => none) s1) :
    Inv (cxA P w K mg base N qual scope f cd A outer s H E) [] (L2.start N vs) H s1 := by
  have hpl : ps.length ≤ N.length := by have := congrArg List.length S.pre; rw [List.length_take] at this; omega
  obtain ⟨h1, tk, rfl, hk⟩ := x.done
  have noA : ∀ b : Addr, b ∉ (cxA P w K mg base N qual scope f cd A outer s H E).ex := fun b z => absurd (show b ∈ ([] : List Addr) from z) (by simp)
  refine ⟨⟨e0.mod, S.kind, rfl, rfl, Nat.le_refl _, fun y z c h1 h2 => ?_, fun y hy => ?_, fun y c _ h => ?_, (fun z => Bool.noConfusion (show false = true from z)), Around.frames_deeper e0.frames, .inr ⟨rfl, rfl⟩, fun b z => absurd z (noA b), e0.bs, e0.bsz, fun b _ _ => noA b, fun b z => absurd z (noA b), e0.funs, e0.frf⟩,
    rfl, e0.bare, Un.kept hk, ⟨_, x.toInCall.ns, fun i y v h1 h2 h3 => ?_⟩, fun y c h => ⟨_, x.cell y c h⟩, e0.hok.fresh (Nat.le_refl _), fun y c h => ?_, fun q hq => absurd (show q ∈ ([] : List (Addr × Obj)) from hq) (by simp), e0.hok.kept hk, ?_⟩
  · exact name_of_addr x.apart (PySem.mem_of_lookup h1) (PySem.mem_of_lookup h2)
  · have hy : scope.names.lookup y = some .cell ∨ scope.names.lookup y = some .free := hy
    rcases hy with hy | hy
    · exact cell_has hy
    · exact absurd rfl (S.nofree _ (PySem.mem_of_lookup hy))
  · exact Nat.le_of_lt (x.above y c (PySem.mem_of_lookup h))
  · have hi : i < vs.length := by
      unfold L2.start at h2
      by_cases hi : i < vs.length
      · exact hi
      · rw [List.getElem?_append_right (by simpa using hi)] at h2
        rw [List.getElem?_replicate] at h2
        split at h2 <;> cases h2
    have ha : vs[i]? = some v := by
      unfold L2.start at h2
      rw [List.getElem?_append_left (by simpa using hi), List.getElem?_map] at h2
      cases e : vs[i]? with
      | none => rw [e] at h2; cases h2
      | some a => rw [e] at h2; cases h2; rfl
    obtain ⟨u, hu, rv⟩ := r.get ha
    have hp : ps[i]? = some y := by
      rw [← S.pre, List.getElem?_take_of_lt (by omega)]; exact h1
    have ndP : ps.Nodup := by rw [← S.pre]; exact S.nd.sublist (List.take_sublist _ _)
    refine ⟨u, rv, ?_⟩
    rcases S.par y (List.mem_of_getElem? hp) with k | k
    · exact .inl ⟨k, bindL_get ndP hp hu k⟩
    · obtain ⟨c, e⟩ := cell_has (n := s.heap.objs.size + 1) k
      refine .inr ⟨.inl k, c, e, ?_⟩
      have q := x.cell y c e
      rw [bindC_get ndP hp hu (by show scope.names.lookup y ≠ _; rw [k]; decide)] at q
      exact q
  · exact e0.hok.fresh (Nat.le_of_lt (x.above y c (PySem.mem_of_lookup h)))
  · unfold L2.start
    show _ = N.length
    rw [List.length_append, List.length_map, List.length_replicate]
    omega
theorem fn_ofA {P : Program} {w : World} {K : PySem.W.Frag} {mg : Str → Option Value} {base : Heap} {x qual : Str} {st : Stmt} {f : Addr} {fd : FuncData} {N ps : List Str} {sp : Sp} (F : Fun K x qual st f fd) (S : FnScope N ps (defScope st)) (len : ∀ vs H Q E, sp vs H Q E → vs.length = ps.length)
    (hbody : ∀ (cdv : Value) (A : Around) (outer : List Env) (s : Shared) (H : Hp) (vs : List V) (Q : VK) (E : XK), sp vs H Q E →
      ∃ t, PSs (cxA P w K mg base N qual (defScope st) f cdv A outer s H E) (defBody st) t ∧ t { nx := fun _ H' => Q .non H', rt := Q } (L2.start N vs) H) :
    FnA P w K mg base f fd ps sp := by
  obtain ⟨oc, od, kV, doc, pm, an, cdv, ct, osl, rfl, lk, hcd⟩ := F.ex
  refine ⟨len, fun A outer s H args us vs Q E hr e0 hb r hsp => ?_⟩
  have hl := len _ _ _ _ hsp
  have KX : K.In s.heap := e0.mod.kin.keeps fun b o e => (e0.bs b o e).1
  have lim : s.heap.NoLimit := e0.mod.nolimit.keeps fun b o e => (e0.bs b o e).1
  have hkind : ∀ y ∈ ps.zip us, (defScope st).names.lookup y.1 = some .local ∨ ((defScope st).names.lookup y.1 = some .cell ∧ ((cellsFrom (s.heap.objs.size + 1) (defScope st).names []).lookup y.1).isSome = true) := fun ⟨n, v⟩ hy => by
    rcases S.par n (List.of_mem_zip hy).1 with q | q
    · exact .inl q
    · exact .inr ⟨q, PySem.W.cellsFrom_some _ _ _ (.inl q)⟩
  refine codeAny_call_function hr (KX _ _ lk) rfl S.co S.gen rfl (PySem.W.codeRec_of KX hcd) (hb _ _ _ _ ?_)
  refine wpAny_newFunctionEnv_cells S.kind hkind fun env he s1 x => ?_
  subst he
  refine ⟨lim.keeps x.toInCall.keep, codeAny_func ?_⟩
  obtain ⟨t, ht, hq⟩ := hbody cdv A outer s H vs Q E hsp
  have I : Inv (cxA P w K mg base N qual (defScope st) f cdv A outer s H E) [] (L2.start N vs) H s1 := inv_startA S e0 hl r x
  refine wpAny_mono (ht.run [] s1 (L2.start N vs) H _ I hq) (fun fl s' hs => ?_) fun e s' hs => hs
  have fin : ∀ {σ' : St} {H' : Hp} {v : V} {u : Value}, Inv (cxA P w K mg base N qual (defScope st) f cdv A outer s H E) [] σ' H' s' → RelV v u → Q v H' → CE outer P w H s Q u s' :=
    fun {σ' H' v u} J rv q => ⟨v, H', J.os, J.bare, J.base, J.hok, rv, q⟩
  cases fl with
  | ret u =>
    obtain ⟨v, σ', H', J, rv, q⟩ := hs
    exact fin J rv q
  | next =>
    obtain ⟨σ', H', J, q⟩ := hs
    exact fin (v := V.non) (u := Value.none) J rfl q
  | brk =>
    obtain ⟨_, _, _, q⟩ := hs
    exact False.elim q
  | cont =>
    obtain ⟨_, _, _, q⟩ := hs
    exact False.elim q
theorem run_fnA {X : Cx} {f : Addr} {fd : FuncData} {ps : List Str} {sp : Sp} {E : St → XK} {pins : List (Addr × Obj)} {σ : St} {H : Hp} {s : Shared} {Q : VK} {us : List Value} {vs : List V} (F : FnA X.prog X.w X.K X.mg X.base f fd ps sp) (hr : X.A.depth < recursionLimit) (hb : Binds X.K fd ps []) (hx : PassesAt (L2.CX X.prog X.w) X σ (E σ))
    (I : Inv X pins σ H s) (r : Vals vs us) (h : sp vs H Q (E σ)) : wpAny (model X.prog X.w) X.A (call (.ref f) us) (EP X pins σ Q) X.xe s := by
  have hl : us.length = ps.length := by rw [← r.length]; exact F.len _ _ _ _ h
  have b := hb s us I.kIn (by rw [List.append_nil]; exact hl)
  rw [List.append_nil] at b
  refine wpAny_call (codeAny_mono (F.run X.A X.stack s H ⟨us, []⟩ us vs Q (E σ) hr I.env0 b r h) fun r s' hq => ?_)
  cases r with
  | error e => exact hx pins H s e s' I hq
  | ok fl =>
    cases fl with
    | ret u => exact I.after hq
    | next => exact False.elim hq
    | brk => exact False.elim hq
    | cont => exact False.elim hq
/-- the classes that have it, each with what its method keeps -/
def spWord (z : Str) : Sp := fun vs H Q _ => (∃ v, vs = [v]) ∧ Q (.str z) H
structure WordOk (P : Program) (w : World) (K : PySem.W.Frag) (mg : Str → Option Value) (base : Heap) (m C : Str) (z : Str) : Prop where
  me : Meth K (He.ga K C) m (He.fAd K (C, some m))
  ec : ExcC K (He.ga K C)
  bd : Binds K (fdA K (He.fAd K (C, some m))) ["self"] []
  ok : FnA P w K mg base (He.fAd K (C, some m)) (fdA K (He.fAd K (C, some m))) ["self"] (spWord z)
def tWord (K : PySem.W.Frag) (ws : List (Str × Str)) (S : Addr → Addr → Hp → Prop) (ta : TE) : TE := fun σ H Q => ta σ H fun x H1 => ∃ a p, x = .ref a ∧ p ∈ ws ∧ S a (He.ga K p.1) H1 ∧ Q (.str p.2) H1
section
variable {X : Cx} {j : Nat} {m : Str} {W : WX} {pos apos : Pos} {o : Expr} {ta : TE} {ws : List (Str × Str)} {S : Addr → Addr → Hp → Prop}
theorem pe_wordG {pl : Sem Bool} (hS : ∀ pins σ H s a D, Inv X pins σ H s → S a D H → ∃ oe, PySem.W.InstAt s.heap a oe D none) (hw : ∀ p ∈ ws, WordOk X.prog X.w X.K X.mg X.base m p.1 p.2) (hr : X.A.depth < recursionLimit) (hx : ∀ σ, PassesAt (L2.CX X.prog X.w) X σ (WE W σ)) (he : PE X o ta)
    (ht : eval (.Call (.Attribute o m apos) [] [] pos) X.env = (do
      let ov ← eval o X.env
      standAt apos.atName
      let (f, first) ← holding [ov] (getMethod ov m pl)
      callWith pos f first (backTo pos (starEach [] X.env)) (backToKw pos (keywordEach [] X.env))) := by rfl) :
    PE X (.Call (.Attribute o m apos) [] [] pos) (tWord X.K ws S ta) := by
  refine ⟨fun pins s σ H Q I h => ?_⟩
  refine PySem.W.methodCall_KW (pl := pl) (thn (he.run pins s σ H _ I h) fun u s1 ⟨x, H1, I1, rx, a, p, ex, hp, hS1, q⟩ => ?_) ht
  subst ex
  obtain rfl : u = Value.ref a := rx
  obtain ⟨oe, J⟩ := hS _ _ _ _ _ _ I1 hS1
  have k := hw p hp
  refine exc_meth I1.kIn J k.ec k.me.at_ k.me.fn ?_
  exact PySem.W.callWith_K0 (first := [.ref a]) I1.kIn k.me.kp (run_fnA (E := WE W) (us := [.ref a]) (vs := [.ref a]) k.ok hr k.bd (hx σ) I1 (.cons rfl .nil) ⟨⟨_, rfl⟩, q⟩)
end
def keptEx (a D : Addr) (H : Hp) : Prop := ∃ o, H a = some o ∧ IsEx D a o
theorem keptEx_inst {X : Cx} : ∀ pins σ H s a D, Inv X pins σ H s → keptEx a D H → ∃ oe, PySem.W.InstAt s.heap a oe D none := fun _ _ _ _ _ _ I ⟨o, ho, x⟩ => x.inst (I.hok _ o ho)
def suiteEx (ea : Addr) (ecls : Value) (d : Option Addr) (a D : Addr) (_ : Hp) : Prop := a = ea ∧ ecls = .ref D ∧ d = none
theorem suiteEx_inst {X : Cx} {ea : Addr} {oe : Obj} {ecls : Value} {d : Option Addr} {pn : List (Addr × Obj)} (hz : Zc ecls d oe) (hf : ∃ vs, oe.data = .fields vs) : ∀ pins σ H s a D, Inv (X.suite ea ((ea, oe) :: pn)) pins σ H s → suiteEx ea ecls d a D H → ∃ oe, PySem.W.InstAt s.heap a oe D none := fun _ _ _ s a D I ⟨e1, e2, e3⟩ => by
  subst e1 e2 e3
  obtain ⟨hget, _⟩ := I.pin (a, oe) (List.mem_append.mpr (.inl List.mem_cons_self))
  obtain ⟨vs, hv⟩ := hf
  exact ⟨oe, isEx_inst hget hz hv⟩
theorem pe_wordK {X : Cx} {K : PySem.W.Frag} {j : Nat} {m : Str} {W : WX} {pos apos : Pos} {o : Expr} {ta : TE} {ws : List (Str × Str)} {pl : Sem Bool} (hK : X.K = K) (hw : ∀ p ∈ ws, WordOk X.prog X.w X.K X.mg X.base m p.1 p.2) (hr : Room j X.A) (tk : Takes X W) (he : PE X o ta)
    (ht : eval (.Call (.Attribute o m apos) [] [] pos) X.env = (do
      let ov ← eval o X.env
      standAt apos.atName
      let (f, first) ← holding [ov] (getMethod ov m pl)
      callWith pos f first (backTo pos (starEach [] X.env)) (backToKw pos (keywordEach [] X.env))) := by rfl) :
    PE X (.Call (.Attribute o m apos) [] [] pos) (tWord K ws keptEx ta) := hK ▸ pe_wordG (pl := pl) keptEx_inst hw (by have := hr.dp; omega) (passAt tk) he ht
theorem takes_never {X : Cx} {W : WX} (h : ∀ c d σ H, ¬ W c d σ H) : Takes X W := fun _ _ ⟨_, _, _, _, σ, H, c, d, _, _, _, _, _, _, _, _, w⟩ => (h c d σ H w).elim
theorem pe_wordS {X : Cx} {K : PySem.W.Frag} {j : Nat} {m : Str} {pos apos : Pos} {o : Expr} {ta : TE} {ws : List (Str × Str)} {pl : Sem Bool} {ea : Addr} {oe : Obj} {ecls : Value} {d : Option Addr} {pn : List (Addr × Obj)} (hK : X.K = K) (hz : Zc ecls d oe) (hf : ∃ vs, oe.data = .fields vs) (hw : ∀ p ∈ ws, WordOk X.prog X.w X.K X.mg X.base m p.1 p.2) (hr : Room j X.A) (he : PE (X.suite ea ((ea, oe) :: pn)) o ta)
    (ht : eval (.Call (.Attribute o m apos) [] [] pos) X.env = (do
      let ov ← eval o X.env
      standAt apos.atName
      let (f, first) ← holding [ov] (getMethod ov m pl)
      callWith pos f first (backTo pos (starEach [] X.env)) (backToKw pos (keywordEach [] X.env))) := by rfl) :
    PE (X.suite ea ((ea, oe) :: pn)) (.Call (.Attribute o m apos) [] [] pos) (tWord K ws (suiteEx ea ecls d) ta) := by
  subst hK
  exact pe_wordG (X := X.suite ea ((ea, oe) :: pn)) (W := fun _ _ _ _ => False) (pl := pl) (suiteEx_inst hz hf) hw (by have := hr.dp; show X.A.depth < _; omega) (passAt (takes_never fun _ _ _ _ h => h)) he ht
end Mo
namespace Mo
open PySem PySem.Spec PyProof.Rows L2
/-! ### the head: facts by names, and any others that are decided -/
abbrev AlM : Type := He.AlD × Bool
def SaysM (fa : List He.Fa) (fn : List He.DefD) (exs : List (PySem.W.Frag → Bool)) (K : PySem.W.Frag) : Prop := He.SaysD fa fn K ∧ (exs.all fun b => b K) = true
def obsM (n : Nat) (fa : List He.Fa) (fn : List He.DefD) (exs : List (PySem.W.Frag → Bool)) (g : Addr → Option Obj) : AlM := (He.obsD fa fn (He.frG g (He.asD g n)), exs.all fun b => b (He.frG g (He.asD g n)))
def hookM (n : Nat) (fa : List He.Fa) (fn : List He.DefD) (exs : List (PySem.W.Frag → Bool)) : PySem.W.Hook where
  α := AlM
  obs := fun s => obsM n fa fn exs s.heap.get?
  val := fun _ => (He.valD fn, true)
  says := fun _ h => ∃ K : PySem.W.Frag, K.In h ∧ SaysM fa fn exs K
  of := fun _ _ e => ⟨_, He.frG_in, congrArg (fun z : AlM => z.1) e, congrArg (fun z : AlM => z.2) e⟩
  keeps := fun _ _ _ ⟨K, hK, c⟩ k => ⟨K, PySem.W.Frag.In.keeps hK k, c⟩
theorem obsM_eq {n : Nat} {fa : List He.Fa} {fn : List He.DefD} {exs : List (PySem.W.Frag → Bool)} {g : Addr → Option Obj} {s : Shared} (h : ∀ a, g a = s.heap.get? a) : obsM n fa fn exs g = (hookM n fa fn exs).obs s := by
  have e : g = s.heap.get? := funext h
  rw [e] <;> rfl
section
variable {fa : List He.Fa} {fn : List He.DefD} {exs : List (PySem.W.Frag → Bool)} {K : PySem.W.Frag}
theorem SaysM.fact (c : SaysM fa fn exs K) (i : Nat) {f : He.Fa} (h : fa[i]? = some f := by rfl) : f.ok K = true := c.1.fact i h
theorem SaysM.fn_ (c : SaysM fa fn exs K) (i : Nat) {d : He.DefD} (h : fn[i]? = some d := by rfl) : ∃ fd, FunD K d.name d.qual d.params d.body d.scope (d.dvs K) (d.kws K) (He.fAd K d.at_) fd := c.1.def_ i h
theorem SaysM.ex (c : SaysM fa fn exs K) (i : Nat) {b : PySem.W.Frag → Bool} (h : exs[i]? = some b := by rfl) : b K = true := List.all_eq_true.mp c.2 b (List.mem_of_getElem? h)
end
/-- a law's end, the script's bits told -/
theorem walk_ofEB {l : PySem.W.OpenLaw} {n k : Nat} {q : Program} {loose : List Str} {XP : (Str → Option Value) → Heap → Prop} {YP : World → Heap → Prop} {d : DefRec} {CX : World → CXT} {x : Str}
    (hn : l.most = some n) (hn2 : n ≤ sizeLine) (hdf : d.params.defaults = []) (hr : Room k callerA)
    (F : ∀ (w : World) (mg : Str → Option Value) (fa : Addr) (h : Heap), YP w h → h.Ns mainGlobals mg → mg d.name = some (.ref fa) →
      ∃ (K : PySem.W.Frag) (fd : FuncData) (sp : Sp), K.In h ∧ (∀ (s : Shared) (u : Value), BindsTo s fd ⟨[u], []⟩ [(x, u)]) ∧
        (∀ (H : Hp) (a : Addr) (ns : List Int), ns.length ≤ n → (∀ z ∈ ns, Builtin.Int.intBits z ≤ 1048576) → Only H → SqL K H a (ns.map V.int) → sp [.ref a] H (fun v _ => v = .bl true) fun _ _ _ => False) ∧
        ∀ base : Heap, K.In base → base.Ns mainGlobals mg → FnOk l.prog w K mg base (CX w) k fa fd [x] sp)
    (hCX : ∀ (w : World) (H : Hp) (s : Shared) (e : Value) (s' : Shared), CX w [] H s (fun _ _ _ => False) e s' → False) :
    PySem.W.WalkO q loose XP YP l.row.toRowW d [] (fun f vs => PySem.call f vs) := by
  refine Att.attach_callB hn hdf fun w s₀ s₁ mg mb fa o pm cd doc a vs ns G Y ho hd hcd hmg hobj hints hlen hbits hg => ?_
  obtain ⟨K, fd, sp, KX, hb, hsp, hF⟩ := F w mg fa _ Y G.T.g hmg
  exact law_call KX G.T.g G.T.b G.T.builtins G.T.nolimit hg hobj hints (Nat.le_trans hlen hn2) hr hF hb (fun H hO hS => hsp H a ns hlen hbits hO hS) fun H e s' => hCX w H s₁ e s'
theorem fun_bindsTo {K : PySem.W.Frag} {x qual : Str} {st : Stmt} {f : Addr} {fd : FuncData} (F : L2.Fun K x qual st f fd) {ps : List Str}
    (h : ∀ (kV doc pm : Value) (an : Option Addr) (cdv ct : Value) (us : List Value), us.length = ps.length → bindArgs (PySem.W.fnOf x qual (defArgs st) (defBody st) (defScope st) .none kV doc pm an cdv ct) ⟨us, []⟩ = pure (ps.zip us)) (s : Shared) (us : List Value) (hl : us.length = ps.length) : BindsTo s fd ⟨us, []⟩ (ps.zip us) := by
  obtain ⟨oc, od, kV, doc, pm, an, cdv, ct, osl, rfl, lk, hcd⟩ := F.ex
  exact .of_eq (h kV doc pm an cdv ct us hl)
theorem cx_false {P : Program} {w : World} {H : Hp} {s : Shared} {e : Value} {s' : Shared} (h : L2.CX P w [] H s (fun _ _ _ => False) e s') : False := by
  obtain ⟨_, _, _, _, _, _, _, _, _, _, _, _, z⟩ := h
  exact z
/-- what a law promises -/
def spLaw (K : PySem.W.Frag) : Sp := fun vs H Q _ => ∃ (a : Addr) (ns : List Int), vs = [.ref a] ∧ Only H ∧ SqL K H a (ns.map V.int) ∧ ns.length ≤ 63 ∧ (∀ z ∈ ns, Builtin.Int.intBits z ≤ 1048576) ∧ ∀ H', Q (.bl true) H'
/-- a module's name is a plain tuple -/
def tupTy (K : PySem.W.Frag) (x : Str) : Bool := match K.lookup (He.ga K x) with
  | some ⟨.type c, none, .seq _ _, _⟩ => decide (c = "tuple")
  | _ => false
theorem tupTy_ok {K : PySem.W.Frag} {x : Str} (h : tupTy K x = true) (H : Hp) : tyV K "tuple" (.ref (He.ga K x)) H := by
  unfold tupTy at h
  cases q : K.lookup (He.ga K x) with
  | none => rw [q] at h; cases h
  | some o =>
    obtain ⟨oc, od, dt, osl⟩ := o
    rw [q] at h
    cases oc with
    | type c =>
      cases od with
      | none =>
        cases dt with
        | seq its n => exact .inr (.inl ⟨rfl, _, q, congrArg Value.type (of_decide_eq_true (show decide (c = "tuple") = true from h)), rfl⟩)
        | _ => cases h
      | some a => cases dt <;> cases h
    | _ => cases od <;> cases dt <;> cases h
end Mo
namespace Mo
open PySem PySem.Spec PyProof.Rows L2
/-! ### an exception class with an own __init__ -/
/-- the class at C is one over ValueError, with its own __init__ -/
def oexB (K : PySem.W.Frag) (x : Str) (fs : List Str) : Bool :=
  (match K.lookup (He.ga K x) with
  | some ⟨.type "type", _, .cls cd, sl⟩ => (match cd.mro, sl.toList with
    | .ref C' :: bm, [_, _, _, _, some (.builtin n), _] => C' == He.ga K x && n == "ValueError.__new__" && !cd.hasDel && cd.hasDict && PySem.HandSPX.refsVE bm
    | _, _ => false)
  | _ => false) && (decide (PySem.W.findIn K (.ref (He.ga K x)) "__setattr__" = some (some (.builtin "object.__setattr__"))) && (decide (PySem.W.subIn K (.ref (He.ga K x)) (.type "BaseException") = some true) &&
    (decide (PySem.W.typeIn K (.ref (He.ga K x)) = some (.type "type")) && (PySem.W.keepIn K (.ref (He.ga K x)) &&
      (decide (PySem.W.findIn K (.ref (He.ga K x)) "__init__" = some (some (.ref (He.fAd K (x, some "__init__"))))) && (decide (PySem.W.typeIn K (.ref (He.fAd K (x, some "__init__"))) = some (.type "function")) &&
        fs.all fun f => decide (PySem.W.findIn K (.ref (He.ga K x)) f = some none)))))))
structure OexF (K : PySem.W.Frag) (x : Str) (fs : List Str) : Prop where
  c : OexC K (He.ga K x)
  i : PySem.W.findIn K (.ref (He.ga K x)) "__init__" = some (some (.ref (He.fAd K (x, some "__init__"))))
  t : PySem.W.typeIn K (.ref (He.fAd K (x, some "__init__"))) = some (.type "function")
  n : ∀ f ∈ fs, PySem.W.findIn K (.ref (He.ga K x)) f = some none
theorem oexB_ok {K : PySem.W.Frag} {x : Str} {fs : List Str} (q : oexB K x fs = true) : OexF K x fs := by
  unfold oexB at q
  simp only [Bool.and_eq_true, decide_eq_true_eq, List.all_eq_true] at q
  obtain ⟨q, h1, h2, h3, h4, h5, h6, h7⟩ := q
  refine ⟨⟨?_, h1, h2, h3, h4⟩, h5, h6, h7⟩
  split at q
  · rename_i dd cd sl ho
    split at q
    · rename_i C' bm k0 k1 k2 k3 n k5 hm hs
      simp only [Bool.and_eq_true, beq_iff_eq, Bool.not_eq_true'] at q
      obtain ⟨⟨⟨⟨e1, rfl⟩, hdel⟩, hdc⟩, hre⟩ := q
      subst e1
      obtain ⟨nm, bs, mro, ns, qn, hd, sn, sub, ab, col, del⟩ := cd
      dsimp only at hm hdel hdc
      subst hm hdel hdc
      have hsl : sl = #[k0, k1, k2, k3, some (.builtin "ValueError.__new__"), k5] := by
        obtain ⟨l⟩ := sl
        simp only at hs
        rw [hs]
      subst hsl
      exact ⟨nm, qn, ns, bs, bm, sn, sub, ab, col, dd, k0, k1, k2, k3, k5, ho, hre⟩
    · cases q
  · cases q
end Mo
namespace Mo
open PySem PySem.Spec PyProof.Rows L2
def top (i : Nat) : Stmt := PySem.Challenge.pw_momentloom_k01_models_kept.main.body.getD i (.Pass ⟨0, 0, 0, 0⟩)
abbrev s_copied : Stmt := top 2
abbrev s_copied_machine : Stmt := top 3
abbrev s_Model_init : Stmt := inClass (top 4) 0
abbrev s_State_init : Stmt := inClass (top 5) 0
abbrev s_first_state : Stmt := top 6
abbrev s__law_whole : Stmt := top 8
abbrev s__law_mixed : Stmt := top 9
abbrev s__law_purse : Stmt := top 10
abbrev s__law_draw : Stmt := top 11
abbrev s__law_names : Stmt := top 12
abbrev s__law_worth : Stmt := top 13
abbrev s__law_formula : Stmt := top 14
abbrev s__law_machine : Stmt := top 15
abbrev s__law_deeds : Stmt := top 16
abbrev s__law_deed : Stmt := top 17
abbrev s__law_copied : Stmt := top 18
abbrev s__law_spoil : Stmt := top 19
abbrev s__law_state : Stmt := top 20
abbrev s_law : Stmt := top 21
def nm_copied : List Str := ["deeds", "found", "deed"]
theorem sc_copied : FnScope nm_copied ["deeds"] (defScope s_copied) := ⟨rfl, rfl, rfl, by decide +kernel, rfl, by decide +kernel, by decide +kernel⟩
def nm_copied_machine : List Str := ["machine", "name", "boxes", "queues", "draws", "hears", "sign", "deeds"]
theorem sc_copied_machine : FnScope nm_copied_machine ["machine"] (defScope s_copied_machine) := ⟨rfl, rfl, rfl, by decide +kernel, rfl, by decide +kernel, by decide +kernel⟩
def nm_Model_init : List Str := ["self", "machines", "machine"]
theorem sc_Model_init : FnScope nm_Model_init ["self", "machines"] (defScope s_Model_init) := ⟨rfl, rfl, rfl, by decide +kernel, rfl, by decide +kernel, by decide +kernel⟩
def nm_State_init : List Str := ["self", "boxes", "queues", "drawn", "sent"]
theorem sc_State_init : FnScope nm_State_init ["self", "boxes", "queues", "drawn", "sent"] (defScope s_State_init) := ⟨rfl, rfl, rfl, by decide +kernel, rfl, by decide +kernel, by decide +kernel⟩
def nm_first_state : List Str := ["model", "at", "boxes", "name", "worth", "queues"]
theorem sc_first_state : FnScope nm_first_state ["model", "at"] (defScope s_first_state) := ⟨rfl, rfl, rfl, by decide +kernel, rfl, by decide +kernel, by decide +kernel⟩
def nm__law_whole : List Str := ["_law_found"]
theorem sc__law_whole : FnScope nm__law_whole ["_law_found"] (defScope s__law_whole) := ⟨rfl, rfl, rfl, by decide +kernel, rfl, by decide +kernel, by decide +kernel⟩
def nm__law_mixed : List Str := ["_law_cell", "_law_k", "_law_number"]
theorem sc__law_mixed : FnScope nm__law_mixed ["_law_cell", "_law_k"] (defScope s__law_mixed) := ⟨rfl, rfl, rfl, by decide +kernel, rfl, by decide +kernel, by decide +kernel⟩
def nm__law_purse : List Str := ["_law_script", "_law_cells", "_law_number", "_law_k"]
theorem sc__law_purse : FnScope nm__law_purse ["_law_script"] (defScope s__law_purse) := ⟨rfl, rfl, rfl, by decide +kernel, rfl, by decide +kernel, by decide +kernel⟩
def nm__law_draw : List Str := ["_law_purse_here", "_law_out_of", "_law_drawn"]
theorem sc__law_draw : FnScope nm__law_draw ["_law_purse_here", "_law_out_of"] (defScope s__law_draw) := ⟨rfl, rfl, rfl, by decide +kernel, rfl, by decide +kernel, by decide +kernel⟩
def nm__law_names : List Str := ["_law_purse_here", "_law_many", "_law_letters", "_law_first", "_law_names_here", "_law_k", "_law_name", "_law_j"]
theorem sc__law_names : FnScope nm__law_names ["_law_purse_here", "_law_many"] (defScope s__law_names) := ⟨rfl, rfl, rfl, by decide +kernel, rfl, by decide +kernel, by decide +kernel⟩
def nm__law_worth : List Str := ["_law_purse_here", "_law_way"]
theorem sc__law_worth : FnScope nm__law_worth ["_law_purse_here"] (defScope s__law_worth) := ⟨rfl, rfl, rfl, by decide +kernel, rfl, by decide +kernel, by decide +kernel⟩
def nm__law_formula : List Str := ["_law_purse_here", "_law_boxes", "_law_queues", "_law_most", "_law_way", "_law_word", "_law_cut", "_law_one"]
theorem sc__law_formula : FnScope nm__law_formula ["_law_purse_here", "_law_boxes", "_law_queues", "_law_most"] (defScope s__law_formula) := ⟨rfl, rfl, rfl, by decide +kernel, rfl, by decide +kernel, by decide +kernel⟩
def nm__law_machine : List Str := ["_law_purse_here", "_law_name", "_law_many", "_law_names_here", "_law_boxes", "_law_queues", "_law_draws", "_law_hears", "_law_sign", "_law_k", "_law_box"]
theorem sc__law_machine : FnScope nm__law_machine ["_law_purse_here", "_law_name", "_law_many"] (defScope s__law_machine) := ⟨rfl, rfl, rfl, by decide +kernel, rfl, by decide +kernel, by decide +kernel⟩
def nm__law_deeds : List Str := ["_law_purse_here", "_law_there", "_law_most", "_law_deep", "_law_left", "_law_deeds_here", "_law_k"]
theorem sc__law_deeds : FnScope nm__law_deeds ["_law_purse_here", "_law_there", "_law_most", "_law_deep", "_law_left"] (defScope s__law_deeds) := ⟨rfl, rfl, rfl, by decide +kernel, rfl, by decide +kernel, by decide +kernel⟩
def nm__law_deed : List Str := ["_law_purse_here", "_law_there", "_law_deep", "_law_left", "_law_boxes", "_law_queues", "_law_many", "_law_way", "_law_one", "_law_queue", "_law_box", "_law_ones", "_law_to", "_law_rank"]
theorem sc__law_deed : FnScope nm__law_deed ["_law_purse_here", "_law_there", "_law_deep", "_law_left"] (defScope s__law_deed) := ⟨rfl, rfl, rfl, by decide +kernel, rfl, by decide +kernel, by decide +kernel⟩
def nm__law_copied : List Str := ["_law_part", "_law_one"]
theorem sc__law_copied : FnScope nm__law_copied ["_law_part"] (defScope s__law_copied) := ⟨rfl, rfl, rfl, by decide +kernel, rfl, by decide +kernel, by decide +kernel⟩
def nm__law_spoil : List Str := ["_law_part", "_law_one"]
theorem sc__law_spoil : FnScope nm__law_spoil ["_law_part"] (defScope s__law_spoil) := ⟨rfl, rfl, rfl, by decide +kernel, rfl, by decide +kernel, by decide +kernel⟩
def nm__law_state : List Str := ["_law_found", "_law_machine_here", "_law_name", "_law_worth_here"]
theorem sc__law_state : FnScope nm__law_state ["_law_found", "_law_machine_here"] (defScope s__law_state) := ⟨rfl, rfl, rfl, by decide +kernel, rfl, by decide +kernel, by decide +kernel⟩
def nm_law : List Str := ["_law_script", "_law_purse_here", "_law_names_here", "_law_name", "_law_machines", "_law_handed", "_law_model", "_law_at", "_law_state_here"]
theorem sc_law : FnScope nm_law ["_law_script"] (defScope s_law) := ⟨rfl, rfl, rfl, by decide +kernel, rfl, by decide +kernel, by decide +kernel⟩
def fl_Model (a0 : V) : List (Str × V) := [(("machines" : Str), a0)]
theorem lk_Model_machines {a0 : V} : (fl_Model a0).lookup ("machines" : Str) = some a0 := by kernel_rfl
theorem pt_Model_machines {a0 z : V} : putF "machines" z (fl_Model a0) = fl_Model z := by kernel_rfl
theorem in_Model_0 {a0 : V} : putF "machines" a0 ([] : List (Str × V)) = [(("machines" : Str), a0)] := by kernel_rfl
def fl_State (a0 a1 a2 a3 : V) : List (Str × V) := [(("boxes" : Str), a0), (("queues" : Str), a1), (("drawn" : Str), a2), (("sent" : Str), a3)]
theorem lk_State_boxes {a0 a1 a2 a3 : V} : (fl_State a0 a1 a2 a3).lookup ("boxes" : Str) = some a0 := by kernel_rfl
theorem pt_State_boxes {a0 a1 a2 a3 z : V} : putF "boxes" z (fl_State a0 a1 a2 a3) = fl_State z a1 a2 a3 := by kernel_rfl
theorem in_State_0 {a0 : V} : putF "boxes" a0 ([] : List (Str × V)) = [(("boxes" : Str), a0)] := by kernel_rfl
theorem lk_State_queues {a0 a1 a2 a3 : V} : (fl_State a0 a1 a2 a3).lookup ("queues" : Str) = some a1 := by kernel_rfl
theorem pt_State_queues {a0 a1 a2 a3 z : V} : putF "queues" z (fl_State a0 a1 a2 a3) = fl_State a0 z a2 a3 := by kernel_rfl
theorem in_State_1 {a0 a1 : V} : putF "queues" a1 ([(("boxes" : Str), a0)] : List (Str × V)) = [(("boxes" : Str), a0), (("queues" : Str), a1)] := by kernel_rfl
theorem lk_State_drawn {a0 a1 a2 a3 : V} : (fl_State a0 a1 a2 a3).lookup ("drawn" : Str) = some a2 := by kernel_rfl
theorem pt_State_drawn {a0 a1 a2 a3 z : V} : putF "drawn" z (fl_State a0 a1 a2 a3) = fl_State a0 a1 z a3 := by kernel_rfl
theorem in_State_2 {a0 a1 a2 : V} : putF "drawn" a2 ([(("boxes" : Str), a0), (("queues" : Str), a1)] : List (Str × V)) = [(("boxes" : Str), a0), (("queues" : Str), a1), (("drawn" : Str), a2)] := by kernel_rfl
theorem lk_State_sent {a0 a1 a2 a3 : V} : (fl_State a0 a1 a2 a3).lookup ("sent" : Str) = some a3 := by kernel_rfl
theorem pt_State_sent {a0 a1 a2 a3 z : V} : putF "sent" z (fl_State a0 a1 a2 a3) = fl_State a0 a1 a2 z := by kernel_rfl
theorem in_State_3 {a0 a1 a2 a3 : V} : putF "sent" a3 ([(("boxes" : Str), a0), (("queues" : Str), a1), (("drawn" : Str), a2)] : List (Str × V)) = [(("boxes" : Str), a0), (("queues" : Str), a1), (("drawn" : Str), a2), (("sent" : Str), a3)] := by kernel_rfl
theorem no_State_copy {a0 a1 a2 a3 : V} : (fl_State a0 a1 a2 a3).lookup ("copy" : Str) = none := by kernel_rfl
/-- what the top has written -/
structure Tx (K : PySem.W.Frag) (mg : Str → Option Value) : Prop where
  G_Model : mg "Model" = some (.ref (He.ga K "Model"))
  c_Model : Cls K (He.ga K "Model")
  n_Model_machines : NoAttr K (He.ga K "Model") "machines"
  k_Model : KF K mg "Model" ["self", "machines"]
  G_State : mg "State" = some (.ref (He.ga K "State"))
  c_State : Cls K (He.ga K "State")
  n_State_boxes : NoAttr K (He.ga K "State") "boxes"
  n_State_drawn : NoAttr K (He.ga K "State") "drawn"
  n_State_queues : NoAttr K (He.ga K "State") "queues"
  n_State_sent : NoAttr K (He.ga K "State") "sent"
  k_State : KF K mg "State" ["self", "boxes", "queues", "drawn", "sent"]
  b_bool : mg "bool" = none
  b_dict : mg "dict" = none
  b_int : mg "int" = none
  b_isinstance : mg "isinstance" = none
  b_len : mg "len" = none
  b_list : mg "list" = none
  b_max : mg "max" = none
  b_range : mg "range" = none
  b_sorted : mg "sorted" = none
  b_tuple : mg "tuple" = none
  f_copied : Fun K "copied" "copied" s_copied (He.fAd K ("copied", none)) (fdA K (He.fAd K ("copied", none)))
  g_copied : GF K mg "copied" ["deeds"]
  f_copied_machine : Fun K "copied_machine" "copied_machine" s_copied_machine (He.fAd K ("copied_machine", none)) (fdA K (He.fAd K ("copied_machine", none)))
  g_copied_machine : GF K mg "copied_machine" ["machine"]
  f_Model_init : Fun K "__init__" "Model.__init__" s_Model_init (He.fAd K ("Model", some "__init__")) (fdA K (He.fAd K ("Model", some "__init__")))
  f_State_init : Fun K "__init__" "State.__init__" s_State_init (He.fAd K ("State", some "__init__")) (fdA K (He.fAd K ("State", some "__init__")))
  f_first_state : Fun K "first_state" "first_state" s_first_state (He.fAd K ("first_state", none)) (fdA K (He.fAd K ("first_state", none)))
  g_first_state : GF K mg "first_state" ["model", "at"]
  f__law_whole : Fun K "_law_whole" "_law_whole" s__law_whole (He.fAd K ("_law_whole", none)) (fdA K (He.fAd K ("_law_whole", none)))
  g__law_whole : GF K mg "_law_whole" ["_law_found"]
  f__law_mixed : Fun K "_law_mixed" "_law_mixed" s__law_mixed (He.fAd K ("_law_mixed", none)) (fdA K (He.fAd K ("_law_mixed", none)))
  g__law_mixed : GF K mg "_law_mixed" ["_law_cell", "_law_k"]
  f__law_purse : Fun K "_law_purse" "_law_purse" s__law_purse (He.fAd K ("_law_purse", none)) (fdA K (He.fAd K ("_law_purse", none)))
  g__law_purse : GF K mg "_law_purse" ["_law_script"]
  f__law_draw : Fun K "_law_draw" "_law_draw" s__law_draw (He.fAd K ("_law_draw", none)) (fdA K (He.fAd K ("_law_draw", none)))
  g__law_draw : GF K mg "_law_draw" ["_law_purse_here", "_law_out_of"]
  f__law_names : Fun K "_law_names" "_law_names" s__law_names (He.fAd K ("_law_names", none)) (fdA K (He.fAd K ("_law_names", none)))
  g__law_names : GF K mg "_law_names" ["_law_purse_here", "_law_many"]
  f__law_worth : Fun K "_law_worth" "_law_worth" s__law_worth (He.fAd K ("_law_worth", none)) (fdA K (He.fAd K ("_law_worth", none)))
  g__law_worth : GF K mg "_law_worth" ["_law_purse_here"]
  f__law_formula : Fun K "_law_formula" "_law_formula" s__law_formula (He.fAd K ("_law_formula", none)) (fdA K (He.fAd K ("_law_formula", none)))
  g__law_formula : GF K mg "_law_formula" ["_law_purse_here", "_law_boxes", "_law_queues", "_law_most"]
  f__law_machine : Fun K "_law_machine" "_law_machine" s__law_machine (He.fAd K ("_law_machine", none)) (fdA K (He.fAd K ("_law_machine", none)))
  g__law_machine : GF K mg "_law_machine" ["_law_purse_here", "_law_name", "_law_many"]
  f__law_deeds : Fun K "_law_deeds" "_law_deeds" s__law_deeds (He.fAd K ("_law_deeds", none)) (fdA K (He.fAd K ("_law_deeds", none)))
  g__law_deeds : GF K mg "_law_deeds" ["_law_purse_here", "_law_there", "_law_most", "_law_deep", "_law_left"]
  f__law_deed : Fun K "_law_deed" "_law_deed" s__law_deed (He.fAd K ("_law_deed", none)) (fdA K (He.fAd K ("_law_deed", none)))
  g__law_deed : GF K mg "_law_deed" ["_law_purse_here", "_law_there", "_law_deep", "_law_left"]
  f__law_copied : Fun K "_law_copied" "_law_copied" s__law_copied (He.fAd K ("_law_copied", none)) (fdA K (He.fAd K ("_law_copied", none)))
  g__law_copied : GF K mg "_law_copied" ["_law_part"]
  f__law_spoil : Fun K "_law_spoil" "_law_spoil" s__law_spoil (He.fAd K ("_law_spoil", none)) (fdA K (He.fAd K ("_law_spoil", none)))
  g__law_spoil : GF K mg "_law_spoil" ["_law_part"]
  f__law_state : Fun K "_law_state" "_law_state" s__law_state (He.fAd K ("_law_state", none)) (fdA K (He.fAd K ("_law_state", none)))
  g__law_state : GF K mg "_law_state" ["_law_found", "_law_machine_here"]
  f_law : Fun K "law" "law" s_law (He.fAd K ("law", none)) (fdA K (He.fAd K ("law", none)))
  g_law : GF K mg "law" ["_law_script"]
section
variable {X : Cx}
end
end Mo
local macro_rules | `(tactic| k_extra "lk") => `(tactic| with_reducible first
  | exact Mo.lk_Model_machines
  | exact Mo.lk_State_boxes
  | exact Mo.lk_State_queues
  | exact Mo.lk_State_drawn
  | exact Mo.lk_State_sent)
local macro_rules | `(tactic| k_extra "nolk") => `(tactic| with_reducible first
  | exact Mo.no_State_copy)
local macro_rules | `(tactic| k_extra "cl") => `(tactic| with_reducible first
  | exact Mo.Tx.c_Model (by assumption)
  | exact Mo.Tx.c_State (by assumption))
local macro_rules | `(tactic| k_extra "na") => `(tactic| with_reducible first
  | exact Mo.Tx.n_Model_machines (by assumption)
  | exact Mo.Tx.n_State_boxes (by assumption)
  | exact Mo.Tx.n_State_queues (by assumption)
  | exact Mo.Tx.n_State_drawn (by assumption)
  | exact Mo.Tx.n_State_sent (by assumption))
local macro_rules | `(tactic| k_extra "pt") => `(tactic| with_reducible first
  | exact Mo.pt_Model_machines
  | exact Mo.in_Model_0
  | exact Mo.pt_State_boxes
  | exact Mo.in_State_0
  | exact Mo.pt_State_queues
  | exact Mo.in_State_1
  | exact Mo.pt_State_drawn
  | exact Mo.in_State_2
  | exact Mo.pt_State_sent
  | exact Mo.in_State_3)
namespace Mo
open PySem PySem.Spec PyProof.Rows L2
/-! ### the head's facts in two parts -/
theorem obsM_join {n : Nat} {fa fb : List He.Fa} {fn fm : List He.DefD} {ea eb : List (PySem.W.Frag → Bool)} {g : Addr → Option Obj} (h1 : obsM n fa fn ea g = (He.valD fn, true)) (h2 : obsM n fb fm eb g = (He.valD fm, true)) : obsM n (fa ++ fb) (fn ++ fm) (ea ++ eb) g = (He.valD (fn ++ fm), true) := by
  unfold obsM He.obsD He.valD at h1 h2 ⊢
  simp only [Prod.mk.injEq, Bool.and_eq_true] at h1 h2 ⊢
  obtain ⟨⟨⟨a1, a2⟩, a3⟩, a4⟩ := h1
  obtain ⟨⟨⟨b1, b2⟩, b3⟩, b4⟩ := h2
  refine ⟨⟨⟨?_, ?_⟩, ?_⟩, ?_⟩
  · rw [List.all_append, a1, b1]; rfl
  · rw [List.all_append, a2, b2]; rfl
  · rw [List.map_append, List.map_append, a3, b3]
  · rw [List.all_append, a4, b4]; rfl
theorem runEq_join {r : PySem.W.OpenRow} {q : Program} {M n : Nat} {loose : List Str} {w : World} {fa fb : List He.Fa} {fn fm : List He.DefD} {ea eb : List (PySem.W.Frag → Bool)}
    (h1 : HandSHeadRun.RunEq r q (hookM n fa fn ea) (fun s => obsM n fa fn ea (HandSHeadRun.getT s)) M loose w) (h2 : HandSHeadRun.RunEq r q (hookM n fb fm eb) (fun s => obsM n fb fm eb (HandSHeadRun.getT s)) M loose w) :
    HandSHeadRun.RunEq r q (hookM n (fa ++ fb) (fn ++ fm) (ea ++ eb)) (fun s => obsM n (fa ++ fb) (fn ++ fm) (ea ++ eb) (HandSHeadRun.getT s)) M loose w := by
  intro os
  have a := h1 os
  have b := h2 os
  revert a b
  generalize HandSHeadRun.endF _ _ _ _ _ = X
  cases X with
  | none => intro a; cases a
  | some s =>
    intro a b
    have a1 := Option.some.inj a
    have b1 := Option.some.inj b
    have a2 := congrArg (fun x => x.1) a1
    have a3 := congrArg (fun x => x.2.1) a1
    have a4 := congrArg (fun x => x.2.2) a1
    have b4 := congrArg (fun x => x.2.2) b1
    exact congrArg some (Prod.ext a2 (Prod.ext a3 (obsM_join (show _ = (He.valD fn, true) from a4) (show _ = (He.valD fm, true) from b4))))
end Mo
namespace Mo
open PySem PySem.Spec PyProof.Rows L2
def d_copied : He.DefD := ⟨("copied", none), "copied", "copied", defArgs s_copied, defBody s_copied, defScope s_copied, [], []⟩
def d_copied_machine : He.DefD := ⟨("copied_machine", none), "copied_machine", "copied_machine", defArgs s_copied_machine, defBody s_copied_machine, defScope s_copied_machine, [], []⟩
def d_Model_init : He.DefD := ⟨("Model", some "__init__"), "__init__", "Model.__init__", defArgs s_Model_init, defBody s_Model_init, defScope s_Model_init, [], []⟩
def d_State_init : He.DefD := ⟨("State", some "__init__"), "__init__", "State.__init__", defArgs s_State_init, defBody s_State_init, defScope s_State_init, [], []⟩
def d_first_state : He.DefD := ⟨("first_state", none), "first_state", "first_state", defArgs s_first_state, defBody s_first_state, defScope s_first_state, [], []⟩
def d__law_whole : He.DefD := ⟨("_law_whole", none), "_law_whole", "_law_whole", defArgs s__law_whole, defBody s__law_whole, defScope s__law_whole, [], []⟩
def d__law_mixed : He.DefD := ⟨("_law_mixed", none), "_law_mixed", "_law_mixed", defArgs s__law_mixed, defBody s__law_mixed, defScope s__law_mixed, [], []⟩
def d__law_purse : He.DefD := ⟨("_law_purse", none), "_law_purse", "_law_purse", defArgs s__law_purse, defBody s__law_purse, defScope s__law_purse, [], []⟩
def d__law_draw : He.DefD := ⟨("_law_draw", none), "_law_draw", "_law_draw", defArgs s__law_draw, defBody s__law_draw, defScope s__law_draw, [], []⟩
def d__law_names : He.DefD := ⟨("_law_names", none), "_law_names", "_law_names", defArgs s__law_names, defBody s__law_names, defScope s__law_names, [], []⟩
def d__law_worth : He.DefD := ⟨("_law_worth", none), "_law_worth", "_law_worth", defArgs s__law_worth, defBody s__law_worth, defScope s__law_worth, [], []⟩
def d__law_formula : He.DefD := ⟨("_law_formula", none), "_law_formula", "_law_formula", defArgs s__law_formula, defBody s__law_formula, defScope s__law_formula, [], []⟩
def d__law_machine : He.DefD := ⟨("_law_machine", none), "_law_machine", "_law_machine", defArgs s__law_machine, defBody s__law_machine, defScope s__law_machine, [], []⟩
def d__law_deeds : He.DefD := ⟨("_law_deeds", none), "_law_deeds", "_law_deeds", defArgs s__law_deeds, defBody s__law_deeds, defScope s__law_deeds, [], []⟩
def d__law_deed : He.DefD := ⟨("_law_deed", none), "_law_deed", "_law_deed", defArgs s__law_deed, defBody s__law_deed, defScope s__law_deed, [], []⟩
def d__law_copied : He.DefD := ⟨("_law_copied", none), "_law_copied", "_law_copied", defArgs s__law_copied, defBody s__law_copied, defScope s__law_copied, [], []⟩
def d__law_spoil : He.DefD := ⟨("_law_spoil", none), "_law_spoil", "_law_spoil", defArgs s__law_spoil, defBody s__law_spoil, defScope s__law_spoil, [], []⟩
def d__law_state : He.DefD := ⟨("_law_state", none), "_law_state", "_law_state", defArgs s__law_state, defBody s__law_state, defScope s__law_state, [], []⟩
def d_law : He.DefD := ⟨("law", none), "law", "law", defArgs s_law, defBody s_law, defScope s_law, [], []⟩
def fn0 : List He.DefD := [d_copied, d_copied_machine, d_Model_init, d_State_init, d_first_state, d__law_whole, d__law_mixed, d__law_purse, d__law_draw, d__law_names, d__law_worth, d__law_formula, d__law_machine, d__law_deeds, d__law_deed, d__law_copied, d__law_spoil, d__law_state, d_law]
def fa0 : List He.Fa := [.glo "Model", .cls "Model", .noat "Model" "machines", .mkr "Model", .glo "State", .cls "State", .noat "State" "boxes", .noat "State" "drawn", .noat "State" "queues", .noat "State" "sent", .mkr "State", .free "bool", .free "dict", .free "int", .free "isinstance", .free "len", .free "list", .free "max", .free "range", .free "sorted", .free "tuple", .glo "copied", .glo "copied_machine", .glo "first_state", .glo "_law_whole", .glo "_law_mixed", .glo "_law_purse", .glo "_law_draw", .glo "_law_names", .glo "_law_worth"]
def fa1 : List He.Fa := [.glo "_law_formula", .glo "_law_machine", .glo "_law_deeds", .glo "_law_deed", .glo "_law_copied", .glo "_law_spoil", .glo "_law_state", .glo "law"]
def fn : List He.DefD := fn0
def fa : List He.Fa := fa0 ++ fa1
def exs : List (PySem.W.Frag → Bool) := []
def lo0 : List PySem.Str := ["_wall", "__name__", "copied", "copied_machine", "Model", "State", "first_state", "_law_whole", "_law_mixed", "_law_purse", "_law_draw", "_law_names", "_law_worth", "_law_formula", "_law_machine", "_law_deeds", "_law_deed", "_law_copied", "_law_spoil", "_law_state"]
def loose : List PySem.Str := lo0
abbrev Rr : PySem.W.OpenRow := PySem.W.OpenLaw.row PySem.Challenge.rw_momentloom_k01_models_kept
abbrev hk : PySem.W.Hook := hookM 6 fa fn exs
def ob (s : PySem.W.SharedT) : AlM := obsM 6 fa fn exs (HandSHeadRun.getT s)
theorem ob_eq (s : PySem.W.SharedT) : ob s = hk.obs s.abs := obsM_eq (HandSHeadRun.getT_eq s)

theorem run (w : World) : HandSHeadRun.RunEq Rr (PySem.W.view Rr.prog [21]) hk ob 20000 loose w := by
  intro os
  kernel_rfl
theorem tx_of {K : PySem.W.Frag} {h : Heap} {mg : Str → Option Value} (X : K.In h) (G : h.Ns mainGlobals mg) (c : SaysM fa fn exs K) : Tx K mg := by
  have F_copied : Fun K "copied" "copied" s_copied (He.fAd K ("copied", none)) (fdA K (He.fAd K ("copied", none))) := fun_of (c.fn_ 0 (d := d_copied) rfl)
  have b_copied : Binds K (fdA K (He.fAd K ("copied", none))) ["deeds"] [] := F_copied.binds (ps := ["deeds"]) fun _ _ _ _ _ _ us hl => match us, hl with | [_], _ => rfl
  have F_copied_machine : Fun K "copied_machine" "copied_machine" s_copied_machine (He.fAd K ("copied_machine", none)) (fdA K (He.fAd K ("copied_machine", none))) := fun_of (c.fn_ 1 (d := d_copied_machine) rfl)
  have b_copied_machine : Binds K (fdA K (He.fAd K ("copied_machine", none))) ["machine"] [] := F_copied_machine.binds (ps := ["machine"]) fun _ _ _ _ _ _ us hl => match us, hl with | [_], _ => rfl
  have F_Model_init : Fun K "__init__" "Model.__init__" s_Model_init (He.fAd K ("Model", some "__init__")) (fdA K (He.fAd K ("Model", some "__init__"))) := fun_of (c.fn_ 2 (d := d_Model_init) rfl)
  have b_Model_init : Binds K (fdA K (He.fAd K ("Model", some "__init__"))) ["self", "machines"] [] := F_Model_init.binds (ps := ["self", "machines"]) fun _ _ _ _ _ _ us hl => match us, hl with | [_, _], _ => rfl
  have F_State_init : Fun K "__init__" "State.__init__" s_State_init (He.fAd K ("State", some "__init__")) (fdA K (He.fAd K ("State", some "__init__"))) := fun_of (c.fn_ 3 (d := d_State_init) rfl)
  have b_State_init : Binds K (fdA K (He.fAd K ("State", some "__init__"))) ["self", "boxes", "queues", "drawn", "sent"] [] := F_State_init.binds (ps := ["self", "boxes", "queues", "drawn", "sent"]) fun _ _ _ _ _ _ us hl => match us, hl with | [_, _, _, _, _], _ => rfl
  have F_first_state : Fun K "first_state" "first_state" s_first_state (He.fAd K ("first_state", none)) (fdA K (He.fAd K ("first_state", none))) := fun_of (c.fn_ 4 (d := d_first_state) rfl)
  have b_first_state : Binds K (fdA K (He.fAd K ("first_state", none))) ["model", "at"] [] := F_first_state.binds (ps := ["model", "at"]) fun _ _ _ _ _ _ us hl => match us, hl with | [_, _], _ => rfl
  have F__law_whole : Fun K "_law_whole" "_law_whole" s__law_whole (He.fAd K ("_law_whole", none)) (fdA K (He.fAd K ("_law_whole", none))) := fun_of (c.fn_ 5 (d := d__law_whole) rfl)
  have b__law_whole : Binds K (fdA K (He.fAd K ("_law_whole", none))) ["_law_found"] [] := F__law_whole.binds (ps := ["_law_found"]) fun _ _ _ _ _ _ us hl => match us, hl with | [_], _ => rfl
  have F__law_mixed : Fun K "_law_mixed" "_law_mixed" s__law_mixed (He.fAd K ("_law_mixed", none)) (fdA K (He.fAd K ("_law_mixed", none))) := fun_of (c.fn_ 6 (d := d__law_mixed) rfl)
  have b__law_mixed : Binds K (fdA K (He.fAd K ("_law_mixed", none))) ["_law_cell", "_law_k"] [] := F__law_mixed.binds (ps := ["_law_cell", "_law_k"]) fun _ _ _ _ _ _ us hl => match us, hl with | [_, _], _ => rfl
  have F__law_purse : Fun K "_law_purse" "_law_purse" s__law_purse (He.fAd K ("_law_purse", none)) (fdA K (He.fAd K ("_law_purse", none))) := fun_of (c.fn_ 7 (d := d__law_purse) rfl)
  have b__law_purse : Binds K (fdA K (He.fAd K ("_law_purse", none))) ["_law_script"] [] := F__law_purse.binds (ps := ["_law_script"]) fun _ _ _ _ _ _ us hl => match us, hl with | [_], _ => rfl
  have F__law_draw : Fun K "_law_draw" "_law_draw" s__law_draw (He.fAd K ("_law_draw", none)) (fdA K (He.fAd K ("_law_draw", none))) := fun_of (c.fn_ 8 (d := d__law_draw) rfl)
  have b__law_draw : Binds K (fdA K (He.fAd K ("_law_draw", none))) ["_law_purse_here", "_law_out_of"] [] := F__law_draw.binds (ps := ["_law_purse_here", "_law_out_of"]) fun _ _ _ _ _ _ us hl => match us, hl with | [_, _], _ => rfl
  have F__law_names : Fun K "_law_names" "_law_names" s__law_names (He.fAd K ("_law_names", none)) (fdA K (He.fAd K ("_law_names", none))) := fun_of (c.fn_ 9 (d := d__law_names) rfl)
  have b__law_names : Binds K (fdA K (He.fAd K ("_law_names", none))) ["_law_purse_here", "_law_many"] [] := F__law_names.binds (ps := ["_law_purse_here", "_law_many"]) fun _ _ _ _ _ _ us hl => match us, hl with | [_, _], _ => rfl
  have F__law_worth : Fun K "_law_worth" "_law_worth" s__law_worth (He.fAd K ("_law_worth", none)) (fdA K (He.fAd K ("_law_worth", none))) := fun_of (c.fn_ 10 (d := d__law_worth) rfl)
  have b__law_worth : Binds K (fdA K (He.fAd K ("_law_worth", none))) ["_law_purse_here"] [] := F__law_worth.binds (ps := ["_law_purse_here"]) fun _ _ _ _ _ _ us hl => match us, hl with | [_], _ => rfl
  have F__law_formula : Fun K "_law_formula" "_law_formula" s__law_formula (He.fAd K ("_law_formula", none)) (fdA K (He.fAd K ("_law_formula", none))) := fun_of (c.fn_ 11 (d := d__law_formula) rfl)
  have b__law_formula : Binds K (fdA K (He.fAd K ("_law_formula", none))) ["_law_purse_here", "_law_boxes", "_law_queues", "_law_most"] [] := F__law_formula.binds (ps := ["_law_purse_here", "_law_boxes", "_law_queues", "_law_most"]) fun _ _ _ _ _ _ us hl => match us, hl with | [_, _, _, _], _ => rfl
  have F__law_machine : Fun K "_law_machine" "_law_machine" s__law_machine (He.fAd K ("_law_machine", none)) (fdA K (He.fAd K ("_law_machine", none))) := fun_of (c.fn_ 12 (d := d__law_machine) rfl)
  have b__law_machine : Binds K (fdA K (He.fAd K ("_law_machine", none))) ["_law_purse_here", "_law_name", "_law_many"] [] := F__law_machine.binds (ps := ["_law_purse_here", "_law_name", "_law_many"]) fun _ _ _ _ _ _ us hl => match us, hl with | [_, _, _], _ => rfl
  have F__law_deeds : Fun K "_law_deeds" "_law_deeds" s__law_deeds (He.fAd K ("_law_deeds", none)) (fdA K (He.fAd K ("_law_deeds", none))) := fun_of (c.fn_ 13 (d := d__law_deeds) rfl)
  have b__law_deeds : Binds K (fdA K (He.fAd K ("_law_deeds", none))) ["_law_purse_here", "_law_there", "_law_most", "_law_deep", "_law_left"] [] := F__law_deeds.binds (ps := ["_law_purse_here", "_law_there", "_law_most", "_law_deep", "_law_left"]) fun _ _ _ _ _ _ us hl => match us, hl with | [_, _, _, _, _], _ => rfl
  have F__law_deed : Fun K "_law_deed" "_law_deed" s__law_deed (He.fAd K ("_law_deed", none)) (fdA K (He.fAd K ("_law_deed", none))) := fun_of (c.fn_ 14 (d := d__law_deed) rfl)
  have b__law_deed : Binds K (fdA K (He.fAd K ("_law_deed", none))) ["_law_purse_here", "_law_there", "_law_deep", "_law_left"] [] := F__law_deed.binds (ps := ["_law_purse_here", "_law_there", "_law_deep", "_law_left"]) fun _ _ _ _ _ _ us hl => match us, hl with | [_, _, _, _], _ => rfl
  have F__law_copied : Fun K "_law_copied" "_law_copied" s__law_copied (He.fAd K ("_law_copied", none)) (fdA K (He.fAd K ("_law_copied", none))) := fun_of (c.fn_ 15 (d := d__law_copied) rfl)
  have b__law_copied : Binds K (fdA K (He.fAd K ("_law_copied", none))) ["_law_part"] [] := F__law_copied.binds (ps := ["_law_part"]) fun _ _ _ _ _ _ us hl => match us, hl with | [_], _ => rfl
  have F__law_spoil : Fun K "_law_spoil" "_law_spoil" s__law_spoil (He.fAd K ("_law_spoil", none)) (fdA K (He.fAd K ("_law_spoil", none))) := fun_of (c.fn_ 16 (d := d__law_spoil) rfl)
  have b__law_spoil : Binds K (fdA K (He.fAd K ("_law_spoil", none))) ["_law_part"] [] := F__law_spoil.binds (ps := ["_law_part"]) fun _ _ _ _ _ _ us hl => match us, hl with | [_], _ => rfl
  have F__law_state : Fun K "_law_state" "_law_state" s__law_state (He.fAd K ("_law_state", none)) (fdA K (He.fAd K ("_law_state", none))) := fun_of (c.fn_ 17 (d := d__law_state) rfl)
  have b__law_state : Binds K (fdA K (He.fAd K ("_law_state", none))) ["_law_found", "_law_machine_here"] [] := F__law_state.binds (ps := ["_law_found", "_law_machine_here"]) fun _ _ _ _ _ _ us hl => match us, hl with | [_, _], _ => rfl
  have F_law : Fun K "law" "law" s_law (He.fAd K ("law", none)) (fdA K (He.fAd K ("law", none))) := fun_of (c.fn_ 18 (d := d_law) rfl)
  have b_law : Binds K (fdA K (He.fAd K ("law", none))) ["_law_script"] [] := F_law.binds (ps := ["_law_script"]) fun _ _ _ _ _ _ us hl => match us, hl with | [_], _ => rfl
  exact ⟨He.glo_ok X G (c.fact 0),
    He.cls_ok (c.fact 1),
    He.noat_ok (c.fact 2),
    ⟨He.glo_ok X G (c.fact 0), He.mkr_ok (c.fact 3), b_Model_init⟩,
    He.glo_ok X G (c.fact 4),
    He.cls_ok (c.fact 5),
    He.noat_ok (c.fact 6),
    He.noat_ok (c.fact 7),
    He.noat_ok (c.fact 8),
    He.noat_ok (c.fact 9),
    ⟨He.glo_ok X G (c.fact 4), He.mkr_ok (c.fact 10), b_State_init⟩,
    He.free_ok X G (c.fact 11),
    He.free_ok X G (c.fact 12),
    He.free_ok X G (c.fact 13),
    He.free_ok X G (c.fact 14),
    He.free_ok X G (c.fact 15),
    He.free_ok X G (c.fact 16),
    He.free_ok X G (c.fact 17),
    He.free_ok X G (c.fact 18),
    He.free_ok X G (c.fact 19),
    He.free_ok X G (c.fact 20),
    F_copied,
    ⟨He.glo_ok X G (c.fact 21), F_copied.kp, b_copied⟩,
    F_copied_machine,
    ⟨He.glo_ok X G (c.fact 22), F_copied_machine.kp, b_copied_machine⟩,
    F_Model_init,
    F_State_init,
    F_first_state,
    ⟨He.glo_ok X G (c.fact 23), F_first_state.kp, b_first_state⟩,
    F__law_whole,
    ⟨He.glo_ok X G (c.fact 24), F__law_whole.kp, b__law_whole⟩,
    F__law_mixed,
    ⟨He.glo_ok X G (c.fact 25), F__law_mixed.kp, b__law_mixed⟩,
    F__law_purse,
    ⟨He.glo_ok X G (c.fact 26), F__law_purse.kp, b__law_purse⟩,
    F__law_draw,
    ⟨He.glo_ok X G (c.fact 27), F__law_draw.kp, b__law_draw⟩,
    F__law_names,
    ⟨He.glo_ok X G (c.fact 28), F__law_names.kp, b__law_names⟩,
    F__law_worth,
    ⟨He.glo_ok X G (c.fact 29), F__law_worth.kp, b__law_worth⟩,
    F__law_formula,
    ⟨He.glo_ok X G (c.fact 30), F__law_formula.kp, b__law_formula⟩,
    F__law_machine,
    ⟨He.glo_ok X G (c.fact 31), F__law_machine.kp, b__law_machine⟩,
    F__law_deeds,
    ⟨He.glo_ok X G (c.fact 32), F__law_deeds.kp, b__law_deeds⟩,
    F__law_deed,
    ⟨He.glo_ok X G (c.fact 33), F__law_deed.kp, b__law_deed⟩,
    F__law_copied,
    ⟨He.glo_ok X G (c.fact 34), F__law_copied.kp, b__law_copied⟩,
    F__law_spoil,
    ⟨He.glo_ok X G (c.fact 35), F__law_spoil.kp, b__law_spoil⟩,
    F__law_state,
    ⟨He.glo_ok X G (c.fact 36), F__law_state.kp, b__law_state⟩,
    F_law,
    ⟨He.glo_ok X G (c.fact 37), F_law.kp, b_law⟩⟩
end Mo
namespace Mo
open PySem PySem.Spec PyProof.Rows L2
/-! ### formulas, faults, states: plain Lean -/
inductive Op where
  | plus | less | times | part | rest | below | same
  deriving DecidableEq
def Op.name : Op → Str
  | .plus => "plus" | .less => "less" | .times => "times" | .part => "part" | .rest => "rest" | .below => "below" | .same => "same"
inductive Fm where
  | num (n : Int) | box (x : Str) | long (q : Str) | got (j : Nat) | now | two (o : Op) (f g : Fm)
  deriving DecidableEq
def Fm.data : Fm → PyData
  | .num n => .tuple [.str "number", .int n]
  | .box x => .tuple [.str "box", .str x]
  | .long q => .tuple [.str "long", .str q]
  | .got j => .tuple [.str "got", .int (j : Int)]
  | .now => .tuple [.str "now"]
  | .two o f g => .tuple [.str o.name, f.data, g.data]
inductive Flt where
  | nought | great | full | dry | span | late
  deriving DecidableEq
def Flt.cls : Flt → Str
  | .nought => "Nought" | .great => "Great" | .full => "Full" | .dry => "Dry" | .span => "Span" | .late => "Late"
def Flt.word : Flt → Str
  | .nought => "nought" | .great => "great" | .full => "full" | .dry => "dry" | .span => "span" | .late => "late"
def Worth (n : Int) : Prop := -1000000000000000 ≤ n ∧ n ≤ 1000000000000000
theorem worth_bd {n : Int} (h : Worth n) : Bd 50 n := by
  obtain ⟨h1, h2⟩ := h
  show n.natAbs < 1125899906842624
  omega
def Op.raw (o : Op) (a b : Int) : Except Flt Int := match o with
  | .plus => .ok (a + b)
  | .less => .ok (a - b)
  | .times => .ok (a * b)
  | .below => .ok (if a < b then 1 else 0)
  | .same => .ok (if a = b then 1 else 0)
  | .part => if b = 0 then .error .nought else .ok (a.fdiv b)
  | .rest => if b = 0 then .error .nought else .ok (a.fmod b)
def keptIn (n : Int) : Except Flt Int := if n < -1000000000000000 ∨ 1000000000000000 < n then .error .great else .ok n
def Op.ev (o : Op) (a b : Int) : Except Flt Int := match o.raw a b with
  | .ok n => keptIn n
  | .error e => .error e
/-- what a formula is reckoned by -/
structure Env where
  boxes : Str → Int
  longs : Str → Nat
  now : Int
  got : Nat → Int
def Fm.ev (e : Env) : Fm → Except Flt Int
  | .num n => .ok n
  | .box x => .ok (e.boxes x)
  | .long q => .ok (e.longs q : Int)
  | .got j => .ok (e.got j)
  | .now => .ok e.now
  | .two o f g => match f.ev e with
    | .error x => .error x
    | .ok a => match g.ev e with
      | .error x => .error x
      | .ok b => o.ev a b
def Fm.depth : Fm → Nat
  | .two _ f g => max f.depth g.depth + 1
  | _ => 0
def Fm.size : Fm → Nat
  | .two _ f g => f.size + g.size + 1
  | _ => 1
theorem Fm.depth_lt_size : ∀ f : Fm, f.depth < f.size
  | .num _ => Nat.zero_lt_one
  | .box _ => Nat.zero_lt_one
  | .long _ => Nat.zero_lt_one
  | .got _ => Nat.zero_lt_one
  | .now => Nat.zero_lt_one
  | .two _ f g => by
    have h1 := depth_lt_size f
    have h2 := depth_lt_size g
    show max f.depth g.depth + 1 < f.size + g.size + 1
    omega
/-- a formula by names that are there, with worths -/
def Fm.Ok (bs qs : List Str) : Fm → Prop
  | .num n => Worth n
  | .box x => x ∈ bs
  | .long q => q ∈ qs
  | .got j => j < 2
  | .now => True
  | .two _ f g => f.Ok bs qs ∧ g.Ok bs qs
structure Env.Ok (e : Env) (bs qs : List Str) : Prop where
  boxes : ∀ x ∈ bs, Worth (e.boxes x)
  longs : ∀ q ∈ qs, e.longs q ≤ 100000
  now : Worth e.now
  got : ∀ j, j < 2 → Worth (e.got j)
theorem keptIn_ok {n m : Int} (h : keptIn n = .ok m) : Worth m := by
  unfold keptIn at h
  split at h
  · cases h
  · cases h
    unfold Worth
    omega
theorem Fm.ev_worth {e : Env} {bs qs : List Str} (he : e.Ok bs qs) : ∀ {f : Fm} {n : Int}, f.Ok bs qs → f.ev e = .ok n → Worth n
  | .num m, n, h, q => by cases q; exact h
  | .box x, n, h, q => by cases q; exact he.boxes x h
  | .long x, n, h, q => by
    cases q
    have := he.longs x h
    show -(1000000000000000 : Int) ≤ (e.longs x : Int) ∧ (e.longs x : Int) ≤ 1000000000000000
    omega
  | .got j, n, h, q => by cases q; exact he.got j h
  | .now, n, h, q => by cases q; exact he.now
  | .two o f g, n, h, q => by
    unfold Fm.ev at q
    cases h1 : f.ev e with
    | error x => rw [h1] at q; cases q
    | ok a =>
      rw [h1] at q
      cases h2 : g.ev e with
      | error x => rw [h2] at q; cases q
      | ok b =>
        rw [h2] at q
        have q' : o.ev a b = .ok n := q
        unfold Op.ev at q'
        cases h3 : o.raw a b with
        | error x => rw [h3] at q'; cases q'
        | ok c =>
          rw [h3] at q'
          exact keptIn_ok q'
/-- a machine's state -/
structure MSt where
  boxes : List (Str × Int)
  queues : List (Str × List Int)
  drawn : Int
  sent : Int
def boxesV (bs : List (Str × Int)) : List (Key × V) := bs.map fun p => (Sum.inr p.1, V.int p.2)
/-- the pairs of the dict of queues: the lists' addresses -/
def queuesV (qs : List (Str × List Int)) (as : List Addr) : List (Key × V) := (qs.zip as).map fun p => (Sum.inr p.1.1, V.ref p.2)
def lookD {α : Type} (d : α) (x : Str) : List (Str × α) → α
  | [] => d
  | p :: r => if p.1 = x then p.2 else lookD d x r
theorem val_boxes : ∀ {bs : List (Str × Int)} {x : Str}, x ∈ bs.map (·.1) → valV (boxesV bs) (Sum.inr x) = some (.int (lookD 0 x bs))
  | [], x, h => by simp at h
  | p :: r, x, h => by
    show valV ((Sum.inr p.1, V.int p.2) :: boxesV r) (Sum.inr x) = some (.int (if p.1 = x then p.2 else lookD 0 x r))
    by_cases e : p.1 = x
    · rw [if_pos e]
      exact valV_pos (by show (Sum.inr p.1 : Key) = Sum.inr x; rw [e])
    · rw [if_neg e, valV_neg (by show ¬ (Sum.inr p.1 : Key) = Sum.inr x; exact fun z => e (Sum.inr.inj z))]
      rw [List.map_cons] at h
      exact val_boxes ((List.mem_cons.mp h).resolve_left fun z => e z.symm)
theorem val_queues : ∀ {qs : List (Str × List Int)} {as : List Addr} {x : Str}, qs.length = as.length → x ∈ qs.map (·.1) → ∃ (i : Nat) (a : Addr), qs[i]? = some (x, lookD [] x qs) ∧ as[i]? = some a ∧ valV (queuesV qs as) (Sum.inr x) = some (.ref a)
  | [], _, x, _, h => by simp at h
  | p :: r, [], _, hl, _ => by simp at hl
  | p :: r, a :: as, x, hl, h => by
    have ev : queuesV (p :: r) (a :: as) = (Sum.inr p.1, V.ref a) :: queuesV r as := rfl
    by_cases e : p.1 = x
    · refine ⟨0, a, ?_, rfl, ?_⟩
      · show some p = some (x, if p.1 = x then p.2 else lookD [] x r)
        rw [if_pos e, ← e]
      · rw [ev]
        exact valV_pos (by show (Sum.inr p.1 : Key) = Sum.inr x; rw [e])
    · rw [List.map_cons] at h
      obtain ⟨i, b, h1, h2, h3⟩ := val_queues (qs := r) (as := as) (x := x) (by simpa using hl) ((List.mem_cons.mp h).resolve_left fun z => e z.symm)
      refine ⟨i + 1, b, ?_, h2, ?_⟩
      · show r[i]? = some (x, if p.1 = x then p.2 else lookD [] x r)
        rw [if_neg e]
        exact h1
      · rw [ev, valV_neg (by show ¬ (Sum.inr p.1 : Key) = Sum.inr x; exact fun z => e (Sum.inr.inj z))]
        exact h3
/-- objects that stand in a heap -/
abbrev Ck : Type := List (Addr × HO)
def InH (H : Hp) (C : Ck) : Prop := ∀ e ∈ C, H e.1 = some e.2
def vo (C : Ck) : Vo := C.map fun e => (e.1, Eq e.2)
theorem InH.ext {H H' : Hp} {C : Ck} (h : InH H C) (e : Ext H H') : InH H' C := fun x m => e _ _ (h x m)
theorem Hd.inH {G H : Hp} {L : Vo} {C : Ck} (h : Hd G H L) (s : ∀ e ∈ vo C, e ∈ L) : InH H C := fun e m => h.eq (s (e.1, Eq e.2) (List.mem_map_of_mem m))
/-- the envelope of a state, a time, two worths that came -/
def MSt.env (s : MSt) (now : Int) (g0 g1 : Int) : Env := ⟨fun x => lookD 0 x s.boxes, fun x => (lookD [] x s.queues).length, now, fun j => if j = 0 then g0 else g1⟩
def MSt.bs (s : MSt) : List Str := s.boxes.map (·.1)
def MSt.qs (s : MSt) : List Str := s.queues.map (·.1)
end Mo
namespace Mo
open PySem PySem.Spec PyProof.Rows L2
/-! ### deeds, machines: plain Lean -/
inductive Dd where
  | put (b : Str) (f : Fm) | push (q : Str) (f : Fm) | pull (q b : Str) (ds : List Dd) | draw (b : Str) (f : Fm)
  | send (to : Int) (sign : Str) (span : Fm) (rank : Int) (g h : Fm) | iff (f : Fm) (ones others : List Dd) | fin
mutual
def Dd.data : Dd → PyData
  | .put b f => .tuple [.str "put", .str b, f.data]
  | .push q f => .tuple [.str "push", .str q, f.data]
  | .pull q b ds => .tuple [.str "pull", .str q, .str b, .list (Dd.datas ds)]
  | .draw b f => .tuple [.str "draw", .str b, f.data]
  | .send to sign span rank g h => .tuple [.str "send", .int to, .str sign, span.data, .int rank, g.data, h.data]
  | .iff f ones others => .tuple [.str "if", f.data, .list (Dd.datas ones), .list (Dd.datas others)]
  | .fin => .tuple [.str "end"]
def Dd.datas : List Dd → List PyData
  | [] => []
  | d :: ds => d.data :: Dd.datas ds
end
mutual
def Dd.depth : Dd → Nat
  | .pull _ _ ds => Dd.depths ds + 1
  | .iff _ ones others => max (Dd.depths ones) (Dd.depths others) + 1
  | _ => 0
def Dd.depths : List Dd → Nat
  | [] => 0
  | d :: ds => max (d.depth + 1) (Dd.depths ds)
end
mutual
/-- no list of more than a thousand deeds -/
def Dd.Sm : Dd → Prop
  | .pull _ _ ds => ds.length ≤ 1000 ∧ Dd.Sms ds
  | .iff _ a b => (a.length ≤ 1000 ∧ Dd.Sms a) ∧ (b.length ≤ 1000 ∧ Dd.Sms b)
  | _ => True
def Dd.Sms : List Dd → Prop
  | [] => True
  | d :: ds => d.Sm ∧ Dd.Sms ds
end
theorem sms_get : ∀ {ds : List Dd} {i : Nat} {d : Dd}, Dd.Sms ds → ds[i]? = some d → d.Sm
  | [], _, _, _, h => by simp at h
  | e :: ds, 0, d, k, h => by
    simp only [List.getElem?_cons_zero, Option.some.injEq] at h
    subst h
    rw [Dd.Sms] at k
    exact k.1
  | e :: ds, i + 1, d, k, h => by
    rw [List.getElem?_cons_succ] at h
    rw [Dd.Sms] at k
    exact sms_get k.2 h
theorem datas_map : ∀ ds : List Dd, Dd.datas ds = ds.map Dd.data
  | [] => by rw [Dd.datas, List.map_nil]
  | d :: ds => by rw [Dd.datas, datas_map ds, List.map_cons]
theorem datas_app (ds es : List Dd) : Dd.datas (ds ++ es) = Dd.datas ds ++ Dd.datas es := by rw [datas_map, datas_map, datas_map, List.map_append]
theorem datas_take {ds : List Dd} {i : Nat} {d : Dd} (h : ds[i]? = some d) : Dd.datas (ds.take (i + 1)) = Dd.datas (ds.take i) ++ [d.data] := by
  rw [datas_map, datas_map, List.take_add_one, h, List.map_append]
  rfl
theorem depths_get : ∀ {ds : List Dd} {i : Nat} {d : Dd}, ds[i]? = some d → d.depth < Dd.depths ds
  | [], _, _, h => by simp at h
  | e :: ds, 0, d, h => by
    simp only [List.getElem?_cons_zero, Option.some.injEq] at h
    subst h
    rw [Dd.depths]
    omega
  | e :: ds, i + 1, d, h => by
    rw [List.getElem?_cons_succ] at h
    have := depths_get h
    rw [Dd.depths]
    omega
structure Mach where
  name : Str
  boxes : List (Str × Int)
  queues : List Str
  draws : List Int
  hears : List (Str × List Dd)
def boxD (p : Str × Int) : PyData := .tuple [.str p.1, .int p.2]
def hearD (p : Str × List Dd) : PyData := .tuple [.str p.1, .list (Dd.datas p.2)]
def Mach.data (m : Mach) : PyData := .tuple [.str m.name, .list (m.boxes.map boxD), .list (m.queues.map PyData.str), .list (m.draws.map PyData.int), .list (m.hears.map hearD)]
def Mach.depth (m : Mach) : Nat := m.hears.foldr (fun p n => max (Dd.depths p.2) n) 0
theorem Mach.depth_get {hs : List (Str × List Dd)} {i : Nat} {p : Str × List Dd} (h : hs[i]? = some p) : Dd.depths p.2 ≤ hs.foldr (fun p n => max (Dd.depths p.2) n) 0 := by
  induction hs generalizing i with
  | nil => simp at h
  | cons q hs ih =>
    rw [List.foldr_cons]
    cases i with
    | zero =>
      simp only [List.getElem?_cons_zero, Option.some.injEq] at h
      subst h
      omega
    | succ i =>
      rw [List.getElem?_cons_succ] at h
      have := ih h
      omega
/-- the state in which a machine begins -/
def Mach.first (m : Mach) : MSt := ⟨m.boxes, m.queues.map fun q => (q, []), 0, 0⟩
/-! ### deeds that stand in a heap: their lists in H, what is of tuples alone in G -/
section
variable (K : PySem.W.Frag) (G H : Hp)
mutual
inductive DdIn : V → Dd → Prop
  | put {v : V} {b : Str} {f : Fm} (h : Dp K G v (Dd.data (.put b f))) : DdIn v (.put b f)
  | push {v : V} {q : Str} {f : Fm} (h : Dp K G v (Dd.data (.push q f))) : DdIn v (.push q f)
  | draw {v : V} {b : Str} {f : Fm} (h : Dp K G v (Dd.data (.draw b f))) : DdIn v (.draw b f)
  | send {v : V} {to : Int} {sign : Str} {span : Fm} {rank : Int} {g h : Fm} (q : Dp K G v (Dd.data (.send to sign span rank g h))) : DdIn v (.send to sign span rank g h)
  | fin {v : V} (h : Dp K G v (Dd.data .fin)) : DdIn v .fin
  | pull {a l : Addr} {q b : Str} {vs : List V} {ds : List Dd} (ht : SqT K H a [.str "pull", .str q, .str b, .ref l]) (hl : SqL K H l vs) (hs : DdsIn vs ds) : DdIn (.ref a) (.pull q b ds)
  | iff {a l m : Addr} {f : Fm} {v : V} {vs ws : List V} {ones others : List Dd} (ht : SqT K H a [.str "if", v, .ref l, .ref m]) (hf : Dp K G v f.data) (hl : SqL K H l vs) (hs : DdsIn vs ones) (hm : SqL K H m ws) (hr : DdsIn ws others) : DdIn (.ref a) (.iff f ones others)
inductive DdsIn : List V → List Dd → Prop
  | nil : DdsIn [] []
  | cons {v : V} {vs : List V} {d : Dd} {ds : List Dd} (h : DdIn v d) (r : DdsIn vs ds) : DdsIn (v :: vs) (d :: ds)
end
end
section
variable {K : PySem.W.Frag} {G G' H H' : Hp}
mutual
theorem ddIn_mono (e : Ext G G') (e' : Ext H H') : ∀ {v : V} {d : Dd}, DdIn K G H v d → DdIn K G' H' v d
  | _, _, .put h => .put (dp_mono e h)
  | _, _, .push h => .push (dp_mono e h)
  | _, _, .draw h => .draw (dp_mono e h)
  | _, _, .send h => .send (dp_mono e h)
  | _, _, .fin h => .fin (dp_mono e h)
  | _, _, .pull h1 h2 h3 => .pull (ext_t e' h1) (ext_l e' h2) (ddsIn_mono e e' h3)
  | _, _, .iff h1 h2 h3 h4 h5 h6 => .iff (ext_t e' h1) (dp_mono e h2) (ext_l e' h3) (ddsIn_mono e e' h4) (ext_l e' h5) (ddsIn_mono e e' h6)
theorem ddsIn_mono (e : Ext G G') (e' : Ext H H') : ∀ {vs : List V} {ds : List Dd}, DdsIn K G H vs ds → DdsIn K G' H' vs ds
  | _, _, .nil => .nil
  | _, _, .cons h r => .cons (ddIn_mono e e' h) (ddsIn_mono e e' r)
end
theorem ddsIn_len : ∀ {vs : List V} {ds : List Dd}, DdsIn K G H vs ds → vs.length = ds.length
  | _, _, .nil => rfl
  | _, _, .cons _ r => by rw [List.length_cons, List.length_cons, ddsIn_len r]
theorem ddsIn_get : ∀ {vs : List V} {ds : List Dd} {i : Nat} {v : V}, DdsIn K G H vs ds → vs[i]? = some v → ∃ d, ds[i]? = some d ∧ DdIn K G H v d
  | _, _, _, _, .nil, e => by simp at e
  | _, _, 0, _, .cons h _, e => by
    simp only [List.getElem?_cons_zero, Option.some.injEq] at e
    subst e
    exact ⟨_, rfl, h⟩
  | _, _, i + 1, _, .cons _ r, e => by
    rw [List.getElem?_cons_succ] at e
    obtain ⟨d, h1, h2⟩ := ddsIn_get r e
    exact ⟨d, by rw [List.getElem?_cons_succ]; exact h1, h2⟩
mutual
/-- what stays is also in the heap -/
theorem ddIn_of (e : Ext G H) : ∀ (d : Dd) {v : V}, Dp K G v d.data → DdIn K G H v d
  | .put b f, _, h => .put h
  | .push q f, _, h => .push h
  | .draw b f, _, h => .draw h
  | .send to sign span rank g k, _, h => .send h
  | .fin, _, h => .fin h
  | .pull q b ds, v, h => by
    rw [Dd.data] at h
    obtain ⟨a, xs, rfl, h1, h2⟩ := dp_tup h
    cases h2 with
    | cons e1 h2 => cases h2 with
      | cons e2 h2 => cases h2 with
        | cons e3 h2 => cases h2 with
          | cons e4 h2 =>
            cases h2
            obtain rfl := dp_str e1
            obtain rfl := dp_str e2
            obtain rfl := dp_str e3
            obtain ⟨l, ys, rfl, h3, h4⟩ := dp_lst e4
            exact .pull (ext_t e h1) (ext_l e h3) (ddsIn_of e ds h4)
  | .iff f ones others, v, h => by
    rw [Dd.data] at h
    obtain ⟨a, xs, rfl, h1, h2⟩ := dp_tup h
    cases h2 with
    | cons e1 h2 => cases h2 with
      | cons e2 h2 => cases h2 with
        | cons e3 h2 => cases h2 with
          | cons e4 h2 =>
            cases h2
            obtain rfl := dp_str e1
            obtain ⟨l, ys, rfl, h3, h4⟩ := dp_lst e3
            obtain ⟨m, zs, rfl, h5, h6⟩ := dp_lst e4
            exact .iff (ext_t e h1) e2 (ext_l e h3) (ddsIn_of e ones h4) (ext_l e h5) (ddsIn_of e others h6)
theorem ddsIn_of (e : Ext G H) : ∀ (ds : List Dd) {vs : List V}, DpAll K G vs (Dd.datas ds) → DdsIn K G H vs ds
  | [], _, h => by
    rw [Dd.datas] at h
    cases h
    exact .nil
  | d :: ds, _, h => by
    rw [Dd.datas] at h
    cases h with
    | cons h1 h2 => exact .cons (ddIn_of e d h1) (ddsIn_of e ds h2)
end
def Dd.tag : Dd → Str
  | .put _ _ => "put" | .push _ _ => "push" | .pull _ _ _ => "pull" | .draw _ _ => "draw" | .send _ _ _ _ _ _ => "send" | .iff _ _ _ => "if" | .fin => "end"
theorem ddIn_head (e : Ext G H) : ∀ {d : Dd} {x : V}, DdIn K G H x d → ∃ t xs, x = .ref t ∧ SqT K H t (.str d.tag :: xs) := by
  have one : ∀ {x : V} {s : Str} {ds : List PyData}, Dp K G x (.tuple (.str s :: ds)) → ∃ t xs, x = .ref t ∧ SqT K H t (.str s :: xs) := fun {x s ds} h => by
    obtain ⟨t, xs, rfl, h1, h2⟩ := dp_tup h
    cases h2 with
    | cons e1 h2 =>
      obtain rfl := dp_str e1
      exact ⟨t, _, rfl, ext_t e h1⟩
  intro d x h
  cases h with
  | put h => rw [Dd.data] at h; exact one h
  | push h => rw [Dd.data] at h; exact one h
  | draw h => rw [Dd.data] at h; exact one h
  | send h => rw [Dd.data] at h; exact one h
  | fin h => rw [Dd.data] at h; exact one h
  | pull h1 h2 h3 => exact ⟨_, _, rfl, h1⟩
  | iff h1 h2 h3 h4 h5 h6 => exact ⟨_, _, rfl, h1⟩
theorem ddIn_plain {d : Dd} {x : V} (h : DdIn K G H x d) (h1 : ¬ d.tag = "if") (h2 : ¬ d.tag = "pull") : Dp K G x d.data := by
  cases h with
  | put h => exact h
  | push h => exact h
  | draw h => exact h
  | send h => exact h
  | fin h => exact h
  | pull _ _ _ => exact absurd rfl h2
  | iff _ _ _ _ _ _ => exact absurd rfl h1
theorem ddIn_if {d : Dd} {x : V} (h : DdIn K G H x d) (ht : d.tag = "if") : ∃ f ones others a l m v vs ws, d = .iff f ones others ∧ x = .ref a ∧ SqT K H a [.str "if", v, .ref l, .ref m] ∧ Dp K G v f.data ∧ SqL K H l vs ∧ DdsIn K G H vs ones ∧ SqL K H m ws ∧ DdsIn K G H ws others := by
  cases h with
  | iff h1 h2 h3 h4 h5 h6 => exact ⟨_, _, _, _, _, _, _, _, _, rfl, rfl, h1, h2, h3, h4, h5, h6⟩
  | _ => dsimp only [Dd.tag] at ht; exact absurd ht (by decide +kernel)
theorem ddIn_pull {d : Dd} {x : V} (h : DdIn K G H x d) (ht : d.tag = "pull") : ∃ q b ds a l vs, d = .pull q b ds ∧ x = .ref a ∧ SqT K H a [.str "pull", .str q, .str b, .ref l] ∧ SqL K H l vs ∧ DdsIn K G H vs ds := by
  cases h with
  | pull h1 h2 h3 => exact ⟨_, _, _, _, _, _, rfl, rfl, h1, h2, h3⟩
  | _ => dsimp only [Dd.tag] at ht; exact absurd ht (by decide +kernel)
end
/-- a machine that stands in a heap: its lists in H -/
def MachIn (K : PySem.W.Frag) (G H : Hp) (x : V) (m : Mach) : Prop := ∃ (a lb lq ld lh : Addr), x = .ref a ∧ SqT K H a [.str m.name, .ref lb, .ref lq, .ref ld, .ref lh] ∧
  (∃ vs, SqL K H lb vs ∧ DpAll K G vs (m.boxes.map boxD)) ∧ SqL K H lq (m.queues.map V.str) ∧ SqL K H ld (m.draws.map V.int) ∧
  ∃ vs : List V, SqL K H lh vs ∧ vs.length = m.hears.length ∧ ∀ (i : Nat) (v : V), vs[i]? = some v → ∃ (t l : Addr) (ws : List V) (p : Str × List Dd), v = .ref t ∧ SqT K H t [.str p.1, .ref l] ∧ SqL K H l ws ∧ DdsIn K G H ws p.2 ∧ m.hears[i]? = some p
/-- its names are unlike -/
structure Mach.Nd (m : Mach) : Prop where
  boxes : (m.boxes.map (·.1)).Nodup
  queues : m.queues.Nodup
/-- its lists are not long -/
structure Mach.Sm (m : Mach) : Prop where
  boxes : m.boxes.length ≤ 1000
  queues : m.queues.length ≤ 1000
  draws : m.draws.length ≤ 1000
  hears : m.hears.length ≤ 1000
  deeds : ∀ p ∈ m.hears, p.2.length ≤ 1000 ∧ Dd.Sms p.2
theorem dpa_strs {K : PySem.W.Frag} {H : Hp} : ∀ ns : List Str, DpAll K H (ns.map V.str) (ns.map PyData.str)
  | [] => .nil
  | n :: ns => .cons (.str n) (dpa_strs ns)
theorem dpa_strs' {K : PySem.W.Frag} {H : Hp} : ∀ {vs : List V} {ns : List Str}, DpAll K H vs (ns.map PyData.str) → vs = ns.map V.str
  | _, [], .nil => rfl
  | _, n :: ns, .cons h r => by rw [dp_str h, dpa_strs' r]; rfl
theorem dpa_ints' {K : PySem.W.Frag} {H : Hp} : ∀ {vs : List V} {ns : List Int}, DpAll K H vs (ns.map PyData.int) → vs = ns.map V.int
  | _, [], .nil => rfl
  | _, n :: ns, .cons h r => by rw [dp_int h, dpa_ints' r]; rfl
theorem machIn_of {K : PySem.W.Frag} {G H : Hp} (e : Ext G H) {x : V} {m : Mach} (h : Dp K G x m.data) : MachIn K G H x m := by
  unfold Mach.data at h
  obtain ⟨a, xs, rfl, h1, h2⟩ := dp_tup h
  cases h2 with
  | cons e1 h2 => cases h2 with
    | cons e2 h2 => cases h2 with
      | cons e3 h2 => cases h2 with
        | cons e4 h2 => cases h2 with
          | cons e5 h2 =>
            cases h2
            obtain rfl := dp_str e1
            obtain ⟨lb, vb, rfl, b1, b2⟩ := dp_lst e2
            obtain ⟨lq, vq, rfl, q1, q2⟩ := dp_lst e3
            obtain ⟨ld, vd, rfl, d1, d2⟩ := dp_lst e4
            obtain ⟨lh, vh, rfl, g1, g2⟩ := dp_lst e5
            obtain rfl := dpa_strs' q2
            obtain rfl := dpa_ints' d2
            refine ⟨a, lb, lq, ld, lh, rfl, ext_t e h1, ⟨vb, ext_l e b1, b2⟩, ext_l e q1, ext_l e d1, vh, ext_l e g1, by rw [dpa_len g2, List.length_map], fun i v hv => ?_⟩
            obtain ⟨d, hd, hp⟩ := dpa_get' g2 hv
            rw [List.getElem?_map] at hd
            cases hq : m.hears[i]? with
            | none => rw [hq] at hd; cases hd
            | some p =>
              rw [hq] at hd
              obtain rfl := Option.some.inj hd
              unfold hearD at hp
              obtain ⟨t, ys, rfl, t1, t2⟩ := dp_tup hp
              cases t2 with
              | cons f1 t2 => cases t2 with
                | cons f2 t2 =>
                  cases t2
                  obtain rfl := dp_str f1
                  obtain ⟨l, ws, rfl, l1, l2⟩ := dp_lst f2
                  exact ⟨t, l, ws, p, rfl, ext_t e t1, ext_l e l1, ddsIn_of e _ l2, rfl⟩
theorem machIn_mono {K : PySem.W.Frag} {G G' H H' : Hp} (e : Ext G G') (e' : Ext H H') {x : V} {m : Mach} (h : MachIn K G H x m) : MachIn K G' H' x m := by
  obtain ⟨a, lb, lq, ld, lh, rfl, ht, ⟨vb, b1, b2⟩, hq, hd, vs, h1, h2, h3⟩ := h
  refine ⟨a, lb, lq, ld, lh, rfl, ext_t e' ht, ⟨vb, ext_l e' b1, dpa_mono e b2⟩, ext_l e' hq, ext_l e' hd, vs, ext_l e' h1, h2, fun i v hv => ?_⟩
  obtain ⟨t, l, ws, p, e1, t1, l1, d1, hp⟩ := h3 i v hv
  exact ⟨t, l, ws, p, e1, ext_t e' t1, ext_l e' l1, ddsIn_mono e e' d1, hp⟩
/-! ### dicts by names -/
theorem val_none : ∀ {kvs : List (Key × V)} {k : Key}, k ∉ kvs.map (·.1) → valV kvs k = none
  | [], _, _ => rfl
  | p :: r, k, h => by
    rw [List.map_cons, List.mem_cons, not_or] at h
    rw [valV_neg (fun e => h.1 e.symm)]
    exact val_none h.2
theorem boxesV_keys (bs : List (Str × Int)) : (boxesV bs).map (·.1) = bs.map fun p => Sum.inr p.1 := by
  unfold boxesV
  rw [List.map_map]
  rfl
theorem boxesV_put {bs : List (Str × Int)} {x : Str} {n : Int} (h : x ∉ bs.map (·.1)) : putK (boxesV bs) (Sum.inr x) (.int n) = boxesV (bs ++ [(x, n)]) := by
  rw [putK_new]
  · unfold boxesV
    rw [List.map_append]
    rfl
  · refine val_none fun m => h ?_
    rw [boxesV_keys] at m
    obtain ⟨p, hp, e⟩ := List.mem_map.mp m
    rw [← Sum.inr.inj e]
    exact List.mem_map_of_mem hp
theorem queuesV_put {qs : List (Str × List Int)} {as : List Addr} {x : Str} {a : Addr} {ns : List Int} (hl : qs.length = as.length) (h : x ∉ qs.map (·.1)) : putK (queuesV qs as) (Sum.inr x) (.ref a) = queuesV (qs ++ [(x, ns)]) (as ++ [a]) := by
  rw [putK_new]
  · unfold queuesV
    rw [List.zip_append hl, List.map_append]
    rfl
  · refine val_none fun m => h ?_
    obtain ⟨p, hp, e⟩ := List.mem_map.mp m
    unfold queuesV at hp
    obtain ⟨q, hq, rfl⟩ := List.mem_map.mp hp
    rw [← Sum.inr.inj e]
    exact List.mem_map_of_mem (List.of_mem_zip hq).1
end Mo
namespace Mo
open PySem PySem.Spec PyProof.Rows L2
/-- a list of two numbers -/
def Purse (o : HO) : Prop := ∃ a b : Int, o = .lst [.int a, .int b]
def spMixed : Sp := fun vs H Q _ => ∃ c k : Int, vs = [.int c, .int k] ∧ Bd 1048576 c ∧ Bd 8 k ∧ ∀ r : Int, Bd 31 r → Q (.int r) H
def spPurse (K : PySem.W.Frag) : Sp := fun vs H Q _ => ∃ (a : Addr) (ns : List Int), vs = [.ref a] ∧ SqL K H a (ns.map V.int) ∧ ns.length ≤ 63 ∧ (∀ z ∈ ns, Bd 1048576 z) ∧
  ∀ p H', Hd H H' [(p, Purse)] → Q (.ref p) H'
def spDraw : Sp := fun vs H Q _ => ∃ (G : Hp) (L : Vo) (p : Addr) (n : Int), vs = [.ref p, .int n] ∧ Hd G H L ∧ (p, Purse) ∈ L ∧ 0 < n ∧ Bd 8000 n ∧
  ∀ d H', 0 ≤ d → d < n → Hd G H' L → Q (.int d) H'
theorem fmod_range {a n : Int} (h : 0 < n) : 0 ≤ a.fmod n ∧ a.fmod n < n := ⟨Int.fmod_nonneg_of_pos a h, Int.fmod_lt_of_pos a h⟩
end Mo
namespace Mo
open PySem PySem.Spec PyProof.Rows L2
/-! ### what stays, as a list of facts; what may change, as a list of segments -/
inductive Fc where
  | dat (v : V) (d : PyData)
  | dats (vs : List V) (ds : List PyData)
  | obj (a : Addr) (o : HO)
  | gen (P : Hp → Prop) (m : ∀ G G', Ext G G' → P G → P G')
def Fc.In (K : PySem.W.Frag) (G : Hp) : Fc → Prop
  | .dat v d => Dp K G v d
  | .dats vs ds => DpAll K G vs ds
  | .obj a o => G a = some o
  | .gen P _ => P G
theorem Fc.mono {K : PySem.W.Frag} {G G' : Hp} (e : Ext G G') : ∀ {f : Fc}, f.In K G → f.In K G'
  | .dat _ _, h => dp_mono e h
  | .dats _ _, h => dpa_mono e h
  | .obj _ _, h => e _ _ h
  | .gen _ m, h => m _ _ e h
def Hg (K : PySem.W.Frag) (Γ : List Fc) (S : List Vo) (H : Hp) : Prop := ∃ G, Hd G H S.flatten ∧ ∀ f ∈ Γ, f.In K G
/-- in every heap in which these facts and segments stand -/
def Wh (K : PySem.W.Frag) (Γ : List Fc) (S : List Vo) (R : Hp → Prop) : Prop := ∀ H, Hg K Γ S H → R H
def own (p : Addr) (o : HO) : Vo := [(p, Eq o)]
def pur (p : Addr) : Vo := [(p, Purse)]
def Take (x : Vo) (S R : List Vo) : Prop := S.flatten.Perm (x ++ R.flatten)
theorem Take.here {x : Vo} {R : List Vo} : Take x (x :: R) R := List.Perm.refl _
theorem Take.there {x y : Vo} {S R : List Vo} (h : Take x S R) : Take x (y :: S) (y :: R) := by
  show (y ++ S.flatten).Perm (x ++ (y ++ R.flatten))
  refine (List.Perm.append_left y h).trans ?_
  rw [← List.append_assoc, ← List.append_assoc]
  exact List.Perm.append_right _ List.perm_append_comm
def Takes' (xs S R : List Vo) : Prop := S.flatten.Perm ((xs ++ R).flatten)
theorem Takes'.nil {S : List Vo} : Takes' [] S S := List.Perm.refl _
theorem Takes'.cons {x : Vo} {xs S S' R : List Vo} (h : Take x S S') (t : Takes' xs S' R) : Takes' (x :: xs) S R := h.trans (List.Perm.append_left x t)
section
variable {K : PySem.W.Frag} {Γ Γ' : List Fc} {S S' R : List Vo} {H : Hp} {p : Addr} {o o' : HO} {φ : HO → Prop} {f : Fc} {x : Vo} {A : Hp → Prop}
theorem Hg.go (z : Hg K Γ S H) (k : Wh K Γ S A) : A H := k H z
theorem Hg.weak (z : Hg K Γ S H) (h : ∀ f ∈ Γ', f ∈ Γ) : Hg K Γ' S H := let ⟨G, a, b⟩ := z; ⟨G, a, fun f m => b f (h f m)⟩
theorem Hg.cong (z : Hg K Γ S H) (h : S'.flatten.Perm S.flatten) : Hg K Γ S' H := let ⟨G, a, b⟩ := z; ⟨G, a.perm h, b⟩
theorem Hg.tk {xs : List Vo} (z : Hg K Γ S H) (h : Takes' xs S R) : Hg K Γ (xs ++ R) H := z.cong h.symm
theorem Hg.tk1 (z : Hg K Γ S H) (h : Take x S R) : Hg K Γ (x :: R) H := z.cong h.symm
theorem Hg.pop (z : Hg K Γ (x :: S) H) : Hg K Γ S H := by
  obtain ⟨G, a, b⟩ := z
  refine ⟨G, ?_, b⟩
  have a' : Hd G H (x ++ S.flatten) := a
  clear a
  induction x with
  | nil => exact a'
  | cons y x ih => exact ih a'.drop
theorem Hg.own (z : Hg K Γ S H) (m : own p o ∈ S) : H p = some o := let ⟨_, a, _⟩ := z; a.eq (List.mem_flatten.mpr ⟨_, m, List.mem_cons_self⟩)
theorem Hg.obj (z : Hg K Γ S H) (m : .obj p o ∈ Γ) : H p = some o := let ⟨_, a, b⟩ := z; a.ex _ _ (b _ m)
theorem Hg.fact (z : Hg K Γ S H) (m : f ∈ Γ) : f.In K H := let ⟨_, a, b⟩ := z; Fc.mono a.ex (b _ m)
theorem Hg.dat {v : V} {d : PyData} (z : Hg K Γ S H) (m : .dat v d ∈ Γ) : Dp K H v d := z.fact m
theorem Wh.weak (h : ∀ f ∈ Γ', f ∈ Γ) (k : Wh K Γ' S A) : Wh K Γ S A := fun _ z => k _ (z.weak h)
theorem Wh.cong (h : S'.flatten.Perm S.flatten) (k : Wh K Γ S' A) : Wh K Γ S A := fun _ z => k _ (z.cong h)
theorem Wh.tk {xs : List Vo} (h : Takes' xs S R) (k : Wh K Γ (xs ++ R) A) : Wh K Γ S A := fun _ z => k _ (z.tk h)
theorem Wh.tk1 (h : Take x S R) (k : Wh K Γ (x :: R) A) : Wh K Γ S A := fun _ z => k _ (z.tk1 h)
theorem Wh.pop (k : Wh K Γ S A) : Wh K Γ (x :: S) A := fun _ z => k _ z.pop
theorem Wh.drop (h : Take x S R) (k : Wh K Γ R A) : Wh K Γ S A := fun _ z => k _ (z.tk1 h).pop
theorem Wh.imp {B : Hp → Prop} (k : Wh K Γ S A) (h : ∀ H, A H → B H) : Wh K Γ S B := fun H z => h H (k H z)
/-- a fact that follows -/
theorem Wh.learn (h : ∀ G, (∀ f ∈ Γ, f.In K G) → f.In K G) (k : Wh K (f :: Γ) S A) : Wh K Γ S A := fun H ⟨G, a, b⟩ => k H ⟨G, a, fun g m => by
  rcases List.mem_cons.mp m with e | m
  · rw [e]
    exact h G b
  · exact b g m⟩
theorem cons_facts {G : Hp} (h : f.In K G) (b : ∀ g ∈ Γ, g.In K G) : ∀ g ∈ f :: Γ, g.In K G := fun g m => by
  rcases List.mem_cons.mp m with e | m
  · rw [e]
    exact h
  · exact b g m
/-- the object at p -/
def AtH (K : PySem.W.Frag) (Γ : List Fc) (S : List Vo) (p : Addr) (o : HO) : Prop := ∀ H, Hg K Γ S H → H p = some o
theorem AtH.own (m : own p o ∈ S) : AtH K Γ S p o := fun _ z => z.own m
theorem AtH.obj (m : .obj p o ∈ Γ) : AtH K Γ S p o := fun _ z => z.obj m
/-- the owned object at p; it may be changed -/
def Chg (K : PySem.W.Frag) (p : Addr) (o : HO) (S : List Vo) (o' : HO) (S' : List Vo) : Prop := ∀ Γ H, Hg K Γ S H → H p = some o ∧ Hg K Γ S' (upd H p o')
theorem chg_here : Chg K p o (own p o :: S) o' (own p o' :: S) := fun Γ H ⟨G, a, b⟩ => ⟨a.eq List.mem_cons_self, G, Hd.set0 a rfl, b⟩
theorem flat_swap {x y : Vo} {S : List Vo} : (x :: y :: S).flatten.Perm (y :: x :: S).flatten := by
  show (x ++ (y ++ S.flatten)).Perm (y ++ (x ++ S.flatten))
  rw [← List.append_assoc, ← List.append_assoc]
  exact List.Perm.append_right _ List.perm_append_comm
theorem Hd.putP {G H : Hp} {A : Vo} {L : Vo} (h : Hd G H (A ++ (p, φ) :: L)) {ψ : HO → Prop} (hψ : ψ o') : Hd G (upd H p o') (A ++ (p, ψ) :: L) := h.setA hψ
theorem Hg.putAt {A B : List Vo} (z : Hg K Γ (A ++ Mo.own p o :: B) H) : Hg K Γ (A ++ Mo.own p o' :: B) (upd H p o') := by
  obtain ⟨G, a, b⟩ := z
  refine ⟨G, ?_, b⟩
  rw [List.flatten_append] at a ⊢
  have a' : Hd G H (A.flatten ++ (p, Eq o) :: B.flatten) := a
  exact a'.putP (ψ := Eq o') rfl
/-- changed in its place -/
inductive Sw (p : Addr) (o o' : HO) : List Vo → List Vo → Prop
  | here {S : List Vo} : Sw p o o' (own p o :: S) (own p o' :: S)
  | there {x : Vo} {S S' : List Vo} (h : Sw p o o' S S') : Sw p o o' (x :: S) (x :: S')
theorem Sw.split : ∀ {S S' : List Vo}, Sw p o o' S S' → ∃ A B, S = A ++ own p o :: B ∧ S' = A ++ own p o' :: B
  | _, _, .here => ⟨[], _, rfl, rfl⟩
  | _, _, .there (x := x) h => let ⟨A, B, e1, e2⟩ := Sw.split h; ⟨x :: A, B, by rw [e1]; rfl, by rw [e2]; rfl⟩
theorem Hg.sw (z : Hg K Γ S H) (h : Sw p o o' S S') : Hg K Γ S' (upd H p o') := by
  obtain ⟨A, B, rfl, rfl⟩ := h.split
  exact z.putAt
theorem Sw.mem : ∀ {S S' : List Vo}, Sw p o o' S S' → own p o ∈ S
  | _, _, .here => List.mem_cons_self
  | _, _, .there h => List.mem_cons_of_mem _ (Sw.mem h)
/-- a new object -/
theorem Hg.new (z : Hg K Γ S H) (hp : H p = none) : Hg K Γ (Mo.own p o :: S) (upd H p o) := let ⟨G, a, b⟩ := z; ⟨G, a.new hp rfl, b⟩
theorem Hg.fix (z : Hg K Γ S H) (hp : H p = none) : Hg K (.obj p o :: Γ) S (upd H p o) := by
  obtain ⟨G, a, b⟩ := z
  exact ⟨_, a.fix hp, cons_facts (show upd G p o p = some o from upd_same) fun f m => Fc.mono (Ext.new (a.gno hp)) (b f m)⟩
theorem Hg.freeze (z : Hg K Γ (Mo.own p o :: S) H) : Hg K (.obj p o :: Γ) S H := by
  obtain ⟨G, a, b⟩ := z
  have a' : Hd G H ((p, Eq o) :: S.flatten) := a
  exact ⟨_, a'.freeze (a'.eq List.mem_cons_self), cons_facts (show upd G p o p = some o from upd_same) fun f m => Fc.mono (Ext.new (a'.no List.mem_cons_self)) (b f m)⟩
theorem Hg.learn (z : Hg K Γ S H) (h : ∀ G, (∀ f ∈ Γ, f.In K G) → f.In K G) : Hg K (f :: Γ) S H := let ⟨G, a, b⟩ := z; ⟨G, a, cons_facts (h G b) b⟩
theorem Hg.skip (z : Hg K (f :: Γ) S H) : Hg K Γ S H := z.weak fun _ m => List.mem_cons_of_mem _ m
end
/-- a segment is changed in its place -/
inductive Rp (x x' : Vo) : List Vo → List Vo → Prop
  | here {S : List Vo} : Rp x x' (x :: S) (x' :: S)
  | there {y : Vo} {S S' : List Vo} (h : Rp x x' S S') : Rp x x' (y :: S) (y :: S')
def Ch (x : Vo) (p : Addr) (o' : HO) (x' : Vo) : Prop := ∀ G H L, Hd G H (x ++ L) → Hd G (upd H p o') (x' ++ L)
section
variable {K : PySem.W.Frag} {Γ : List Fc} {S S' : List Vo} {H : Hp} {p : Addr} {o' : HO} {x x' : Vo}
theorem Rp.split : ∀ {S S' : List Vo}, Rp x x' S S' → ∃ A B, S = A ++ x :: B ∧ S' = A ++ x' :: B
  | _, _, .here => ⟨[], _, rfl, rfl⟩
  | _, _, .there (y := y) h => let ⟨A, B, e1, e2⟩ := Rp.split h; ⟨y :: A, B, by rw [e1]; rfl, by rw [e2]; rfl⟩
theorem Rp.mem : ∀ {S S' : List Vo}, Rp x x' S S' → x ∈ S
  | _, _, .here => List.mem_cons_self
  | _, _, .there h => List.mem_cons_of_mem _ (Rp.mem h)
theorem Rp.take : ∀ {S S' : List Vo}, Rp x x' S S' → ∃ R, Take x S R ∧ Take x' S' R
  | _, _, .here => ⟨_, Take.here, Take.here⟩
  | _, _, .there h => let ⟨R, a, b⟩ := Rp.take h; ⟨_ :: R, a.there, b.there⟩
theorem Hg.rp (z : Hg K Γ S H) (r : Rp x x' S S') (c : Ch x p o' x') : Hg K Γ S' (upd H p o') := by
  obtain ⟨R, a, b⟩ := r.take
  obtain ⟨G, z1, z2⟩ := z
  exact ⟨G, (c G H R.flatten (z1.perm (List.Perm.symm a))).perm b, z2⟩
/-- of a segment -/
theorem Hg.seg (z : Hg K Γ S H) (m : x ∈ S) : ∃ G L, Hd G H (x ++ L) ∧ ∀ f ∈ Γ, f.In K G := by
  obtain ⟨G, z1, z2⟩ := z
  obtain ⟨A, B, rfl⟩ := List.append_of_mem m
  refine ⟨G, A.flatten ++ B.flatten, z1.perm ?_, z2⟩
  rw [List.flatten_append, List.flatten_cons, ← List.append_assoc, ← List.append_assoc]
  exact List.Perm.append_right _ List.perm_append_comm
theorem AtH.seg {o : HO} (m : x ∈ S) (h : ∀ G H L, Hd G H (x ++ L) → H p = some o) : AtH K Γ S p o := fun H z => let ⟨G, L, a, _⟩ := z.seg m; h G H L a
end
/-- some of the segments, in any order -/
def Dr (S0 S : List Vo) : Prop := ∃ J : List Vo, S0.flatten.Perm ((J ++ S).flatten)
theorem Dr.refl {S : List Vo} : Dr S S := ⟨[], List.Perm.refl _⟩
theorem Dr.skip {x : Vo} {S0 S : List Vo} (h : Dr S0 S) : Dr (x :: S0) S := let ⟨J, j⟩ := h; ⟨x :: J, List.Perm.append_left x j⟩
theorem Dr.keep {x : Vo} {S0 R S : List Vo} (t : Take x S0 R) (h : Dr R S) : Dr S0 (x :: S) := by
  obtain ⟨J, j⟩ := h
  refine ⟨J, List.Perm.trans t ((List.Perm.append_left x j).trans ?_)⟩
  rw [List.flatten_append, List.flatten_append, List.flatten_cons, ← List.append_assoc, ← List.append_assoc]
  exact List.Perm.append_right _ List.perm_append_comm
theorem Hg.fit {K : PySem.W.Frag} {Γ Γ' : List Fc} {S0 S : List Vo} {H : Hp} (z : Hg K Γ S0 H) (hΓ : ∀ f ∈ Γ', f ∈ Γ) (hS : Dr S0 S) : Hg K Γ' S H := by
  obtain ⟨J, j⟩ := hS
  have z1 : Hg K Γ' (J ++ S) H := (z.weak hΓ).cong (List.Perm.symm j)
  clear j z
  induction J with
  | nil => exact z1
  | cons x J ih => exact ih z1.pop
/-! #### data of values, by the facts -/
def DV (K : PySem.W.Frag) (Γ : List Fc) (v : V) (d : PyData) : Prop := ∀ G, (∀ f ∈ Γ, f.In K G) → Dp K G v d
def DL (K : PySem.W.Frag) (Γ : List Fc) (vs : List V) (ds : List PyData) : Prop := ∀ G, (∀ f ∈ Γ, f.In K G) → DpAll K G vs ds
section
variable {K : PySem.W.Frag} {Γ Γ' : List Fc} {v : V} {d : PyData} {vs ws : List V} {ds es : List PyData}
theorem DV.int {i : Int} : DV K Γ (.int i) (.int i) := fun _ _ => .int i
theorem DV.str {x : Str} : DV K Γ (.str x) (.str x) := fun _ _ => .str x
theorem DV.bl {b : Bool} : DV K Γ (.bl b) (.bool b) := fun _ _ => .bl b
theorem DV.non : DV K Γ .non .none := fun _ _ => .non
theorem DV.mem (m : .dat v d ∈ Γ) : DV K Γ v d := fun G b => b _ m
theorem DL.nil : DL K Γ [] [] := fun _ _ => .nil
theorem DL.cons (h : DV K Γ v d) (t : DL K Γ vs ds) : DL K Γ (v :: vs) (d :: ds) := fun G b => .cons (h G b) (t G b)
theorem DL.app (h : DL K Γ vs ds) (t : DL K Γ ws es) : DL K Γ (vs ++ ws) (ds ++ es) := fun G b => dpa_app (h G b) (t G b)
theorem DL.snoc (h : DL K Γ vs ds) (t : DV K Γ v d) : DL K Γ (vs ++ [v]) (ds ++ [d]) := h.app (.cons t .nil)
theorem DL.mem (m : .dats vs ds ∈ Γ) : DL K Γ vs ds := fun G b => b _ m
theorem DL.ints {ns : List Int} : DL K Γ (ns.map V.int) (ns.map PyData.int) := fun _ _ => dpa_ints ns
theorem DL.strs {ns : List Str} : DL K Γ (ns.map V.str) (ns.map PyData.str) := fun _ _ => dpa_strs ns
theorem DV.mono (h : DV K Γ v d) (s : ∀ f ∈ Γ, f ∈ Γ') : DV K Γ' v d := fun G b => h G fun f m => b f (s f m)
theorem DL.mono (h : DL K Γ vs ds) (s : ∀ f ∈ Γ, f ∈ Γ') : DL K Γ' vs ds := fun G b => h G fun f m => b f (s f m)
theorem DV.tup {a : Addr} (m : .obj a (.tup vs) ∈ Γ) (h : DL K Γ vs ds) : DV K Γ (.ref a) (.tuple ds) := fun G b => .tup (SqT.of (b _ m)) (h G b)
theorem DV.lst {a : Addr} (m : .obj a (.lst vs) ∈ Γ) (h : DL K Γ vs ds) : DV K Γ (.ref a) (.list ds) := fun G b => .lst (SqL.of (b _ m)) (h G b)
theorem sub_refl : ∀ f ∈ Γ, f ∈ Γ := fun _ m => m
theorem sub_cons {f : Fc} (s : ∀ g ∈ Γ, g ∈ Γ') : ∀ g ∈ Γ, g ∈ f :: Γ' := fun g m => List.mem_cons_of_mem _ (s g m)
theorem sub_both {f : Fc} (s : ∀ g ∈ Γ, g ∈ Γ') : ∀ g ∈ f :: Γ, g ∈ f :: Γ' := fun g m => by
  rcases List.mem_cons.mp m with e | m
  · rw [e]; exact List.mem_cons_self
  · exact List.mem_cons_of_mem _ (s g m)
theorem sub_put {f : Fc} (h : f ∈ Γ') (s : ∀ g ∈ Γ, g ∈ Γ') : ∀ g ∈ f :: Γ, g ∈ Γ' := fun g m => by
  rcases List.mem_cons.mp m with e | m
  · rw [e]; exact h
  · exact s g m
theorem sub_nil : ∀ g ∈ ([] : List Fc), g ∈ Γ' := fun _ m => (nomatch m)
end
end Mo
namespace Mo
open PySem PySem.Spec PyProof.Rows L2
/-! ### steps through a reading, in every heap with these facts and segments -/
section
variable {K : PySem.W.Frag} {Γ : List Fc} {S S' : List Vo} {σ σ' : St} {H : Hp} {Q : VK} {ta tb te tc : TE} {t u c : TT} {tA tB1 : TA} {D : Ends} {s1 s2 : TS} {v x y : V} {i : Nat} {r : R2} {g : TG} {A B : Hp → Prop}
theorem w_start {f : TS} (h : σ = σ') (z : Hg K Γ S H) (k : Wh K Γ S fun H => f D σ' H) : f D σ H := by
  rw [h]
  exact k H z
theorem w_var (h : σ[i]? = some (some v)) (k : Wh K Γ S fun H => Q v H) : Wh K Γ S fun H => tVar i σ H Q := fun H z => ⟨v, h, k H z⟩
theorem w_c (k : Wh K Γ S fun H => Q v H) : Wh K Γ S fun H => tC v σ H Q := k
theorem w_op (k : Wh K Γ S fun H => ta σ H fun x H1 => tb σ H1 fun y H2 => r x y H2 Q) : Wh K Γ S fun H => tOp r ta tb σ H Q := k
theorem w_un {r : V → Hp → VK → Prop} (k : Wh K Γ S fun H => ta σ H fun x H1 => r x H1 Q) : Wh K Γ S fun H => tUn r ta σ H Q := k
theorem w_cb {r : List V → Hp → VK → Prop} (k : Wh K Γ S fun H => tA σ H fun vs H1 => r vs H1 Q) : Wh K Γ S fun H => tCB r tA σ H Q := k
theorem w_nil {Q : List V → Hp → Prop} (k : Wh K Γ S fun H => Q [] H) : Wh K Γ S fun H => tNil σ H Q := k
theorem w_cons {Q : List V → Hp → Prop} (k : Wh K Γ S fun H => ta σ H fun x H1 => tA σ H1 fun xs H2 => Q (x :: xs) H2) : Wh K Γ S fun H => tCons ta tA σ H Q := k
/-- a new tuple, a new list, a new instance: what is wanted of it -/
def mkT (xs : List V) (H : Hp) (Q : VK) : Prop := xs.length ≤ sizeLine ∧ ∀ p, H p = none → Q (.ref p) (upd H p (.tup xs))
def mkL (xs : List V) (H : Hp) (Q : VK) : Prop := xs.length ≤ sizeLine ∧ ∀ p, H p = none → Q (.ref p) (upd H p (.lst xs))
def mkI (C : Addr) (sp : Sp) (vs : List V) (H : Hp) (Q : VK) (E : XK) : Prop := ∀ x dx, H x = none → H dx = none → dx ≠ x → sp (.ref x :: vs) (upd (upd H dx (.own x)) x (.ins C dx [])) (fun v H2 => v = .non ∧ Q (.ref x) H2) E
theorem w_tup (k : Wh K Γ S fun H => tA σ H fun xs H1 => mkT xs H1 Q) : Wh K Γ S fun H => tTup tA σ H Q := k
theorem w_lst (k : Wh K Γ S fun H => tA σ H fun xs H1 => mkL xs H1 Q) : Wh K Γ S fun H => tLst tA σ H Q := k
theorem w_test {Q : Bool → Hp → Prop} (k : Wh K Γ S fun H => te σ H fun x H1 => ∃ b, x = .bl b ∧ Q b H1) : Wh K Γ S fun H => tTest te σ H Q := k
theorem w_tb {Q : Bool → Hp → Prop} (k : Wh K Γ S fun H => te σ H fun x H1 => ∃ b, x = .bl b ∧ Q b H1) : Wh K Γ S fun H => tB te σ H Q := k
theorem w_bl {b : Bool} {Q : Bool → Hp → Prop} (k : Wh K Γ S fun H => Q b H) : Wh K Γ S fun H => ∃ d, V.bl b = V.bl d ∧ Q d H := fun H z => ⟨b, rfl, k H z⟩
theorem w_and {Q : Bool → Hp → Prop} (k : Wh K Γ S fun H => t σ H fun d H1 => if d = true then u σ H1 Q else Q false H1) : Wh K Γ S fun H => tAnd t u σ H Q := k
theorem w_or {Q : Bool → Hp → Prop} (k : Wh K Γ S fun H => t σ H fun d H1 => if d = true then Q true H1 else u σ H1 Q) : Wh K Γ S fun H => tOr t u σ H Q := k
theorem w_not {Q : Bool → Hp → Prop} (k : Wh K Γ S fun H => t σ H fun d H1 => Q (!d) H1) : Wh K Γ S fun H => tNot t σ H Q := k
theorem w_andV (k : Wh K Γ S fun H => ta σ H fun x H1 => ∃ d, x = .bl d ∧ if d = true then tb σ H1 Q else Q (.bl false) H1) : Wh K Γ S fun H => tAndV ta tb σ H Q := k
theorem w_orV (k : Wh K Γ S fun H => ta σ H fun x H1 => ∃ d, x = .bl d ∧ if d = true then Q (.bl true) H1 else tb σ H1 Q) : Wh K Γ S fun H => tOrV ta tb σ H Q := k
theorem w_notV (k : Wh K Γ S fun H => ta σ H fun x H1 => ∃ d, x = .bl d ∧ Q (.bl (!d)) H1) : Wh K Γ S fun H => tNotV ta σ H Q := k
theorem w_ifE (k : Wh K Γ S fun H => c σ H fun d H1 => if d = true then ta σ H1 Q else tb σ H1 Q) : Wh K Γ S fun H => tIf c ta tb σ H Q := k
theorem w_seq (k : Wh K Γ S fun H => s1 { D with nx := s2 D } σ H) : Wh K Γ S fun H => tSeq s1 s2 D σ H := k
theorem w_next (k : Wh K Γ S fun H => D.nx σ H) : Wh K Γ S fun H => tNext D σ H := k
theorem w_brk (k : Wh K Γ S fun H => D.bk σ H) : Wh K Γ S fun H => tBreak D σ H := k
theorem w_cont (k : Wh K Γ S fun H => D.ct σ H) : Wh K Γ S fun H => tCont D σ H := k
theorem w_ifS (k : Wh K Γ S fun H => c σ H fun d H1 => if d = true then s1 D σ H1 else s2 D σ H1) : Wh K Γ S fun H => tIfS c s1 s2 D σ H := k
theorem w_asg (k : Wh K Γ S fun H => te σ H fun x H1 => g x σ H1 D.nx) : Wh K Γ S fun H => tAsg te g D σ H := k
theorem w_gn {Q : St → Hp → Prop} (k : Wh K Γ S fun H => Q (σ.set i (some v)) H) : Wh K Γ S fun H => gName i v σ H Q := k
theorem w_gsub {st : TSet} {Q : St → Hp → Prop} (k : Wh K Γ S fun H => ta σ H fun o H1 => tb σ H1 fun j H2 => st o j v H2 fun H3 => Q σ H3) : Wh K Γ S fun H => gSub ta tb st v σ H Q := k
theorem w_gcons {tg : TG} {tgs : TGs} {vs : List V} {Q : St → Hp → Prop} (k : Wh K Γ S fun H => tg v σ H fun σ1 H1 => tgs vs σ1 H1 Q) : Wh K Γ S fun H => gCons tg tgs (v :: vs) σ H Q := fun H z => ⟨v, vs, rfl, k H z⟩
theorem w_gnil {Q : St → Hp → Prop} (k : Wh K Γ S fun H => Q σ H) : Wh K Γ S fun H => gNil [] σ H Q := fun H z => ⟨rfl, k H z⟩
theorem w_ret (k : Wh K Γ S fun H => te σ H D.rt) : Wh K Γ S fun H => tRet te D σ H := k
theorem w_drop (k : Wh K Γ S fun H => te σ H fun _ H1 => D.nx σ H1) : Wh K Γ S fun H => tDrop te D σ H := k
theorem w_call {sp : Sp} {E : St → XK} (k : Wh K Γ S fun H => tA σ H fun vs H1 => sp vs H1 Q (E σ)) : Wh K Γ S fun H => tCallS sp E tA σ H Q := k
theorem w_bm0 {T : String} {r : V → List V → Hp → VK → Prop} (k : Wh K Γ S fun H => ta σ H fun x H1 => tyV K T x H1 ∧ r x [] H1 Q) : Wh K Γ S fun H => tBM0 K T r ta σ H Q := k
theorem w_bm {T : String} {r : V → List V → Hp → VK → Prop} (k : Wh K Γ S fun H => ta σ H fun x H1 => tyV K T x H1 ∧ tA σ H1 fun xs H2 => r x xs H2 Q) : Wh K Γ S fun H => tBM K T r ta tA σ H Q := k
theorem w_sl {r : V → Option Int → Option Int → Hp → VK → Prop} {tl th : TO} (k : Wh K Γ S fun H => te σ H fun x H1 => tl σ H1 fun l H2 => th σ H2 fun u H3 => r x l u H3 Q) : Wh K Γ S fun H => tSl r te tl th σ H Q := k
theorem w_nopart {Q : Option Int → Hp → Prop} (k : Wh K Γ S fun H => Q none H) : Wh K Γ S fun H => tNoPart σ H Q := k
theorem w_part {Q : Option Int → Hp → Prop} (k : Wh K Γ S fun H => te σ H fun x H1 => ∃ i, x = .int i ∧ Q (some i) H1) : Wh K Γ S fun H => tPart te σ H Q := k
theorem w_int {j : Int} {Q : Int → Hp → Prop} (k : Wh K Γ S fun H => Q j H) : Wh K Γ S fun H => ∃ i, V.int j = .int i ∧ Q i H := fun H z => ⟨j, rfl, k H z⟩
theorem w_aug {ti : TIp} (h : σ[i]? = some (some x)) (k : Wh K Γ S fun H => te σ H fun y H1 => ti x y H1 fun z H2 => D.nx (σ.set i (some z)) H2) : Wh K Γ S fun H => tAug i te ti D σ H := fun H z => ⟨x, h, k H z⟩
theorem w_ipI {f : Int → Int → Int} {a b : Int} (k : Wh K Γ S fun H => Q (.int (f a b)) H) : Wh K Γ S fun H => ipI f (.int a) (.int b) H Q := fun H z => ⟨a, b, rfl, rfl, k H z⟩
theorem w_raise {C : Addr} {E : XK} (k : Wh K Γ S fun H => E (.ref C) none H) : Wh K Γ S fun H => E (.ref C) none H := k
/-! #### operations on values -/
theorem w_I0 {f : Int → Int → V} {a b : Int} (k : Wh K Γ S fun H => Q (f a b) H) : Wh K Γ S fun H => rI0 f (.int a) (.int b) H Q := fun H z => ⟨a, b, rfl, rfl, k H z⟩
theorem w_I {C : Int → Int → Prop} {f : Int → Int → V} {a b : Int} (hc : C a b) (k : Wh K Γ S fun H => Q (f a b) H) : Wh K Γ S fun H => rI C f (.int a) (.int b) H Q := fun H z => ⟨a, b, rfl, rfl, hc, k H z⟩
theorem w_rU {f : Int → V} {a : Int} (k : Wh K Γ S fun H => Q (f a) H) : Wh K Γ S fun H => rU f (.int a) H Q := fun H z => ⟨a, rfl, k H z⟩
theorem w_mod {f : Int → Int → V} {a b : Int} (hb : b ≠ 0) (k : Wh K Γ S fun H => Q (f a b) H) : Wh K Γ S fun H => rI CMod f (.int a) (.int b) H Q := w_I hb k
theorem w_div {f : Int → Int → V} {a b : Int} (n : Nat) (hb : b ≠ 0) (h : Bd n b) (k : Wh K Γ S fun H => Q (f a b) H) (h0 : 0 < n := by decide) (h9 : n ≤ 9000 := by decide) : Wh K Γ S fun H => rI CDivX f (.int a) (.int b) H Q := w_I ⟨hb, Nat.lt_of_lt_of_le (log2_bd h h0) h9⟩ k
theorem w_mul {f : Int → Int → V} {a b : Int} {m n : Nat} (h1 : Bd m a) (h2 : Bd n b) (k : Wh K Γ S fun H => Q (f a b) H) (h3 : 0 < m := by decide) (h4 : 0 < n := by decide) (h5 : m + n ≤ 134000000 := by decide) : Wh K Γ S fun H => rI CMulX f (.int a) (.int b) H Q := w_I (mulX_of m n h1 h2 h3 h4 h5) k
theorem w_eqi {a b : Int} (k : Wh K Γ S fun H => Q (.bl (decide (a = b))) H) : Wh K Γ S fun H => rEqA K (.int a) (.int b) H Q := fun H z => go_eqi (k H z)
theorem w_nei {a b : Int} (k : Wh K Γ S fun H => Q (.bl (!decide (a = b))) H) : Wh K Γ S fun H => rNeA K (.int a) (.int b) H Q := fun H z => go_nei (k H z)
theorem w_eqb {a b : Bool} (k : Wh K Γ S fun H => Q (.bl (decide (a = b))) H) : Wh K Γ S fun H => rEqA K (.bl a) (.bl b) H Q := fun H z => go_eqb (k H z)
theorem w_neb {a b : Bool} (k : Wh K Γ S fun H => Q (.bl (!decide (a = b))) H) : Wh K Γ S fun H => rNeA K (.bl a) (.bl b) H Q := fun H z => go_neb (k H z)
theorem w_eqsT {a : Str} (k : Wh K Γ S fun H => Q (.bl true) H) : Wh K Γ S fun H => rEqA K (.str a) (.str a) H Q := fun H z => go_eqsT rfl (k H z)
theorem w_eqsF {a b : Str} (h : ¬ a = b) (k : Wh K Γ S fun H => Q (.bl false) H) : Wh K Γ S fun H => rEqA K (.str a) (.str b) H Q := fun H z => go_eqsF h (k H z)
theorem w_nesT {a : Str} (k : Wh K Γ S fun H => Q (.bl false) H) : Wh K Γ S fun H => rNeA K (.str a) (.str a) H Q := fun H z => go_nes (by rw [decide_eq_true rfl]; exact k H z)
theorem w_nesF {a b : Str} (h : ¬ a = b) (k : Wh K Γ S fun H => Q (.bl true) H) : Wh K Γ S fun H => rNeA K (.str a) (.str b) H Q := fun H z => go_nes (by rw [decide_eq_false h]; exact k H z)
theorem w_eqs {a b : Str} (k : Wh K Γ S fun H => Q (.bl (decide (a = b))) H) : Wh K Γ S fun H => rEqA K (.str a) (.str b) H Q := fun H z => go_eqs (k H z)
theorem w_nes {a b : Str} (k : Wh K Γ S fun H => Q (.bl (!decide (a = b))) H) : Wh K Γ S fun H => rNeA K (.str a) (.str b) H Q := fun H z => go_nes (k H z)
theorem w_eqD {a b : V} {d e : PyData} (ha : DV K Γ a d) (hb : DV K Γ b e) (sa : SeqAt.shaped d = true) (sb : SeqAt.shaped e = true) (k : Wh K Γ S fun H => Q (.bl (PyData.eqv d e)) H) : Wh K Γ S fun H => rEqA K a b H Q := fun H z => by
  obtain ⟨G, h1, h2⟩ := id z
  exact go_eqD (dp_mono h1.ex (ha G h2)) (dp_mono h1.ex (hb G h2)) sa sb (k H z)
theorem w_neD {a b : V} {d e : PyData} (ha : DV K Γ a d) (hb : DV K Γ b e) (sa : SeqAt.shaped d = true) (sb : SeqAt.shaped e = true) (k : Wh K Γ S fun H => Q (.bl (!PyData.eqv d e)) H) : Wh K Γ S fun H => rNeA K a b H Q := fun H z => by
  obtain ⟨G, h1, h2⟩ := id z
  exact go_neD (dp_mono h1.ex (ha G h2)) (dp_mono h1.ex (hb G h2)) sa sb (k H z)
theorem w_isN (k : Wh K Γ S fun H => Q (.bl (decide (x = .non))) H) : Wh K Γ S fun H => rIsN1 x .non H Q := fun H z => ⟨rfl, k H z⟩
theorem w_notN (k : Wh K Γ S fun H => Q (.bl (!decide (x = .non))) H) : Wh K Γ S fun H => rNotN1 x .non H Q := fun H z => ⟨rfl, k H z⟩
theorem w_isN_t (k : Wh K Γ S fun H => Q (.bl true) H) : Wh K Γ S fun H => rIsN1 .non .non H Q := fun H z => ⟨rfl, k H z⟩
theorem w_notN_t (k : Wh K Γ S fun H => Q (.bl false) H) : Wh K Γ S fun H => rNotN1 .non .non H Q := fun H z => ⟨rfl, k H z⟩
theorem w_isN_r {a : Addr} (k : Wh K Γ S fun H => Q (.bl false) H) : Wh K Γ S fun H => rIsN1 (.ref a) .non H Q := fun H z => ⟨rfl, k H z⟩
theorem w_notN_r {a : Addr} (k : Wh K Γ S fun H => Q (.bl true) H) : Wh K Γ S fun H => rNotN1 (.ref a) .non H Q := fun H z => ⟨rfl, k H z⟩
theorem w_isN_i {a : Int} (k : Wh K Γ S fun H => Q (.bl false) H) : Wh K Γ S fun H => rIsN1 (.int a) .non H Q := fun H z => ⟨rfl, k H z⟩
theorem w_notN_i {a : Int} (k : Wh K Γ S fun H => Q (.bl true) H) : Wh K Γ S fun H => rNotN1 (.int a) .non H Q := fun H z => ⟨rfl, k H z⟩
theorem w_addI {a b : Int} (k : Wh K Γ S fun H => Q (.int (a + b)) H) : Wh K Γ S fun H => rAddA K (.int a) (.int b) H Q := fun H z => go_addI (k H z)
theorem w_addS {a b : Str} (h : a.length + b.length ≤ sizeLine) (k : Wh K Γ S fun H => Q (.str (a ++ b)) H) : Wh K Γ S fun H => rAddA K (.str a) (.str b) H Q := fun H z => go_addS h (k H z)
theorem w_addR {a b : Int} (k : Wh K Γ S fun H => Q (.int (a + b)) H) : Wh K Γ S fun H => rAdd (.int a) (.int b) H Q := fun H z => go_addR (k H z)
theorem w_subR {a b : Int} (k : Wh K Γ S fun H => Q (.int (a - b)) H) : Wh K Γ S fun H => L2.rSub (.int a) (.int b) H Q := fun H z => go_subR (k H z)
theorem w_ltI {a b : Int} (k : Wh K Γ S fun H => Q (.bl (decide (a < b))) H) : Wh K Γ S fun H => rLtA K (.int a) (.int b) H Q := fun H z => go_ltI (k H z)
theorem w_ltT {v w : V} {ns ms : List Int} (ha : DV K Γ v (.tuple (ns.map PyData.int))) (hb : DV K Γ w (.tuple (ms.map PyData.int))) (k : Wh K Γ S fun H => Q (.bl (HT.lexLt ns ms)) H) : Wh K Γ S fun H => rLtA K v w H Q := fun H z => by
  obtain ⟨G, h1, h2⟩ := id z
  obtain ⟨a, xs, rfl, a1, a2⟩ := dp_tup (dp_mono h1.ex (ha G h2))
  obtain ⟨b, ys, rfl, b1, b2⟩ := dp_tup (dp_mono h1.ex (hb G h2))
  obtain rfl := dpa_ints' a2
  obtain rfl := dpa_ints' b2
  exact go_ltT a1 b1 (k H z)
theorem w_leI {a b : Int} (k : Wh K Γ S fun H => Q (.bl (decide (a ≤ b))) H) : Wh K Γ S fun H => rLeA K (.int a) (.int b) H Q := fun H z => .inl ⟨a, b, rfl, rfl, k H z⟩
theorem w_geI {a b : Int} (k : Wh K Γ S fun H => Q (.bl (decide (b ≤ a))) H) : Wh K Γ S fun H => rGeA K (.int a) (.int b) H Q := fun H z => .inl ⟨a, b, rfl, rfl, k H z⟩
theorem w_leT {v w : V} {ns ms : List Int} (ha : DV K Γ v (.tuple (ns.map PyData.int))) (hb : DV K Γ w (.tuple (ms.map PyData.int))) (k : Wh K Γ S fun H => Q (.bl (!HT.lexLt ms ns)) H) : Wh K Γ S fun H => rLeA K v w H Q := fun H z => by
  obtain ⟨G, h1, h2⟩ := id z
  obtain ⟨a, xs, rfl, a1, a2⟩ := dp_tup (dp_mono h1.ex (ha G h2))
  obtain ⟨b, ys, rfl, b1, b2⟩ := dp_tup (dp_mono h1.ex (hb G h2))
  obtain rfl := dpa_ints' a2
  obtain rfl := dpa_ints' b2
  exact .inr ⟨a, b, ns, ms, rfl, rfl, a1, b1, by rw [lexAt_le]; exact k H z⟩
theorem w_geT {v w : V} {ns ms : List Int} (ha : DV K Γ v (.tuple (ns.map PyData.int))) (hb : DV K Γ w (.tuple (ms.map PyData.int))) (k : Wh K Γ S fun H => Q (.bl (!HT.lexLt ns ms)) H) : Wh K Γ S fun H => rGeA K v w H Q := fun H z => by
  obtain ⟨G, h1, h2⟩ := id z
  obtain ⟨a, xs, rfl, a1, a2⟩ := dp_tup (dp_mono h1.ex (ha G h2))
  obtain ⟨b, ys, rfl, b1, b2⟩ := dp_tup (dp_mono h1.ex (hb G h2))
  obtain rfl := dpa_ints' a2
  obtain rfl := dpa_ints' b2
  exact .inr ⟨a, b, ns, ms, rfl, rfl, a1, b1, k H z⟩
theorem w_truB {K' : PySem.W.Frag} {b : Bool} {Q : Bool → Hp → Prop} (k : Wh K Γ S fun H => Q b H) : Wh K Γ S fun H => ∃ d, TruV K' (.bl b) H d ∧ Q d H := fun H z => ⟨b, rfl, k H z⟩
theorem w_truN {K' : PySem.W.Frag} {Q : Bool → Hp → Prop} (k : Wh K Γ S fun H => Q false H) : Wh K Γ S fun H => ∃ d, TruV K' .non H d ∧ Q d H := fun H z => ⟨false, rfl, k H z⟩
theorem w_isi {x c : V} {t u : Value} {b : Bool} (hc : ClsV c u) (ht : ∀ H, Hg K Γ S H → TyX K H x t) (hk : PySem.W.kitOne K t u = some b) (k : Wh K Γ S fun H => Q (.bl b) H) : Wh K Γ S fun H => rIsi K [x, c] H Q := fun H z => go_isi hc (ht H z) hk (k H z)
theorem w_pow15 (k : Wh K Γ S fun H => Q (.int 1000000000000000) H) : Wh K Γ S fun H => rI CPow (fun i j => .int (i ^ j.toNat)) (.int 10) (.int 15) H Q := fun H z => go_pow15 (k H z)
theorem w_pow12 (k : Wh K Γ S fun H => Q (.int 1000000000000) H) : Wh K Γ S fun H => rI CPow (fun i j => .int (i ^ j.toNat)) (.int 10) (.int 12) H Q := fun H z => go_pow12 (k H z)
theorem w_pow6 (k : Wh K Γ S fun H => Q (.int 1000000) H) : Wh K Γ S fun H => rI CPow (fun i j => .int (i ^ j.toNat)) (.int 10) (.int 6) H Q := fun H z => go_pow6 (k H z)
theorem w_ite {p : Prop} [Decidable p] (h1 : p → Wh K Γ S A) (h2 : ¬ p → Wh K Γ S B) : Wh K Γ S fun H => if decide p = true then A H else B H := fun H z => go_ite (fun h => h1 h H z) fun h => h2 h H z
theorem w_iteN {p : Prop} [Decidable p] (h1 : ¬ p → Wh K Γ S A) (h2 : p → Wh K Γ S B) : Wh K Γ S fun H => if (!decide p) = true then A H else B H := fun H z => go_iteN (fun h => h1 h H z) fun h => h2 h H z
theorem w_iteB {b : Bool} (h1 : b = true → Wh K Γ S A) (h2 : b = false → Wh K Γ S B) : Wh K Γ S fun H => if b = true then A H else B H := fun H z => by
  cases b with
  | true => exact iteT (h1 rfl H z)
  | false => exact iteF (h2 rfl H z)
theorem w_iteBN {b : Bool} (h1 : b = false → Wh K Γ S A) (h2 : b = true → Wh K Γ S B) : Wh K Γ S fun H => if (!b) = true then A H else B H := fun H z => by
  cases b with
  | true => exact iteF (h2 rfl H z)
  | false => exact iteT (h1 rfl H z)
theorem w_iteT (h : Wh K Γ S A) : Wh K Γ S fun H => if true = true then A H else B H := fun H z => iteT (h H z)
theorem w_iteF (h : Wh K Γ S B) : Wh K Γ S fun H => if false = true then A H else B H := fun H z => iteF (h H z)
theorem w_iteFn (h : Wh K Γ S A) : Wh K Γ S fun H => if (!false) = true then A H else B H := fun H z => iteT (h H z)
theorem w_iteTn (h : Wh K Γ S B) : Wh K Γ S fun H => if (!true) = true then A H else B H := fun H z => iteF (h H z)
/-! #### new objects -/
theorem w_tupD {xs : List V} {ds : List PyData} (hl : Nat.ble xs.length 100000 = true) (h : DL K Γ xs ds) (k : ∀ p, Wh K (.dat (.ref p) (.tuple ds) :: Γ) S fun H => Q (.ref p) H) : Wh K Γ S fun H => mkT xs H Q := fun H z =>
  ⟨by rw [sizeLine_eq]; have := Nat.le_of_ble_eq_true hl; omega, fun p hp => k p _ ((z.fix hp).learn (f := .dat (.ref p) (.tuple ds)) (fun G b => .tup (SqT.of (b _ List.mem_cons_self)) (h G fun f m => b f (List.mem_cons_of_mem _ m))) |>.weak fun f m => by
    rcases List.mem_cons.mp m with e | m
    · rw [e]; exact List.mem_cons_self
    · exact List.mem_cons_of_mem _ (List.mem_cons_of_mem _ m))⟩
theorem w_tupO {xs : List V} (hl : Nat.ble xs.length 100000 = true) (k : ∀ p, Wh K (.obj p (.tup xs) :: Γ) S fun H => Q (.ref p) H) : Wh K Γ S fun H => mkT xs H Q := fun H z =>
  ⟨by rw [sizeLine_eq]; have := Nat.le_of_ble_eq_true hl; omega, fun p hp => k p _ (z.fix hp)⟩
theorem w_lstO {xs : List V} (k : ∀ p, Wh K Γ (own p (.lst xs) :: S) fun H => Q (.ref p) H) (hl : Nat.ble xs.length 100000 = true := by rfl) : Wh K Γ S fun H => mkL xs H Q := fun H z =>
  ⟨by rw [sizeLine_eq]; have := Nat.le_of_ble_eq_true hl; omega, fun p hp => k p _ (z.new hp)⟩
theorem w_lenv {vs : List V} {ds : List PyData} (m : .dats vs ds ∈ Γ) (k : vs.length = ds.length → Wh K Γ S A) : Wh K Γ S A := fun H z => k (dpa_len (z.fact m : DpAll K H vs ds)) H z
theorem w_new {o : HO} (k : ∀ p, Wh K Γ (own p o :: S) fun H => Q (.ref p) H) : Wh K Γ S fun H => ∀ p, H p = none → Q (.ref p) (upd H p o) := fun H z p hp => k p _ (z.new hp)
theorem w_dK (k : ∀ p, Wh K Γ (own p (.dK []) :: S) fun H => Q (.ref p) H) : Wh K Γ S fun H => tDNew σ H Q := fun H z => go_dK fun p hp => k p _ (z.new hp)
theorem w_dT (k : ∀ p, Wh K Γ (own p (.dT []) :: S) fun H => Q (.ref p) H) : Wh K Γ S fun H => tDNew σ H Q := fun H z => go_dT fun p hp => k p _ (z.new hp)
/-- a list that is to stay -/
theorem w_freeze {p : Addr} {xs : List V} {ds : List PyData} (m : Take (own p (.lst xs)) S S') (h : DL K Γ xs ds) (k : Wh K (.dat (.ref p) (.list ds) :: Γ) S' A) : Wh K Γ S A := fun H z =>
  k H ((((z.tk1 m).freeze).learn (f := .dat (.ref p) (.list ds)) (fun G b => .lst (SqL.of (b _ List.mem_cons_self)) (h G fun f m => b f (List.mem_cons_of_mem _ m)))).weak fun f m => by
    rcases List.mem_cons.mp m with e | m
    · rw [e]; exact List.mem_cons_self
    · exact List.mem_cons_of_mem _ (List.mem_cons_of_mem _ m))
theorem w_freezeO {p : Addr} {o : HO} (m : Take (own p o) S S') (k : Wh K (.obj p o :: Γ) S' A) : Wh K Γ S A := fun H z => k H ((z.tk1 m).freeze)
theorem Hg.freezeD {p : Addr} {xs : List V} {ds : List PyData} (z : Hg K Γ S H) (m : Take (Mo.own p (.lst xs)) S S') (h : DL K Γ xs ds) : Hg K (.dat (.ref p) (.list ds) :: Γ) S' H := w_freeze (A := fun H => Hg K (.dat (.ref p) (.list ds) :: Γ) S' H) m h (fun _ z => z) H z
/-- data that follows from the facts is a fact -/
theorem w_dat {v : V} {d : PyData} (h : DV K Γ v d) (k : Wh K (.dat v d :: Γ) S A) : Wh K Γ S A := Wh.learn (f := .dat v d) h k
theorem w_dats {vs : List V} {ds : List PyData} (h : DL K Γ vs ds) (k : Wh K (.dats vs ds :: Γ) S A) : Wh K Γ S A := Wh.learn (f := .dats vs ds) h k
/-- a number drawn -/
theorem w_draw {pu : Addr} {n : Int} {E : XK} (m : pur pu ∈ S) (h0 : 0 < n) (hb : n ≤ 1000000000000000000) (k : ∀ d : Nat, (d : Int) < n → Wh K Γ S fun H => Q (.int (d : Int)) H) : Wh K Γ S fun H => spDraw [.ref pu, .int n] H Q E := fun H ⟨G, z1, z2⟩ =>
  ⟨G, S.flatten, pu, n, rfl, z1, List.mem_flatten.mpr ⟨_, m, List.mem_cons_self⟩, h0, Bd.mono (a := 60) (by show n.natAbs < 1152921504606846976; omega) (by decide), fun d H' d0 d1 z3 => by
    obtain ⟨e, rfl⟩ : ∃ e : Nat, d = (e : Int) := ⟨d.toNat, by omega⟩
    exact k e d1 H' ⟨G, z3, z2⟩⟩
/-! #### what stands there -/
theorem w_sub {p : Addr} {xs : List V} {j : Int} (m : AtH K Γ S p (.lst xs)) (e : atI xs j = some v) (k : Wh K Γ S fun H => Q v H) : Wh K Γ S fun H => rSub K (.ref p) (.int j) H Q := fun H z => go_subL (SqL.of (m H z)) e (k H z)
theorem w_subO {p : Addr} {xs : List V} {j : Int} (m : .obj p (.tup xs) ∈ Γ) (e : atI xs j = some v) (k : Wh K Γ S fun H => Q v H) : Wh K Γ S fun H => rSub K (.ref p) (.int j) H Q := fun H z => go_subT (SqT.of (z.obj m)) e (k H z)
theorem dpa_atI {G : Hp} {vs : List V} {ds : List PyData} {j : Int} {d : PyData} (h : DpAll K G vs ds) (e : atI ds j = some d) : ∃ v, atI vs j = some v ∧ Dp K G v d := by
  have hl := dpa_len h
  unfold atI at e ⊢
  rw [hl]
  cases q : ixN ds.length j with
  | none => rw [q] at e; cases e
  | some n =>
    rw [q] at e
    exact dpa_get h e
theorem gT {x : V} {ds : List PyData} {j : Int} {d : PyData} (m : .dat x (.tuple ds) ∈ Γ) (e : atI ds j = some d) (z : Hg K Γ S H) : ∃ a xs v, x = .ref a ∧ SqT K H a xs ∧ atI xs j = some v ∧ Hg K (.dat v d :: Γ) S H := by
  obtain ⟨G, h1, h2⟩ := z
  obtain ⟨a, xs, rfl, t1, t2⟩ := dp_tup (h2 _ m : Dp K G x (.tuple ds))
  obtain ⟨v, e1, e2⟩ := dpa_atI t2 e
  exact ⟨a, xs, v, rfl, ext_t h1.ex t1, e1, G, h1, cons_facts e2 h2⟩
theorem gL {x : V} {ds : List PyData} {j : Int} {d : PyData} (m : .dat x (.list ds) ∈ Γ) (e : atI ds j = some d) (z : Hg K Γ S H) : ∃ a xs v, x = .ref a ∧ SqL K H a xs ∧ atI xs j = some v ∧ Hg K (.dat v d :: Γ) S H := by
  obtain ⟨G, h1, h2⟩ := z
  obtain ⟨a, xs, rfl, t1, t2⟩ := dp_lst (h2 _ m : Dp K G x (.list ds))
  obtain ⟨v, e1, e2⟩ := dpa_atI t2 e
  exact ⟨a, xs, v, rfl, ext_l h1.ex t1, e1, G, h1, cons_facts e2 h2⟩
/-- the value of data: its address, if it has one -/
def valOf (d : PyData) (a : Addr) : V := match d with
  | .none => .non
  | .bool b => .bl b
  | .int i => .int i
  | .str x => .str x
  | .list _ => .ref a
  | .tuple _ => .ref a
  | .dict _ => .ref a
theorem valOf_n {a : Addr} : valOf .none a = .non := rfl
theorem valOf_b {a : Addr} {b : Bool} : valOf (.bool b) a = .bl b := rfl
theorem valOf_i {a : Addr} {i : Int} : valOf (.int i) a = .int i := rfl
theorem valOf_s {a : Addr} {x : Str} : valOf (.str x) a = .str x := rfl
theorem valOf_l {a : Addr} {ds : List PyData} : valOf (.list ds) a = .ref a := rfl
theorem valOf_t {a : Addr} {ds : List PyData} : valOf (.tuple ds) a = .ref a := rfl
theorem dp_val {G : Hp} {v : V} {d : PyData} (h : Dp K G v d) : ∃ a, v = valOf d a := by
  cases h with
  | non => exact ⟨0, rfl⟩
  | bl b => exact ⟨0, rfl⟩
  | int i => exact ⟨0, rfl⟩
  | str x => exact ⟨0, rfl⟩
  | lst h r => exact ⟨_, rfl⟩
  | tup h r => exact ⟨_, rfl⟩
theorem w_subD {x : V} {ds : List PyData} {j : Int} {d : PyData} (m : .dat x (.tuple ds) ∈ Γ) (e : atI ds j = some d) (k : ∀ a, Wh K (.dat (valOf d a) d :: Γ) S fun H => Q (valOf d a) H) : Wh K Γ S fun H => rSub K x (.int j) H Q := fun H z => by
  obtain ⟨a, xs, v, rfl, t1, e1, z1⟩ := gT m e z
  obtain ⟨b, rfl⟩ := dp_val (z1.dat List.mem_cons_self)
  exact go_subT t1 e1 (k b H z1)
theorem w_subL {x : V} {ds : List PyData} {j : Int} {d : PyData} (m : .dat x (.list ds) ∈ Γ) (e : atI ds j = some d) (k : ∀ a, Wh K (.dat (valOf d a) d :: Γ) S fun H => Q (valOf d a) H) : Wh K Γ S fun H => rSub K x (.int j) H Q := fun H z => by
  obtain ⟨a, xs, v, rfl, t1, e1, z1⟩ := gL m e z
  obtain ⟨b, rfl⟩ := dp_val (z1.dat List.mem_cons_self)
  exact go_subL t1 e1 (k b H z1)
theorem w_subDi {x : V} {ds : List PyData} {j : Int} {i : Int} (m : .dat x (.tuple ds) ∈ Γ) (e : atI ds j = some (.int i)) (k : Wh K Γ S fun H => Q (.int i) H) : Wh K Γ S fun H => rSub K x (.int j) H Q := fun H z => by
  obtain ⟨a, xs, v, rfl, t1, e1, z1⟩ := gT m e z
  obtain rfl := dp_int (z1.dat List.mem_cons_self)
  exact go_subT t1 e1 (k H z)
theorem w_subDs {x : V} {ds : List PyData} {j : Int} {i : Str} (m : .dat x (.tuple ds) ∈ Γ) (e : atI ds j = some (.str i)) (k : Wh K Γ S fun H => Q (.str i) H) : Wh K Γ S fun H => rSub K x (.int j) H Q := fun H z => by
  obtain ⟨a, xs, v, rfl, t1, e1, z1⟩ := gT m e z
  obtain rfl := dp_str (z1.dat List.mem_cons_self)
  exact go_subT t1 e1 (k H z)
theorem w_subLi {x : V} {ds : List PyData} {j : Int} {i : Int} (m : .dat x (.list ds) ∈ Γ) (e : atI ds j = some (.int i)) (k : Wh K Γ S fun H => Q (.int i) H) : Wh K Γ S fun H => rSub K x (.int j) H Q := fun H z => by
  obtain ⟨a, xs, v, rfl, t1, e1, z1⟩ := gL m e z
  obtain rfl := dp_int (z1.dat List.mem_cons_self)
  exact go_subL t1 e1 (k H z)
theorem w_subLs {x : V} {ds : List PyData} {j : Int} {i : Str} (m : .dat x (.list ds) ∈ Γ) (e : atI ds j = some (.str i)) (k : Wh K Γ S fun H => Q (.str i) H) : Wh K Γ S fun H => rSub K x (.int j) H Q := fun H z => by
  obtain ⟨a, xs, v, rfl, t1, e1, z1⟩ := gL m e z
  obtain rfl := dp_str (z1.dat List.mem_cons_self)
  exact go_subL t1 e1 (k H z)
theorem w_subK {p : Addr} {kvs : List (Key × V)} {z : Str} (m : AtH K Γ S p (.dK kvs)) (e : valV kvs (Sum.inr z) = some v) (k : Wh K Γ S fun H => Q v H) : Wh K Γ S fun H => rSub K (.ref p) (.str z) H Q := fun H w => go_subK (m H w) e (k H w)
theorem w_setK {p : Addr} {kvs : List (Key × V)} {z : Str} (m : Sw p (.dK kvs) (.dK (putK kvs (Sum.inr z) v)) S S') (hl : kvs.length ≤ 100000) (k : Wh K Γ S' A) : Wh K Γ S fun H => rSet (.ref p) (.str z) v H A := fun H w => go_setK (w.own m.mem) (by rw [sizeLine_eq]; omega) (k _ (w.sw m))
theorem w_setL {p : Addr} {xs : List V} {j : Int} {n : Nat} (m : Sw p (.lst xs) (.lst (xs.set n v)) S S') (hj : j = (n : Int)) (hn : n < xs.length) (k : Wh K Γ S' A) : Wh K Γ S fun H => rSet (.ref p) (.int j) v H A := fun H w => go_setL (w.own m.mem) (ixN_nat hj hn) (k _ (w.sw m))
theorem w_fldL {a C dx : Addr} {fs : List (Str × V)} {f : Str} {A : V → Hp → Prop} (m : AtH K Γ S a (.ins C dx fs)) (hl : fs.lookup f = some v) (hc : Cls K C) (hn : NoAttr K C f) (k : Wh K Γ S fun H => A v H) :
    Wh K Γ S fun H => ∃ b C' dx' fs' v', V.ref a = .ref b ∧ H b = some (.ins C' dx' fs') ∧ Cls K C' ∧ NoAttr K C' f ∧ fs'.lookup f = some v' ∧ A v' H := fun H z => ⟨a, C, dx, fs, v, rfl, m H z, hc, hn, hl, k H z⟩
theorem w_fld {f : Str} (k : Wh K Γ S fun H => ta σ H fun x H1 => ∃ a C dx fs v, x = .ref a ∧ H1 a = some (.ins C dx fs) ∧ Cls K C ∧ NoAttr K C f ∧ fs.lookup f = some v ∧ Q v H1) : Wh K Γ S fun H => tFld K ta f σ H Q := k
theorem w_sfld {f : Str} (k : Wh K Γ S fun H => tb σ H fun y H1 => ta σ H1 fun x H2 => ∃ a C dx fs, x = .ref a ∧ H2 a = some (.ins C dx fs) ∧ Cls K C ∧ NoAttr K C f ∧ fs.length < 1000 ∧ D.nx σ (upd H2 a (.ins C dx (putF f y fs)))) : Wh K Γ S fun H => sFld K ta tb f D σ H := k
theorem w_sfldL {a C dx : Addr} {fs fs' : List (Str × V)} {f : Str} {y : V} (m : Sw a (.ins C dx fs) (.ins C dx fs') S S') (hp : putF f y fs = fs') (hc : Cls K C) (hn : NoAttr K C f) (hl : Nat.blt fs.length 1000 = true) (k : Wh K Γ S' A) :
    Wh K Γ S fun H => ∃ b C' dx' fs', V.ref a = .ref b ∧ H b = some (.ins C' dx' fs') ∧ Cls K C' ∧ NoAttr K C' f ∧ fs'.length < 1000 ∧ A (upd H b (.ins C' dx' (putF f y fs'))) := fun H z => ⟨a, C, dx, fs, rfl, z.own m.mem, hc, hn, Nat.blt_eq.mp hl, by rw [hp]; exact k _ (z.sw m)⟩
theorem w_fldaug {rd : V → V → Hp → VK → Prop} {f : Str} (k : Wh K Γ S fun H => ta σ H fun x H1 => ∃ a C dx fs v, x = .ref a ∧ H1 a = some (.ins C dx fs) ∧ Cls K C ∧ NoAttr K C f ∧ fs.lookup f = some v ∧ tb σ H1 fun y H2 => rd v y H2 fun z H3 => ∃ dx' fs', H3 a = some (.ins C dx' fs') ∧ fs'.length < 1000 ∧ D.nx σ (upd H3 a (.ins C dx' (putF f z fs')))) : Wh K Γ S fun H => sFldAug K ta tb rd f D σ H := k
theorem w_fldaugL {a C dx : Addr} {fs : List (Str × V)} {f : Str} {A : Addr → Addr → V → Hp → Prop} (m : AtH K Γ S a (.ins C dx fs)) (hl : fs.lookup f = some v) (hc : Cls K C) (hn : NoAttr K C f) (k : Wh K Γ S fun H => A a C v H) :
    Wh K Γ S fun H => ∃ b C' dx' fs' v', V.ref a = .ref b ∧ H b = some (.ins C' dx' fs') ∧ Cls K C' ∧ NoAttr K C' f ∧ fs'.lookup f = some v' ∧ A b C' v' H := fun H z => ⟨a, C, dx, fs, v, rfl, m H z, hc, hn, hl, k H z⟩
theorem w_putL {a C dx : Addr} {fs fs' : List (Str × V)} {f : Str} {y : V} (m : Sw a (.ins C dx fs) (.ins C dx fs') S S') (hp : putF f y fs = fs') (hl : Nat.blt fs.length 1000 = true) (k : Wh K Γ S' A) :
    Wh K Γ S fun H => ∃ dx' fs', H a = some (.ins C dx' fs') ∧ fs'.length < 1000 ∧ A (upd H a (.ins C dx' (putF f y fs'))) := fun H z => ⟨dx, fs, z.own m.mem, Nat.blt_eq.mp hl, by rw [hp]; exact k _ (z.sw m)⟩
theorem w_meth {C : Addr} {m : Str} {sp : Sp} {E : St → XK} (k : Wh K Γ S fun H => ta σ H fun x H1 => ∃ a dx fs, x = .ref a ∧ H1 a = some (.ins C dx fs) ∧ fs.lookup m = none ∧ tA σ H1 fun vs H2 => sp (x :: vs) H2 Q (E σ)) : Wh K Γ S fun H => tMethS C m sp E ta tA σ H Q := k
theorem w_methL {a C dx : Addr} {fs : List (Str × V)} {f : Str} (m : AtH K Γ S a (.ins C dx fs)) (hl : fs.lookup f = none) (k : Wh K Γ S A) :
    Wh K Γ S fun H => ∃ b dx' fs', V.ref a = .ref b ∧ H b = some (.ins C dx' fs') ∧ fs'.lookup f = none ∧ A H := fun H z => ⟨a, dx, fs, rfl, m H z, hl, k H z⟩
theorem w_make {C : Addr} {sp : Sp} {E : St → XK} (k : Wh K Γ S fun H => tA σ H fun vs H1 => mkI C sp vs H1 Q (E σ)) : Wh K Γ S fun H => tMakeS C sp E tA σ H Q := k
theorem Hg.made {x dx C : Addr} {fs : List (Str × V)} (z : Hg K Γ S H) (nx : H x = none) (nd : H dx = none) (ne : dx ≠ x) : Hg K Γ (Mo.own x (.ins C dx fs) :: S) (upd (upd H dx (.own x)) x (.ins C dx fs)) := let ⟨G, a, b⟩ := z; ⟨G, a.made nx nd ne rfl, b⟩
theorem w_made {C : Addr} {sp : Sp} {vs : List V} {E : XK} (k : ∀ x dx, Wh K Γ (own x (.ins C dx []) :: S) fun H => sp (.ref x :: vs) H (fun v H2 => v = .non ∧ Q (.ref x) H2) E) : Wh K Γ S fun H => mkI C sp vs H Q E := fun H z x dx nx nd ne => k x dx _ (z.made nx nd ne)
theorem w_noned {A : V → Hp → Prop} (k : Wh K Γ S fun H => A .non H) : Wh K Γ S fun H => V.non = .non ∧ A .non H := fun H z => ⟨rfl, k H z⟩
/-! #### lists -/
theorem w_tyL {p : Addr} {xs : List V} (m : AtH K Γ S p (.lst xs)) (k : Wh K Γ S A) : Wh K Γ S fun H => tyV K "list" (.ref p) H ∧ A H := fun H z => go_tyL (SqL.of (m H z)) (k H z)
theorem w_tyD {v : V} {ds : List PyData} (m : .dat v (.list ds) ∈ Γ) (k : Wh K Γ S A) : Wh K Γ S fun H => tyV K "list" v H ∧ A H := fun H z => by
  obtain ⟨a, xs, rfl, h1, h2⟩ := dp_lst (z.dat m)
  exact go_tyL h1 (k H z)
theorem w_app {p : Addr} {xs : List V} (m : Sw p (.lst xs) (.lst (xs ++ [y])) S S') (hl : xs.length ≤ 100000) (k : Wh K Γ S' fun H => Q .non H) : Wh K Γ S fun H => rAppend (.ref p) [y] H Q := fun H z => go_app (z.own m.mem) (by rw [sizeLine_eq]; omega) (k _ (z.sw m))
theorem w_lenL {p : Addr} {xs : List V} (m : AtH K Γ S p (.lst xs)) (k : Wh K Γ S fun H => Q (.int (xs.length : Int)) H) : Wh K Γ S fun H => rLenA K [.ref p] H Q := fun H z => go_lenL (SqL.of (m H z)) (k H z)
theorem w_lenD {v : V} {ds : List PyData} (m : .dat v (.list ds) ∈ Γ) (k : Wh K Γ S fun H => Q (.int (ds.length : Int)) H) : Wh K Γ S fun H => rLenA K [v] H Q := fun H z => by
  obtain ⟨a, xs, rfl, h1, h2⟩ := dp_lst (z.dat m)
  have e := dpa_len h2
  refine go_lenL h1 ?_
  rw [e]
  exact k H z
theorem w_lenDT {v : V} {ds : List PyData} (m : .dat v (.tuple ds) ∈ Γ) (k : Wh K Γ S fun H => Q (.int (ds.length : Int)) H) : Wh K Γ S fun H => rLenA K [v] H Q := fun H z => by
  obtain ⟨a, xs, rfl, h1, h2⟩ := dp_tup (z.dat m)
  have e := dpa_len h2
  refine go_lenT h1 ?_
  rw [e]
  exact k H z
theorem w_lenS {z : Str} (h : z.length ≤ 100000) (k : Wh K Γ S fun H => Q (.int (z.length : Int)) H) : Wh K Γ S fun H => rLenA K [.str z] H Q := fun H w => go_lenS (by rw [sizeLine_eq]; omega) (k H w)
theorem w_lenK {p : Addr} {kvs : List (Key × V)} (m : AtH K Γ S p (.dK kvs)) (k : Wh K Γ S fun H => Q (.int (kvs.length : Int)) H) : Wh K Γ S fun H => rLenA K [.ref p] H Q := fun H z => go_lenK (m H z) (k H z)
theorem w_listL {p : Addr} {xs : List V} (m : AtH K Γ S p (.lst xs)) (k : ∀ l, Wh K Γ (own l (.lst xs) :: S) fun H => Q (.ref l) H) : Wh K Γ S fun H => rListOf K [.ref p] H Q := fun H z => go_listL (SqL.of (m H z)) fun l hl => k l _ (z.new hl)
theorem w_str {v : V} {x : Str} (m : .dat v (.str x) ∈ Γ) (k : v = .str x → Wh K Γ S A) : Wh K Γ S A := fun H z => k (dp_str (z.dat m)) H z
theorem w_intv {v : V} {x : Int} (m : .dat v (.int x) ∈ Γ) (k : v = .int x → Wh K Γ S A) : Wh K Γ S A := fun H z => k (dp_int (z.dat m)) H z
/-! #### targets -/
theorem w_gtO {n : Nat} {tgs : TGs} {a : Addr} {xs : List V} {Q : St → Hp → Prop} (m : .obj a (.tup xs) ∈ Γ) (hn : xs.length = n) (k : Wh K Γ S fun H => tgs xs σ H Q) : Wh K Γ S fun H => gTup K n tgs (.ref a) σ H Q := fun H z => go_gtup (SqT.of (z.obj m)) hn (k H z)
def zipF (vs : List V) (ds : List PyData) : List Fc := (vs.zip ds).map fun e => .dat e.1 e.2
theorem zipF_ok {G : Hp} : ∀ {vs : List V} {ds : List PyData}, DpAll K G vs ds → ∀ f ∈ zipF vs ds, f.In K G
  | _, _, .nil, f, m => by cases m
  | _, _, .cons h r, f, m => by
    rcases List.mem_cons.mp m with e | m
    · rw [e]; exact h
    · exact zipF_ok r f m
def valsOf : List PyData → List Addr → List V
  | d :: ds, a :: as => valOf d a :: valsOf ds as
  | _, _ => []
theorem dpa_vals {G : Hp} : ∀ {vs : List V} {ds : List PyData}, DpAll K G vs ds → ∃ as, as.length = ds.length ∧ vs = valsOf ds as
  | _, _, .nil => ⟨[], rfl, rfl⟩
  | _, _, .cons h r => by
    obtain ⟨a, rfl⟩ := dp_val h
    obtain ⟨as, h1, rfl⟩ := dpa_vals r
    exact ⟨a :: as, by rw [List.length_cons, List.length_cons, h1], rfl⟩
theorem w_gtD {n : Nat} {tgs : TGs} {v : V} {ds : List PyData} {Q : St → Hp → Prop} (m : .dat v (.tuple ds) ∈ Γ) (hn : ds.length = n) (k : ∀ as : List Addr, as.length = ds.length → Wh K (zipF (valsOf ds as) ds ++ Γ) S fun H => tgs (valsOf ds as) σ H Q) : Wh K Γ S fun H => gTup K n tgs v σ H Q := fun H z => by
  obtain ⟨G, h1, h2⟩ := z
  obtain ⟨a, xs, rfl, t1, t2⟩ := dp_tup (h2 _ m : Dp K G v (.tuple ds))
  obtain ⟨as, l1, rfl⟩ := dpa_vals t2
  have hl := dpa_len t2
  refine go_gtup (ext_t h1.ex t1) (hl.trans hn) (k as l1 H ⟨G, h1, fun f m => ?_⟩)
  rcases List.mem_append.mp m with m | m
  · exact zipF_ok t2 f m
  · exact h2 f m
theorem len2 {as : List Addr} {P : List Addr → Prop} (k : ∀ a b, P [a, b]) (h : as.length = 2) : P as := match as, h with | [a, b], _ => k a b
theorem len3 {as : List Addr} {P : List Addr → Prop} (k : ∀ a b c, P [a, b, c]) (h : as.length = 3) : P as := match as, h with | [a, b, c], _ => k a b c
theorem len4 {as : List Addr} {P : List Addr → Prop} (k : ∀ a b c d, P [a, b, c, d]) (h : as.length = 4) : P as := match as, h with | [a, b, c, d], _ => k a b c d
theorem len5 {as : List Addr} {P : List Addr → Prop} (k : ∀ a b c d e, P [a, b, c, d, e]) (h : as.length = 5) : P as := match as, h with | [a, b, c, d, e], _ => k a b c d e
theorem len6 {as : List Addr} {P : List Addr → Prop} (k : ∀ a b c d e f, P [a, b, c, d, e, f]) (h : as.length = 6) : P as := match as, h with | [a, b, c, d, e, f], _ => k a b c d e f
theorem len7 {as : List Addr} {P : List Addr → Prop} (k : ∀ a b c d e f g, P [a, b, c, d, e, f, g]) (h : as.length = 7) : P as := match as, h with | [a, b, c, d, e, f, g], _ => k a b c d e f g
section
variable {tgs : TGs} {Q : St → Hp → Prop} {d1 d2 d3 d4 d5 d6 d7 : PyData}
theorem w_gt2 (m : .dat v (.tuple [d1, d2]) ∈ Γ) (k : ∀ a b, Wh K (.dat (valOf d1 a) d1 :: .dat (valOf d2 b) d2 :: Γ) S fun H => tgs [valOf d1 a, valOf d2 b] σ H Q) : Wh K Γ S fun H => gTup K 2 tgs v σ H Q := w_gtD m rfl fun _ h => len2 (P := fun as => Wh K (zipF (valsOf [d1, d2] as) [d1, d2] ++ Γ) S fun H => tgs (valsOf [d1, d2] as) σ H Q) k h
theorem w_gt3 (m : .dat v (.tuple [d1, d2, d3]) ∈ Γ) (k : ∀ a b c, Wh K (.dat (valOf d1 a) d1 :: .dat (valOf d2 b) d2 :: .dat (valOf d3 c) d3 :: Γ) S fun H => tgs [valOf d1 a, valOf d2 b, valOf d3 c] σ H Q) : Wh K Γ S fun H => gTup K 3 tgs v σ H Q := w_gtD m rfl fun _ h => len3 (P := fun as => Wh K (zipF (valsOf [d1, d2, d3] as) [d1, d2, d3] ++ Γ) S fun H => tgs (valsOf [d1, d2, d3] as) σ H Q) k h
theorem w_gt4 (m : .dat v (.tuple [d1, d2, d3, d4]) ∈ Γ) (k : ∀ a b c d, Wh K (.dat (valOf d1 a) d1 :: .dat (valOf d2 b) d2 :: .dat (valOf d3 c) d3 :: .dat (valOf d4 d) d4 :: Γ) S fun H => tgs [valOf d1 a, valOf d2 b, valOf d3 c, valOf d4 d] σ H Q) : Wh K Γ S fun H => gTup K 4 tgs v σ H Q := w_gtD m rfl fun _ h => len4 (P := fun as => Wh K (zipF (valsOf [d1, d2, d3, d4] as) [d1, d2, d3, d4] ++ Γ) S fun H => tgs (valsOf [d1, d2, d3, d4] as) σ H Q) k h
theorem w_gt5 (m : .dat v (.tuple [d1, d2, d3, d4, d5]) ∈ Γ) (k : ∀ a b c d e, Wh K (.dat (valOf d1 a) d1 :: .dat (valOf d2 b) d2 :: .dat (valOf d3 c) d3 :: .dat (valOf d4 d) d4 :: .dat (valOf d5 e) d5 :: Γ) S fun H => tgs [valOf d1 a, valOf d2 b, valOf d3 c, valOf d4 d, valOf d5 e] σ H Q) : Wh K Γ S fun H => gTup K 5 tgs v σ H Q := w_gtD m rfl fun _ h => len5 (P := fun as => Wh K (zipF (valsOf [d1, d2, d3, d4, d5] as) [d1, d2, d3, d4, d5] ++ Γ) S fun H => tgs (valsOf [d1, d2, d3, d4, d5] as) σ H Q) k h
theorem w_gt6 (m : .dat v (.tuple [d1, d2, d3, d4, d5, d6]) ∈ Γ) (k : ∀ a b c d e f, Wh K (.dat (valOf d1 a) d1 :: .dat (valOf d2 b) d2 :: .dat (valOf d3 c) d3 :: .dat (valOf d4 d) d4 :: .dat (valOf d5 e) d5 :: .dat (valOf d6 f) d6 :: Γ) S fun H => tgs [valOf d1 a, valOf d2 b, valOf d3 c, valOf d4 d, valOf d5 e, valOf d6 f] σ H Q) : Wh K Γ S fun H => gTup K 6 tgs v σ H Q := w_gtD m rfl fun _ h => len6 (P := fun as => Wh K (zipF (valsOf [d1, d2, d3, d4, d5, d6] as) [d1, d2, d3, d4, d5, d6] ++ Γ) S fun H => tgs (valsOf [d1, d2, d3, d4, d5, d6] as) σ H Q) k h
theorem w_gt7 (m : .dat v (.tuple [d1, d2, d3, d4, d5, d6, d7]) ∈ Γ) (k : ∀ a b c d e f g, Wh K (.dat (valOf d1 a) d1 :: .dat (valOf d2 b) d2 :: .dat (valOf d3 c) d3 :: .dat (valOf d4 d) d4 :: .dat (valOf d5 e) d5 :: .dat (valOf d6 f) d6 :: .dat (valOf d7 g) d7 :: Γ) S fun H => tgs [valOf d1 a, valOf d2 b, valOf d3 c, valOf d4 d, valOf d5 e, valOf d6 f, valOf d7 g] σ H Q) : Wh K Γ S fun H => gTup K 7 tgs v σ H Q := w_gtD m rfl fun _ h => len7 (P := fun as => Wh K (zipF (valsOf [d1, d2, d3, d4, d5, d6, d7] as) [d1, d2, d3, d4, d5, d6, d7] ++ Γ) S fun H => tgs (valsOf [d1, d2, d3, d4, d5, d6, d7] as) σ H Q) k h
end
/-! #### loops: what holds at each turn, by what is carried -/
def NX {ι : Type} (K : PySem.W.Frag) (C : ι → Prop) (sg : ι → St) (Γf : ι → List Fc) (Sf : ι → List Vo) : St → Hp → Prop := fun σ H => ∃ a, C a ∧ σ = sg a ∧ Hg K (Γf a) (Sf a) H
def NH {ι : Type} (K : PySem.W.Frag) (C : ι → Prop) (Γf : ι → List Fc) (Sf : ι → List Vo) : Hp → Prop := fun H => ∃ a, C a ∧ Hg K (Γf a) (Sf a) H
def PrmS (S' S : List Vo) : Prop := S'.flatten.Perm S.flatten
theorem prm_refl : PrmS S S := List.Perm.refl _
theorem prm_cons {x : Vo} {R : List Vo} (h : Take x S R) (k : PrmS S' R) : PrmS (x :: S') S := (List.Perm.append_left x k).trans h.symm
section
variable {ι : Type} {tl : TE} {tw : TS}
theorem w_again {C : ι → Prop} {sg : ι → St} {Γf : ι → List Fc} {Sf : ι → List Vo} (a : ι) (hC : C a) (hσ : σ = sg a) (hΓ : ∀ f ∈ Γf a, f ∈ Γ) (hS : Dr S (Sf a)) : Wh K Γ S fun H => NX K C sg Γf Sf σ H := fun _ z => ⟨a, hC, hσ, z.fit hΓ hS⟩
theorem w_againH {C : ι → Prop} {Γf : ι → List Fc} {Sf : ι → List Vo} (a : ι) (hC : C a) (hΓ : ∀ f ∈ Γf a, f ∈ Γ) (hS : Dr S (Sf a)) : Wh K Γ S fun H => NH K C Γf Sf H := fun _ z => ⟨a, hC, z.fit hΓ hS⟩
def forSeq (K : PySem.W.Frag) (g : TG) (tw : TS) (D : Ends) (σ : St) (x : V) (H : Hp) : Prop := ∃ a, x = .ref a ∧ (((∃ xs, SqL K H a xs) ∧ LoopX g tw D σ H (Itl K a)) ∨ ((∃ xs, SqT K H a xs) ∧ LoopX g tw D σ H (Itt K a)))
def forRng (g : TG) (tw : TS) (D : Ends) (σ : St) (vs : List V) (H : Hp) : Prop := ∃ j : Int, vs = [.int j] ∧ -(2 ^ 62) ≤ j ∧ j < 2 ^ 62 ∧ LoopX g tw D σ H (Itr 0 j.toNat)
theorem w_forSeq (k : Wh K Γ S fun H => tl σ H fun x H1 => forSeq K g tw D σ x H1) : Wh K Γ S fun H => tFor (iSeq K tl) g tw D σ H := k
theorem w_forRng (k : Wh K Γ S fun H => tA σ H fun vs H1 => forRng g tw D σ vs H1) : Wh K Γ S fun H => tFor (iRng1 tA) g tw D σ H := k
theorem w_forR {j : Int} (n : Nat) (hj : j = (n : Int)) (hn : n ≤ 1000000) (k : Wh K Γ S fun H => LoopX g tw D σ H (Itr 0 n)) : Wh K Γ S fun H => forRng g tw D σ [.int j] H := fun H z => by
  subst hj
  exact ⟨(n : Int), rfl, by omega, by omega, by rw [Int.toNat_natCast]; exact k H z⟩
theorem w_forL {p : Addr} {xs : List V} (m : AtH K Γ S p (.lst xs)) (k : Wh K Γ S fun H => LoopX g tw D σ H (Itl K p)) : Wh K Γ S fun H => forSeq K g tw D σ (.ref p) H := fun H z => ⟨p, rfl, .inl ⟨⟨xs, SqL.of (m H z)⟩, k H z⟩⟩
theorem w_forD {p : Addr} {ds : List PyData} (m : .dat (.ref p) (.list ds) ∈ Γ) (k : Wh K Γ S fun H => LoopX g tw D σ H (Itl K p)) : Wh K Γ S fun H => forSeq K g tw D σ (.ref p) H := fun H z => by
  obtain ⟨a, xs, ea, h1, h2⟩ := dp_lst (z.dat m)
  cases ea
  exact ⟨p, rfl, .inl ⟨⟨xs, h1⟩, k H z⟩⟩
theorem w_loop_r (n : Nat) (C : Nat → ι → Prop) (sg : Nat → ι → St) (Γf : Nat → ι → List Fc) (Sf : Nat → ι → List Vo) (a0 : ι) (h0 : C 0 a0) (hσ : σ = sg 0 a0) (hΓ : ∀ f ∈ Γf 0 a0, f ∈ Γ) (hS : Dr S (Sf 0 a0))
    (hs : ∀ (i : Nat) a, i < n → C i a → Wh K (Γf i a) (Sf i a) fun H => g (.int (i : Int)) (sg i a) H fun σ2 H2 => tw { D with nx := NX K (C (i + 1)) (sg (i + 1)) (Γf (i + 1)) (Sf (i + 1)), ct := NX K (C (i + 1)) (sg (i + 1)) (Γf (i + 1)) (Sf (i + 1)), bk := D.nx } σ2 H2)
    (hd : ∀ a, C n a → Wh K (Γf n a) (Sf n a) fun H => D.nx (sg n a) H) : Wh K Γ S fun H => LoopX g tw D σ H (Itr 0 n) := fun H z =>
  loop_r n (fun i => NX K (C i) (sg i) (Γf i) (Sf i)) (w_again a0 h0 hσ hΓ hS H z) (fun i σ' H' hi ⟨a, hC, hσ, z⟩ => by subst hσ; exact hs i a hi hC H' z) fun σ' H' ⟨a, hC, hσ, z⟩ => by subst hσ; exact hd a hC H' z
/-- over a list that stands (and stays) in the heap -/
theorem w_loop_l {p : Addr} (xs : List V) (C : Nat → ι → Prop) (sg : Nat → ι → St) (Γf : Nat → ι → List Fc) (Sf : Nat → ι → List Vo) (a0 : ι) (h0 : C 0 a0) (hσ : σ = sg 0 a0) (hΓ : ∀ f ∈ Γf 0 a0, f ∈ Γ) (hS : Dr S (Sf 0 a0))
    (hl : ∀ i a, AtH K (Γf i a) (Sf i a) p (.lst xs))
    (hs : ∀ (i : Nat) x a, xs[i]? = some x → C i a → Wh K (Γf i a) (Sf i a) fun H => g x (sg i a) H fun σ2 H2 => tw { D with nx := NX K (C (i + 1)) (sg (i + 1)) (Γf (i + 1)) (Sf (i + 1)), ct := NX K (C (i + 1)) (sg (i + 1)) (Γf (i + 1)) (Sf (i + 1)), bk := D.nx } σ2 H2)
    (hd : ∀ a, C xs.length a → Wh K (Γf xs.length a) (Sf xs.length a) fun H => D.nx (sg xs.length a) H) : Wh K Γ S fun H => LoopX g tw D σ H (Itl K p) := fun H z =>
  loop_l (xs := xs) (fun i => NX K (C i) (sg i) (Γf i) (Sf i)) (w_again a0 h0 hσ hΓ hS H z) (fun i σ' H' _ ⟨a, hC, hσ, z⟩ => SqL.of (hl i a H' z)) (fun i x σ' H' hi ⟨a, hC, hσ, z⟩ => by subst hσ; exact hs i x a hi hC H' z) fun σ' H' ⟨a, hC, hσ, z⟩ => by subst hσ; exact hd a hC H' z
theorem go_Q {p : Addr} {ds : List PyData} {xs : List V} {G : Hp} (h : Dp K G (.ref p) (.list ds)) (e : Ext G H) (q : ∀ xs, SqL K H p xs → xs[i]? = some v) {d : PyData} (hd : ds[i]? = some d) : Dp K G v d := by
  obtain ⟨a, ys, ea, h1, h2⟩ := dp_lst h
  cases ea
  obtain ⟨w, e1, e2⟩ := dpa_get h2 hd
  have := (q ys (ext_l e h1)).symm.trans e1
  cases this
  exact e2
/-- over a list that is data -/
theorem w_loop_D {p : Addr} (ds : List PyData) (C : Nat → ι → Prop) (sg : Nat → ι → St) (Γf : Nat → ι → List Fc) (Sf : Nat → ι → List Vo) (a0 : ι) (h0 : C 0 a0) (hσ : σ = sg 0 a0) (hΓ : ∀ f ∈ Γf 0 a0, f ∈ Γ) (hS : Dr S (Sf 0 a0))
    (hl : ∀ i a, .dat (.ref p) (.list ds) ∈ Γf i a)
    (hs : ∀ (i : Nat) d v a, ds[i]? = some d → C i a → Wh K (.dat v d :: Γf i a) (Sf i a) fun H => g v (sg i a) H fun σ2 H2 => tw { D with nx := NX K (C (i + 1)) (sg (i + 1)) (Γf (i + 1)) (Sf (i + 1)), ct := NX K (C (i + 1)) (sg (i + 1)) (Γf (i + 1)) (Sf (i + 1)), bk := D.nx } σ2 H2)
    (hd : ∀ a, C ds.length a → Wh K (Γf ds.length a) (Sf ds.length a) fun H => D.nx (sg ds.length a) H) : Wh K Γ S fun H => LoopX g tw D σ H (Itl K p) := fun H z => by
  refine ⟨fun i m σ H => m = ds.length - i ∧ i ≤ ds.length ∧ NX K (C i) (sg i) (Γf i) (Sf i) σ H, ⟨ds.length, by simp, Nat.zero_le _, w_again a0 h0 hσ hΓ hS H z⟩, ?_⟩
  rintro i m σ' H' ⟨rfl, hi, a, hC, hσ, z'⟩
  subst hσ
  obtain ⟨G, z1, z2⟩ := id z'
  obtain ⟨b, ys, ea, t1, t2⟩ := dp_lst (z2 _ (hl i a) : Dp K G (.ref p) (.list ds))
  cases ea
  have hlen := dpa_len t2
  by_cases hlt : i < ds.length
  · obtain ⟨v, e1, e2⟩ := dpa_get t2 (List.getElem?_eq_getElem hlt)
    refine .inr ⟨⟨ys, v, ext_l z1.ex t1, e1⟩, NX K (C (i + 1)) (sg (i + 1)) (Γf (i + 1)) (Sf (i + 1)), fun σ'' H'' p' => ⟨ds.length - (i + 1), by omega, rfl, hlt, p'⟩, fun x H'' y => ?_⟩
    obtain ⟨rfl, y2⟩ := y
    exact hs i _ x a (List.getElem?_eq_getElem hlt) hC H'' ⟨G, z1, cons_facts (f := .dat x _) (go_Q (xs := ys) (z2 _ (hl i a)) z1.ex y2 (List.getElem?_eq_getElem hlt)) z2⟩
  · have e : i = ds.length := by omega
    subst e
    exact .inl ⟨⟨ys, ext_l z1.ex t1, by omega⟩, hd a hC H' z'⟩
theorem w_while {ω : Type} (C : Nat → ι → Prop) (sg : ι → St) (Γf : ι → List Fc) (Sf : ι → List Vo) (m0 : Nat) (a0 : ι) (h0 : C m0 a0) (hσ : σ = sg a0) (hΓ : ∀ f ∈ Γf a0, f ∈ Γ) (hS : Dr S (Sf a0))
    (hs : ∀ m a, C m a → Wh K (Γf a) (Sf a) fun H => c (sg a) H fun b H1 => if b = true then ∃ N : St → Hp → Prop, (∀ σ2 H2, N σ2 H2 → ∃ m', m' < m ∧ NX K (C m') sg Γf Sf σ2 H2) ∧ tw { D with nx := N, ct := N, bk := D.nx } (sg a) H1 else D.nx (sg a) H1) : Wh K Γ S fun H => tWhile c tw D σ H := fun H z =>
  go_while (fun m => NX K (C m) sg Γf Sf) m0 (w_again a0 h0 hσ hΓ hS H z) fun m σ' H' ⟨a, hC, hσ, z⟩ => by subst hσ; exact hs m a hC H' z
theorem w_turn {C : Nat → ι → Prop} {sg : ι → St} {Γf : ι → List Fc} {Sf : ι → List Vo} {m : Nat} {A : (St → Hp → Prop) → Hp → Prop} (k : Wh K Γ S fun H => A (fun σ2 H2 => ∃ m', m' < m ∧ NX K (C m') sg Γf Sf σ2 H2) H) :
    Wh K Γ S fun H => ∃ N : St → Hp → Prop, (∀ σ2 H2, N σ2 H2 → ∃ m', m' < m ∧ NX K (C m') sg Γf Sf σ2 H2) ∧ A N H := fun H z => ⟨_, fun _ _ h => h, k H z⟩
theorem w_less {C : Nat → ι → Prop} {sg : ι → St} {Γf : ι → List Fc} {Sf : ι → List Vo} {m : Nat} (m' : Nat) (hm : m' < m) (k : Wh K Γ S fun H => NX K (C m') sg Γf Sf σ H) : Wh K Γ S fun H => ∃ m', m' < m ∧ NX K (C m') sg Γf Sf σ H := fun H z => ⟨m', hm, k H z⟩
/-- an assertion between two parts -/
theorem w_cut {t u : TS} (C : ι → Prop) (sg : ι → St) (Γf : ι → List Fc) (Sf : ι → List Vo) (h1 : Wh K Γ S fun H => t { D with nx := NX K C sg Γf Sf } σ H) (h2 : ∀ a, C a → Wh K (Γf a) (Sf a) fun H => u D (sg a) H) : Wh K Γ S fun H => Evl.tCut t u D σ H := fun H z =>
  ⟨NX K C sg Γf Sf, h1 H z, fun σ' H' ⟨a, hC, hσ, z⟩ => by subst hσ; exact h2 a hC H' z⟩
/-! #### list comprehensions -/
variable {tt : TT} {te : TE} {vs : List Nat}
def lcSeq (K : PySem.W.Frag) (g : TG) (tt : TT) (te : TE) (vs : List Nat) (σ : St) (Q : VK) (x : V) (H : Hp) : Prop := ∃ a, x = .ref a ∧ (((∃ xs, SqL K H a xs) ∧ LcA g tt te vs σ Q H (Itl K a)) ∨ ((∃ xs, SqT K H a xs) ∧ LcA g tt te vs σ Q H (Itt K a)))
def lcRng (g : TG) (tt : TT) (te : TE) (vs : List Nat) (σ : St) (Q : VK) (xs : List V) (H : Hp) : Prop := ∃ j : Int, xs = [.int j] ∧ -(2 ^ 62) ≤ j ∧ j < 2 ^ 62 ∧ LcA g tt te vs σ Q H (Itr 0 j.toNat)
theorem w_lcSeq (k : Wh K Γ S fun H => tl σ H fun x H1 => lcSeq K g tt te vs σ Q x H1) : Wh K Γ S fun H => tLc (iSeq K tl) g tt te vs σ H Q := k
theorem w_lcRng (k : Wh K Γ S fun H => tA σ H fun xs H1 => lcRng g tt te vs σ Q xs H1) : Wh K Γ S fun H => tLc (iRng1 tA) g tt te vs σ H Q := k
theorem w_lcR {j : Int} (n : Nat) (hj : j = (n : Int)) (hn : n ≤ 1000000) (k : Wh K Γ S fun H => LcA g tt te vs σ Q H (Itr 0 n)) : Wh K Γ S fun H => lcRng g tt te vs σ Q [.int j] H := fun H z => by
  subst hj
  exact ⟨(n : Int), rfl, by omega, by omega, by rw [Int.toNat_natCast]; exact k H z⟩
theorem w_lcL {p : Addr} {xs : List V} (m : AtH K Γ S p (.lst xs)) (k : Wh K Γ S fun H => LcA g tt te vs σ Q H (Itl K p)) : Wh K Γ S fun H => lcSeq K g tt te vs σ Q (.ref p) H := fun H z => ⟨p, rfl, .inl ⟨⟨xs, SqL.of (m H z)⟩, k H z⟩⟩
theorem w_lcD {p : Addr} {ds : List PyData} (m : .dat (.ref p) (.list ds) ∈ Γ) (k : Wh K Γ S fun H => LcA g tt te vs σ Q H (Itl K p)) : Wh K Γ S fun H => lcSeq K g tt te vs σ Q (.ref p) H := fun H z => by
  obtain ⟨a, xs, ea, h1, h2⟩ := dp_lst (z.dat m)
  cases ea
  exact ⟨p, rfl, .inl ⟨⟨xs, h1⟩, k H z⟩⟩
theorem w_yes {Q : Bool → Hp → Prop} (k : Wh K Γ S fun H => Q true H) : Wh K Γ S fun H => tYes σ H Q := k
theorem w_same {P : Prop} (h : P) (k : Wh K Γ S A) : Wh K Γ S fun H => P ∧ A H := fun H z => ⟨h, k H z⟩
def NL {ι : Type} (K : PySem.W.Frag) (Dl : Addr) (C : ι → Prop) (ac : ι → List V) (Γf : ι → List Fc) (Sf : ι → List Vo) : Hp → Prop := fun H => ∃ a, C a ∧ Hg K (Γf a) (own Dl (.lst (ac a)) :: Sf a) H
theorem w_lcn {Dl : Addr} {C : ι → Prop} {ac : ι → List V} {Γf : ι → List Fc} {Sf : ι → List Vo} (a : ι) (hC : C a) (hΓ : ∀ f ∈ Γf a, f ∈ Γ) (hS : Dr S (own Dl (.lst (ac a)) :: Sf a)) : Wh K Γ S fun H => NL K Dl C ac Γf Sf H := fun _ z => ⟨a, hC, z.fit hΓ hS⟩
theorem w_lcp {Dl : Addr} {C : ι → Prop} {ac : ι → List V} {Γf : ι → List Fc} {Sf : ι → List Vo} {xs : List V} {R : List Vo} (a : ι) (hC : C a) (ea : ac a = xs ++ [y]) (m : Take (own Dl (.lst xs)) S R) (hl : xs.length ≤ 100000) (hΓ : ∀ f ∈ Γf a, f ∈ Γ) (hS : Dr R (Sf a)) :
    Wh K Γ S fun H => ∃ acc, H Dl = some (.lst acc) ∧ acc.length < sizeLine ∧ NL K Dl C ac Γf Sf (upd H Dl (.lst (acc ++ [y]))) := fun H z => by
  have z1 := z.tk1 m
  refine ⟨xs, z1.own List.mem_cons_self, by rw [sizeLine_eq]; omega, a, hC, ?_⟩
  have z2 := z1.sw (o' := .lst (xs ++ [y])) Sw.here
  rw [ea]
  exact z2.fit hΓ (Dr.keep Take.here hS)
theorem w_lc_r (n : Nat) (C : Nat → ι → Prop) (ac : Nat → ι → List V) (Γf : Nat → ι → List Fc) (Sf : Nat → ι → List Vo) (a0 : ι) (h0 : C 0 a0) (ha : ac 0 a0 = []) (hΓ : ∀ f ∈ Γf 0 a0, f ∈ Γ) (hS : Dr S (Sf 0 a0))
    (hs : ∀ Dl (i : Nat) a, i < n → C i a → Wh K (Γf i a) (own Dl (.lst (ac i a)) :: Sf i a) fun H => g (.int (i : Int)) (wipe σ vs) H fun σ2 H2 => wipe σ2 vs = wipe σ vs ∧ tt σ2 H2 fun b H3 =>
      if b = true then te σ2 H3 fun y H4 => ∃ acc, H4 Dl = some (.lst acc) ∧ acc.length < sizeLine ∧ NL K Dl (C (i + 1)) (ac (i + 1)) (Γf (i + 1)) (Sf (i + 1)) (upd H4 Dl (.lst (acc ++ [y]))) else NL K Dl (C (i + 1)) (ac (i + 1)) (Γf (i + 1)) (Sf (i + 1)) H3)
    (hd : ∀ Dl a, C n a → Wh K (Γf n a) (own Dl (.lst (ac n a)) :: Sf n a) fun H => Q (.ref Dl) H) : Wh K Γ S fun H => LcA g tt te vs σ Q H (Itr 0 n) := fun H z Dl hD =>
  lcx_r n (fun i => NL K Dl (C i) (ac i) (Γf i) (Sf i)) ⟨a0, h0, by rw [ha]; exact (z.fit hΓ hS).new hD⟩ (fun i H' hi ⟨a, hC, z⟩ => hs Dl i a hi hC H' z) fun H' ⟨a, hC, z⟩ => hd Dl a hC H' z
theorem w_lc_l {p : Addr} (xs : List V) (C : Nat → ι → Prop) (ac : Nat → ι → List V) (Γf : Nat → ι → List Fc) (Sf : Nat → ι → List Vo) (a0 : ι) (h0 : C 0 a0) (ha : ac 0 a0 = []) (hΓ : ∀ f ∈ Γf 0 a0, f ∈ Γ) (hS : Dr S (Sf 0 a0))
    (hl : ∀ i a, AtH K (Γf i a) (Sf i a) p (.lst xs))
    (hs : ∀ Dl (i : Nat) x a, xs[i]? = some x → C i a → Wh K (Γf i a) (own Dl (.lst (ac i a)) :: Sf i a) fun H => g x (wipe σ vs) H fun σ2 H2 => wipe σ2 vs = wipe σ vs ∧ tt σ2 H2 fun b H3 =>
      if b = true then te σ2 H3 fun y H4 => ∃ acc, H4 Dl = some (.lst acc) ∧ acc.length < sizeLine ∧ NL K Dl (C (i + 1)) (ac (i + 1)) (Γf (i + 1)) (Sf (i + 1)) (upd H4 Dl (.lst (acc ++ [y]))) else NL K Dl (C (i + 1)) (ac (i + 1)) (Γf (i + 1)) (Sf (i + 1)) H3)
    (hd : ∀ Dl a, C xs.length a → Wh K (Γf xs.length a) (own Dl (.lst (ac xs.length a)) :: Sf xs.length a) fun H => Q (.ref Dl) H) : Wh K Γ S fun H => LcA g tt te vs σ Q H (Itl K p) := fun H z Dl hD =>
  lcx_l (xs := xs) (fun i => NL K Dl (C i) (ac i) (Γf i) (Sf i)) ⟨a0, h0, by rw [ha]; exact (z.fit hΓ hS).new hD⟩ (fun i H' _ ⟨a, hC, z⟩ => SqL.of (hl i a H' z.pop)) (fun i x H' hi ⟨a, hC, z⟩ => hs Dl i x a hi hC H' z) fun H' ⟨a, hC, z⟩ => hd Dl a hC H' z
theorem w_lc_D {p : Addr} (ds : List PyData) (C : Nat → ι → Prop) (ac : Nat → ι → List V) (Γf : Nat → ι → List Fc) (Sf : Nat → ι → List Vo) (a0 : ι) (h0 : C 0 a0) (ha : ac 0 a0 = []) (hΓ : ∀ f ∈ Γf 0 a0, f ∈ Γ) (hS : Dr S (Sf 0 a0))
    (hl : ∀ i a, .dat (.ref p) (.list ds) ∈ Γf i a)
    (hs : ∀ Dl (i : Nat) d v a, ds[i]? = some d → C i a → Wh K (.dat v d :: Γf i a) (own Dl (.lst (ac i a)) :: Sf i a) fun H => g v (wipe σ vs) H fun σ2 H2 => wipe σ2 vs = wipe σ vs ∧ tt σ2 H2 fun b H3 =>
      if b = true then te σ2 H3 fun y H4 => ∃ acc, H4 Dl = some (.lst acc) ∧ acc.length < sizeLine ∧ NL K Dl (C (i + 1)) (ac (i + 1)) (Γf (i + 1)) (Sf (i + 1)) (upd H4 Dl (.lst (acc ++ [y]))) else NL K Dl (C (i + 1)) (ac (i + 1)) (Γf (i + 1)) (Sf (i + 1)) H3)
    (hd : ∀ Dl a, C ds.length a → Wh K (Γf ds.length a) (own Dl (.lst (ac ds.length a)) :: Sf ds.length a) fun H => Q (.ref Dl) H) : Wh K Γ S fun H => LcA g tt te vs σ Q H (Itl K p) := fun H z Dl hD => by
  refine ⟨fun i m H => m = ds.length - i ∧ i ≤ ds.length ∧ NL K Dl (C i) (ac i) (Γf i) (Sf i) H, ⟨ds.length, by simp, Nat.zero_le _, a0, h0, by rw [ha]; exact (z.fit hΓ hS).new hD⟩, ?_⟩
  rintro i m H' ⟨rfl, hi, a, hC, z'⟩
  obtain ⟨G, z1, z2⟩ := id z'
  obtain ⟨b, ys, ea, t1, t2⟩ := dp_lst (z2 _ (hl i a) : Dp K G (.ref p) (.list ds))
  cases ea
  have hlen := dpa_len t2
  by_cases hlt : i < ds.length
  · obtain ⟨v, e1, e2⟩ := dpa_get t2 (List.getElem?_eq_getElem hlt)
    refine .inr ⟨⟨ys, v, ext_l z1.ex t1, e1⟩, NL K Dl (C (i + 1)) (ac (i + 1)) (Γf (i + 1)) (Sf (i + 1)), fun H'' p' => ⟨ds.length - (i + 1), by omega, rfl, hlt, p'⟩, fun x H'' y => ?_⟩
    obtain ⟨rfl, y2⟩ := y
    exact hs Dl i _ x a (List.getElem?_eq_getElem hlt) hC H'' ⟨G, z1, cons_facts (f := .dat x _) (go_Q (xs := ys) (z2 _ (hl i a)) z1.ex y2 (List.getElem?_eq_getElem hlt)) z2⟩
  · have e : i = ds.length := by omega
    subst e
    exact .inl ⟨⟨ys, ext_l z1.ex t1, by omega⟩, hd Dl a hC H' z'⟩
end
end
/-! ### promises of one shape -/
def SpF {ι : Type} (K : PySem.W.Frag) (A : ι → List V) (Pr : ι → List Fc → Prop) (O : ι → List Vo) (Po : ι → V → List Fc → List Vo → Prop) (Ex : ι → Value → List Fc → List Vo → Prop) : Sp := fun vs H Q E => ∃ (i : ι) (Γ : List Fc) (S : List Vo), vs = A i ∧ Hg K Γ (O i ++ S) H ∧ Pr i Γ ∧
  (∀ v Γ' S' H', Po i v Γ' S' → Hg K (Γ' ++ Γ) (S' ++ S) H' → Q v H') ∧ ∀ e Γ' S' H', Ex i e Γ' S' → Hg K (Γ' ++ Γ) (S' ++ S) H' → E e none H'
def noEx {ι : Type} : ι → Value → List Fc → List Vo → Prop := fun _ _ _ _ => False
section
variable {ι : Type} {K : PySem.W.Frag} {Γ : List Fc} {S R : List Vo} {A : ι → List V} {Pr : ι → List Fc → Prop} {O : ι → List Vo} {Po : ι → V → List Fc → List Vo → Prop} {Ex : ι → Value → List Fc → List Vo → Prop} {Q : VK} {E : XK} {vs : List V}
theorem w_do (i : ι) (t : Takes' (O i) S R) (hp : Pr i Γ) (k : ∀ v Γ' S', Po i v Γ' S' → Wh K (Γ' ++ Γ) (S' ++ R) fun H => Q v H) (x : ∀ e Γ' S', Ex i e Γ' S' → Wh K (Γ' ++ Γ) (S' ++ R) fun H => E e none H) (hA : vs = A i := by rfl) :
    Wh K Γ S fun H => SpF K A Pr O Po Ex vs H Q E := fun _ z => ⟨i, Γ, R, hA, z.tk t, hp, fun v Γ' S' H' h z' => k v Γ' S' h H' z', fun e Γ' S' H' h z' => x e Γ' S' h H' z'⟩
theorem w_don {Q : VK} (i : ι) (t : Takes' (O i) S R) (hp : Pr i Γ) (k : ∀ v Γ' S', Po i v Γ' S' → Wh K (Γ' ++ Γ) (S' ++ R) fun H => Q v H) (hA : vs = A i := by rfl) : Wh K Γ S fun H => SpF K A Pr O Po noEx vs H Q E := w_do i t hp k (fun _ _ _ h => h.elim) hA
end
section
variable {P : Program} {w : World} {K : PySem.W.Frag} {mg : Str → Option Value} {base : Heap} {CX : CXT} {k : Nat} {f : Addr} {fd : FuncData} {ps : List Str} {a b : Sp}
theorem fn_imp (F : FnOk P w K mg base CX k f fd ps a) (h : ∀ vs H Q E, b vs H Q E → a vs H Q E) : FnOk P w K mg base CX k f fd ps b :=
  ⟨fun vs H Q E z => F.len vs H Q E (h _ _ _ _ z), fun A outer s H args us vs Q E hr he hb hv hs => F.run A outer s H args us vs Q E hr he hb hv (h _ _ _ _ hs)⟩
theorem fn_up {j : Nat} (F : FnOk P w K mg base CX k f fd ps a) (h : k ≤ j) : FnOk P w K mg base CX j f fd ps a :=
  ⟨F.len, fun A outer s H args us vs Q E hr he hb hv hs => F.run A outer s H args us vs Q E (hr.mono h) he hb hv hs⟩
end
end Mo
namespace Mo
open PySem PySem.Spec PyProof.Rows L2
/-! ### exceptions as values, lists joined, data looked at: by facts and segments -/
def exF (K : PySem.W.Frag) (c : Str) (a : Addr) : Fc := .gen (fun G => ∃ o, G a = some o ∧ IsEx (He.ga K c) a o) fun _ _ e ⟨o, h, x⟩ => ⟨o, e _ _ h, x⟩
section
variable {K : PySem.W.Frag} {Γ : List Fc} {S : List Vo} {σ : St} {Q : VK} {a : Addr} {c : Str} {A : Hp → Prop}
theorem Hg.exc {H : Hp} (z : Hg K Γ S H) (m : exF K c a ∈ Γ) : ∃ o, H a = some o ∧ IsEx (He.ga K c) a o := z.fact m
theorem isEx_O {D a : Addr} : IsEx D a (ExO (.ref D) a) := ⟨_, rfl, fun _ ⟨oe, vs, h1, h2, h3, _⟩ => ⟨oe, vs, h1, h2, h3⟩⟩
def mkX (D : Addr) (H : Hp) (Q : VK) : Prop := ∀ p, H p = none → Q (.ref p) (upd H p (ExO (.ref D) p))
theorem w_exc (k : ∀ p, Wh K (exF K c p :: Γ) S fun H => Q (.ref p) H) : Wh K Γ S fun H => mkX (He.ga K c) H Q := fun H z p hp =>
  k p _ (((z.fix (o := ExO (.ref (He.ga K c)) p) hp).learn (f := exF K c p) fun G b => ⟨_, b (.obj p _) List.mem_cons_self, isEx_O⟩).weak fun f m => by
    rcases List.mem_cons.mp m with e | m
    · rw [e]; exact List.mem_cons_self
    · exact List.mem_cons_of_mem _ (List.mem_cons_of_mem _ m))
theorem w_texc {D : Addr} {ta : TE} (k : Wh K Γ S fun H => ta σ H fun _ H1 => mkX D H1 Q) : Wh K Γ S fun H => tExc D ta σ H Q := k
theorem w_notInDt {x y : V} {d : PyData} {ds : List PyData} {b : Bool} (hx : DV K Γ x d) (m : .dat y (.list ds) ∈ Γ) (sd : SeqAt.shaped d = true) (sl : SeqAt.shaped (.list ds) = true) (e : (ds.any fun z => PyData.eqv z d) = b) (k : Wh K Γ S fun H => Q (.bl (!b)) H) : Wh K Γ S fun H => rNotInA K x y H Q := fun H z => by
  subst e
  obtain ⟨G, a, b⟩ := id z
  exact .inr (.inr ⟨d, ds, dp_mono a.ex (hx G b), z.dat m, sd, sl, k H z⟩)
theorem w_inDt {x y : V} {d : PyData} {ds : List PyData} {b : Bool} (hx : DV K Γ x d) (m : .dat y (.list ds) ∈ Γ) (sd : SeqAt.shaped d = true) (sl : SeqAt.shaped (.list ds) = true) (e : (ds.any fun z => PyData.eqv z d) = b) (k : Wh K Γ S fun H => Q (.bl b) H) : Wh K Γ S fun H => rInA K x y H Q := fun H z => by
  subst e
  obtain ⟨G, a, b⟩ := id z
  exact .inr (.inr ⟨d, ds, dp_mono a.ex (hx G b), z.dat m, sd, sl, k H z⟩)
/-- behind a suite: the exception is kept -/
theorem w_kept (k : Wh K (exF K c a :: Γ) S A) : Wh K Γ S fun H => H a = none → A (upd H a (ExV (He.ga K c) a)) := fun H z hp =>
  k _ (((z.fix (o := ExV (He.ga K c) a) hp).learn (f := exF K c a) fun G b => ⟨_, b (.obj a _) List.mem_cons_self, isEx_V⟩).weak fun f m => by
    rcases List.mem_cons.mp m with e | m
    · rw [e]; exact List.mem_cons_self
    · exact List.mem_cons_of_mem _ (List.mem_cons_of_mem _ m))
theorem w_keep {cv : Value} {i : Nat} {ts : Addr → Value → Option Addr → TS} {Wout : WX} {D : Ends} (hb : PySem.W.exmOne K (.ref (He.ga K c)) cv = some true)
    (k : ∀ a, Wh K Γ S fun H => ts a (.ref (He.ga K c)) none { nx := fun σ' H' => H' a = none → D.nx (σ'.set i none) (upd H' a (ExV (He.ga K c) a)), rt := fun v H' => H' a = none → D.rt v (upd H' a (ExV (He.ga K c) a)), bk := fun σ' H' => H' a = none → D.bk (σ'.set i none) (upd H' a (ExV (He.ga K c) a)), ct := fun σ' H' => H' a = none → D.ct (σ'.set i none) (upd H' a (ExV (He.ga K c) a)) } (σ.set i (some (.ref a))) H) :
    Wh K Γ S fun H => wKeep K cv i ts Wout D (.ref (He.ga K c)) none σ H := fun H z => ⟨true, hb, fun _ => ⟨_, rfl, fun a _ => k a H z⟩, fun h => nomatch h⟩
theorem w_isX {d : V} {cv : Value} {b : Bool} (m : exF K c a ∈ Γ) (C : ExcC K (He.ga K c)) (hc : ClsV d cv) (hk : PySem.W.kitOne K (.ref (He.ga K c)) cv = some b) (k : Wh K Γ S fun H => Q (.bl b) H) : Wh K Γ S fun H => rIsiX K [.ref a, d] H Q := fun H z => by
  obtain ⟨o, h, x⟩ := z.exc m
  exact .inr ⟨a, _, o, d, cv, b, rfl, h, x, C, hc, hk, k H z⟩
def wordQ (K : PySem.W.Frag) (ws : List (Str × Str)) (R : Addr → Addr → Hp → Prop) (x : V) (H : Hp) (Q : VK) : Prop := ∃ a p, x = .ref a ∧ p ∈ ws ∧ R a (He.ga K p.1) H ∧ Q (.str p.2) H
theorem w_word {ws : List (Str × Str)} {z : Str} (m : exF K c a ∈ Γ) (hp : (c, z) ∈ ws) (k : Wh K Γ S fun H => Q (.str z) H) : Wh K Γ S fun H => wordQ K ws keptEx (.ref a) H Q := fun H w => ⟨a, (c, z), rfl, hp, w.exc m, k H w⟩
theorem w_wordS {ws : List (Str × Str)} {z : Str} (hp : (c, z) ∈ ws) (k : Wh K Γ S fun H => Q (.str z) H) : Wh K Γ S fun H => wordQ K ws (suiteEx a (.ref (He.ga K c)) none) (.ref a) H Q := fun H w => ⟨a, (c, z), rfl, hp, ⟨rfl, rfl, rfl⟩, k H w⟩
theorem w_tword {ws : List (Str × Str)} {R : Addr → Addr → Hp → Prop} {ta : TE} (k : Wh K Γ S fun H => ta σ H fun x H1 => wordQ K ws R x H1 Q) : Wh K Γ S fun H => tWord K ws R ta σ H Q := k
/-! #### lists -/
theorem w_addL {p q : Addr} {xs ys : List V} (m : AtH K Γ S p (.lst xs)) (n : AtH K Γ S q (.lst ys)) (hl : xs.length + ys.length ≤ 100000) (k : ∀ r, Wh K Γ (own r (.lst (xs ++ ys)) :: S) fun H => Q (.ref r) H) : Wh K Γ S fun H => rAddA K (.ref p) (.ref q) H Q := fun H z =>
  go_addL (m H z) (n H z) (by rw [sizeLine_eq]; omega) fun r hr => k r _ (z.new hr)
theorem w_inL {p : Addr} {x : V} {xs : List V} {b : Bool} (m : AtH K Γ S p (.lst xs)) (fx : flatV x = true) (fs : xs.all flatV = true) (e : inV x xs = b) (k : Wh K Γ S fun H => Q (.bl b) H) : Wh K Γ S fun H => rInA K x (.ref p) H Q := fun H z => .inr (.inl ⟨p, xs, rfl, .inl (SqL.of (m H z)), fx, fs, by rw [e]; exact k H z⟩)
theorem w_eqH {x y : V} {d e : PyData} (ha : ∀ H, Hg K Γ S H → Dp K H x d) (hb : ∀ H, Hg K Γ S H → Dp K H y e) (sa : SeqAt.shaped d = true) (sb : SeqAt.shaped e = true) (k : Wh K Γ S fun H => Q (.bl (PyData.eqv d e)) H) : Wh K Γ S fun H => rEqA K x y H Q := fun H z => go_eqD (ha H z) (hb H z) sa sb (k H z)
theorem w_neH {x y : V} {d e : PyData} (ha : ∀ H, Hg K Γ S H → Dp K H x d) (hb : ∀ H, Hg K Γ S H → Dp K H y e) (sa : SeqAt.shaped d = true) (sb : SeqAt.shaped e = true) (k : Wh K Γ S fun H => Q (.bl (!PyData.eqv d e)) H) : Wh K Γ S fun H => rNeA K x y H Q := fun H z => go_neD (ha H z) (hb H z) sa sb (k H z)
theorem dpH_own {p : Addr} {xs : List V} {ds : List PyData} (m : AtH K Γ S p (.lst xs)) (h : DL K Γ xs ds) : ∀ H, Hg K Γ S H → Dp K H (.ref p) (.list ds) := fun H z => by
  have hp := m H z
  obtain ⟨G, a, b⟩ := z
  exact .lst (SqL.of hp) (dpa_mono a.ex (h G b))
theorem dpH_dv {v : V} {d : PyData} (h : DV K Γ v d) : ∀ H, Hg K Γ S H → Dp K H v d := fun H ⟨G, a, b⟩ => dp_mono a.ex (h G b)
theorem w_rng0 {j : Int} (n : Nat) (hj : j = (n : Int)) (hn : n ≤ 1000000) {g : TG} {tt : TT} {te : TE} {vs : List Nat} (k : Wh K Γ S fun H => LcA g tt te vs σ Q H (Itr 0 n)) : Wh K Γ S fun H => lcRng g tt te vs σ Q [.int j] H := w_lcR n hj hn k
end
end Mo
namespace Mo
open PySem PySem.Spec PyProof.Rows L2
/-- a state's objects: itself, its two dicts, its queues -/
def StC (K : PySem.W.Frag) (p dx b q : Addr) (as : List Addr) (s : MSt) : Ck :=
  (p, .ins (He.ga K "State") dx (fl_State (.ref b) (.ref q) (.int s.drawn) (.int s.sent))) :: (b, .dK (boxesV s.boxes)) :: (q, .dK (queuesV s.queues as)) :: (s.queues.zip as).map fun e => (e.2, .lst (e.1.2.map V.int))
structure StAt (K : PySem.W.Frag) (H : Hp) (p : Addr) (s : MSt) : Prop where
  there : ∃ dx b q as, s.queues.length = as.length ∧ InH H (StC K p dx b q as s)
theorem StAt.ext {K : PySem.W.Frag} {H H' : Hp} {p : Addr} {s : MSt} (h : StAt K H p s) (e : Ext H H') : StAt K H' p s :=
  let ⟨dx, b, q, as, h1, h2⟩ := h.there
  ⟨dx, b, q, as, h1, h2.ext e⟩
end Mo
namespace Mo
open PySem PySem.Spec PyProof.Rows L2
/-! ### a state that changes -/
def setA {α : Type} (x : Str) (v : α) (l : List (Str × α)) : List (Str × α) := l.map fun p => if p.1 = x then (x, v) else p
theorem setA_keys {α : Type} (x : Str) (v : α) (l : List (Str × α)) : (setA x v l).map (·.1) = l.map (·.1) := by
  unfold setA
  rw [List.map_map]
  refine List.map_congr_left fun p _ => ?_
  show (if p.1 = x then (x, v) else p).1 = p.1
  split
  · rename_i h; exact h.symm
  · rfl
theorem setA_len {α : Type} (x : Str) (v : α) (l : List (Str × α)) : (setA x v l).length = l.length := List.length_map ..
theorem lookD_set {α : Type} {d v : α} {x y : Str} : ∀ {l : List (Str × α)}, x ∈ l.map (·.1) → lookD d y (setA x v l) = if y = x then v else lookD d y l
  | [], h => by simp at h
  | p :: r, h => by
    by_cases e : p.1 = x
    · have e1 : setA x v (p :: r) = (x, v) :: setA x v r := by unfold setA; rw [List.map_cons, if_pos e]
      rw [e1]
      show (if x = y then v else lookD d y (setA x v r)) = if y = x then v else (if p.1 = y then p.2 else lookD d y r)
      by_cases f : y = x
      · rw [if_pos f.symm, if_pos f]
      · rw [if_neg (fun z => f z.symm), if_neg f, if_neg (fun z => f (by rw [← z, e]))]
        by_cases g : x ∈ r.map (·.1)
        · rw [lookD_set g, if_neg f]
        · have : setA x v r = r := by
            unfold setA
            conv => rhs; rw [← List.map_id r]
            refine List.map_congr_left fun q hq => ?_
            rw [if_neg]
            · rfl
            · intro z
              exact g (by rw [← z]; exact List.mem_map_of_mem hq)
          rw [this]
    · have e1 : setA x v (p :: r) = p :: setA x v r := by unfold setA; rw [List.map_cons, if_neg e]
      rw [List.map_cons, List.mem_cons] at h
      have h2 := h.resolve_left fun z => e z.symm
      rw [e1]
      show (if p.1 = y then p.2 else lookD d y (setA x v r)) = if y = x then v else (if p.1 = y then p.2 else lookD d y r)
      rw [lookD_set h2]
      by_cases f : p.1 = y
      · rw [if_pos f, if_pos f, if_neg (fun z => e (by rw [f, z]))]
      · rw [if_neg f, if_neg f]
theorem boxesV_set {bs : List (Str × Int)} {x : Str} {n : Int} (h : x ∈ bs.map (·.1)) : putK (boxesV bs) (Sum.inr x) (.int n) = boxesV (setA x n bs) := by
  unfold putK
  rw [valV_any, val_boxes h, Option.isSome_some, if_pos rfl]
  unfold boxesV setA
  rw [List.map_map, List.map_map]
  refine List.map_congr_left fun p _ => ?_
  show (if (Sum.inr p.1 : Key) = Sum.inr x then ((Sum.inr p.1 : Key), V.int n) else (Sum.inr p.1, V.int p.2)) = ((Sum.inr (if p.1 = x then (x, n) else p).1 : Key), V.int (if p.1 = x then (x, n) else p).2)
  by_cases e : p.1 = x
  · rw [if_pos e, if_pos (by rw [e]), e]
  · rw [if_neg e, if_neg (fun z => e (Sum.inr.inj z))]
theorem queuesV_set {qs : List (Str × List Int)} {as : List Addr} {x : Str} {ns : List Int} : queuesV (setA x ns qs) as = queuesV qs as := by
  unfold queuesV setA
  rw [List.zip_map_left, List.map_map]
  refine List.map_congr_left fun p _ => ?_
  show ((Sum.inr (if p.1.1 = x then (x, ns) else p.1).1 : Key), V.ref p.2) = (Sum.inr p.1.1, V.ref p.2)
  split
  · rename_i h; rw [h]
  · rfl
def MSt.setB (s : MSt) (x : Str) (n : Int) : MSt := { s with boxes := setA x n s.boxes }
def MSt.setQ (s : MSt) (x : Str) (ns : List Int) : MSt := { s with queues := setA x ns s.queues }
theorem MSt.setB_bs (s : MSt) (x : Str) (n : Int) : (s.setB x n).bs = s.bs := setA_keys ..
theorem MSt.setB_qs (s : MSt) (x : Str) (n : Int) : (s.setB x n).qs = s.qs := rfl
theorem MSt.setQ_bs (s : MSt) (x : Str) (n : List Int) : (s.setQ x n).bs = s.bs := rfl
theorem MSt.setQ_qs (s : MSt) (x : Str) (n : List Int) : (s.setQ x n).qs = s.qs := setA_keys ..
abbrev stV (K : PySem.W.Frag) (p dx b q : Addr) (as : List Addr) (s : MSt) : Vo := vo (StC K p dx b q as s)
theorem stV_eq (K : PySem.W.Frag) (p dx b q : Addr) (as : List Addr) (s : MSt) : stV K p dx b q as s = (p, Eq (.ins (He.ga K "State") dx (fl_State (.ref b) (.ref q) (.int s.drawn) (.int s.sent)))) :: (b, Eq (.dK (boxesV s.boxes))) :: (q, Eq (.dK (queuesV s.queues as))) :: (s.queues.zip as).map fun e => (e.2, Eq (.lst (e.1.2.map V.int))) := by
  unfold stV StC vo
  simp only [List.map_cons, List.map_map]
  rfl
section
variable {K : PySem.W.Frag} {G H : Hp} {L : Vo} {p dx b q : Addr} {as : List Addr} {s : MSt} {x : Str}
theorem st_obj (z : Hd G H (stV K p dx b q as s ++ L)) : H p = some (.ins (He.ga K "State") dx (fl_State (.ref b) (.ref q) (.int s.drawn) (.int s.sent))) := by
  rw [stV_eq] at z
  exact z.eq List.mem_cons_self
theorem st_box (z : Hd G H (stV K p dx b q as s ++ L)) : H b = some (.dK (boxesV s.boxes)) := by
  rw [stV_eq] at z
  exact z.eq (List.mem_cons_of_mem _ List.mem_cons_self)
theorem st_que (z : Hd G H (stV K p dx b q as s ++ L)) : H q = some (.dK (queuesV s.queues as)) := by
  rw [stV_eq] at z
  exact z.eq (List.mem_cons_of_mem _ (List.mem_cons_of_mem _ List.mem_cons_self))
theorem st_at (z : Hd G H (stV K p dx b q as s ++ L)) (hl : s.queues.length = as.length) : StAt K H p s := ⟨dx, b, q, as, hl, z.inH fun e he => List.mem_append_left _ he⟩
theorem st_setB (z : Hd G H (stV K p dx b q as s ++ L)) (h : x ∈ s.bs) (n : Int) : Hd G (upd H b (.dK (putK (boxesV s.boxes) (Sum.inr x) (.int n)))) (stV K p dx b q as (s.setB x n) ++ L) := by
  rw [stV_eq] at z ⊢
  rw [boxesV_set h]
  exact z.set1 rfl
theorem st_setN (z : Hd G H (stV K p dx b q as s ++ L)) (d e : Int) : Hd G (upd H p (.ins (He.ga K "State") dx (fl_State (.ref b) (.ref q) (.int d) (.int e)))) (stV K p dx b q as { s with drawn := d, sent := e } ++ L) := by
  rw [stV_eq] at z ⊢
  exact z.set0 rfl
theorem nodup_at {α : Type} {l : List (Str × α)} {i : Nat} {y : Str × α} (h : (l.map (·.1)).Nodup) (hi : l[i]? = some y) : ∀ j z, l[j]? = some z → z.1 = y.1 → j = i := fun j z hj e => by
  have h1 : (l.map (·.1))[i]? = some y.1 := by rw [List.getElem?_map, hi]; rfl
  have h2 : (l.map (·.1))[j]? = some y.1 := by rw [List.getElem?_map, hj, ← e]; rfl
  have hl : i < (l.map (·.1)).length := (List.getElem?_eq_some_iff.mp h1).1
  exact (List.getElem?_inj hl h).mp (h1.trans h2.symm) |>.symm
theorem setA_at {α : Type} {l : List (Str × α)} {i : Nat} {x : Str} {v w : α} (h : (l.map (·.1)).Nodup) (hi : l[i]? = some (x, w)) : setA x v l = l.set i (x, v) := by
  apply List.ext_getElem?
  intro j
  unfold setA
  rw [List.getElem?_map, List.getElem?_set]
  by_cases e : i = j
  · subst e
    rw [hi, if_pos rfl, if_pos (List.getElem?_eq_some_iff.mp hi).1]
    show some (if x = x then (x, v) else (x, w)) = _
    rw [if_pos rfl]
  · rw [if_neg e]
    cases hj : l[j]? with
    | none => rfl
    | some y =>
      show some (if y.1 = x then (x, v) else y) = some y
      rw [if_neg]
      intro z
      exact e (nodup_at h hi j y hj z).symm
theorem st_setQ (z : Hd G H (stV K p dx b q as s ++ L)) (hl : s.queues.length = as.length) (nd : s.qs.Nodup) (h : x ∈ s.qs) : ∃ a, valV (queuesV s.queues as) (Sum.inr x) = some (.ref a) ∧ H a = some (.lst ((lookD [] x s.queues).map V.int)) ∧
    ∀ ns : List Int, Hd G (upd H a (.lst (ns.map V.int))) (stV K p dx b q as (s.setQ x ns) ++ L) := by
  obtain ⟨i, a, h1, h2, h3⟩ := val_queues hl h
  rw [stV_eq] at z
  have hz : (s.queues.zip as)[i]? = some ((x, lookD [] x s.queues), a) := by rw [List.getElem?_zip_eq_some]; exact ⟨h1, h2⟩
  have hz2 : ((s.queues.zip as).map fun e => (e.2, Eq (HO.lst (e.1.2.map V.int))))[i]? = some (a, Eq (HO.lst ((lookD [] x s.queues).map V.int))) := by rw [List.getElem?_map, hz]; rfl
  have hil := (List.getElem?_eq_some_iff.mp hz2).1
  have hi3 : ((p, Eq (HO.ins (He.ga K "State") dx (fl_State (.ref b) (.ref q) (.int s.drawn) (.int s.sent)))) :: (b, Eq (HO.dK (boxesV s.boxes))) :: (q, Eq (HO.dK (queuesV s.queues as))) :: ((s.queues.zip as).map fun e => (e.2, Eq (HO.lst (e.1.2.map V.int)))) ++ L)[i + 3]? = some (a, Eq (HO.lst ((lookD [] x s.queues).map V.int))) := by
    simp only [List.cons_append, List.getElem?_cons_succ]
    rw [List.getElem?_append_left hil]
    exact hz2
  refine ⟨a, h3, z.eq (List.mem_of_getElem? hi3), fun ns => ?_⟩
  have z2 := z.set (o' := .lst (ns.map V.int)) (ψ := Eq (.lst (ns.map V.int))) (i + 3) hi3 rfl
  rw [stV_eq]
  have e1 : (s.setQ x ns).queues = s.queues.set i (x, ns) := setA_at nd h1
  have e2 : ((s.setQ x ns).queues.zip as).map (fun e => (e.2, Eq (HO.lst (e.1.2.map V.int)))) = ((s.queues.zip as).map fun e => (e.2, Eq (HO.lst (e.1.2.map V.int)))).set i (a, Eq (.lst (ns.map V.int))) := by
    rw [e1]
    apply List.ext_getElem?
    intro j
    rw [List.getElem?_set, List.getElem?_map, List.getElem?_map]
    by_cases e : i = j
    · subst e
      rw [if_pos rfl, if_pos hil]
      have : ((s.queues.set i (x, ns)).zip as)[i]? = some ((x, ns), a) := by
        rw [List.getElem?_zip_eq_some]
        refine ⟨?_, h2⟩
        rw [List.getElem?_set, if_pos rfl, if_pos (List.getElem?_eq_some_iff.mp h1).1]
      rw [this]
      rfl
    · rw [if_neg e]
      have : ((s.queues.set i (x, ns)).zip as)[j]? = (s.queues.zip as)[j]? := by
        rw [List.zip, List.getElem?_zipWith, List.getElem?_zipWith, List.getElem?_set, if_neg e]
      rw [this]
  have e3 : queuesV (s.setQ x ns).queues as = queuesV s.queues as := queuesV_set
  rw [e2, e3]
  simp only [List.cons_append, List.set_cons_succ] at z2
  rw [List.set_append_left _ _ hil] at z2
  exact z2
end
theorem lookD_mem {bs : List (Str × Int)} (h : ∀ p ∈ bs, Worth p.2) (x : Str) : Worth (lookD 0 x bs) := by
  induction bs with
  | nil =>
    show Worth 0
    exact ⟨by decide, by decide⟩
  | cons p r ih =>
    show Worth (if p.1 = x then p.2 else lookD 0 x r)
    split
    · exact h p List.mem_cons_self
    · exact ih fun q hq => h q (List.mem_cons_of_mem _ hq)
theorem lookQ_len {qs : List (Str × List Int)} {n : Nat} (h : ∀ p ∈ qs, p.2.length ≤ n) (x : Str) : (lookD [] x qs).length ≤ n := by
  induction qs with
  | nil => exact Nat.zero_le _
  | cons p r ih =>
    show (if p.1 = x then p.2 else lookD [] x r).length ≤ n
    split
    · exact h p List.mem_cons_self
    · exact ih fun q hq => h q (List.mem_cons_of_mem _ hq)
theorem setQ_all {s : MSt} {x : Str} {ns : List Int} {φ : List Int → Prop} (h : ∀ p ∈ s.queues, φ p.2) (hn : φ ns) : ∀ p ∈ (s.setQ x ns).queues, φ p.2 := fun p hp => by
  obtain ⟨q, hq, rfl⟩ := List.mem_map.mp hp
  show φ (if q.1 = x then (x, ns) else q).2
  split
  · exact hn
  · exact h q hq
end Mo
namespace Mo
open PySem PySem.Spec PyProof.Rows L2
/-! ### formulas.py -/
/-- a fault's exception -/
def fltE (K : PySem.W.Frag) (x : Flt) : Value := .ref (He.ga K x.cls)
def spKept (K : PySem.W.Frag) : Sp := fun vs H Q E => ∃ n : Int, vs = [.int n] ∧ (∀ m, keptIn n = .ok m → Q (.int m) H) ∧ (∀ x, keptIn n = .error x → E (fltE K x) none H)
def spOfTwo (K : PySem.W.Frag) : Sp := fun vs H Q E => ∃ (o : Op) (a b : Int), vs = [.str o.name, .int a, .int b] ∧ Worth a ∧ Worth b ∧ (∀ m, o.raw a b = .ok m → Q (.int m) H) ∧ (∀ x, o.raw a b = .error x → E (fltE K x) none H)
def spWorthOf (n : Nat) (K : PySem.W.Frag) : Sp := fun vs H Q E => ∃ (x : V) (f : Fm) (p g : Addr) (s : MSt) (now g0 g1 : Int), vs = [x, .ref p, .int now, .ref g] ∧ Dp K H x f.data ∧ f.depth < n ∧ StAt K H p s ∧
  SqL K H g [.int g0, .int g1] ∧ f.Ok s.bs s.qs ∧ (s.env now g0 g1).Ok s.bs s.qs ∧
  (∀ m, f.ev (s.env now g0 g1) = .ok m → Q (.int m) H) ∧ (∀ x, f.ev (s.env now g0 g1) = .error x → E (fltE K x) none H)
section
variable {P : Program} {w : World} {K : PySem.W.Frag} {mg : Str → Option Value} {base : Heap}
theorem stAt_env {H : Hp} {p : Addr} {s : MSt} (h : StAt K H p s) : ∃ dx b q, H p = some (.ins (He.ga K "State") dx (fl_State (.ref b) (.ref q) (.int s.drawn) (.int s.sent))) ∧ H b = some (.dK (boxesV s.boxes)) ∧
    ∃ as, H q = some (.dK (queuesV s.queues as)) ∧ ∀ x ∈ s.qs, ∃ a, valV (queuesV s.queues as) (Sum.inr x) = some (.ref a) ∧ H a = some (.lst ((lookD [] x s.queues).map V.int)) := by
  obtain ⟨dx, b, q, as, hl, hi⟩ := h.there
  refine ⟨dx, b, q, hi _ (List.mem_cons_self), hi _ (List.mem_cons_of_mem _ List.mem_cons_self), as, hi _ (List.mem_cons_of_mem _ (List.mem_cons_of_mem _ List.mem_cons_self)), fun x hx => ?_⟩
  obtain ⟨i, a, h1, h2, h3⟩ := val_queues hl hx
  refine ⟨a, h3, hi (a, _) (List.mem_cons_of_mem _ (List.mem_cons_of_mem _ (List.mem_cons_of_mem _ ?_)))⟩
  refine List.mem_map.mpr ⟨((x, lookD [] x s.queues), a), ?_, rfl⟩
  have e : (s.queues.zip as)[i]? = some ((x, lookD [] x s.queues), a) := by rw [List.getElem?_zip_eq_some]; exact ⟨h1, h2⟩
  exact List.mem_of_getElem? e
end
end Mo
namespace Mo
open PySem PySem.Spec PyProof.Rows L2
/-! ### a state, by facts and segments -/
def quV (qs : List (Str × List Int)) (as : List Addr) : Vo := (qs.zip as).map fun e => (e.2, Eq (HO.lst (e.1.2.map V.int)))
theorem quV_app {qs rs : List (Str × List Int)} {as bs : List Addr} (h : qs.length = as.length) : quV (qs ++ rs) (as ++ bs) = quV qs as ++ quV rs bs := by
  unfold quV
  rw [List.zip_append h, List.map_append]
theorem stV_qu (K : PySem.W.Frag) (p dx b q : Addr) (as : List Addr) (s : MSt) : stV K p dx b q as s = (p, Eq (.ins (He.ga K "State") dx (fl_State (.ref b) (.ref q) (.int s.drawn) (.int s.sent)))) :: (b, Eq (.dK (boxesV s.boxes))) :: (q, Eq (.dK (queuesV s.queues as))) :: quV s.queues as := stV_eq ..
section
variable {K : PySem.W.Frag} {Γ : List Fc} {S S' : List Vo} {Q : VK} {E : XK} {p dx b q : Addr} {as : List Addr} {s : MSt} {x : Str}
theorem at_st (m : stV K p dx b q as s ∈ S) : AtH K Γ S p (.ins (He.ga K "State") dx (fl_State (.ref b) (.ref q) (.int s.drawn) (.int s.sent))) := AtH.seg m fun _ _ _ z => st_obj z
theorem at_bx (m : stV K p dx b q as s ∈ S) : AtH K Γ S b (.dK (boxesV s.boxes)) := AtH.seg m fun _ _ _ z => st_box z
theorem at_qu (m : stV K p dx b q as s ∈ S) : AtH K Γ S q (.dK (queuesV s.queues as)) := AtH.seg m fun _ _ _ z => st_que z
theorem at_q {a : Addr} (m : stV K p dx b q as s ∈ S) (hl : s.queues.length = as.length) (nd : s.qs.Nodup) (hx : x ∈ s.qs) (e : valV (queuesV s.queues as) (Sum.inr x) = some (.ref a)) : AtH K Γ S a (.lst ((lookD [] x s.queues).map V.int)) := AtH.seg m fun G H L z => by
  obtain ⟨a', h1, h2, _⟩ := st_setQ z hl nd hx
  rw [e] at h1
  cases h1
  exact h2
theorem ch_setB (hx : x ∈ s.bs) (n : Int) : Ch (stV K p dx b q as s) b (.dK (putK (boxesV s.boxes) (Sum.inr x) (.int n))) (stV K p dx b q as (s.setB x n)) := fun _ _ _ z => st_setB z hx n
theorem ch_setN (d e : Int) : Ch (stV K p dx b q as s) p (.ins (He.ga K "State") dx (fl_State (.ref b) (.ref q) (.int d) (.int e))) (stV K p dx b q as { s with drawn := d, sent := e }) := fun _ _ _ z => st_setN z d e
theorem ch_setQ {a : Addr} (hl : s.queues.length = as.length) (nd : s.qs.Nodup) (hx : x ∈ s.qs) (e : valV (queuesV s.queues as) (Sum.inr x) = some (.ref a)) (ns : List Int) : Ch (stV K p dx b q as s) a (.lst (ns.map V.int)) (stV K p dx b q as (s.setQ x ns)) := fun G H L z => by
  obtain ⟨a', h1, _, h3⟩ := st_setQ z hl nd hx
  rw [e] at h1
  cases h1
  exact h3 ns
theorem q_addr (hl : s.queues.length = as.length) (hx : x ∈ s.qs) : ∃ a, valV (queuesV s.queues as) (Sum.inr x) = some (.ref a) := by
  obtain ⟨i, a, _, _, h⟩ := val_queues hl hx
  exact ⟨a, h⟩
theorem boxesV_len (bs : List (Str × Int)) : (boxesV bs).length = bs.length := List.length_map ..
/-- the state's boxes are written -/
theorem w_setSt {n : Int} {A : Hp → Prop} (m : Rp (stV K p dx b q as s) (stV K p dx b q as (s.setB x n)) S S') (hx : x ∈ s.bs) (hl : s.boxes.length ≤ 1000) (k : Wh K Γ S' A) : Wh K Γ S fun H => rSet (.ref b) (.str x) (.int n) H A := fun H z =>
  go_setK (at_bx m.mem H z) (by rw [boxesV_len, sizeLine_eq]; omega) (k _ (z.rp m (ch_setB hx n)))
theorem w_appQ {n : Int} {a : Addr} (m : Rp (stV K p dx b q as s) (stV K p dx b q as (s.setQ x (lookD [] x s.queues ++ [n]))) S S') (hl : s.queues.length = as.length) (nd : s.qs.Nodup) (hx : x ∈ s.qs) (e : valV (queuesV s.queues as) (Sum.inr x) = some (.ref a)) (hn : (lookD [] x s.queues).length ≤ 1000) (k : Wh K Γ S' fun H => Q .non H) :
    Wh K Γ S fun H => rAppend (.ref a) [.int n] H Q := fun H z => go_app (at_q m.mem hl nd hx e H z) (by rw [List.length_map, sizeLine_eq]; omega) (by
  have z1 := z.rp m (ch_setQ hl nd hx e (lookD [] x s.queues ++ [n]))
  rw [List.map_append] at z1
  exact k _ z1)
theorem w_putDrawn {d : Int} {A : Hp → Prop} (m : Rp (stV K p dx b q as s) (stV K p dx b q as { s with drawn := d }) S S') (k : Wh K Γ S' A) :
    Wh K Γ S fun H => ∃ dx' fs', H p = some (.ins (He.ga K "State") dx' fs') ∧ fs'.length < 1000 ∧ A (upd H p (.ins (He.ga K "State") dx' (putF "drawn" (.int d) fs'))) := fun H z => go_putL (at_st m.mem H z) rfl (by
  rw [pt_State_drawn]
  exact k _ (z.rp m (ch_setN d s.sent)))
theorem w_putSent {d : Int} {A : Hp → Prop} (m : Rp (stV K p dx b q as s) (stV K p dx b q as { s with sent := d }) S S') (k : Wh K Γ S' A) :
    Wh K Γ S fun H => ∃ dx' fs', H p = some (.ins (He.ga K "State") dx' fs') ∧ fs'.length < 1000 ∧ A (upd H p (.ins (He.ga K "State") dx' (putF "sent" (.int d) fs'))) := fun H z => go_putL (at_st m.mem H z) rfl (by
  rw [pt_State_sent]
  exact k _ (z.rp m (ch_setN s.drawn d)))
theorem w_inK {p : Addr} {kvs : List (Key × V)} {z : Str} {d : Bool} (m : AtH K Γ S p (.dK kvs)) (e : (valV kvs (Sum.inr z)).isSome = d) (k : Wh K Γ S fun H => Q (.bl d) H) : Wh K Γ S fun H => rInA K (.str z) (.ref p) H Q := fun H w => by
  subst e
  exact .inl ⟨p, _, rfl, DGet.k (k := Sum.inr z) (m H w), k H w⟩
theorem w_ninK {p : Addr} {kvs : List (Key × V)} {z : Str} {d : Bool} (m : AtH K Γ S p (.dK kvs)) (e : (valV kvs (Sum.inr z)).isSome = d) (k : Wh K Γ S fun H => Q (.bl (!d)) H) : Wh K Γ S fun H => rNotInA K (.str z) (.ref p) H Q := fun H w => by
  subst e
  exact .inl ⟨p, _, rfl, DGet.k (k := Sum.inr z) (m H w), k H w⟩
/-- a formula's worth -/
theorem w_worth {n : Nat} {v : V} {f : Fm} {gt : Addr} {now g0 g1 : Int} (hv : .dat v f.data ∈ Γ) (hd : f.depth < n) (m : stV K p dx b q as s ∈ S) (hl : s.queues.length = as.length) (hg : .dat (.ref gt) (.list [.int g0, .int g1]) ∈ Γ) (hf : f.Ok s.bs s.qs) (he : (s.env now g0 g1).Ok s.bs s.qs)
    (k1 : ∀ r, f.ev (s.env now g0 g1) = .ok r → Wh K Γ S fun H => Q (.int r) H) (k2 : ∀ r, f.ev (s.env now g0 g1) = .error r → Wh K Γ S fun H => E (fltE K r) none H) : Wh K Γ S fun H => spWorthOf n K [v, .ref p, .int now, .ref gt] H Q E := fun H z => by
  obtain ⟨G, L, h1, h2⟩ := z.seg m
  obtain ⟨ga, xs, ea, h3, h4⟩ := dp_lst (z.dat hg)
  cases ea
  have e4 : xs = [.int g0, .int g1] := by
    cases h4 with
    | cons a r => cases r with
      | cons b r => cases r; rw [dp_int a, dp_int b]
  subst e4
  exact ⟨v, f, p, gt, s, now, g0, g1, rfl, z.dat hv, hd, st_at h1 hl, h3, hf, he, fun r e => k1 r e H z, fun r e => k2 r e H z⟩
theorem w_popQ {n : Int} {r : List Int} {a : Addr} (m : Rp (stV K p dx b q as s) (stV K p dx b q as (s.setQ x r)) S S') (hl : s.queues.length = as.length) (nd : s.qs.Nodup) (hx : x ∈ s.qs) (e : valV (queuesV s.queues as) (Sum.inr x) = some (.ref a)) (hn : lookD [] x s.queues = n :: r) (k : Wh K Γ S' fun H => Q (.int n) H) :
    Wh K Γ S fun H => rPopAt (.ref a) [.int 0] H Q := fun H z => by
  refine ⟨a, _, 0, 0, .int n, rfl, rfl, at_q m.mem hl nd hx e H z, by decide, by decide, ?_, by rw [hn]; rfl, ?_⟩
  · rw [hn]
    unfold seqIndex?
    simp
  · have z1 := z.rp m (ch_setQ hl nd hx e r)
    rw [hn]
    exact k _ z1
theorem w_intB {c : Bool} {A : Int → Hp → Prop} {B : Bool → Hp → Prop} (k : Wh K Γ S fun H => B c H) : Wh K Γ S fun H => (∃ i, [V.bl c] = [V.int i] ∧ A i H) ∨ (∃ d, [V.bl c] = [V.bl d] ∧ B d H) := fun H z => .inr ⟨c, rfl, k H z⟩
theorem w_intI {i : Int} {A : Int → Hp → Prop} {B : Bool → Hp → Prop} (k : Wh K Γ S fun H => A i H) : Wh K Γ S fun H => (∃ j, [V.int i] = [V.int j] ∧ A j H) ∨ (∃ d, [V.int i] = [V.bl d] ∧ B d H) := fun H z => .inl ⟨i, rfl, k H z⟩
end
end Mo
namespace Mo
open PySem PySem.Spec PyProof.Rows L2
/-! ### the order of tuples of ints -/
theorem lex_irr : ∀ a : List Int, HT.lexLt a a = false
  | [] => rfl
  | x :: r => by rw [HT.lexLt_cons, if_pos rfl]; exact lex_irr r
theorem lex_tri : ∀ {a b : List Int}, HT.lexLt a b = false → HT.lexLt b a = false → a = b
  | [], [], _, _ => rfl
  | [], y :: s, h, _ => by rw [HT.lexLt_nil_cons] at h; cases h
  | x :: r, [], _, h => by rw [HT.lexLt_nil_cons] at h; cases h
  | x :: r, y :: s, h, k => by
    rw [HT.lexLt_cons] at h k
    by_cases e : x = y
    · subst e
      rw [if_pos rfl] at h k
      rw [lex_tri h k]
    · rw [if_neg e] at h
      rw [if_neg (fun z => e z.symm)] at k
      have h1 := of_decide_eq_false h
      have h2 := of_decide_eq_false k
      omega
theorem lex_trans : ∀ {a b c : List Int}, HT.lexLt a b = true → HT.lexLt b c = true → HT.lexLt a c = true
  | [], [], _, h, _ => by rw [HT.lexLt_nil_nil] at h; cases h
  | _ :: _, [], _, h, _ => by rw [HT.lexLt_cons_nil] at h; cases h
  | _, _ :: _, [], _, k => by rw [HT.lexLt_cons_nil] at k; cases k
  | [], _ :: _, _ :: _, _, _ => HT.lexLt_nil_cons _ _
  | x :: r, y :: s, z :: t, h, k => by
    rw [HT.lexLt_cons] at h k ⊢
    by_cases e : x = y
    · subst e
      rw [if_pos rfl] at h
      by_cases f : x = z
      · subst f
        rw [if_pos rfl] at k ⊢
        exact lex_trans h k
      · rw [if_neg f] at k ⊢
        exact k
    · rw [if_neg e] at h
      have h1 := of_decide_eq_true h
      by_cases f : y = z
      · subst f
        rw [if_neg e]
        exact h
      · rw [if_neg f] at k
        have h2 := of_decide_eq_true k
        rw [if_neg (by omega)]
        exact decide_eq_true (by omega)
theorem lex_asym {a b : List Int} (h : HT.lexLt a b = true) : HT.lexLt b a = false := by
  cases e : HT.lexLt b a with
  | false => rfl
  | true =>
    have := lex_trans h e
    rw [lex_irr] at this
    cases this
theorem lex_ne {a b : List Int} (h : HT.lexLt a b = true) : a ≠ b := fun e => by
  rw [e, lex_irr] at h
  cases h
/-- a ≤ b < c -/
theorem lex_le_lt {a b c : List Int} (h : HT.lexLt b a = false) (k : HT.lexLt b c = true) : HT.lexLt a c = true := by
  cases e : HT.lexLt a b with
  | true => exact lex_trans e k
  | false => rw [lex_tri e h]; exact k
theorem lex_lt_le {a b c : List Int} (h : HT.lexLt a b = true) (k : HT.lexLt c b = false) : HT.lexLt a c = true := by
  cases e : HT.lexLt b c with
  | true => exact lex_trans h e
  | false => rw [← lex_tri e k]; exact h
/-- the least, found from the left -/
theorem best_least (f : Nat → List Int) : ∀ n, argBest (fun i j => HT.lexLt (f i) (f j)) n ≤ n ∧ ∀ j, j ≤ n → HT.lexLt (f j) (f (argBest (fun i j => HT.lexLt (f i) (f j)) n)) = false
  | 0 => ⟨Nat.le_refl _, fun j hj => by
    obtain rfl := Nat.le_zero.mp hj
    exact lex_irr _⟩
  | n + 1 => by
    obtain ⟨h1, h2⟩ := best_least f n
    have e : argBest (fun i j => HT.lexLt (f i) (f j)) (n + 1) = if HT.lexLt (f (n + 1)) (f (argBest (fun i j => HT.lexLt (f i) (f j)) n)) = true then n + 1 else argBest (fun i j => HT.lexLt (f i) (f j)) n := rfl
    rw [e]
    cases hb : HT.lexLt (f (n + 1)) (f (argBest (fun i j => HT.lexLt (f i) (f j)) n)) with
    | true =>
      rw [if_pos rfl]
      refine ⟨Nat.le_refl _, fun j hj => ?_⟩
      rcases Nat.lt_or_ge j (n + 1) with hj | hj
      · cases hc : HT.lexLt (f j) (f (n + 1)) with
        | false => rfl
        | true =>
          have := lex_trans hc hb
          rw [h2 j (by omega)] at this
          cases this
      · have : j = n + 1 := by omega
        subst this
        exact lex_irr _
    | false =>
      rw [if_neg Bool.false_ne_true]
      refine ⟨by omega, fun j hj => ?_⟩
      rcases Nat.lt_or_ge j (n + 1) with hj | hj
      · exact h2 j (by omega)
      · have : j = n + 1 := by omega
        subst this
        exact hb
/-! ### dicts: pop of what is there -/
/-- d.pop(y): v leaves, H' is left -/
def DPop (H : Hp) (a : Addr) (y v : V) (H' : Hp) : Prop :=
  (∃ kvs k, H a = some (.dK kvs) ∧ y = kV k ∧ valV kvs k = some v ∧ H' = upd H a (.dK (dropK kvs k))) ∨
  ∃ kvs k b, H a = some (.dT kvs) ∧ y = .ref b ∧ H b = some (.tup (k.map kV)) ∧ valV kvs k = some v ∧ H' = upd H a (.dT (dropK kvs k))
def rDPop1 : V → List V → Hp → VK → Prop := fun x xs H Q => ∃ a y v H', x = .ref a ∧ xs = [y] ∧ DPop H a y v H' ∧ Q v H'
theorem paired_get {α β : Type} {F : α → β → Prop} : ∀ {l : List α} {r : List β} {i : Nat} {b : β}, Paired F l r → r[i]? = some b → ∃ a, l[i]? = some a ∧ F a b
  | _, _, i, b, .nil, e => by simp at e
  | _, _, 0, b, .cons h _, e => by
    simp only [List.getElem?_cons_zero, Option.some.injEq] at e
    subst e
    exact ⟨_, rfl, h⟩
  | _, _, i + 1, b, .cons _ t, e => by
    rw [List.getElem?_cons_succ] at e
    obtain ⟨a, h1, h2⟩ := paired_get t e
    exact ⟨a, by rw [List.getElem?_cons_succ]; exact h1, h2⟩
theorem moved_eq {wr : List Addr} {s s' : Shared} (h : Moved wr (fun a b => b = a) s s') : s' = { s with heap := s'.heap, toks := s'.toks } := by
  obtain ⟨hp, g, d, tk, os⟩ := s
  obtain ⟨hp', g', d', tk', os'⟩ := s'
  obtain ⟨_, h2, h3, h4, _⟩ := h
  cases h2
  cases h3
  cases h4
  rfl
theorem withoutH_eq {K : Type} [DecidableEq K] (xs : List (K × Addr × Value)) (k : K) : withoutH xs k = DT.dropH xs k := rfl
section
variable {X : Cx}
theorem mt_dpop1 (hu : X.A.units + 1 < cLine) : MtR X "dict.pop" rDPop1 := by
  intro pins s σ H x xs v us Q I rx rxs h
  obtain ⟨a, y, w', H', rfl, rfl, g, q⟩ := h
  cases rx
  obtain ⟨u, rfl, ry⟩ := rxs.one
  rcases g with ⟨kvs, k, ea, rfl, l, rfl⟩ | ⟨kvs, k, b, ea, rfl, eb, l, rfl⟩
  · exact d_pop (more := []) I ea ry l (.inl rfl) fun w2 s3 I3 rw' => ⟨w', _, I3, rw', q⟩
  · cases ry
    obtain ⟨z, hd, xs', rel, dd⟩ := dt_of I.hok ea
    have hz : xs'.length ≤ sizeLine := by rw [← Paired.length rel]; exact z
    have r := rel.val k
    rw [l] at r
    obtain ⟨p, hp, rp⟩ : ∃ p, atKey xs' k = some p ∧ RelV w' p.2 := by
      cases e : atKey xs' k with
      | none =>
        rw [e] at r
        exact (show False from r).elim
      | some p =>
        rw [e] at r
        exact ⟨p, rfl, r⟩
    refine call_pop_heap (knd := tupleKind (mixKind X.prog X.w)) (more := []) (.inl rfl) (PySem.F.args_dict_pop_2 _ _) (tupleKind_room_in1 hu) (key_of I.hok eb) hd dd hp (fun h' dd' hs => ?_) hz
    obtain ⟨o, es, ep, hq, h2, h3, h4, _, h5⟩ := dd'
    have I2 : Inv X pins σ (upd H a (.dT (dropK kvs k))) { s with heap := h', toks := s.toks + (tupleKind (mixKind X.prog X.w)).draws k } :=
      d_write I (by rw [ea]; exact True.intro) hs ⟨o, hq⟩ ⟨Nat.le_trans (dropK_le kvs k) z, hd, _, (DX.KT_drop k rel).keeps (fun c ys ec => (by rw [upd_ne (ne_of ec ea (fun z => nomatch z))]; exact ec)), o, es, ep, hq, h2, h3, h4, h5⟩
    exact ⟨w', _, I2, rp, q⟩
/-! ### min of a dict whose keys are tuples of ints -/
def rMinT : List V → Hp → VK → Prop := fun vs H Q => ∃ (a : Addr) (kvs : List (List Key × V)) (F : List (List Int)), vs = [V.ref a] ∧ H a = some (.dT kvs) ∧ kvs.map (·.1) = F.map (fun ns => ns.map Sum.inl) ∧ F ≠ [] ∧
  ∀ (b : Addr) (ns : List Int), ns ∈ F → (∀ ms ∈ F, HT.lexLt ms ns = false) → H b = some (.tup (ns.map V.int)) → Q (.ref b) H
theorem map_kV_inl (ns : List Int) : (ns.map (Sum.inl : Int → Key)).map kV = ns.map V.int := by
  rw [List.map_map]
  rfl
theorem cr_minT (hc : X.calm = true) (hu : X.A.units + 1 < cLine) : CallR X (.builtin "min") rMinT := by
  intro pins s σ H vs us Q I r h
  obtain ⟨a, kvs, F, rfl, ha, hF, hne, q⟩ := h
  rw [Vals.ref1 r]
  obtain ⟨z, hs, ks, pr, o, es, ep, ho, hx, hdt, he, hn⟩ := (show ObjOk X.prog X.w H s.heap a (.dT kvs) from I.hok a _ ha)
  have l1 : es.size = ks.length := size_of_entries he
  have l2 : kvs.length = ks.length := Paired.length pr
  have l3 : kvs.length = F.length := by
    have e := congrArg List.length hF
    rw [List.length_map, List.length_map] at e
    exact e
  have hlt : a < s.heap.objs.size := Heap.lt_size ho
  have hpos : 0 < es.size := by
    have := List.length_pos_iff.mpr hne
    omega
  -- the key at a place
  have key : ∀ (i : Nat) (v : Value), (∃ en : DictEntry, es[i]? = some en ∧ v = en.key) → ∃ (b : Addr) (ns : List Int), v = .ref b ∧ F[i]? = some ns ∧ H b = some (.tup (ns.map V.int)) := fun i v ⟨en, hen, hv⟩ => by
    have qe := entry_at he i
    rw [hen] at qe
    cases hb : ks[i]? with
    | none => rw [hb] at qe; exact nomatch (show some en = none from qe)
    | some x =>
      rw [hb] at qe
      have e2 : en = entryOfKey (tupleKind (mixKind X.prog X.w)) x := Option.some.inj qe
      obtain ⟨p, hp, e3, e4, _⟩ : ∃ p, kvs[i]? = some p ∧ p.1 = x.1 ∧ H x.2.1 = some (.tup (p.1.map kV)) ∧ True := by
        obtain ⟨p, hp, h1, h2, _⟩ := paired_get pr hb
        exact ⟨p, hp, h1, h2, True.intro⟩
      have e5 : (kvs.map (·.1))[i]? = some p.1 := by rw [List.getElem?_map, hp] <;> rfl
      rw [hF, List.getElem?_map] at e5
      obtain ⟨ns, hns, e6⟩ := Option.map_eq_some_iff.mp e5
      refine ⟨x.2.1, ns, by rw [hv, e2] <;> rfl, hns, ?_⟩
      rw [e4, ← e6, map_kV_inl]
  have key2 : ∀ (b : Addr) (ns : List Int), H b = some (.tup (ns.map V.int)) → ∃ its : Array Value, IsTup s.heap b its ∧ IntsAre its.toList ns := fun b ns e => by
    obtain ⟨its, rv, hT, _⟩ := I.tuple (SqT.of e)
    exact ⟨its.toArray, hT, by simpa using rv.ints⟩
  refine call_min_walkH (iter_keys hs ho hx hdt ?_)
  refine ⟨_, _, _, _, _, _, _, s.heap, fun i j => HT.lexLt (F.getD i []) (F.getD j []), rfl, (walks_raw (A := X.A.in1) (I.ok.hd hc) s.heap.objs.size a (Nat.ne_of_lt hlt) hdt).toS,
    ⟨⟨_, Heap.get?_push_size _ rfl, rfl, rfl⟩, Heap.get?_push_of_some _ ho⟩, fun b hb => ?_, hpos, fun b u e hm => ?_, fun b u e => Heap.get?_push_of_some _ e, ?_, fun v s' hP hk => ?_⟩
  · show b < (s.heap.push _).objs.size
    rw [Heap.size_push]
    rcases List.mem_cons.mp hb with e | hb
    · rw [e]
      exact Nat.lt_succ_self _
    · rw [List.mem_singleton.mp hb]
      exact Nat.lt_succ_of_lt hlt
  · have e1 := List.mem_singleton.mp hm
    have e2 := Heap.lt_size e
    rw [e1] at e2
    exact absurd e2 (Nat.lt_irrefl _)
  · intro i j vi vj s2 Q2 E2 hkeep hi hj hq
    obtain ⟨b1, n1, rfl, f1, t1⟩ := key i vi hi
    obtain ⟨b2, n2, rfl, f2, t2⟩ := key j vj hj
    obtain ⟨its1, T1, a1⟩ := key2 b1 n1 t1
    obtain ⟨its2, T2, a2⟩ := key2 b2 n2 t2
    refine HT.lt_tupInts (let ⟨o, e, z⟩ := T1; ⟨o, hkeep _ o e, z⟩) (let ⟨o, e, z⟩ := T2; ⟨o, hkeep _ o e, z⟩) a1 a2 (show X.A.in1.units < cLine from by show X.A.units + 1 < cLine; exact hu) ?_
    have g1 : F.getD i [] = n1 := by rw [List.getD_eq_getElem?_getD, f1] <;> rfl
    have g2 : F.getD j [] = n2 := by rw [List.getD_eq_getElem?_getD, f2] <;> rfl
    have hq' : Q2 (Value.bool (HT.lexLt (F.getD i []) (F.getD j []))) s2 := hq
    rw [g1, g2] at hq'
    exact hq'
  · obtain ⟨b, ns, rfl, hf, hb⟩ := key _ v hP
    obtain ⟨b1, b2⟩ := best_least (fun i => F.getD i []) (es.size - 1)
    have g1 : F.getD (argBest (fun i j => HT.lexLt (F.getD i []) (F.getD j [])) (es.size - 1)) [] = ns := by rw [List.getD_eq_getElem?_getD, hf] <;> rfl
    rw [g1] at b2
    have I2 : Inv X pins σ H s' := by
      rw [moved_eq hk]
      exact I.kept (t' := s'.toks) fun b u e => hk.heap b u (fun hmem => by
        have e1 := List.mem_singleton.mp hmem
        have e2 := Heap.lt_size e
        rw [e1] at e2
        exact absurd e2 (Nat.lt_irrefl _)) (Heap.get?_push_of_some _ e)
    refine ⟨.ref b, H, I2, rfl, q b ns (List.mem_of_getElem? hf) (fun ms hm => ?_) hb⟩
    obtain ⟨j, hj, e⟩ := List.mem_iff_getElem.mp hm
    have := b2 j (by omega)
    rw [List.getD_eq_getElem?_getD, List.getElem?_eq_getElem hj] at this
    rw [← e]
    exact this
end
/-! ### d.copy() -/
def rDCopy : V → List V → Hp → VK → Prop := fun x xs H Q => ∃ a kvs, x = .ref a ∧ xs = [] ∧ H a = some (.dK kvs) ∧ ∀ p, H p = none → Q (.ref p) (upd H p (.dK kvs))
section
variable {X : Cx}
theorem mt_dcopy : MtR X "dict.copy" rDCopy := by
  intro pins s σ H x xs v us Q I rx rxs h
  obtain ⟨a, kvs, rfl, rfl, ha, q⟩ := h
  cases rx
  cases rxs
  obtain ⟨z, hd, vs, rel, dd⟩ := dk_of I.hok ha
  refine call_meetsIn PySem.F.slot_dict_copy dd.typeIs PySem.F.entry_dict_copy (PySem.F.args_dict_copy_1 _) (meets_dict_copy (mixKind X.prog X.w) a hd) ?_
  refine ⟨vs, dd, by rw [← rel.length]; exact z, fun h' d1 _ k => ?_⟩
  refine ⟨.ref s.heap.objs.size, upd H s.heap.objs.size (.dK kvs), I.laid (t' := s.toks) k (Nat.le_refl _) ?_, rfl, q _ (I.hok.fresh (Nat.le_refl _))⟩
  exact dk_new z (beq_eq_false_iff_ne.mpr (Nat.ne_of_gt I.big)) rel d1
end
theorem go_dcopy {H : Hp} {Q : VK} {a : Addr} {kvs : List (Key × V)} (h : H a = some (.dK kvs)) (k : ∀ p, H p = none → Q (.ref p) (upd H p (.dK kvs))) : rDCopy (.ref a) [] H Q := ⟨a, kvs, rfl, rfl, h, k⟩
end Mo
namespace Mo
open PySem PySem.Spec PyProof.Rows L2
/-! ### what a calendar keeps: plain Lean -/
structure Ent where
  k : List Int
  v : V
  t : V
abbrev Asc (es : List Ent) : Prop := es.Pairwise fun x y => HT.lexLt x.k y.k = true
def insE (e : Ent) : List Ent → List Ent
  | [] => [e]
  | x :: r => if HT.lexLt x.k e.k = true then x :: insE e r else e :: x :: r
def remE (k : List Int) (es : List Ent) : List Ent := es.filter fun e => decide (e.k ≠ k)
def getE (k : List Int) : List Ent → Option V
  | [] => none
  | x :: r => if x.k = k then some x.t else getE k r
theorem mem_insE {e x : Ent} : ∀ {es : List Ent}, x ∈ insE e es ↔ x = e ∨ x ∈ es
  | [] => by simp [insE]
  | y :: r => by
    unfold insE
    split
    · rw [List.mem_cons, mem_insE (es := r), List.mem_cons]
      constructor
      · rintro (h | h | h)
        · exact .inr (.inl h)
        · exact .inl h
        · exact .inr (.inr h)
      · rintro (h | h | h)
        · exact .inr (.inl h)
        · exact .inl h
        · exact .inr (.inr h)
    · rw [List.mem_cons]
theorem insE_perm (e : Ent) : ∀ es : List Ent, (insE e es).Perm (e :: es)
  | [] => .refl _
  | y :: r => by
    unfold insE
    split
    · exact ((insE_perm e r).cons y).trans (.swap _ _ _)
    · exact .refl _
theorem insE_len (e : Ent) (es : List Ent) : (insE e es).length = es.length + 1 := by rw [(insE_perm e es).length_eq]; rfl
theorem insE_asc {e : Ent} : ∀ {es : List Ent}, Asc es → e.k ∉ es.map (·.k) → Asc (insE e es)
  | [], _, _ => List.pairwise_singleton _ _
  | x :: r, h, n => by
    rw [List.map_cons, List.mem_cons, not_or] at n
    have h2 := List.pairwise_cons.mp h
    unfold insE
    split
    · rename_i hl
      refine List.pairwise_cons.mpr ⟨fun y hy => ?_, insE_asc h2.2 n.2⟩
      rcases mem_insE.mp hy with rfl | hy
      · exact hl
      · exact h2.1 y hy
    · rename_i hl
      have hl2 : HT.lexLt x.k e.k = false := by simpa using hl
      have h3 : HT.lexLt e.k x.k = true := by
        cases q : HT.lexLt e.k x.k with
        | true => rfl
        | false => exact absurd (lex_tri q hl2) n.1
      refine List.pairwise_cons.mpr ⟨fun y hy => ?_, h⟩
      rcases List.mem_cons.mp hy with rfl | hy
      · exact h3
      · exact lex_trans h3 (h2.1 y hy)
theorem insE_at {e : Ent} : ∀ {es : List Ent} {n : Nat}, n ≤ es.length → (∀ i x, i < n → es[i]? = some x → HT.lexLt x.k e.k = true) → (∀ i x, n ≤ i → es[i]? = some x → HT.lexLt x.k e.k = false) → insE e es = es.take n ++ e :: es.drop n
  | [], n, hn, _, _ => by
    obtain rfl : n = 0 := by simpa using hn
    rfl
  | x :: r, 0, _, _, h => by
    have := h 0 x (Nat.le_refl _) rfl
    unfold insE
    rw [this, if_neg Bool.false_ne_true]
    rfl
  | x :: r, n + 1, hn, h1, h2 => by
    have := h1 0 x (Nat.succ_pos _) rfl
    unfold insE
    rw [this, if_pos rfl, insE_at (n := n) (by simpa using hn) (fun i y hi hy => h1 (i + 1) y (by omega) (by simpa using hy)) (fun i y hi hy => h2 (i + 1) y (by omega) (by simpa using hy))]
    rfl
theorem asc_nodup {es : List Ent} (h : Asc es) : (es.map (·.k)).Nodup := by
  rw [List.nodup_iff_pairwise_ne, List.pairwise_map]
  exact h.imp fun q => lex_ne q
theorem remE_asc {k : List Int} {es : List Ent} (h : Asc es) : Asc (remE k es) := h.filter _
theorem mem_remE {k : List Int} {x : Ent} {es : List Ent} : x ∈ remE k es ↔ x ∈ es ∧ x.k ≠ k := by
  unfold remE
  rw [List.mem_filter, decide_eq_true_iff]
theorem getE_none {k : List Int} : ∀ {es : List Ent}, getE k es = none ↔ k ∉ es.map (·.k)
  | [] => by simp [getE]
  | x :: r => by
    unfold getE
    rw [List.map_cons, List.mem_cons, not_or]
    by_cases e : x.k = k
    · rw [if_pos e]
      constructor
      · intro z; cases z
      · intro z; exact absurd e.symm z.1
    · rw [if_neg e, getE_none (es := r)]
      exact ⟨fun z => ⟨fun q => e q.symm, z⟩, fun z => z.2⟩
theorem getE_mem {k : List Int} {t : V} : ∀ {es : List Ent}, getE k es = some t → ∃ x ∈ es, x.k = k ∧ x.t = t
  | [], h => by simp [getE] at h
  | x :: r, h => by
    unfold getE at h
    by_cases e : x.k = k
    · rw [if_pos e] at h
      exact ⟨x, List.mem_cons_self, e, Option.some.inj h⟩
    · rw [if_neg e] at h
      obtain ⟨y, h1, h2⟩ := getE_mem h
      exact ⟨y, List.mem_cons_of_mem _ h1, h2⟩
theorem getE_of {es : List Ent} {x : Ent} (h : (es.map (·.k)).Nodup) (m : x ∈ es) : getE x.k es = some x.t := by
  induction es with
  | nil => cases m
  | cons y r ih =>
    rw [List.map_cons, List.nodup_cons] at h
    unfold getE
    rcases List.mem_cons.mp m with rfl | m
    · rw [if_pos rfl]
    · rw [if_neg (fun e => h.1 (by rw [e]; exact List.mem_map_of_mem m))]
      exact ih h.2 m
theorem remE_none {k : List Int} {es : List Ent} (h : k ∉ es.map (·.k)) : remE k es = es := by
  unfold remE
  refine List.filter_eq_self.mpr fun y hy => ?_
  exact decide_eq_true fun z => h (by rw [← z]; exact List.mem_map_of_mem hy)
/-- the key at n leaves -/
theorem remE_at : ∀ {es : List Ent} {n : Nat} {x : Ent}, (es.map (·.k)).Nodup → es[n]? = some x → es.eraseIdx n = remE x.k es
  | [], n, x, _, h => by simp at h
  | y :: r, 0, x, hn, h => by
    obtain rfl : y = x := by simpa using h
    rw [List.map_cons, List.nodup_cons] at hn
    rw [List.eraseIdx_cons_zero]
    unfold remE
    rw [List.filter_cons_of_neg (by simp)]
    exact (remE_none hn.1).symm
  | y :: r, n + 1, x, hn, h => by
    have h2 : r[n]? = some x := by simpa using h
    rw [List.map_cons, List.nodup_cons] at hn
    have ne : y.k ≠ x.k := fun z => hn.1 (by rw [z]; exact List.mem_map_of_mem (List.mem_of_getElem? h2))
    rw [List.eraseIdx_cons_succ, remE_at hn.2 h2]
    unfold remE
    rw [List.filter_cons_of_pos (by simpa using ne)]
theorem remE_head {e : Ent} {r : List Ent} (h : Asc (e :: r)) : remE e.k (e :: r) = r := by
  have := remE_at (n := 0) (asc_nodup h) (x := e) rfl
  rw [← this]
  rfl
/-- where a key that is there stands -/
theorem place_at {es : List Ent} {k : List Int} {n : Nat} (h : Asc es) (h1 : ∀ i x, i < n → es[i]? = some x → HT.lexLt x.k k = true) (h2 : ∀ i x, n ≤ i → es[i]? = some x → HT.lexLt x.k k = false) {x : Ent} (m : x ∈ es) (hk : x.k = k) : es[n]? = some x := by
  obtain ⟨i, hi⟩ := List.mem_iff_getElem?.mp m
  rcases Nat.lt_trichotomy i n with z | z | z
  · have := h1 i x z hi
    rw [hk, lex_irr] at this
    cases this
  · rw [← z]; exact hi
  · have hil := (List.getElem?_eq_some_iff.mp hi).1
    have hn : es[n]? = some es[n] := List.getElem?_eq_getElem (by omega)
    have q := h2 n _ (Nat.le_refl _) hn
    have p := List.pairwise_iff_getElem.mp h n i (by omega) hil z
    rw [(List.getElem?_eq_some_iff.mp hi).2, hk, q] at p
    cases p
/-! #### dicts of them -/
section
variable {κ : Type} [DecidableEq κ]
theorem val_mem : ∀ {kvs : List (κ × V)} {k : κ} {v : V}, (kvs.map (·.1)).Nodup → ((k, v) ∈ kvs ↔ valV kvs k = some v)
  | [], k, v, _ => by
    constructor
    · intro z; cases z
    · intro z; cases (show (none : Option V) = some v from z)
  | (q, u) :: r, k, v, h => by
    rw [List.map_cons, List.nodup_cons] at h
    by_cases e : q = k
    · rw [valV_pos e]
      constructor
      · intro m
        rcases List.mem_cons.mp m with m | m
        · cases m; rfl
        · exact absurd (List.mem_map_of_mem (f := (·.1)) m) (by rw [← e]; exact h.1)
      · intro z
        cases z
        rw [← e]
        exact List.mem_cons_self
    · rw [valV_neg e, ← val_mem h.2]
      constructor
      · intro m
        rcases List.mem_cons.mp m with m | m
        · cases m; exact absurd rfl e
        · exact m
      · exact fun m => List.mem_cons_of_mem _ m
theorem val_perm {a b : List (κ × V)} {k : κ} (p : a.Perm b) (h : (b.map (·.1)).Nodup) : valV a k = valV b k := by
  have h2 : (a.map (·.1)).Nodup := (List.Perm.nodup_iff (p.map _)).mpr h
  apply Option.ext
  intro v
  rw [← val_mem h2, ← val_mem h]
  exact p.mem_iff
variable (f : Ent → κ)
theorem g_val {es : List Ent} {q : κ} {k : List Int} (hi : ∀ e ∈ es, f e = q ↔ e.k = k) : valV (es.map fun e => (f e, e.t)) q = getE k es := by
  induction es with
  | nil => rfl
  | cons x r ih =>
    have h := hi x List.mem_cons_self
    unfold getE
    rw [List.map_cons]
    by_cases e : x.k = k
    · rw [if_pos e]
      exact valV_pos (h.mpr e)
    · rw [if_neg e, valV_neg (fun z => e (h.mp z))]
      exact ih fun y hy => hi y (List.mem_cons_of_mem _ hy)
theorem g_put {kvs : List (κ × V)} {es : List Ent} {e : Ent} (p : kvs.Perm (es.map fun e => (f e, e.t))) (n : valV kvs (f e) = none) : (putK kvs (f e) e.t).Perm ((insE e es).map fun e => (f e, e.t)) := by
  rw [putK_new _ n]
  exact (List.perm_append_comm.trans (p.cons _)).trans ((insE_perm e es).map _).symm
theorem g_drop {kvs : List (κ × V)} {es : List Ent} {q : κ} {k : List Int} (hi : ∀ e ∈ es, f e = q ↔ e.k = k) (p : kvs.Perm (es.map fun e => (f e, e.t))) : (dropK kvs q).Perm ((remE k es).map fun e => (f e, e.t)) := by
  refine (p.filter _).trans (List.Perm.of_eq ?_)
  unfold remE
  rw [List.filter_map]
  congr 1
  refine List.filter_congr fun e he => ?_
  show decide (f e ≠ q) = decide (e.k ≠ k)
  exact decide_eq_decide.mpr (not_congr (hi e he))
end
/-! #### keys as values -/
def GoodK (b : Bool) (G : Hp) (e : Ent) : Prop := match b with
  | true => ∃ a, e.v = .ref a ∧ G a = some (.tup (e.k.map V.int))
  | false => ∃ i, e.v = .int i ∧ e.k = [i]
theorem GoodK.mono {b : Bool} {G G' : Hp} {e : Ent} (h : GoodK b G e) (x : Ext G G') : GoodK b G' e := by
  cases b with
  | true => obtain ⟨a, h1, h2⟩ := h; exact ⟨a, h1, x _ _ h2⟩
  | false => exact h
abbrev fT (e : Ent) : List Key := e.k.map Sum.inl
abbrev fK (e : Ent) : Key := Sum.inl (e.k.headD 0)
/-- the dict of things -/
def Thg (b : Bool) (es : List Ent) (o : HO) : Prop := match b with
  | true => ∃ kvs, o = .dT kvs ∧ kvs.Perm (es.map fun e => (fT e, e.t))
  | false => ∃ kvs, o = .dK kvs ∧ kvs.Perm (es.map fun e => (fK e, e.t))
theorem fT_inj {e x : Ent} : fT e = fT x ↔ e.k = x.k := ⟨fun h => (List.map_inj_right (fun _ _ q => Sum.inl.inj q)).mp h, fun h => by unfold fT; rw [h]⟩
theorem fK_inj {G G' : Hp} {e x : Ent} (h : GoodK false G e) (k : GoodK false G' x) : fK e = fK x ↔ e.k = x.k := by
  obtain ⟨i, _, h1⟩ := h
  obtain ⟨j, _, h2⟩ := k
  unfold fK
  rw [h1, h2]
  constructor
  · intro z
    have := Sum.inl.inj z
    simp only [List.headD_cons] at this
    rw [this]
  · intro z
    rw [z]
theorem fT_nodup {es : List Ent} (h : Asc es) : ((es.map fun e => (fT e, e.t)).map (·.1)).Nodup := by
  rw [List.map_map, List.nodup_iff_pairwise_ne, List.pairwise_map]
  exact h.imp fun q z => lex_ne q (fT_inj.mp z)
theorem fK_nodup {G : Hp} {es : List Ent} (h : Asc es) (g : ∀ e ∈ es, GoodK false G e) : ((es.map fun e => (fK e, e.t)).map (·.1)).Nodup := by
  rw [List.map_map, List.nodup_iff_pairwise_ne, List.pairwise_map]
  exact List.Pairwise.imp_of_mem (fun {a b} ha hb q z => lex_ne q ((fK_inj (g a ha) (g b hb)).mp z)) h
section
variable {b : Bool} {K : PySem.W.Frag} {G H : Hp} {x y e : Ent} {es : List Ent} {Q : VK} {th : Addr} {o : HO}
theorem go_ltE (xe : Ext G H) (ha : GoodK b G x) (hb : GoodK b G y) (k : Q (.bl (HT.lexLt x.k y.k)) H) : rLtA K x.v y.v H Q := by
  cases b with
  | true =>
    obtain ⟨a, e1, h1⟩ := ha
    obtain ⟨c, e2, h2⟩ := hb
    rw [e1, e2]
    exact go_ltT (SqT.of (xe _ _ h1)) (SqT.of (xe _ _ h2)) k
  | false =>
    obtain ⟨i, e1, h1⟩ := ha
    obtain ⟨j, e2, h2⟩ := hb
    rw [h1, h2, HT.lexLt_cons, HT.lexLt_nil_nil] at k
    rw [e1, e2]
    refine go_ltI ?_
    by_cases e : i = j
    · rw [if_pos e] at k
      rw [decide_eq_false (by omega)]
      exact k
    · rw [if_neg e] at k
      exact k
theorem thg_get (xe : Ext G H) (ht : H th = some o) (h : Thg b es o) (ha : Asc es) (hg : ∀ e ∈ es, GoodK b G e) (hx : GoodK b G x) : DGet H th x.v (getE x.k es) := by
  cases b with
  | true =>
    obtain ⟨kvs, rfl, p⟩ := h
    obtain ⟨a, e1, h1⟩ := hx
    have q := DGet.t (k := fT x) ht (b := a) (by rw [map_kV_inl]; exact xe _ _ h1)
    rw [e1]
    rw [val_perm p (fT_nodup ha), g_val fT (k := x.k) (fun e _ => fT_inj)] at q
    exact q
  | false =>
    obtain ⟨kvs, rfl, p⟩ := h
    have q := DGet.k (k := fK x) ht
    rw [val_perm p (fK_nodup ha hg), g_val fK (k := x.k) (fun e he => fK_inj (hg e he) hx)] at q
    obtain ⟨i, e1, h1⟩ := hx
    rw [e1]
    have e2 : kV (fK x) = .int i := by unfold fK; rw [h1]; rfl
    rw [e2] at q
    exact q
theorem thg_len {kvs : List (Key × V)} {n : Nat} (h : Thg b es o) : (∃ kvs : List (List Key × V), o = .dT kvs ∧ kvs.length = es.length) ∨ (∃ kvs : List (Key × V), o = .dK kvs ∧ kvs.length = es.length) := by
  cases b with
  | true =>
    obtain ⟨kvs, rfl, p⟩ := h
    exact .inl ⟨kvs, rfl, by rw [p.length_eq, List.length_map]⟩
  | false =>
    obtain ⟨kvs, rfl, p⟩ := h
    exact .inr ⟨kvs, rfl, by rw [p.length_eq, List.length_map]⟩
theorem thg_put (xe : Ext G H) (ht : H th = some o) (h : Thg b es o) (ha : Asc es) (hg : ∀ e ∈ es, GoodK b G e) (hx : GoodK b G x) (hn : x.k ∉ es.map (·.k)) (hl : es.length ≤ 10000) :
    ∃ o', Thg b (insE x es) o' ∧ DPut H th x.v x.t (upd H th o') := by
  have hn2 := getE_none.mpr hn
  cases b with
  | true =>
    obtain ⟨kvs, rfl, p⟩ := h
    obtain ⟨a, e1, h1⟩ := hx
    have hl2 : kvs.length < sizeLine := by rw [p.length_eq, List.length_map, sizeLine_eq]; omega
    have nn : valV kvs (fT x) = none := by rw [val_perm p (fT_nodup ha), g_val fT (k := x.k) (fun e _ => fT_inj)]; exact hn2
    refine ⟨.dT (putK kvs (fT x) x.t), ⟨_, rfl, g_put fT p nn⟩, ?_⟩
    rw [e1]
    exact DPut.t ht (by rw [map_kV_inl]; exact xe _ _ h1) hl2
  | false =>
    obtain ⟨kvs, rfl, p⟩ := h
    have hl2 : kvs.length < sizeLine := by rw [p.length_eq, List.length_map, sizeLine_eq]; omega
    have nn : valV kvs (fK x) = none := by rw [val_perm p (fK_nodup ha hg), g_val fK (k := x.k) (fun e he => fK_inj (hg e he) hx)]; exact hn2
    refine ⟨.dK (putK kvs (fK x) x.t), ⟨_, rfl, g_put fK p nn⟩, ?_⟩
    obtain ⟨i, e1, h1⟩ := hx
    have e2 : kV (fK x) = .int i := by unfold fK; rw [h1]; rfl
    rw [e1, ← e2]
    exact DPut.k ht hl2
theorem thg_pop {t : V} (xe : Ext G H) (ht : H th = some o) (h : Thg b es o) (ha : Asc es) (hg : ∀ e ∈ es, GoodK b G e) (hx : GoodK b G x) (hm : getE x.k es = some t) :
    ∃ o', Thg b (remE x.k es) o' ∧ DPop H th x.v t (upd H th o') := by
  cases b with
  | true =>
    obtain ⟨kvs, rfl, p⟩ := h
    obtain ⟨a, e1, h1⟩ := hx
    have nn : valV kvs (fT x) = some t := by rw [val_perm p (fT_nodup ha), g_val fT (k := x.k) (fun e _ => fT_inj)]; exact hm
    refine ⟨.dT (dropK kvs (fT x)), ⟨_, rfl, g_drop fT (fun e _ => fT_inj) p⟩, ?_⟩
    rw [e1]
    exact .inr ⟨kvs, fT x, a, ht, rfl, by rw [map_kV_inl]; exact xe _ _ h1, nn, rfl⟩
  | false =>
    obtain ⟨kvs, rfl, p⟩ := h
    have nn : valV kvs (fK x) = some t := by rw [val_perm p (fK_nodup ha hg), g_val fK (k := x.k) (fun e he => fK_inj (hg e he) hx)]; exact hm
    refine ⟨.dK (dropK kvs (fK x)), ⟨_, rfl, g_drop fK (fun e he => fK_inj (hg e he) hx) p⟩, ?_⟩
    obtain ⟨i, e1, h1⟩ := hx
    have e2 : kV (fK x) = .int i := by unfold fK; rw [h1]; rfl
    rw [e1, ← e2]
    exact .inl ⟨kvs, fK x, ht, rfl, nn, rfl⟩
end
theorem eqv_self {d : PyData} (h : SeqAt.shaped d = true) : PyData.eqv d d = true := SeqAt.eqv_refl d (SeqAt.canLay_of_shaped h)
end Mo
namespace Mo
open PySem PySem.Spec PyProof.Rows L2
/-! ### orders of the volatile objects -/
section
variable {α : Type} {A B X Y Z : List α} {a b : α}
theorem pm_step (h : Y.Perm (A ++ Z)) (k : X.Perm Z) : (A ++ X).Perm Y := (k.append_left A).trans h.symm
theorem pm_stepC (h : Y.Perm (a :: Z)) (k : X.Perm Z) : (a :: X).Perm Y := (k.cons a).trans h.symm
theorem pm_here : (A ++ Z).Perm (A ++ Z) := .refl _
theorem pm_last : A.Perm (A ++ []) := by rw [List.append_nil]
theorem pm_hereC : (a :: Z).Perm (a :: Z) := .refl _
theorem pm_skip (h : Y.Perm (A ++ Z)) : (B ++ Y).Perm (A ++ (B ++ Z)) := by
  refine (h.append_left B).trans ?_
  rw [← List.append_assoc, ← List.append_assoc]
  exact List.perm_append_comm.append_right Z
theorem pm_skipC (h : Y.Perm (A ++ Z)) : (b :: Y).Perm (A ++ (b :: Z)) := (h.cons b).trans List.perm_middle.symm
theorem pm_Cskip (h : Y.Perm (a :: Z)) : (B ++ Y).Perm (a :: (B ++ Z)) := (h.append_left B).trans List.perm_middle
theorem pm_CskipC (h : Y.Perm (a :: Z)) : (b :: Y).Perm (a :: (b :: Z)) := (h.cons b).trans (.swap _ _ _)
theorem pm_end : ([] : List α).Perm [] := .refl _
end
theorem Hd.dropA {G H : Hp} : ∀ {A L : Vo}, Hd G H (A ++ L) → Hd G H L
  | [], _, h => h
  | _ :: A, L, h => Hd.dropA (A := A) h.drop
/-! ### more steps -/
/-- a test, whatever way it is answered: what follows is shown once -/
theorem go_absT {c : TT} {σ : L2.St} {H : Hp} {F : Bool → Hp → Prop} (Pre : Bool → Hp → Prop) (k : ∀ X : Bool → Hp → Prop, (∀ b H1, Pre b H1 → X b H1) → c σ H X) (f : ∀ b H1, Pre b H1 → F b H1) : c σ H F := k F f
theorem go_absE {c : TE} {σ : L2.St} {H : Hp} {F : VK} (Pre : VK) (k : ∀ X : VK, (∀ v H1, Pre v H1 → X v H1) → c σ H X) (f : ∀ v H1, Pre v H1 → F v H1) : c σ H F := k F f
def rRev (K : PySem.W.Frag) : V → Hp → VK → Prop := fun x H Q => ∃ a xs, x = .ref a ∧ SqL K H a xs ∧ ∀ p, H p = none → Q (.ref p) (upd H p (.lst xs.reverse))
def rInsert : V → List V → Hp → VK → Prop := fun x vs H Q => ∃ (l : Addr) (xs : List V) (i : Int) (y : V), x = .ref l ∧ vs = [.int i, y] ∧ H l = some (.lst xs) ∧ xs.length < sizeLine ∧ 0 ≤ i ∧ i < 2 ^ 63 ∧ Q .non (upd H l (.lst (xs.take i.toNat ++ [y] ++ xs.drop i.toNat)))
theorem mt_insertN {X : Cx} : MtR X "list.insert" rInsert := mt_insert
section
variable {K : PySem.W.Frag} {σ : St} {H : Hp} {Q : VK} {ta te : TE} {v x y : V}
theorem go_insert {l : Addr} {xs : List V} {n : Nat} (h : H l = some (.lst xs)) (hn : n ≤ xs.length) (hl : xs.length ≤ 10000) (k : Q .non (upd H l (.lst (xs.take n ++ [y] ++ xs.drop n)))) : rInsert (.ref l) [.int (n : Int), y] H Q :=
  ⟨l, xs, (n : Int), y, rfl, rfl, h, by rw [sizeLine_eq]; omega, by omega, by omega, by rw [Int.toNat_natCast]; exact k⟩
theorem go_popAt {l : Addr} {xs : List V} {n : Nat} {j : Int} (hj : j = (n : Int)) (h : H l = some (.lst xs)) (hl : xs.length ≤ 10000) (e : xs[n]? = some y) (k : Q y (upd H l (.lst (xs.eraseIdx n)))) : rPopAt (.ref l) [.int j] H Q := by
  have hn := (List.getElem?_eq_some_iff.mp e).1
  subst hj
  refine ⟨l, xs, (n : Int), n, y, rfl, rfl, h, by omega, by omega, ?_, e, k⟩
  have h0 : ¬ ((n : Int) < 0) := by omega
  have h1 : (decide (0 ≤ (n : Int)) && decide ((n : Int) < (xs.length : Int))) = true := by simp; omega
  simp only [seqIndex?, h0, if_false, h1, if_true, Int.toNat_natCast]
theorem go_tyDT {p : Addr} {kvs : List (List Key × V)} {R : Prop} (h : H p = some (.dT kvs)) (k : R) : tyV K "dict" (.ref p) H ∧ R := ⟨.inr (.inr (.inl ⟨rfl, .inr ⟨kvs, h⟩⟩)), k⟩
theorem go_tyDK {p : Addr} {kvs : List (Key × V)} {R : Prop} (h : H p = some (.dK kvs)) (k : R) : tyV K "dict" (.ref p) H ∧ R := ⟨.inr (.inr (.inl ⟨rfl, .inl ⟨kvs, h⟩⟩)), k⟩
theorem go_dpop {p : Addr} {H' : Hp} (g : DPop H p y v H') (k : Q v H') : rDPop1 (.ref p) [y] H Q := ⟨p, y, v, H', rfl, rfl, g, k⟩
theorem go_inD {a : Addr} {o : Option V} (g : DGet H a x o) (k : Q (.bl o.isSome) H) : rInA K x (.ref a) H Q := .inl ⟨a, o, rfl, g, k⟩
theorem go_ninD {a : Addr} {o : Option V} (g : DGet H a x o) (k : Q (.bl (!o.isSome)) H) : rNotInA K x (.ref a) H Q := .inl ⟨a, o, rfl, g, k⟩
theorem go_strI {n : Int} {Q1 : Int → Prop} {A : Prop} (k : A) : A := k
theorem go_revL {a : Addr} {xs : List V} (h : SqL K H a xs) (k : ∀ p, H p = none → Q (.ref p) (upd H p (.lst xs.reverse))) : rRev K (.ref a) H Q := ⟨a, xs, rfl, h, k⟩
end
section
variable {X : Cx} {K : PySem.W.Frag}
theorem pe_revK {e : Expr} {te : TE} {k : Nat} {p1 p2 p3 pos : Pos} (hK : X.K = K) (he : PE X e te) : PE X (.Subscript e (.Slice none none (some (.UnaryOp .USub (.Constant (.int 1) k p1) p2)) p3) pos) (tUn (rRev K) te) := hK ▸ pe_revL he
end
theorem half (lo hi : Nat) : ((lo : Int) + (hi : Int)).fdiv 2 = (((lo + hi) / 2 : Nat) : Int) := by
  rw [Int.fdiv_eq_ediv_of_nonneg _ (by decide)]
  omega
end Mo
local macro_rules | `(tactic| k_extra "p") => `(tactic| ((try simp only [List.append_assoc, List.cons_append, List.nil_append, List.append_nil]); repeat (first
  | with_reducible exact List.Perm.refl _
  | with_reducible exact Mo.pm_last
  | (with_reducible apply Mo.pm_stepC; focus (repeat (first | with_reducible exact Mo.pm_hereC | with_reducible apply Mo.pm_CskipC | with_reducible apply Mo.pm_Cskip)))
  | (with_reducible apply Mo.pm_step; focus (repeat (first | with_reducible exact Mo.pm_here | with_reducible exact Mo.pm_last | with_reducible apply Mo.pm_skipC | with_reducible apply Mo.pm_skip))))))
namespace Mo
open PySem PySem.Spec PyProof.Rows L2
/-! #### dicts displayed; lists the other way about; texts asked for -/
section
variable {K : PySem.W.Frag} {Γ : List Fc} {S S' : List Vo} {σ : St} {Q : VK} {A : Hp → Prop} {te : TE}
theorem dpa_rev {H : Hp} : ∀ {vs : List V} {ds : List PyData}, DpAll K H vs ds → DpAll K H vs.reverse ds.reverse
  | _, _, .nil => .nil
  | _, _, .cons h r => by
    rw [List.reverse_cons, List.reverse_cons]
    exact dpa_app (dpa_rev r) (.cons h .nil)
/-- the list the other way about, as a new list -/
theorem w_revD {p : Addr} {ds : List PyData} (m : .dat (.ref p) (.list ds) ∈ Γ) (k : ∀ r vs, Wh K (.dats vs ds.reverse :: Γ) (own r (.lst vs) :: S) fun H => Q (.ref r) H) : Wh K Γ S fun H => rRev K (.ref p) H Q := fun H z => by
  obtain ⟨G, a, b⟩ := z
  obtain ⟨p', xs, ep, t1, t2⟩ := dp_lst (b _ m : Dp K G (.ref p) (.list ds))
  cases ep
  refine ⟨p, xs, rfl, ext_l a.ex t1, fun r hr => k r xs.reverse _ ?_⟩
  exact (Hg.new (o := .lst xs.reverse) (⟨G, a, cons_facts (f := .dats xs.reverse ds.reverse) (dpa_rev t2) b⟩ : Hg K (.dats xs.reverse ds.reverse :: Γ) S H) hr)
def mkD (p : Addr) (Q : VK) (ps : List (V × V)) (H : Hp) : Prop := H p = some (.dK []) ∧ ∃ kvs : List (Key × V), ps = kvs.map (fun kv => (kV kv.1, kv.2)) ∧ kvs.length ≤ 15 ∧ Q (.ref p) (upd H p (.dK (mergeK [] kvs)))
theorem w_disp {trs : List (TE × TE)} (k : ∀ p, Wh K Γ (own p (.dK []) :: S) fun H => tPairs trs σ H fun ps H2 => mkD p Q ps H2) : Wh K Γ S fun H => tDisp trs σ H Q := fun H z p hp => k p _ (z.new hp)
theorem w_pnil {Q : List (V × V) → Hp → Prop} (k : Wh K Γ S fun H => Q [] H) : Wh K Γ S fun H => tPairs [] σ H Q := k
theorem w_pcons {tk tv : TE} {r : List (TE × TE)} {Q : List (V × V) → Hp → Prop} (k : Wh K Γ S fun H => tk σ H fun x H1 => tv σ H1 fun y H2 => tPairs r σ H2 fun ps H3 => Q ((x, y) :: ps) H3) : Wh K Γ S fun H => tPairs ((tk, tv) :: r) σ H Q := k
theorem w_dispS {p : Addr} {ps : List (V × V)} (kvs : List (Key × V)) (m : Sw p (.dK []) (.dK (mergeK [] kvs)) S S') (e : ps = kvs.map fun kv => (kV kv.1, kv.2)) (hl : kvs.length ≤ 15) (k : Wh K Γ S' fun H => Q (.ref p) H) : Wh K Γ S fun H => mkD p Q ps H := fun H z => ⟨z.own m.mem, kvs, e, hl, k _ (z.sw m)⟩
/-- a list's last leaves -/
theorem w_pop {p : Addr} {xs : List V} {y : V} (m : Sw p (.lst (xs ++ [y])) (.lst xs) S S') (k : Wh K Γ S' fun H => Q y H) : Wh K Γ S fun H => rPop (.ref p) [] H Q := fun H z => by
  refine ⟨p, xs ++ [y], y, rfl, rfl, z.own m.mem, by simp, ?_⟩
  rw [List.dropLast_concat]
  exact k _ (z.sw m)
theorem w_clear {p : Addr} {xs : List V} (m : Sw p (.lst xs) (.lst []) S S') (k : Wh K Γ S' fun H => Q .non H) : Wh K Γ S fun H => rClear (.ref p) [] H Q := fun H z => ⟨p, xs, rfl, rfl, z.own m.mem, k _ (z.sw m)⟩
/-- what kind it is -/
theorem w_isi_ii {a : Int} (k : Wh K Γ S fun H => Q (.bl true) H) : Wh K Γ S fun H => rIsi K [.int a, .ty "int"] H Q := fun H z => go_isi_ii (k H z)
theorem w_isi_ib {a : Int} (k : Wh K Γ S fun H => Q (.bl false) H) : Wh K Γ S fun H => rIsi K [.int a, .ty "bool"] H Q := fun H z => go_isi_ib (k H z)
theorem w_isi_is {a : Int} (k : Wh K Γ S fun H => Q (.bl false) H) : Wh K Γ S fun H => rIsi K [.int a, .ty "str"] H Q := fun H z => go_isi_is (k H z)
theorem w_isi_ss {a : Str} (k : Wh K Γ S fun H => Q (.bl true) H) : Wh K Γ S fun H => rIsi K [.str a, .ty "str"] H Q := fun H z => go_isi_ss (k H z)
theorem w_isi_bb {a : Bool} (k : Wh K Γ S fun H => Q (.bl true) H) : Wh K Γ S fun H => rIsi K [.bl a, .ty "bool"] H Q := fun H z => go_isi_bb (k H z)
theorem w_isi_st {a : Str} (k : Wh K Γ S fun H => Q (.bl false) H) : Wh K Γ S fun H => rIsi K [.str a, .ty "tuple"] H Q := fun H z => go_isi (.ty _) (.base (.str _)) (kit_ty (by decide +kernel)) (k H z)
theorem w_isi_sl {a : Str} (k : Wh K Γ S fun H => Q (.bl false) H) : Wh K Γ S fun H => rIsi K [.str a, .ty "list"] H Q := fun H z => go_isi (.ty _) (.base (.str _)) (kit_ty (by decide +kernel)) (k H z)
theorem w_isi_il {a : Int} (k : Wh K Γ S fun H => Q (.bl false) H) : Wh K Γ S fun H => rIsi K [.int a, .ty "list"] H Q := fun H z => go_isi (.ty _) (.base (.int _)) (kit_ty (by decide +kernel)) (k H z)
theorem w_isi_tt {a : Addr} {xs : List V} (m : .obj a (.tup xs) ∈ Γ) (k : Wh K Γ S fun H => Q (.bl true) H) : Wh K Γ S fun H => rIsi K [.ref a, .ty "tuple"] H Q := fun H z => go_isi (.ty _) (.base (.tup (z.obj m))) (kit_ty (by decide +kernel)) (k H z)
theorem w_isi_ts {a : Addr} {xs : List V} (m : .obj a (.tup xs) ∈ Γ) (k : Wh K Γ S fun H => Q (.bl false) H) : Wh K Γ S fun H => rIsi K [.ref a, .ty "str"] H Q := fun H z => go_isi (.ty _) (.base (.tup (z.obj m))) (kit_ty (by decide +kernel)) (k H z)
theorem w_isi_ll {a : Addr} {xs : List V} (m : AtH K Γ S a (.lst xs)) (k : Wh K Γ S fun H => Q (.bl true) H) : Wh K Γ S fun H => rIsi K [.ref a, .ty "list"] H Q := fun H z => go_isi (.ty _) (.base (.lst (m H z))) (kit_ty (by decide +kernel)) (k H z)
end
section
variable {K : PySem.W.Frag} {Γ : List Fc} {S R S0 : List Vo} {A : Hp → Prop}
theorem Dr.glue {x y : Vo} (h : Dr S0 (x :: y :: R)) : Dr S0 ((x ++ y) :: R) := by
  obtain ⟨J, j⟩ := h
  refine ⟨J, j.trans ?_⟩
  rw [List.flatten_append, List.flatten_append, List.flatten_cons, List.flatten_cons, List.flatten_cons, List.append_assoc]
theorem w_thin {Γ' : List Fc} {S' : List Vo} (hΓ : ∀ f ∈ Γ', f ∈ Γ) (h : Dr S S') (k : Wh K Γ' S' A) : Wh K Γ S A := fun H z => k H (z.fit hΓ h)
end
/-! #### dicts that are walked: locked while the loop runs -/
def lkD (d : Addr) (od : Obj) (u : HO) (D : Ends) : Ends := ⟨fun σ' H' => H' d = some (.frz od u) ∧ D.nx σ' (upd H' d u), fun v H' => H' d = some (.frz od u) ∧ D.rt v (upd H' d u), fun σ' H' => H' d = some (.frz od u) ∧ D.bk σ' (upd H' d u), fun σ' H' => H' d = some (.frz od u) ∧ D.ct σ' (upd H' d u)⟩
def forKeys (g : TG) (tw : TS) (D : Ends) (σ : St) (x : V) (H : Hp) : Prop := ∃ d o, x = .ref d ∧ ((∃ kvs, H d = some (.frz o (.dK kvs)) ∧ LoopX g tw D σ H (Itk d o kvs)) ∨ ∃ kvs, H d = some (.frz o (.dT kvs)) ∧ LoopX g tw D σ H (Itkt d o kvs))
section
variable {K : PySem.W.Frag} {Γ : List Fc} {S R : List Vo} {σ : St} {D : Ends} {t tw : TS} {g : TG} {td : TE} {d : Addr} {od : Obj} {u : HO} {kvs : List (Key × V)} {Q : VK}
theorem w_lock (m : Take (own d u) S R) (mu : Mut (some u)) (k : ∀ od, Wh K Γ (own d (.frz od u) :: R) fun H => t (lkD d od u D) σ H) : Wh K Γ S fun H => tLock t D σ H := fun H z => ⟨d, u, (z.tk1 m).own List.mem_cons_self, mu, fun od => k od _ ((z.tk1 m).sw Sw.here)⟩
theorem w_unlock (m : Take (own d (.frz od u)) S R) (k : Wh K Γ (own d u :: R) fun H => D.nx σ H) : Wh K Γ S fun H => (lkD d od u D).nx σ H := fun H z => ⟨(z.tk1 m).own List.mem_cons_self, k _ ((z.tk1 m).sw Sw.here)⟩
theorem w_forKeys (k : Wh K Γ S fun H => td σ H fun x H1 => forKeys g tw D σ x H1) : Wh K Γ S fun H => tFor (iKeys td) g tw D σ H := k
theorem w_keys (m : own d (.frz od (.dK kvs)) ∈ S) (k : Wh K Γ S fun H => LoopX g tw D σ H (Itk d od kvs)) : Wh K Γ S fun H => forKeys g tw D σ (.ref d) H := fun H z => ⟨d, od, rfl, .inl ⟨kvs, z.own m, k H z⟩⟩
theorem w_loop_k {ι : Type} (C : Nat → ι → Prop) (sg : Nat → ι → St) (Γf : Nat → ι → List Fc) (Sf : Nat → ι → List Vo) (a0 : ι) (h0 : C 0 a0) (hσ : σ = sg 0 a0) (hΓ : ∀ f ∈ Γf 0 a0, f ∈ Γ) (hS : Dr S (Sf 0 a0))
    (hl : ∀ i a, own d (.frz od (.dK kvs)) ∈ Sf i a)
    (hs : ∀ (i : Nat) k v a, kvs[i]? = some (k, v) → C i a → Wh K (Γf i a) (Sf i a) fun H => g (kV k) (sg i a) H fun σ2 H2 => tw { D with nx := NX K (C (i + 1)) (sg (i + 1)) (Γf (i + 1)) (Sf (i + 1)), ct := NX K (C (i + 1)) (sg (i + 1)) (Γf (i + 1)) (Sf (i + 1)), bk := D.nx } σ2 H2)
    (hd : ∀ a, C kvs.length a → Wh K (Γf kvs.length a) (Sf kvs.length a) fun H => D.nx (sg kvs.length a) H) : Wh K Γ S fun H => LoopX g tw D σ H (Itk d od kvs) := fun H z => by
  refine ⟨fun i m σ H => m = kvs.length - i ∧ i ≤ kvs.length ∧ NX K (C i) (sg i) (Γf i) (Sf i) σ H, ⟨kvs.length, by simp, Nat.zero_le _, w_again a0 h0 hσ hΓ hS H z⟩, ?_⟩
  rintro i m σ' H' ⟨rfl, hi, a, hC, hσ, z'⟩
  subst hσ
  by_cases hlt : i < kvs.length
  · refine .inr ⟨⟨z'.own (hl i a), hlt⟩, NX K (C (i + 1)) (sg (i + 1)) (Γf (i + 1)) (Sf (i + 1)), fun σ'' H'' p' => ⟨kvs.length - (i + 1), by omega, rfl, hlt, p'⟩, fun x H'' y => ?_⟩
    obtain ⟨rfl, ky, v, e1, rfl⟩ := y
    exact hs i ky v a e1 hC H'' z'
  · have e : i = kvs.length := by omega
    subst e
    exact .inl ⟨⟨z'.own (hl _ a), Nat.le_refl _⟩, hd a hC H' z'⟩
/-- a dict that is locked is read -/
theorem w_subKf {z : Str} {v : V} (m : own d (.frz od (.dK kvs)) ∈ S) (e : valV kvs (Sum.inr z) = some v) (k : Wh K Γ S fun H => Q v H) : Wh K Γ S fun H => rSub K (.ref d) (.str z) H Q := fun H w => go_subD (y := .str z) (.inl ⟨kvs, Sum.inr z, .inr ⟨od, w.own m⟩, rfl, e.symm⟩) (k H w)
theorem w_dcopy (m : AtH K Γ S d (.dK kvs)) (k : ∀ p, Wh K Γ (own p (.dK kvs) :: S) fun H => Q (.ref p) H) : Wh K Γ S fun H => rDCopy (.ref d) [] H Q := fun H z => ⟨d, kvs, rfl, rfl, m H z, fun p hp => k p _ (z.new hp)⟩
theorem w_tyDK {A : Hp → Prop} (m : AtH K Γ S d (.dK kvs)) (k : Wh K Γ S A) : Wh K Γ S fun H => tyV K "dict" (.ref d) H ∧ A H := fun H z => ⟨.inr (.inr (.inl ⟨rfl, .inl ⟨kvs, m H z⟩⟩)), k H z⟩
theorem w_dclear (m : Sw d (.dK kvs) (.dK []) S R) (k : Wh K Γ R fun H => Q .non H) : Wh K Γ S fun H => rDClear (.ref d) [] H Q := fun H z => ⟨d, kvs, rfl, rfl, z.own m.mem, k _ (z.sw m)⟩
end
end Mo
local macro_rules | `(tactic| k_extra "m") => `(tactic| first
  | exact List.mem_cons_self
  | (with_reducible assumption)
  | (refine List.mem_cons_of_mem _ ?_; k_extra "m"))
local macro_rules | `(tactic| k_extra "mr") => `(tactic| with_reducible first
  | exact List.mem_cons_self
  | assumption
  | (refine List.mem_cons_of_mem _ ?_; k_extra "mr"))
local macro_rules | `(tactic| k_extra "t") => `(tactic| with_reducible first
  | exact Mo.Take.here
  | (apply Mo.Take.there; k_extra "t"))
local macro_rules | `(tactic| k_extra "ts1") => `(tactic| first
  | (with_reducible exact Mo.Takes'.nil)
  | (apply Mo.Takes'.cons; k_extra "t"; k_extra "ts1"))
local macro_rules | `(tactic| k_extra "ts") => `(tactic| ((try dsimp only [Mo.doS]); (try dsimp only); k_extra "ts1"))
local macro_rules | `(tactic| k_extra "sw") => `(tactic| with_reducible first
  | exact Mo.Sw.here
  | (apply Mo.Sw.there; k_extra "sw"))
local macro_rules | `(tactic| k_extra "at") => `(tactic| first
  | exact Mo.AtH.own (by k_extra "mr")
  | exact Mo.at_st (by k_extra "mr")
  | exact Mo.at_bx (by k_extra "mr")
  | exact Mo.at_qu (by k_extra "mr")
  | exact Mo.at_ls (by k_extra "mr")
  | exact Mo.at_lb (by k_extra "mr")
  | exact Mo.at_lq (by k_extra "mr")
  | exact Mo.AtH.obj (by k_extra "m"))
local macro_rules | `(tactic| k_extra "dv") => `(tactic| first
  | exact Mo.DV.int
  | exact Mo.DV.str
  | exact Mo.DV.bl
  | exact Mo.DV.non
  | exact Mo.DV.mem (by k_extra "m")
  | assumption)
local macro_rules | `(tactic| k_extra "dl") => `(tactic| first
  | exact Mo.DL.nil
  | (apply Mo.DL.cons; k_extra "dv"; k_extra "dl")
  | exact Mo.DL.ints
  | exact Mo.DL.strs
  | assumption)
local macro_rules | `(tactic| k_extra "sufx") => `(tactic| with_reducible first
  | exact Mo.sub_refl
  | (refine Mo.sub_cons ?_; k_extra "sufx"))
local macro_rules | `(tactic| k_extra "sub1") => `(tactic| first
  | k_extra "sufx"
  | ((with_reducible refine Mo.sub_put (by k_extra "m") ?_); k_extra "sub1")
  | exact Mo.sub_refl
  | ((with_reducible refine Mo.sub_cons ?_); k_extra "sub1")
  | exact Mo.sub_nil)
local macro_rules | `(tactic| k_extra "pr") => `(tactic| first
  | exact Mo.prm_refl
  | (apply Mo.prm_cons; k_extra "t"; k_extra "pr"))
local macro_rules | `(tactic| k_extra "dr1") => `(tactic| first
  | exact Mo.Dr.refl
  | (apply Mo.Dr.keep; k_extra "t"; k_extra "dr1")
  | ((with_reducible refine Mo.Dr.skip ?_); k_extra "dr1"))
local macro_rules | `(tactic| k_extra "W0") => `(tactic| with_reducible first
  | refine Mo.w_seq ?_
  | refine Mo.w_asg ?_
  | refine Mo.w_op ?_
  | refine Mo.w_c ?_
  | refine Mo.w_gn ?_
  | refine Mo.w_test ?_
  | refine Mo.w_bl ?_
  | refine Mo.w_iteT ?_
  | refine Mo.w_iteF ?_
  | refine Mo.w_I0 ?_
  | refine Mo.w_cons ?_
  | refine Mo.w_nil ?_
  | refine Mo.w_call ?_
  | refine Mo.w_ret ?_
  | refine Mo.w_eqi ?_
  | refine Mo.w_addI ?_
  | refine Mo.w_ltI ?_
  | refine Mo.w_leI ?_
  | refine Mo.w_geI ?_
  | refine Mo.w_truB ?_
  | refine Mo.w_truN ?_
  | refine Mo.w_isN_t ?_
  | refine Mo.w_notN_t ?_
  | refine Mo.w_isN_r ?_
  | refine Mo.w_notN_r ?_
  | refine Mo.w_isN_i ?_
  | refine Mo.w_notN_i ?_
  | refine Mo.w_nei ?_
  | refine Mo.w_cb ?_
  | refine Mo.w_drop ?_
  | refine Mo.w_tup ?_
  | refine Mo.w_lst ?_
  | refine Mo.w_next ?_
  | refine Mo.w_fld ?_
  | refine Mo.w_sfld ?_
  | refine Mo.w_meth ?_
  | refine Mo.w_make ?_
  | refine Mo.w_bm ?_
  | refine Mo.w_bm0 ?_
  | refine Mo.w_gsub ?_
  | refine Mo.w_gcons ?_
  | refine Mo.w_gnil ?_
  | refine Mo.w_and ?_
  | refine Mo.w_or ?_
  | refine Mo.w_not ?_
  | refine Mo.w_andV ?_
  | refine Mo.w_orV ?_
  | refine Mo.w_notV ?_
  | refine Mo.w_un ?_
  | refine Mo.w_rU ?_
  | refine Mo.w_sl ?_
  | refine Mo.w_nopart ?_
  | refine Mo.w_part ?_
  | refine Mo.w_int ?_
  | refine Mo.w_ifE ?_
  | refine Mo.w_tb ?_
  | refine Mo.w_ipI ?_
  | refine Mo.w_iteFn ?_
  | refine Mo.w_iteTn ?_
  | refine Mo.w_eqb ?_
  | refine Mo.w_neb ?_
  | refine Mo.w_brk ?_
  | refine Mo.w_forSeq ?_
  | refine Mo.w_forRng ?_
  | refine Mo.w_lcSeq ?_
  | refine Mo.w_lcRng ?_
  | refine Mo.w_yes ?_
  | refine Mo.w_cont ?_
  | refine Mo.w_pow15 ?_
  | refine Mo.w_pow12 ?_
  | refine Mo.w_pow6 ?_
  | refine Mo.w_fldaug ?_
  | refine Mo.w_addR ?_
  | refine Mo.w_subR ?_
  | refine Mo.w_eqsT ?_
  | refine Mo.w_nesT ?_
  | refine Mo.w_noned ?_
  | refine Mo.w_isi_ii ?_
  | refine Mo.w_isi_ib ?_
  | refine Mo.w_isi_is ?_
  | refine Mo.w_isi_ss ?_
  | refine Mo.w_isi_bb ?_
  | refine Mo.w_isi_st ?_
  | refine Mo.w_isi_sl ?_
  | refine Mo.w_isi_il ?_
  | refine Mo.w_forKeys ?_
  | refine Mo.w_pnil ?_
  | refine Mo.w_pcons ?_
  | refine Mo.w_texc ?_
  | refine Mo.w_tword ?_)
local macro_rules | `(tactic| k_extra "W1") => `(tactic| first
  | ((with_reducible refine' Mo.w_var ?k1 ?_); (case k1 => exact rfl))
  | k_extra "W0"
  | ((with_reducible refine' Mo.w_fldL ?k1 ?k2 ?k3 ?k4 ?_); (case k1 => k_extra "at"); (case k2 => k_extra "lk"); (case k3 => k_extra "cl"); (case k4 => k_extra "na"))
  | ((with_reducible refine' Mo.w_same ?k1 ?_); (case k1 => exact rfl))
  | ((with_reducible refine' Mo.w_eqsF ?k1 ?_); (case k1 => decide +kernel))
  | ((with_reducible refine' Mo.w_nesF ?k1 ?_); (case k1 => decide +kernel))
  | ((with_reducible refine' Mo.w_subDi ?k1 ?k2 ?_); (case k1 => k_extra "m"); (case k2 => exact rfl))
  | ((with_reducible refine' Mo.w_subDs ?k1 ?k2 ?_); (case k1 => k_extra "m"); (case k2 => exact rfl))
  | ((with_reducible refine' Mo.w_subD ?k1 ?k2 ?_); (case k1 => k_extra "m"); (case k2 => exact rfl); intro _; (try dsimp only [Mo.valOf_n, Mo.valOf_b, Mo.valOf_i, Mo.valOf_s, Mo.valOf_l, Mo.valOf_t]))
  | ((with_reducible refine' Mo.w_subO ?k1 ?k2 ?_); (case k1 => k_extra "m"); (case k2 => exact rfl))
  | ((with_reducible refine' Mo.w_subLi ?k1 ?k2 ?_); (case k1 => k_extra "m"); (case k2 => exact rfl))
  | ((with_reducible refine' Mo.w_subLs ?k1 ?k2 ?_); (case k1 => k_extra "m"); (case k2 => exact rfl))
  | ((with_reducible refine' Mo.w_sub ?k1 ?k2 ?_); (case k1 => k_extra "at"); (case k2 => exact rfl))
  | ((with_reducible refine' Mo.w_methL ?k1 ?k2 ?_); (case k1 => k_extra "at"); (case k2 => k_extra "nolk"))
  | ((with_reducible refine' Mo.w_tupD ?k1 ?k2 ?_); (case k1 => exact rfl); (case k2 => k_extra "dl"); intro _)
  | ((with_reducible refine' Mo.w_tupO ?k1 ?_); (case k1 => exact rfl); intro _)
  | ((with_reducible refine' Mo.w_lenD ?k1 ?_); (case k1 => k_extra "m"))
  | ((with_reducible refine' Mo.w_gt2 ?k1 ?_); (case k1 => k_extra "m"); intro _ _; (try dsimp only [Mo.valOf_n, Mo.valOf_b, Mo.valOf_i, Mo.valOf_s, Mo.valOf_l, Mo.valOf_t]))
  | ((with_reducible refine' Mo.w_gt3 ?k1 ?_); (case k1 => k_extra "m"); intro _ _ _; (try dsimp only [Mo.valOf_n, Mo.valOf_b, Mo.valOf_i, Mo.valOf_s, Mo.valOf_l, Mo.valOf_t]))
  | ((with_reducible refine' Mo.w_gt4 ?k1 ?_); (case k1 => k_extra "m"); intro _ _ _ _; (try dsimp only [Mo.valOf_n, Mo.valOf_b, Mo.valOf_i, Mo.valOf_s, Mo.valOf_l, Mo.valOf_t]))
  | ((with_reducible refine' Mo.w_gt5 ?k1 ?_); (case k1 => k_extra "m"); intro _ _ _ _ _; (try dsimp only [Mo.valOf_n, Mo.valOf_b, Mo.valOf_i, Mo.valOf_s, Mo.valOf_l, Mo.valOf_t]))
  | ((with_reducible refine' Mo.w_gt6 ?k1 ?_); (case k1 => k_extra "m"); intro _ _ _ _ _ _; (try dsimp only [Mo.valOf_n, Mo.valOf_b, Mo.valOf_i, Mo.valOf_s, Mo.valOf_l, Mo.valOf_t]))
  | ((with_reducible refine' Mo.w_gt7 ?k1 ?_); (case k1 => k_extra "m"); intro _ _ _ _ _ _ _; (try dsimp only [Mo.valOf_n, Mo.valOf_b, Mo.valOf_i, Mo.valOf_s, Mo.valOf_l, Mo.valOf_t]))
  | ((with_reducible refine' Mo.w_gtO ?k1 ?k2 ?_); (case k1 => k_extra "m"); (case k2 => exact rfl))
  | ((with_reducible refine' Mo.w_tyL ?k1 ?_); (case k1 => k_extra "at"))
  | ((with_reducible refine' Mo.w_draw ?k1 ?k2 ?k3 ?_); (case k1 => k_extra "mr"); (case k2 => (first | decide | omega)); (case k3 => (first | decide | omega)))
  | ((with_reducible refine' Mo.w_forD ?k1 ?_); (case k1 => k_extra "m"))
  | ((with_reducible refine' Mo.w_keys ?k1 ?_); (case k1 => k_extra "mr"))
  | ((with_reducible refine' Mo.w_tyDK ?k1 ?_); (case k1 => k_extra "at"))
  | ((with_reducible refine' Mo.w_dcopy ?k1 ?_); (case k1 => k_extra "at"); intro _)
  | ((with_reducible refine' Mo.w_isi_tt ?k1 ?_); (case k1 => k_extra "m"))
  | ((with_reducible refine' Mo.w_isi_ts ?k1 ?_); (case k1 => k_extra "m"))
  | ((with_reducible refine' Mo.w_isi_ll ?k1 ?_); (case k1 => k_extra "at"))
  | ((with_reducible refine' Mo.w_revD ?k1 ?_); (case k1 => k_extra "m"); intro _ _)
  | ((with_reducible refine' Mo.w_lcD ?k1 ?_); (case k1 => k_extra "m"))
  | ((with_reducible refine' Mo.w_forL ?k1 ?_); (case k1 => k_extra "at"))
  | ((with_reducible refine' Mo.w_lcL ?k1 ?_); (case k1 => k_extra "at"))
  | ((with_reducible refine' Mo.w_exc ?_); intro _)
  | (with_reducible refine Mo.w_intB ?_)
  | (with_reducible refine Mo.w_intI ?_)
  | (with_reducible refine Mo.w_ifS ?_))
local macro_rules | `(tactic| k_extra "W") => `(tactic| repeat k_extra "W1")
local macro_rules | `(tactic| k_extra "rp") => `(tactic| with_reducible first
  | exact Mo.Rp.here
  | (apply Mo.Rp.there; k_extra "rp"))
local macro_rules | `(tactic| k_extra "sub") => `(tactic| ((try dsimp only [List.nil_append, List.cons_append]); k_extra "sub1"))
local macro_rules | `(tactic| k_extra "dr") => `(tactic| ((try dsimp only [List.nil_append, List.cons_append]); k_extra "dr1"))
namespace Mo
open PySem PySem.Spec PyProof.Rows L2
/-! ### the purse: numbers drawn, whatever they are -/
section
variable {P : Program} {w : World} {K : PySem.W.Frag} {mg : Str → Option Value} {base : Heap}
theorem ok__law_mixed (T : Tx K mg) : OkG P w K mg base 1 "_law_mixed" ["_law_cell", "_law_k"] spMixed := by
  refine T.f__law_mixed.okX sc__law_mixed (fun vs H Q E h => ?_) (fun cdv A outer s H vs Q E hr h => ?_)
  · obtain ⟨c, k, rfl, _⟩ := h
    rfl
  · have hu1 := hu_of hr; have hu0 := hr.units0; have hu64 := hr.units; have hu65 := hu65_of hr; have nd := sc__law_mixed.nd
    obtain ⟨c, k, rfl, hc, hk, q⟩ := h
    refine ⟨_, (pss_cons (ps_set (i := 2) nd rfl (Or.inl rfl) (pe_op op_modX (pe_op op_mulX (pe_op (op_addK (K := K) rfl) (pe_op (op_addK (K := K) rfl) (pe_op (op_addK (K := K) rfl) (pe_op op_mulX (pv 0) (pv 0)) (pe_op op_mulX pe_int (pv 0))) (pe_op op_mulX pe_int (pv 1))) pe_int) pe_int) pe_int))
      (pss_one (ps_ret (pe_op op_modX (pe_op (op_addK (K := K) rfl) (pe_op op_mulX (pv 2) (pv 2)) pe_int) pe_int)))), ?_⟩
    refine go_start (σ' := [some (.int c), some (.int k), none]) rfl ?_
    have b1 : Bd (1048576 + 1048576) (c * c) := hc.mul hc
    have b2 : Bd (2 + 1048576) (3 * c) := Bd.mul (by decide) hc
    have b3 : Bd (13 + 8) (7919 * k) := Bd.mul (by decide) hk
    have b4 : Bd 2097155 (c * c + 3 * c + 7919 * k + 1) := (((b1.add (b2.mono (by decide))).add (b3.mono (by decide))).add (Bd.mono (a := 1) (by decide) (by decide)))
    k_extra "w"
    refine go_I (hc.cmul hc) ?_
    k_extra "w"
    refine go_I (Bd.cmul (a := 2) (by decide) hc) ?_
    k_extra "w"
    refine go_I (Bd.cmul (a := 13) (by decide) hk) ?_
    k_extra "w"
    refine go_I (Bd.cmul (b := 16) b4 (by decide)) ?_
    k_extra "w"
    refine go_mod (by decide) ?_
    generalize hz : Int.fmod _ _ = z
    have hz2 := fmod_range (a := (c * c + 3 * c + 7919 * k + 1) * 48271) (n := 2147483629) (by decide)
    rw [hz] at hz2
    have b5 : Bd 31 z := bd_range hz2.1 hz2.2 (by decide)
    k_extra "w"
    refine go_I (b5.cmul b5) ?_
    k_extra "w"
    refine go_mod (by decide) ?_
    k_extra "w"
    have hy := fmod_range (a := z * z + 7) (n := 2147483587) (by decide)
    exact q _ (bd_range hy.1 hy.2 (by decide))
theorem ok__law_purse (T : Tx K mg) : OkG P w K mg base 2 "_law_purse" ["_law_script"] (spPurse K) := by
  have G__law_mixed := ok__law_mixed (P := P) (w := w) (base := base) T
  refine T.f__law_purse.okX sc__law_purse (fun vs H Q E h => ?_) (fun cdv A outer s H vs Q E hr h => ?_)
  · obtain ⟨a, ns, rfl, _⟩ := h
    rfl
  · have hu1 := hu_of hr; have hu0 := hr.units0; have hu64 := hr.units; have hu65 := hu65_of hr; have nd := sc__law_purse.nd
    obtain ⟨a, ns, rfl, hS, hl, hb, q⟩ := h
    refine ⟨_, (pss_cons (ps_set (i := 1) nd rfl (Or.inl rfl) (pe_op (op_addK (K := K) rfl) (pe_slice (sl_anyK (K := K) rfl) (pv 0) po_none (po_some pe_int)) (pe_lst (pa_cons pe_int pa_nil))))
      (pss_cons (ps_set (i := 2) nd rfl (Or.inl rfl) pe_int)
      (pss_cons (ps_for (passes_of rfl) rfl (pi_range1 rfl T.b_range (pa_cons pe_int pa_nil)) (pg_name (i := 3) nd rfl (Or.inl rfl))
      (pss_one (ps_set (i := 2) nd rfl (Or.inl rfl) (pe_op (op_addK (K := K) rfl) (pe_op op_mulX (pv 2) pe_int) (pcl T.g__law_mixed G__law_mixed hr (takes_of rfl rfl rfl rfl) (pa_cons (pe_ix (ix_anyK (K := K) rfl hu1) (pv 1) (pe_op op_modX (pv 3) (pe_callB (call_lenK (K := K) rfl) (by rfl) T.b_len (by decide +kernel) (pa_cons (pv 1) pa_nil))) (fun _ _ => rfl)) (pa_cons (pv 3) pa_nil)))))))
      (pss_cons (ps_if (pt_cmpR (op_eqK (K := K) rfl hu64) (pe_op op_modX (pe_ix (ix_anyK (K := K) rfl hu1) (pv 1) pe_int (fun _ _ => rfl)) pe_int) pe_int (nomark _)) (pss_one (ps_ret (pe_lst (pa_cons (pe_callB (call_max2 rfl) (by rfl) T.b_max (by decide +kernel) (pa_cons (pe_op op_fdivX (pe_ix (ix_anyK (K := K) rfl hu1) (pv 1) pe_int (fun _ _ => rfl)) pe_int) (pa_cons (pe_op op_sub (pe_un un_neg pe_int) (pe_op op_fdivX (pe_ix (ix_anyK (K := K) rfl hu1) (pv 1) pe_int (fun _ _ => rfl)) pe_int)) pa_nil))) (pa_cons (pv 2) pa_nil)))))
      pss_nil)
      (pss_one (ps_ret (pe_lst (pa_cons (pv 2) (pa_cons (pv 2) pa_nil))))))))), ?_⟩
    refine go_start (σ' := [some (.ref a), none, none, none]) rfl ?_
    k_extra "w"
    refine .inl ⟨a, _, rfl, hS, fun c hc => ?_⟩
    have ec : cutV (ns.map V.int) none (some 63) = ns.map V.int := by
      unfold cutV
      have e1 : HT.sIx (ns.map V.int).length 0 none = 0 := rfl
      have e2 : HT.sIx (ns.map V.int).length (ns.map V.int).length (some 63) = ns.length := by
        have := HT.sIx_nat (ns.map V.int).length (ns.map V.int).length 63
        rw [List.length_map] at this
        rw [List.length_map]
        rw [show (some (63 : Int)) = some ((63 : Nat) : Int) from rfl, this]
        omega
      rw [e1, e2, List.drop_zero, Nat.sub_zero, List.take_of_length_le (by rw [List.length_map]; exact Nat.le_refl _)]
    rw [ec]
    k_extra "w"
    refine go_size (by decide) fun z hz => ?_
    have ncz : c ≠ z := ne_of_none upd_same hz
    refine go_addL (by rw [upd_ne ncz]; exact upd_same) upd_same (by rw [List.length_map, sizeLine_eq]; simp only [List.length_cons, List.length_nil]; omega) fun d hd => ?_
    have eH : Hd H (upd (upd (upd H c (.lst (ns.map V.int))) z (.lst [.int 0])) d (.lst (ns.map V.int ++ [.int 0]))) [] := Hd.nil (((Ext.new hc).trans (Ext.new hz)).trans (Ext.new hd))
    have hcs : (upd (upd (upd H c (.lst (ns.map V.int))) z (.lst [.int 0])) d (.lst (ns.map V.int ++ [.int 0]))) d = some (.lst ((ns ++ [0]).map V.int)) := by
      rw [upd_same, List.map_append]
      rfl
    revert hcs eH
    generalize (upd (upd (upd H c (.lst (ns.map V.int))) z (.lst [.int 0])) d (.lst (ns.map V.int ++ [.int 0]))) = H1
    intro eH hcs
    have hb' : ∀ y ∈ ns ++ [0], Bd 1048576 y := fun y hy => by
      rcases List.mem_append.mp hy with hy | hy
      · exact hb y hy
      · rw [List.mem_singleton.mp hy]
        exact Nat.pow_pos (by decide)
    have hpos : 0 < (ns ++ [0]).length := by rw [List.length_append, List.length_singleton]; omega
    have hlen : (ns ++ [0]).length ≤ 64 := by rw [List.length_append, List.length_singleton]; omega
    revert hcs hb' hpos hlen
    generalize ns ++ [0] = cs
    intro hcs hb' hpos hlen
    k_extra "w"
    refine go_r1 (j := 150) 150 rfl (by decide) ?_
    refine loop_r 150 (fun i σ H' => H' = H1 ∧ ∃ x v, Bd (33 * i + 1) x ∧ σ = [some (.ref a), some (.ref d), some (.int x), v]) ⟨rfl, 1, none, by decide, rfl⟩ ?_ ?_
    · rintro i σ H' hi ⟨rfl, x, v, hx, rfl⟩
      k_extra "w"
      refine go_I (Bd.cmul (b := 31) hx (by decide) (by omega) (by decide) (by omega)) ?_
      k_extra "w"
      refine go_lenL (SqL.of hcs) ?_
      rw [List.length_map]
      refine go_mod (by omega) ?_
      have hm := fmod_range (a := (i : Int)) (n := (cs.length : Int)) (by omega)
      obtain ⟨j, hj⟩ : ∃ j : Nat, (i : Int).fmod (cs.length : Int) = (j : Int) := ⟨_, (Int.toNat_of_nonneg hm.1).symm⟩
      rw [hj]
      have hjl : j < cs.length := by omega
      refine go_subL (SqL.of hcs) (atI_nat (v := .int cs[j]) (by rw [List.getElem?_map, List.getElem?_eq_getElem hjl]; rfl)) ?_
      k_extra "w"
      refine ⟨_, _, rfl, hb' _ (List.getElem_mem hjl), ?_, fun r hr => ?_⟩
      · show (i : Int).natAbs < 2 ^ 8
        rw [Int.natAbs_natCast]
        omega
      · k_extra "w"
        refine ⟨rfl, _, _, ?_, rfl⟩
        have h1 : Bd (33 * i + 1 + 31) (x * 2147483587) := hx.mul (by decide)
        exact Bd.mono (Bd.add h1 (hr.mono (by omega))) (by omega)
    · rintro σ H' ⟨rfl, x, v, hx, rfl⟩
      have e0 : cs[0]? = some cs[0] := List.getElem?_eq_getElem hpos
      have es : atI (cs.map V.int) 0 = some (.int cs[0]) := atI_nat (j := 0) (by rw [List.getElem?_map, e0]; rfl)
      k_extra "w"
      refine go_subL (SqL.of hcs) es ?_
      k_extra "w"
      refine go_mod (by decide) ?_
      k_extra "w"
      refine go_ite (fun _ => ?_) (fun _ => ?_)
      · k_extra "w"
        refine go_subL (SqL.of hcs) es ?_
        k_extra "w"
        refine go_div 2 (by decide) (by decide) ?_
        k_extra "w"
        refine go_subL (SqL.of hcs) es ?_
        k_extra "w"
        refine go_div 2 (by decide) (by decide) ?_
        k_extra "w"
        refine ⟨_, _, rfl, ?_⟩
        k_extra "w"
        refine go_sz rfl fun p hp => ?_
        exact q p _ (eH.new hp ⟨_, _, rfl⟩)
      · k_extra "w"
        refine go_sz rfl fun p hp => ?_
        exact q p _ (eH.new hp ⟨_, _, rfl⟩)
theorem ok__law_draw (T : Tx K mg) : OkG P w K mg base 1 "_law_draw" ["_law_purse_here", "_law_out_of"] spDraw := by
  refine T.f__law_draw.okX sc__law_draw (fun vs H Q E h => ?_) (fun cdv A outer s H vs Q E hr h => ?_)
  · obtain ⟨G, L, p, n, rfl, _⟩ := h
    rfl
  · have hu1 := hu_of hr; have hu0 := hr.units0; have hu64 := hr.units; have hu65 := hu65_of hr; have nd := sc__law_draw.nd
    obtain ⟨G, L, p, n, rfl, hH, hm, hn, hb, q⟩ := h
    refine ⟨_, (pss_cons (ps_if (pt_cmpR (op_eqK (K := K) rfl hu64) (pe_ix (ix_anyK (K := K) rfl hu1) (pv 0) pe_int (fun _ _ => rfl)) pe_int (nomark _)) (pss_one (ps_asg (pe_ix (ix_anyK (K := K) rfl hu1) (pv 0) pe_int (fun _ _ => rfl)) (pg_sub (pv 0) pe_int (set_any hu1))))
      pss_nil)
      (pss_cons (ps_set (i := 2) nd rfl (Or.inl rfl) (pe_op op_modX (pe_ix (ix_anyK (K := K) rfl hu1) (pv 0) pe_int (fun _ _ => rfl)) (pv 1)))
      (pss_cons (ps_asg (pe_op op_fdivX (pe_ix (ix_anyK (K := K) rfl hu1) (pv 0) pe_int (fun _ _ => rfl)) (pv 1)) (pg_sub (pv 0) pe_int (set_any hu1)))
      (pss_one (ps_ret (pv 2)))))), ?_⟩
    refine go_start (σ' := [some (.ref p), some (.int n), none]) rfl ?_
    obtain ⟨o, hp, x, y, rfl⟩ := hH.get hm
    k_extra "w"
    refine go_subL (SqL.of hp) rfl ?_
    k_extra "w"
    have fin : ∀ (H1 : Hp) (x y : Int), Hd G H1 L → H1 p = some (.lst [.int x, .int y]) → tSeq (tAsg (tOp (rI CMod fun i j => .int (i.fmod j)) (tOp (rSub K) (tVar 0) (tC (.int 0))) (tVar 1)) (gName 2))
        (tSeq (tAsg (tOp (rI CDivX fun i j => .int (i.fdiv j)) (tOp (rSub K) (tVar 0) (tC (.int 0))) (tVar 1)) (gSub (tVar 0) (tC (.int 0)) rSet)) (tRet (tVar 2))) { nx := fun _ H' => Q .non H', rt := Q } [some (.ref p), some (.int n), none] H1 := by
      intro H1 x y hH1 hp1
      k_extra "w"
      refine go_subL (SqL.of hp1) rfl ?_
      k_extra "w"
      refine go_mod (by omega) ?_
      k_extra "w"
      refine go_subL (SqL.of hp1) rfl ?_
      k_extra "w"
      refine go_div 8000 (by omega) hb ?_
      k_extra "w"
      refine go_setL hp1 rfl ?_
      k_extra "w"
      have hr := fmod_range (a := x) hn
      exact q _ _ hr.1 hr.2 (hH1.put hm ⟨_, _, rfl⟩)
    refine go_ite (fun _ => ?_) (fun _ => ?_)
    · k_extra "w"
      refine go_subL (SqL.of hp) rfl ?_
      k_extra "w"
      refine go_setL hp rfl ?_
      exact fin _ _ _ (hH.put hm ⟨_, _, rfl⟩) upd_same
    · exact fin _ _ _ hH hp
end
end Mo
namespace Mo
open PySem PySem.Spec PyProof.Rows L2
/-! ### the law's own worths -/
def spWorth : Sp := fun vs H Q _ => ∃ (G : Hp) (L : Vo) (p : Addr), vs = [.ref p] ∧ Hd G H L ∧ (p, Purse) ∈ L ∧ ∀ d H', Worth d → Hd G H' L → Q (.int d) H'
section
variable {P : Program} {w : World} {K : PySem.W.Frag} {mg : Str → Option Value} {base : Heap}
theorem ok__law_worth (T : Tx K mg) : OkG P w K mg base 2 "_law_worth" ["_law_purse_here"] spWorth := by
  have G__law_draw := ok__law_draw (P := P) (w := w) (base := base) T
  refine T.f__law_worth.okX sc__law_worth (fun vs H Q E h => ?_) (fun cdv A outer s H vs Q E hr h => ?_)
  · obtain ⟨G, L, p, rfl, _⟩ := h
    rfl
  · have hu1 := hu_of hr; have hu0 := hr.units0; have hu64 := hr.units; have hu65 := hu65_of hr; have nd := sc__law_worth.nd
    obtain ⟨G, L, p, rfl, hH, hm, q⟩ := h
    refine ⟨_, (pss_cons (ps_set (i := 1) nd rfl (Or.inl rfl) (pcl T.g__law_draw G__law_draw hr (takes_of rfl rfl rfl rfl) (pa_cons (pv 0) (pa_cons pe_int pa_nil))))
      (pss_cons (ps_if (pt_cmpR (op_eqK (K := K) rfl hu64) (pv 1) pe_int (nomark _)) (pss_one (ps_ret (pe_op op_mulX (pe_op op_sub (pe_op op_pow pe_int pe_int) (pcl T.g__law_draw G__law_draw hr (takes_of rfl rfl rfl rfl) (pa_cons (pv 0) (pa_cons pe_int pa_nil)))) (pe_op op_sub pe_int (pe_op op_mulX pe_int (pcl T.g__law_draw G__law_draw hr (takes_of rfl rfl rfl rfl) (pa_cons (pv 0) (pa_cons pe_int pa_nil))))))))
      pss_nil)
      (pss_cons (ps_if (pt_cmpR (op_eqK (K := K) rfl hu64) (pv 1) pe_int (nomark _)) (pss_one (ps_ret (pe_op op_sub (pcl T.g__law_draw G__law_draw hr (takes_of rfl rfl rfl rfl) (pa_cons (pv 0) (pa_cons (pe_op (op_addK (K := K) rfl) (pe_op op_mulX pe_int (pe_op op_pow pe_int pe_int)) pe_int) pa_nil))) (pe_op op_pow pe_int pe_int))))
      pss_nil)
      (pss_one (ps_ret (pe_op op_sub (pcl T.g__law_draw G__law_draw hr (takes_of rfl rfl rfl rfl) (pa_cons (pv 0) (pa_cons pe_int pa_nil))) pe_int)))))), ?_⟩
    refine go_start (σ' := [some (.ref p), none]) rfl ?_
    k_extra "we"
    refine ⟨G, L, p, 6, rfl, hH, hm, by decide, by decide, fun d H1 _ _ hH1 => ?_⟩
    k_extra "we"
    refine go_ite (fun _ => ?_) (fun _ => ?_)
    · k_extra "we"
      refine ⟨G, L, p, 3, rfl, hH1, hm, by decide, by decide, fun a H2 a0 a1 hH2 => ?_⟩
      k_extra "we"
      refine ⟨G, L, p, 2, rfl, hH2, hm, by decide, by decide, fun b H3 b0 b1 hH3 => ?_⟩
      k_extra "we"
      refine go_I (Bd.cmul (a := 3) (b := 3) (by decide) (by show Int.natAbs _ < 8; omega)) ?_
      k_extra "we"
      have w1 : Worth (1000000000000000 - a) := ⟨by omega, by omega⟩
      refine go_I ((worth_bd w1).cmul (b := 3) (by show Int.natAbs _ < 8; omega)) ?_
      refine q _ _ ?_ hH3
      have hb : b = 0 ∨ b = 1 := by omega
      rcases hb with rfl | rfl
      · exact ⟨by omega, by omega⟩
      · exact ⟨by omega, by omega⟩
    · k_extra "we"
      refine go_ite (fun _ => ?_) (fun _ => ?_)
      · k_extra "we"
        refine go_I (Bd.cmul (a := 3) (b := 50) (by decide) (by decide)) ?_
        k_extra "we"
        refine ⟨G, L, p, _, rfl, hH1, hm, by decide, by decide, fun a H2 a0 a1 hH2 => ?_⟩
        k_extra "we"
        exact q _ _ ⟨by omega, by omega⟩ hH2
      · k_extra "we"
        refine ⟨G, L, p, 13, rfl, hH1, hm, by decide, by decide, fun a H2 a0 a1 hH2 => ?_⟩
        k_extra "we"
        exact q _ _ ⟨by omega, by omega⟩ hH2
end
end Mo
namespace Mo
open PySem PySem.Spec PyProof.Rows L2
/-! ### names -/
def letters : Str := "abcdefghijklmnopqrstuvwxyz"
theorem letters_eq : ("abcdefghijklmnopqrstuvwxyz" : Str) = letters := rfl
theorem letters_at (i : Nat) (h : i < 26) : letters.cps.toList[i]? = some (97 + i) := by
  have q : ∀ i : Fin 26, letters.cps.toList[i.1]? = some (97 + i.1) := by decide +kernel
  exact q ⟨i, h⟩
theorem letters_len : letters.length = 26 := by decide +kernel
def sign (c : Nat) : Str := ⟨#[c]⟩
structure NameOk (x : Str) : Prop where
  pos : 1 ≤ x.length
  len : x.length ≤ 6
  let_ : ∀ c ∈ x.cps.toList, 97 ≤ c ∧ c < 123
/-- the first sign -/
def fst1 (x : Str) : Nat := x.cps.toList.headD 0
theorem app_list (a b : Str) : (a ++ b).cps.toList = a.cps.toList ++ b.cps.toList := by
  show (a.cps ++ b.cps).toList = _
  rw [Array.toList_append]
theorem app_len (a b : Str) : (a ++ b).length = a.length + b.length := by
  show (a.cps ++ b.cps).size = _
  rw [Array.size_append]
  rfl
theorem len_list (a : Str) : a.length = a.cps.toList.length := by
  show a.cps.size = _
  rw [Array.length_toList]
theorem sign_list (c : Nat) : (sign c).cps.toList = [c] := rfl
theorem sign_len (c : Nat) : (sign c).length = 1 := rfl
theorem fst1_app {a b : Str} (h : 1 ≤ a.length) : fst1 (a ++ b) = fst1 a := by
  unfold fst1
  rw [app_list]
  rw [len_list] at h
  cases e : a.cps.toList with
  | nil => rw [e] at h; cases h
  | cons x r => rfl
theorem go_letter {K : PySem.W.Frag} {H : Hp} {Q : VK} {j : Int} {n : Nat} (hj : j = (n : Int)) (hn : n < 26) (k : Q (.str (sign (97 + n))) H) : rSub K (.str letters) (.int j) H Q := by
  subst hj
  exact go_subS (by rw [letters_len, sizeLine_eq]; decide) (atI_nat (letters_at n hn)) k
/-- names that are apart by their first signs -/
theorem apart {xs : List Str} {f : Nat → Nat} (h : ∀ i x, xs[i]? = some x → fst1 x = f i) (inj : ∀ i j, i < xs.length → j < xs.length → f i = f j → i = j) : xs.Nodup := by
  rw [List.nodup_iff_pairwise_ne, List.pairwise_iff_getElem]
  intro i j hi hj hij e
  have h1 := h i _ (List.getElem?_eq_getElem hi)
  have h2 := h j _ (List.getElem?_eq_getElem hj)
  rw [← e, h1] at h2
  have := inj i j hi hj h2
  omega
def spNames : Sp := fun vs H Q _ => ∃ (G : Hp) (L : Vo) (pu : Addr) (n : Nat), vs = [.ref pu, .int (n : Int)] ∧ Hd G H L ∧ (pu, Purse) ∈ L ∧ n ≤ 9 ∧
  ∀ lp (ns : List Str) G' H', ns.length = n → ns.Nodup → (∀ x ∈ ns, NameOk x) → Ext G G' → Hd G' H' L → G' lp = some (.lst (ns.map V.str)) → Q (.ref lp) H'
/-- of the same list, cut -/
theorem names_take {ns : List Str} (h : ns.Nodup) (i : Nat) : (ns.take i).Nodup := h.sublist (List.take_sublist _ _)
end Mo
namespace Mo
open PySem PySem.Spec PyProof.Rows L2
section
variable {K : PySem.W.Frag}
theorem dp_freeze {G H : Hp} {L : Vo} {l : Addr} {xs : List V} {ds : List PyData} {φ : HO → Prop} (h : Hd G H ((l, φ) :: L)) (e : H l = some (.lst xs)) (d : DpAll K G xs ds) : Ext G (upd G l (.lst xs)) ∧ Hd (upd G l (.lst xs)) H L ∧ Dp K (upd G l (.lst xs)) (.ref l) (.list ds) := by
  have x : Ext G (upd G l (.lst xs)) := Ext.new (h.no List.mem_cons_self)
  exact ⟨x, h.freeze e, .lst (SqL.of upd_same) (dpa_mono x d)⟩
theorem dp_fix {G H : Hp} {L : Vo} {t : Addr} {xs : List V} {ds : List PyData} (h : Hd G H L) (e : H t = none) (d : DpAll K G xs ds) : Ext G (upd G t (.tup xs)) ∧ Hd (upd G t (.tup xs)) (upd H t (.tup xs)) L ∧ Dp K (upd G t (.tup xs)) (.ref t) (.tuple ds) := by
  have x : Ext G (upd G t (.tup xs)) := Ext.new (h.gno e)
  exact ⟨x, h.fix e, .tup (SqT.of upd_same) (dpa_mono x d)⟩
theorem dp_fixL {G H : Hp} {L : Vo} {t : Addr} {xs : List V} {ds : List PyData} (h : Hd G H L) (e : H t = none) (d : DpAll K G xs ds) : Ext G (upd G t (.lst xs)) ∧ Hd (upd G t (.lst xs)) (upd H t (.lst xs)) L ∧ Dp K (upd G t (.lst xs)) (.ref t) (.list ds) := by
  have x : Ext G (upd G t (.lst xs)) := Ext.new (h.gno e)
  exact ⟨x, h.fix e, .lst (SqL.of upd_same) (dpa_mono x d)⟩
end
end Mo
namespace Mo
open PySem PySem.Spec PyProof.Rows L2
/-- what is told: a worth, or a fault's word -/
def rv : Except Flt Int → V
  | .ok n => .int n
  | .error x => .str x.word
def Op.all : List Op := [.plus, .less, .times, .part, .rest, .below, .same]
theorem Fm.ev_err {e : Env} : ∀ {f : Fm} {x : Flt}, f.ev e = .error x → x = .nought ∨ x = .great
  | .num m, n, q => by cases q
  | .box x, n, q => by cases q
  | .long x, n, q => by cases q
  | .got j, n, q => by cases q
  | .now, n, q => by cases q
  | .two o f g, n, q => by
    unfold Fm.ev at q
    cases h1 : f.ev e with
    | error x => rw [h1] at q; cases q; exact ev_err h1
    | ok a =>
      rw [h1] at q
      cases h2 : g.ev e with
      | error x => rw [h2] at q; cases q; exact ev_err h2
      | ok b =>
        rw [h2] at q
        have q' : o.ev a b = .error n := q
        unfold Op.ev at q'
        cases h3 : o.raw a b with
        | error x =>
          rw [h3] at q'
          cases q'
          unfold Op.raw at h3
          split at h3 <;> try cases h3
          all_goals
            split at h3
            · cases h3
              exact .inl rfl
            · cases h3
        | ok c =>
          rw [h3] at q'
          have q2 : keptIn c = .error n := q'
          unfold keptIn at q2
          split at q2
          · cases q2
            exact .inr rfl
          · cases q2
end Mo
namespace Mo
open PySem PySem.Spec PyProof.Rows L2
/-! ### formulas that the law makes -/
def spFormula (n : Nat) (K : PySem.W.Frag) : Sp := fun vs H Q _ => ∃ (G : Hp) (L : Vo) (pu lb lq : Addr) (bs qs : List Str) (m : Nat), vs = [.ref pu, .ref lb, .ref lq, .int (m : Int)] ∧ Hd G H L ∧ (pu, Purse) ∈ L ∧ G lb = some (.lst (bs.map V.str)) ∧ G lq = some (.lst (qs.map V.str)) ∧
  bs.length ≤ 100 ∧ qs.length ≤ 100 ∧ 1 ≤ m ∧ m < n ∧ m ≤ 100 ∧ ∀ (v : V) (f : Fm) (G' H' : Hp), f.Ok bs qs → f.size ≤ m → Ext G G' → Hd G' H' L → Dp K G' v f.data → Q v H'
theorem opAll_at (j : Nat) (h : j < 7) : ∃ o : Op, Op.all[j]? = some o := by
  have : j < Op.all.length := h
  exact ⟨_, List.getElem?_eq_getElem this⟩
section
variable {P : Program} {w : World} {K : PySem.W.Frag} {mg : Str → Option Value} {base : Heap}
theorem ok__law_formula (T : Tx K mg) : ∀ n, OkG P w K mg base (n + 3) "_law_formula" ["_law_purse_here", "_law_boxes", "_law_queues", "_law_most"] (spFormula n K) := by
  have G__law_draw := ok__law_draw (P := P) (w := w) (base := base) T
  have G__law_worth := ok__law_worth (P := P) (w := w) (base := base) T
  intro n
  induction n with
  | zero =>
    refine T.f__law_formula.okX sc__law_formula (fun vs H Q E h => ?_) (fun cdv A outer s H vs Q E hr h => ?_)
    · obtain ⟨G, L, pu, lb, lq, bs, qs, m, rfl, _⟩ := h
      rfl
    · obtain ⟨G, L, pu, lb, lq, bs, qs, m, rfl, _, _, _, _, _, _, _, hm, _⟩ := h
      exact absurd hm (Nat.not_lt_zero _)
  | succ n G__law_formula =>
    refine T.f__law_formula.okX sc__law_formula (fun vs H Q E h => ?_) (fun cdv A outer s H vs Q E hr h => ?_)
    · obtain ⟨G, L, pu, lb, lq, bs, qs, m, rfl, _⟩ := h
      rfl
    · have hu1 := hu_of hr; have hu0 := hr.units0; have hu64 := hr.units; have hu65 := hu65_of hr; have nd := sc__law_formula.nd
      obtain ⟨G, L, pu, lb, lq, bs, qs, m, rfl, z, hm, hlb, hlq, nb, nq, m1, m2, m3, q⟩ := h
      refine ⟨_, (pss_cons (ps_if (PW.pt (pw_or (pt_cmpR (op_ltK (K := K) rfl hu0) (pv 3) pe_int (nomark _)) (pw_or1 (pt_cmpR (op_eqK (K := K) rfl hu64) (pcl T.g__law_draw G__law_draw hr (takes_of rfl rfl rfl rfl) (pa_cons (pv 0) (pa_cons pe_int pa_nil))) pe_int (nomark _))))) (pss_cons (ps_set (i := 4) nd rfl (Or.inl rfl) (pcl T.g__law_draw G__law_draw hr (takes_of rfl rfl rfl rfl) (pa_cons (pv 0) (pa_cons pe_int pa_nil))))
      (pss_cons (ps_if (PW.pt (pw_and (pt_cmpR (op_ltK (K := K) rfl hu0) (pv 4) pe_int (nomark _)) (pw_and1 (pt_cmpR (op_gt) (pe_callB (call_lenK (K := K) rfl) (by rfl) T.b_len (by decide +kernel) (pa_cons (pv 1) pa_nil)) pe_int (nomark _))))) (pss_one (ps_ret (pe_tup (pa_cons pe_str (pa_cons (pe_ix (ix_anyK (K := K) rfl hu1) (pv 1) (pcl T.g__law_draw G__law_draw hr (takes_of rfl rfl rfl rfl) (pa_cons (pv 0) (pa_cons (pe_callB (call_lenK (K := K) rfl) (by rfl) T.b_len (by decide +kernel) (pa_cons (pv 1) pa_nil)) pa_nil))) (fun _ _ => rfl)) pa_nil)))))
      pss_nil)
      (pss_cons (ps_if (PW.pt (pw_and (pt_cmpR (op_eqK (K := K) rfl hu64) (pv 4) pe_int (nomark _)) (pw_and1 (pt_cmpR (op_gt) (pe_callB (call_lenK (K := K) rfl) (by rfl) T.b_len (by decide +kernel) (pa_cons (pv 2) pa_nil)) pe_int (nomark _))))) (pss_one (ps_ret (pe_tup (pa_cons pe_str (pa_cons (pe_ix (ix_anyK (K := K) rfl hu1) (pv 2) (pcl T.g__law_draw G__law_draw hr (takes_of rfl rfl rfl rfl) (pa_cons (pv 0) (pa_cons (pe_callB (call_lenK (K := K) rfl) (by rfl) T.b_len (by decide +kernel) (pa_cons (pv 2) pa_nil)) pa_nil))) (fun _ _ => rfl)) pa_nil)))))
      pss_nil)
      (pss_cons (ps_if (pt_cmpR (op_eqK (K := K) rfl hu64) (pv 4) pe_int (nomark _)) (pss_one (ps_ret (pe_tup (pa_cons pe_str (pa_cons (pcl T.g__law_draw G__law_draw hr (takes_of rfl rfl rfl rfl) (pa_cons (pv 0) (pa_cons pe_int pa_nil))) pa_nil)))))
      pss_nil)
      (pss_cons (ps_if (pt_cmpR (op_eqK (K := K) rfl hu64) (pv 4) pe_int (nomark _)) (pss_one (ps_ret (pe_tup (pa_cons pe_str pa_nil))))
      pss_nil)
      (pss_one (ps_ret (pe_tup (pa_cons pe_str (pa_cons (pcl T.g__law_worth G__law_worth hr (takes_of rfl rfl rfl rfl) (pa_cons (pv 0) pa_nil)) pa_nil))))))))))
      pss_nil)
      (pss_cons (ps_set (i := 5) nd rfl (Or.inl rfl) (pe_ix (ix_anyK (K := K) rfl hu1) (pe_lst (pa_cons pe_str (pa_cons pe_str (pa_cons pe_str (pa_cons pe_str (pa_cons pe_str (pa_cons pe_str (pa_cons pe_str pa_nil)))))))) (pcl T.g__law_draw G__law_draw hr (takes_of rfl rfl rfl rfl) (pa_cons (pv 0) (pa_cons pe_int pa_nil))) (fun _ _ => rfl)))
      (pss_cons (ps_set (i := 6) nd rfl (Or.inl rfl) (pe_op (op_addK (K := K) rfl) pe_int (pcl T.g__law_draw G__law_draw hr (takes_of rfl rfl rfl rfl) (pa_cons (pv 0) (pa_cons (pe_op op_sub (pv 3) pe_int) pa_nil)))))
      (pss_cons (ps_set (i := 7) nd rfl (Or.inl rfl) (pcl T.g__law_formula G__law_formula hr (takes_of rfl rfl rfl rfl) (pa_cons (pv 0) (pa_cons (pv 1) (pa_cons (pv 2) (pa_cons (pv 6) pa_nil))))))
      (pss_one (ps_ret (pe_tup (pa_cons (pv 5) (pa_cons (pv 7) (pa_cons (pcl T.g__law_formula G__law_formula hr (takes_of rfl rfl rfl rfl) (pa_cons (pv 0) (pa_cons (pv 1) (pa_cons (pv 2) (pa_cons (pe_op op_sub (pe_op op_sub (pv 3) pe_int) (pv 6)) pa_nil))))) pa_nil)))))))))), ?_⟩
      refine go_start (σ' := [some (.ref pu), some (.ref lb), some (.ref lq), some (.int (m : Int)), none, none, none, none]) rfl ?_
      refine go_seq (go_ifS ?_)
      refine go_absT (fun b H' => (b = false → 3 ≤ m) ∧ Hd G H' L) (fun X hX => ?_) (fun b H1 hp => ?_)
      · k_extra "we"
        refine go_ite (fun _ => ?_) (fun h => ?_)
        · exact hX _ _ ⟨fun h => (nomatch h), z⟩
        · k_extra "we"
          refine ⟨G, L, pu, 4, rfl, z, hm, by decide, by decide, fun d H1 _ _ z1 => ?_⟩
          k_extra "we"
          exact hX _ _ ⟨fun _ => by omega, z1⟩
      obtain ⟨hb, z1⟩ := hp
      cases b with
      | true =>
        refine go_iteT ?_
        refine go_seq (go_asg ?_)
        k_extra "we"
        refine ⟨G, L, pu, 6, rfl, z1, hm, by decide, by decide, fun way H2 w0 w1 z2 => ?_⟩
        k_extra "w0"
        refine go_ifS ?_
        refine go_absT (fun b H' => (b = true → 0 < bs.length) ∧ H' = H2) (fun X hX => ?_) (fun b H3 hp => ?_)
        · k_extra "we"
          refine go_ite (fun _ => ?_) (fun h => ?_)
          · k_extra "we"
            refine go_lenL (SqL.of (z2.ex _ _ hlb)) ?_
            rw [List.length_map]
            k_extra "we"
            exact hX _ _ ⟨fun h => by have := of_decide_eq_true h; omega, rfl⟩
          · exact hX _ _ ⟨fun h => (nomatch h), rfl⟩
        obtain ⟨hb1, rfl⟩ := hp
        cases b with
        | true =>
          have n0 := hb1 rfl
          k_extra "we"
          refine go_lenL (SqL.of (z2.ex _ _ hlb)) ?_
          rw [List.length_map]
          refine ⟨G, L, pu, _, rfl, z2, hm, by omega, Bd.mono (a := 8) (by show Int.natAbs _ < 256; omega) (by decide), fun d H4 d0 d1 z4 => ?_⟩
          obtain ⟨d, rfl⟩ : ∃ j : Nat, d = (j : Int) := ⟨d.toNat, by omega⟩
          have hd : bs[d]? = some bs[d] := List.getElem?_eq_getElem (by omega)
          refine go_subL (SqL.of (z4.ex _ _ hlb)) (atI_nat (v := V.str bs[d]) (by rw [List.getElem?_map, hd]; rfl)) ?_
          k_extra "we"
          refine go_sz rfl fun p hp => ?_
          obtain ⟨x5, z5, w5⟩ := dp_fix (K := K) (xs := [.str "box", .str bs[d]]) (ds := [.str "box", .str bs[d]]) z4 hp (.cons (.str _) (.cons (.str _) .nil))
          exact q _ (.box bs[d]) _ _ (List.getElem_mem _) m1 x5 z5 w5
        | false =>
        refine go_iteF ?_
        k_extra "w0"
        refine go_ifS ?_
        refine go_absT (fun b H' => (b = true → 0 < qs.length) ∧ H' = H3) (fun X hX => ?_) (fun b H3 hp => ?_)
        · k_extra "we"
          refine go_ite (fun _ => ?_) (fun h => ?_)
          · k_extra "we"
            refine go_lenL (SqL.of (z2.ex _ _ hlq)) ?_
            rw [List.length_map]
            k_extra "we"
            exact hX _ _ ⟨fun h => by have := of_decide_eq_true h; omega, rfl⟩
          · exact hX _ _ ⟨fun h => (nomatch h), rfl⟩
        obtain ⟨hb1, rfl⟩ := hp
        cases b with
        | true =>
          have n0 := hb1 rfl
          k_extra "we"
          refine go_lenL (SqL.of (z2.ex _ _ hlq)) ?_
          rw [List.length_map]
          refine ⟨G, L, pu, _, rfl, z2, hm, by omega, Bd.mono (a := 8) (by show Int.natAbs _ < 256; omega) (by decide), fun d H4 d0 d1 z4 => ?_⟩
          obtain ⟨d, rfl⟩ : ∃ j : Nat, d = (j : Int) := ⟨d.toNat, by omega⟩
          have hd : qs[d]? = some qs[d] := List.getElem?_eq_getElem (by omega)
          refine go_subL (SqL.of (z4.ex _ _ hlq)) (atI_nat (v := V.str qs[d]) (by rw [List.getElem?_map, hd]; rfl)) ?_
          k_extra "we"
          refine go_sz rfl fun p hp => ?_
          obtain ⟨x5, z5, w5⟩ := dp_fix (K := K) (xs := [.str "long", .str qs[d]]) (ds := [.str "long", .str qs[d]]) z4 hp (.cons (.str _) (.cons (.str _) .nil))
          exact q _ (.long qs[d]) _ _ (List.getElem_mem _) m1 x5 z5 w5
        | false =>
        k_extra "we"
        refine go_ite (fun _ => ?_) (fun _ => ?_)
        · k_extra "we"
          refine ⟨G, L, pu, 2, rfl, z2, hm, by decide, by decide, fun d H4 d0 d1 z4 => ?_⟩
          obtain ⟨d, rfl⟩ : ∃ j : Nat, d = (j : Int) := ⟨d.toNat, by omega⟩
          k_extra "we"
          refine go_sz rfl fun p hp => ?_
          obtain ⟨x5, z5, w5⟩ := dp_fix (K := K) (xs := [.str "got", .int (d : Int)]) (ds := [.str "got", .int (d : Int)]) z4 hp (.cons (.str _) (.cons (.int _) .nil))
          exact q _ (.got d) _ _ (by show d < 2; omega) m1 x5 z5 w5
        · k_extra "we"
          refine go_ite (fun _ => ?_) (fun _ => ?_)
          · k_extra "we"
            refine go_sz rfl fun p hp => ?_
            obtain ⟨x5, z5, w5⟩ := dp_fix (K := K) (xs := [.str "now"]) (ds := [.str "now"]) z2 hp (.cons (.str _) .nil)
            exact q _ .now _ _ trivial m1 x5 z5 w5
          · k_extra "we"
            refine ⟨G, L, pu, rfl, z2, hm, fun d H4 wd z4 => ?_⟩
            k_extra "we"
            refine go_sz rfl fun p hp => ?_
            obtain ⟨x5, z5, w5⟩ := dp_fix (K := K) (xs := [.str "number", .int d]) (ds := [.str "number", .int d]) z4 hp (.cons (.str _) (.cons (.int _) .nil))
            exact q _ (.num d) _ _ wd m1 x5 z5 w5
      | false =>
        have hb3 := hb rfl
        k_extra "we"
        refine go_sz rfl fun l hl => ?_
        have z2 := z1.new hl (φ := Eq (.lst (Op.all.map fun o => V.str o.name))) rfl
        k_extra "we"
        refine ⟨G, _, pu, 7, rfl, z2, List.mem_cons_of_mem _ hm, by decide, by decide, fun d H3 d0 d1 z3 => ?_⟩
        obtain ⟨d, rfl⟩ : ∃ j : Nat, d = (j : Int) := ⟨d.toNat, by omega⟩
        obtain ⟨o, ho⟩ := opAll_at d (by omega)
        refine go_subL (SqL.of (z3.eq List.mem_cons_self)) (atI_nat (v := V.str o.name) (by rw [List.getElem?_map, ho]; rfl)) ?_
        have z4 := z3.drop
        k_extra "we"
        refine ⟨G, L, pu, _, rfl, z4, hm, by omega, Bd.mono (a := 8) (by show Int.natAbs _ < 256; omega) (by decide), fun c H5 c0 c1 z5 => ?_⟩
        obtain ⟨c, rfl⟩ : ∃ j : Nat, c = (j : Int) := ⟨c.toNat, by omega⟩
        k_extra "we"
        refine ⟨G, L, pu, lb, lq, bs, qs, 1 + c, rfl, z5, hm, hlb, hlq, nb, nq, by omega, by omega, by omega, fun v1 f1 G6 H6 ok1 s1 x6 z6 w6 => ?_⟩
        k_extra "we"
        refine ⟨G6, L, pu, lb, lq, bs, qs, m - 1 - (1 + c), by rw [show (m : Int) - 1 - (1 + (c : Int)) = ((m - 1 - (1 + c) : Nat) : Int) by omega], z6, hm, x6 _ _ hlb, x6 _ _ hlq, nb, nq, by omega, by omega, by omega, fun v2 f2 G7 H7 ok2 s2 x7 z7 w7 => ?_⟩
        k_extra "we"
        refine go_sz rfl fun p hp => ?_
        obtain ⟨x8, z8, w8⟩ := dp_fix (K := K) (xs := [.str o.name, v1, v2]) (ds := [.str o.name, f1.data, f2.data]) z7 hp (.cons (.str _) (.cons (dp_mono x7 w6) (.cons w7 .nil)))
        exact q _ (.two o f1 f2) _ _ ⟨ok1, ok2⟩ (by show f1.size + f2.size + 1 ≤ m; omega) ((x6.trans x7).trans x8) z8 w8
end
end Mo
namespace Mo
open PySem PySem.Spec PyProof.Rows L2
section
variable {P : Program} {w : World} {K : PySem.W.Frag} {mg : Str → Option Value} {base : Heap}
theorem ok__law_names (T : Tx K mg) : OkG P w K mg base 2 "_law_names" ["_law_purse_here", "_law_many"] spNames := by
  have G__law_draw := ok__law_draw (P := P) (w := w) (base := base) T
  refine T.f__law_names.okX sc__law_names (fun vs H Q E h => ?_) (fun cdv A outer s H vs Q E hr h => ?_)
  · obtain ⟨G, L, pu, n, rfl, _⟩ := h
    rfl
  · have hu1 := hu_of hr; have hu0 := hr.units0; have hu64 := hr.units; have hu65 := hu65_of hr; have nd := sc__law_names.nd
    obtain ⟨G, L, pu, n, rfl, z, hm, hn, q⟩ := h
    refine ⟨_, (pss_cons (ps_set (i := 2) nd rfl (Or.inl rfl) pe_str)
      (pss_cons (ps_set (i := 3) nd rfl (Or.inl rfl) (pcl T.g__law_draw G__law_draw hr (takes_of rfl rfl rfl rfl) (pa_cons (pv 0) (pa_cons pe_int pa_nil))))
      (pss_cons (ps_set (i := 4) nd rfl (Or.inl rfl) (pe_lst pa_nil))
      (pss_cons (ps_for (passes_of rfl) rfl (pi_range1 rfl T.b_range (pa_cons (pv 1) pa_nil)) (pg_name (i := 5) nd rfl (Or.inl rfl))
      (pss_cons (ps_set (i := 6) nd rfl (Or.inl rfl) (pe_ix (ix_anyK (K := K) rfl hu1) (pv 2) (pe_op op_modX (pe_op (op_addK (K := K) rfl) (pv 3) (pe_op op_mulX pe_int (pv 5))) pe_int) (fun _ _ => rfl)))
      (pss_cons (ps_for (passes_of rfl) rfl (pi_range1 rfl T.b_range (pa_cons (pcl T.g__law_draw G__law_draw hr (takes_of rfl rfl rfl rfl) (pa_cons (pv 0) (pa_cons pe_int pa_nil))) pa_nil)) (pg_name (i := 7) nd rfl (Or.inl rfl))
      (pss_one (ps_set (i := 6) nd rfl (Or.inl rfl) (pe_op (op_addK (K := K) rfl) (pv 6) (pe_ix (ix_anyK (K := K) rfl hu1) (pv 2) (pcl T.g__law_draw G__law_draw hr (takes_of rfl rfl rfl rfl) (pa_cons (pv 0) (pa_cons pe_int pa_nil))) (fun _ _ => rfl))))))
      (pss_one (ps_expr (pe_bmK (K := K) rfl PySem.F.plainAttrs_list PySem.F.slot_list_append PySem.F.type_list_append mt_append (pv 4) (pa_cons (pv 6) pa_nil)))))))
      (pss_one (ps_ret (pv 4))))))), ?_⟩
    refine go_start (σ' := [some (.ref pu), some (.int (n : Int)), none, none, none, none, none, none]) rfl ?_
    rw [letters_eq]
    k_extra "we"
    refine ⟨G, L, pu, 26, rfl, z, hm, by decide, by decide, fun d H1 d0 d1 z1 => ?_⟩
    obtain ⟨d, rfl⟩ : ∃ m : Nat, d = (m : Int) := ⟨d.toNat, by omega⟩
    k_extra "we"
    refine go_sz rfl fun lp hlp => ?_
    have z2 := z1.new hlp (φ := Eq (.lst [])) rfl
    k_extra "we"
    refine go_r1 n rfl (by omega) ?_
    refine loop_r n (fun i σ H' => ∃ (u v t : Option V) (xs : List Str), σ = [some (.ref pu), some (.int (n : Int)), some (.str letters), some (.int (d : Int)), some (.ref lp), u, v, t] ∧ xs.length = i ∧ (∀ x ∈ xs, NameOk x) ∧
        (∀ j x, xs[j]? = some x → fst1 x = 97 + (d + 3 * j) % 26) ∧ Hd G H' ((lp, Eq (.lst (xs.map V.str))) :: L))
      ⟨_, _, _, [], rfl, rfl, (fun x h => nomatch h), (fun j x h => by simp at h), z2⟩ ?_ ?_
    · rintro i σ' H' hi ⟨u, v, t, xs, rfl, hxl, hok, hf, z3⟩
      k_extra "we"
      refine go_I (Bd.cmul (a := 2) (b := 8) (by decide) (by show Int.natAbs _ < 256; omega)) ?_
      k_extra "we"
      refine go_mod (by decide) ?_
      have hc : ((d : Int) + 3 * (i : Int)).fmod 26 = (((d + 3 * i) % 26 : Nat) : Int) := by
        rw [Int.fmod_eq_emod_of_nonneg _ (by decide)]
        omega
      refine go_letter hc (Nat.mod_lt _ (by decide)) ?_
      k_extra "we"
      refine ⟨G, _, pu, 6, rfl, z3, List.mem_cons_of_mem _ hm, by decide, by decide, fun k H4 k0 k1 z4 => ?_⟩
      obtain ⟨k, rfl⟩ : ∃ m : Nat, k = (m : Int) := ⟨k.toNat, by omega⟩
      refine go_r1 k rfl (by omega) ?_
      refine loop_r k (fun j σ H' => ∃ (t : Option V) (x : Str), σ = [some (.ref pu), some (.int (n : Int)), some (.str letters), some (.int (d : Int)), some (.ref lp), some (.int (i : Int)), some (.str x), t] ∧ x.length = j + 1 ∧ (∀ c ∈ x.cps.toList, 97 ≤ c ∧ c < 123) ∧
          fst1 x = 97 + (d + 3 * i) % 26 ∧ Hd G H' ((lp, Eq (.lst (xs.map V.str))) :: L))
        ⟨_, _, rfl, rfl, fun c hc => ?_, rfl, z4⟩ ?_ ?_
      · rw [sign_list] at hc
        rw [List.mem_singleton.mp hc]
        have := Nat.mod_lt (d + 3 * i) (show 0 < 26 by decide)
        omega
      · rintro j σ2 H5 hj ⟨t, x, rfl, hx1, hx2, hx3, z5⟩
        k_extra "we"
        refine ⟨G, _, pu, 26, rfl, z5, List.mem_cons_of_mem _ hm, by decide, by decide, fun e H6 e0 e1 z6 => ?_⟩
        obtain ⟨e, rfl⟩ : ∃ m : Nat, e = (m : Int) := ⟨e.toNat, by omega⟩
        refine go_letter rfl (by omega) ?_
        refine go_addS (by rw [hx1, sign_len, sizeLine_eq]; omega) ?_
        refine ⟨_, _, rfl, by rw [app_len, hx1, sign_len], fun c hc => ?_, by rw [fst1_app (by omega)]; exact hx3, z6⟩
        rw [app_list, sign_list] at hc
        rcases List.mem_append.mp hc with hc | hc
        · exact hx2 c hc
        · rw [List.mem_singleton.mp hc]
          omega
      · rintro σ2 H5 ⟨t, x, rfl, hx1, hx2, hx3, z5⟩
        k_extra "we"
        refine go_tyL (SqL.of (z5.eq List.mem_cons_self)) ?_
        k_extra "we"
        refine go_app (z5.eq List.mem_cons_self) (by rw [List.length_map, sizeLine_eq]; omega) ?_
        refine ⟨_, _, _, xs ++ [x], rfl, by rw [List.length_append, hxl]; rfl, fun y hy => ?_, fun j y hy => ?_, by rw [List.map_append]; exact z5.set0 rfl⟩
        · rcases List.mem_append.mp hy with hy | hy
          · exact hok y hy
          · rw [List.mem_singleton.mp hy]
            exact ⟨by omega, by omega, hx2⟩
        · rcases Nat.lt_or_ge j xs.length with hj | hj
          · rw [List.getElem?_append_left hj] at hy
            exact hf j y hy
          · rw [List.getElem?_append_right hj] at hy
            have hj2 : j - xs.length = 0 := by
              have := (List.getElem?_eq_some_iff.mp hy).1
              rw [List.length_singleton] at this
              omega
            rw [hj2] at hy
            obtain rfl : x = y := by simpa using hy
            rw [show j = i by omega]
            exact hx3
    · rintro σ' H' ⟨u, v, t, xs, rfl, hxl, hok, hf, z3⟩
      k_extra "we"
      refine q lp xs _ H' hxl (apart (f := fun j => 97 + (d + 3 * j) % 26) hf fun i j hi hj e => ?_) hok (Ext.new (z3.no List.mem_cons_self)) (z3.freeze (z3.eq List.mem_cons_self)) upd_same
      have e' : (d + 3 * i) % 26 = (d + 3 * j) % 26 := by
        have : 97 + (d + 3 * i) % 26 = 97 + (d + 3 * j) % 26 := e
        omega
      omega
end
end Mo
namespace Mo
open PySem PySem.Spec PyProof.Rows L2
/-! ### happenings and endings: plain Lean -/
structure Hap where
  time : Int
  rank : Int
  frm : Int
  count : Int
  to : Int
  sign : Str
  g : Int
  h : Int
  deriving DecidableEq
def Hap.key (x : Hap) : List Int := [x.time, x.rank, x.frm, x.count]
def keyD (ns : List Int) : PyData := .tuple (ns.map PyData.int)
def Hap.data (x : Hap) : PyData := .tuple [.tuple [.int x.time, .int x.rank, .int x.frm, .int x.count], .int x.to, .str x.sign, .int x.g, .int x.h]
instance : Inhabited Hap := ⟨⟨0, 0, 0, 0, 0, "", 0, 0⟩⟩
def Hap.keyD (x : Hap) : PyData := .tuple [.int x.time, .int x.rank, .int x.frm, .int x.count]
inductive Ending where
  | fin (x : Hap)
  | fault (f : Flt) (x : Hap)
  | empty
  | cut
def Ending.data : Ending → PyData
  | .fin x => .tuple [.str "end", x.keyD]
  | .fault f x => .tuple [.str "fault", .str f.word, x.keyD]
  | .empty => .tuple [.str "empty"]
  | .cut => .tuple [.str "cut"]
/-- an ending, or none -/
def endD : Option Ending → PyData
  | none => .none
  | some e => e.data
end Mo
namespace Mo
open PySem PySem.Spec PyProof.Rows L2
/-! ### deeds done: plain Lean -/
/-- what stays while a happening is done -/
structure DoC where
  draws : List Int
  hap : Hap
structure Do where
  st : MSt
  wr : List Str
  news : List Hap
  ends : Bool
def addW (x : Str) (l : List Str) : List Str := if x ∈ l then l else l ++ [x]
def Do.env (c : DoC) (s : Do) : Env := s.st.env c.hap.time c.hap.g c.hap.h
def Do.put (s : Do) (x : Str) (n : Int) : Do := { s with st := s.st.setB x n, wr := addW x s.wr }
def Do.push (s : Do) (q : Str) (n : Int) : Except Flt Do := if 30 ≤ (lookD [] q s.st.queues).length then .error .full else .ok { s with st := s.st.setQ q (lookD [] q s.st.queues ++ [n]), wr := addW q s.wr }
def Do.draw (c : DoC) (s : Do) (b : Str) (many : Int) : Except Flt Do :=
  if many < 1 then .error .nought else if c.draws.length = 0 then .error .dry else
  .ok { s.put b ((c.draws.getD (s.st.drawn.fmod c.draws.length).toNat 0).fmod many) with st := { (s.st.setB b ((c.draws.getD (s.st.drawn.fmod c.draws.length).toNat 0).fmod many)) with drawn := s.st.drawn + 1 } }
def Do.send (c : DoC) (s : Do) (to : Int) (sign : Str) (span : Fm) (rank : Int) (g h : Fm) : Except Flt Do := match span.ev (s.env c) with
  | .error x => .error x
  | .ok sp => if sp < 1 ∨ 1000000 < sp then .error .span else match g.ev (s.env c) with
    | .error x => .error x
    | .ok a => match h.ev (s.env c) with
      | .error x => .error x
      | .ok b => if 1000000000000 < c.hap.time + sp then .error .late else .ok { s with st := { s.st with sent := s.st.sent + 1 }, news := s.news ++ [⟨c.hap.time + sp, rank, c.hap.to, s.st.sent, to, sign, a, b⟩] }
/-- a worth leaves a queue -/
def Do.pulled (s : Do) (q b : Str) (n : Int) (r : List Int) : Do := { s with st := (s.st.setQ q r).setB b n, wr := addW q (addW b s.wr) }
mutual
def Dd.run (c : DoC) : Dd → Do → Except Flt Do
  | .put b f, s => match f.ev (s.env c) with
    | .error x => .error x
    | .ok n => .ok (s.put b n)
  | .push q f, s => match f.ev (s.env c) with
    | .error x => .error x
    | .ok n => s.push q n
  | .pull q b ds, s => match lookD [] q s.st.queues with
    | [] => Dd.runs c ds s
    | n :: r => .ok (s.pulled q b n r)
  | .draw b f, s => match f.ev (s.env c) with
    | .error x => .error x
    | .ok n => s.draw c b n
  | .send to sign span rank g h, s => s.send c to sign span rank g h
  | .iff f a b, s => match f.ev (s.env c) with
    | .error x => .error x
    | .ok n => if n = 0 then Dd.runs c b s else Dd.runs c a s
  | .fin, s => .ok { s with ends := true }
def Dd.runs (c : DoC) : List Dd → Do → Except Flt Do
  | [], s => .ok s
  | d :: ds, s => match Dd.run c d s with
    | .error x => .error x
    | .ok s' => Dd.runs c ds s'
end
/-! #### what is needed: names that are there, worths -/
mutual
def Dd.Ok (bs qs : List Str) : Dd → Prop
  | .put b f => b ∈ bs ∧ f.Ok bs qs
  | .push q f => q ∈ qs ∧ f.Ok bs qs
  | .pull q b ds => q ∈ qs ∧ b ∈ bs ∧ Dd.Oks bs qs ds
  | .draw b f => b ∈ bs ∧ f.Ok bs qs
  | .send _ _ span _ g h => span.Ok bs qs ∧ g.Ok bs qs ∧ h.Ok bs qs
  | .iff f a b => f.Ok bs qs ∧ Dd.Oks bs qs a ∧ Dd.Oks bs qs b
  | .fin => True
def Dd.Oks (bs qs : List Str) : List Dd → Prop
  | [] => True
  | d :: ds => d.Ok bs qs ∧ Dd.Oks bs qs ds
end
mutual
/-- how deep its formulas are -/
def Dd.fdep : Dd → Nat
  | .put _ f => f.depth
  | .push _ f => f.depth
  | .pull _ _ ds => Dd.fdeps ds
  | .draw _ f => f.depth
  | .send _ _ span _ g h => max span.depth (max g.depth h.depth)
  | .iff f a b => max f.depth (max (Dd.fdeps a) (Dd.fdeps b))
  | .fin => 0
def Dd.fdeps : List Dd → Nat
  | [] => 0
  | d :: ds => max d.fdep (Dd.fdeps ds)
end
theorem oks_get {bs qs : List Str} : ∀ {ds : List Dd} {i : Nat} {d : Dd}, Dd.Oks bs qs ds → ds[i]? = some d → d.Ok bs qs
  | [], _, _, _, h => by simp at h
  | e :: ds, 0, d, k, h => by
    simp only [List.getElem?_cons_zero, Option.some.injEq] at h
    subst h
    rw [Dd.Oks] at k
    exact k.1
  | e :: ds, i + 1, d, k, h => by
    rw [List.getElem?_cons_succ] at h
    rw [Dd.Oks] at k
    exact oks_get k.2 h
theorem fdeps_get : ∀ {ds : List Dd} {i : Nat} {d : Dd}, ds[i]? = some d → d.fdep ≤ Dd.fdeps ds
  | [], _, _, h => by simp at h
  | e :: ds, 0, d, h => by
    simp only [List.getElem?_cons_zero, Option.some.injEq] at h
    subst h
    rw [Dd.fdeps]
    omega
  | e :: ds, i + 1, d, h => by
    rw [List.getElem?_cons_succ] at h
    have := fdeps_get h
    rw [Dd.fdeps]
    omega
theorem oks_take {bs qs : List Str} : ∀ {ds : List Dd}, Dd.Oks bs qs ds → ∀ i, Dd.Oks bs qs (ds.take i)
  | [], _, i => by rw [List.take_nil, Dd.Oks]; exact True.intro
  | d :: ds, h, 0 => by rw [List.take_zero, Dd.Oks]; exact True.intro
  | d :: ds, h, i + 1 => by
    rw [Dd.Oks] at h
    rw [List.take_succ_cons, Dd.Oks]
    exact ⟨h.1, oks_take h.2 i⟩
structure MSt.Wo (s : MSt) : Prop where
  bw : ∀ p ∈ s.boxes, Worth p.2
  ql : ∀ p ∈ s.queues, p.2.length ≤ 300
  qw : ∀ p ∈ s.queues, ∀ n ∈ p.2, Worth n
  nb : s.bs.Nodup
  nq : s.qs.Nodup
  lb : s.boxes.length ≤ 1000
  lq : s.queues.length ≤ 1000
theorem lookD_in {α : Type} {d : α} {x : Str} : ∀ {l : List (Str × α)}, x ∈ l.map (·.1) → (x, lookD d x l) ∈ l
  | [], h => by simp at h
  | p :: r, h => by
    show (x, if p.1 = x then p.2 else lookD d x r) ∈ p :: r
    by_cases e : p.1 = x
    · rw [if_pos e, ← e]
      exact List.mem_cons_self
    · rw [if_neg e]
      rw [List.map_cons] at h
      exact List.mem_cons_of_mem _ (lookD_in ((List.mem_cons.mp h).resolve_left fun z => e z.symm))
theorem MSt.Wo.env {s : MSt} (h : s.Wo) {t g0 g1 : Int} (ht : Worth t) (h0 : Worth g0) (h1 : Worth g1) : (s.env t g0 g1).Ok s.bs s.qs where
  boxes := fun x hx => h.bw _ (lookD_in hx)
  longs := fun x hx => by
    have := h.ql _ (lookD_in (d := []) hx)
    show (lookD [] x s.queues).length ≤ 100000
    have e : (x, lookD [] x s.queues).2 = lookD [] x s.queues := rfl
    rw [e] at this
    omega
  now := ht
  got := fun j _ => by
    show Worth (if j = 0 then g0 else g1)
    split
    · exact h0
    · exact h1
theorem mem_setA {α : Type} {x : Str} {v : α} {l : List (Str × α)} {p : Str × α} (h : p ∈ setA x v l) : p ∈ l ∨ p = (x, v) := by
  unfold setA at h
  obtain ⟨q, hq, e⟩ := List.mem_map.mp h
  split at e
  · exact .inr e.symm
  · rw [← e]; exact .inl hq
theorem MSt.Wo.setB {s : MSt} (h : s.Wo) {x : Str} {n : Int} (hn : Worth n) : (s.setB x n).Wo where
  bw := fun p hp => by
    rcases mem_setA hp with hp | rfl
    · exact h.bw p hp
    · exact hn
  ql := h.ql
  qw := h.qw
  nb := by rw [MSt.setB_bs]; exact h.nb
  nq := h.nq
  lb := by show (setA x n s.boxes).length ≤ 1000; rw [setA_len]; exact h.lb
  lq := h.lq
theorem MSt.Wo.setQ {s : MSt} (h : s.Wo) {x : Str} {ns : List Int} (hl : ns.length ≤ 300) (hn : ∀ n ∈ ns, Worth n) : (s.setQ x ns).Wo where
  bw := h.bw
  ql := fun p hp => by
    rcases mem_setA hp with hp | rfl
    · exact h.ql p hp
    · exact hl
  qw := fun p hp => by
    rcases mem_setA hp with hp | rfl
    · exact h.qw p hp
    · exact hn
  nb := h.nb
  nq := by rw [MSt.setQ_qs]; exact h.nq
  lb := h.lb
  lq := by show (setA x ns s.queues).length ≤ 1000; rw [setA_len]; exact h.lq
theorem MSt.Wo.setN {s : MSt} (h : s.Wo) {a b : Int} : ({ s with drawn := a, sent := b } : MSt).Wo := ⟨h.bw, h.ql, h.qw, h.nb, h.nq, h.lb, h.lq⟩
/-- a happening that may be done -/
structure DoC.Ok (c : DoC) : Prop where
  t0 : 0 ≤ c.hap.time
  t1 : c.hap.time ≤ 1000000000000
  g : Worth c.hap.g
  h : Worth c.hap.h
  ln : c.draws.length ≤ 1000
theorem DoC.Ok.time {c : DoC} (h : c.Ok) : Worth c.hap.time := by
  have := h.t0
  have := h.t1
  constructor <;> omega
structure Do.Ok (B Z : List Str) (s : Do) : Prop where
  wo : s.st.Wo
  bs : s.st.bs = B
  qs : s.st.qs = Z
  wr : ∀ x ∈ s.wr, x ∈ B ∨ x ∈ Z
  nw : s.wr.Nodup
theorem nodup_len {α : Type} [DecidableEq α] : ∀ {l m : List α}, l.Nodup → (∀ x ∈ l, x ∈ m) → l.length ≤ m.length
  | [], _, _, _ => Nat.zero_le _
  | x :: l, m, h, s => by
    have h2 := List.nodup_cons.mp h
    have hx := s x List.mem_cons_self
    have := nodup_len (l := l) (m := m.erase x) h2.2 fun y hy => (List.mem_erase_of_ne (fun e => h2.1 (by rw [← e]; exact hy))).mpr (s y (List.mem_cons_of_mem _ hy))
    rw [List.length_erase_of_mem hx] at this
    have h3 : 0 < m.length := List.length_pos_of_mem hx
    rw [List.length_cons]
    omega
theorem Do.Ok.wrlen {B Z : List Str} {s : Do} (h : s.Ok B Z) : s.wr.length ≤ 100000 := by
  have h1 : s.wr.length ≤ (B ++ Z).length := nodup_len h.nw fun x hx => List.mem_append.mpr (h.wr x hx)
  rw [List.length_append, ← h.bs, ← h.qs] at h1
  have h2 := h.wo.lb
  have h3 := h.wo.lq
  unfold MSt.bs MSt.qs at h1
  rw [List.length_map, List.length_map] at h1
  omega
theorem Do.Ok.env {bs qs : List Str} {c : DoC} {s : Do} (hc : c.Ok) (h : s.Ok bs qs) : (s.env c).Ok bs qs := by
  have z := h.wo.env hc.time hc.g hc.h
  rw [h.bs, h.qs] at z
  exact z
theorem Do.Ok.ev {bs qs : List Str} {c : DoC} {s : Do} (hc : c.Ok) (h : s.Ok bs qs) {f : Fm} {n : Int} (hf : f.Ok bs qs) (e : f.ev (s.env c) = .ok n) : Worth n := Fm.ev_worth (h.env hc) hf e
theorem mem_addW {x y : Str} {l : List Str} : y ∈ addW x l ↔ y = x ∨ y ∈ l := by
  unfold addW
  split
  · rename_i h
    constructor
    · exact Or.inr
    · rintro (rfl | h2)
      · exact h
      · exact h2
  · rw [List.mem_append, List.mem_singleton, or_comm]
theorem nodup_addW {x : Str} {l : List Str} (h : l.Nodup) : (addW x l).Nodup := by
  unfold addW
  split
  · exact h
  · rename_i hx
    rw [List.nodup_append]
    refine ⟨h, by simp, fun a ha b hb => ?_⟩
    rw [List.mem_singleton.mp hb]
    intro e
    exact hx (by rw [← e]; exact ha)
theorem Do.Ok.put {bs qs : List Str} {s : Do} (h : s.Ok bs qs) {x : Str} {n : Int} (hx : x ∈ bs) (hn : Worth n) : (s.put x n).Ok bs qs where
  wo := h.wo.setB hn
  bs := (MSt.setB_bs ..).trans h.bs
  qs := h.qs
  wr := fun y hy => by
    rcases mem_addW.mp hy with rfl | hy
    · exact .inl hx
    · exact h.wr y hy
  nw := nodup_addW h.nw
theorem Do.Ok.push {bs qs : List Str} {s s' : Do} (h : s.Ok bs qs) {x : Str} {n : Int} (hx : x ∈ qs) (hn : Worth n) (e : s.push x n = .ok s') : s'.Ok bs qs := by
  unfold Do.push at e
  split at e
  · cases e
  · rename_i hl
    cases e
    have hm : (x, lookD [] x s.st.queues) ∈ s.st.queues := lookD_in (show x ∈ s.st.qs by rw [h.qs]; exact hx)
    refine ⟨h.wo.setQ (by rw [List.length_append, List.length_singleton]; omega) fun m hm' => ?_, h.bs, (MSt.setQ_qs ..).trans h.qs, fun y hy => ?_, nodup_addW h.nw⟩
    · rcases List.mem_append.mp hm' with h1 | h1
      · exact h.wo.qw _ hm m h1
      · rw [List.mem_singleton.mp h1]; exact hn
    · rcases mem_addW.mp hy with rfl | hy
      · exact .inr hx
      · exact h.wr y hy
theorem fmod_worth {a n : Int} (h0 : 0 < n) (h : Worth n) : Worth (a.fmod n) := by
  have h1 := fmod_range (a := a) h0
  have := h.2
  constructor <;> omega
theorem Do.Ok.draw {bs qs : List Str} {c : DoC} {s s' : Do} (h : s.Ok bs qs) {x : Str} {n : Int} (hx : x ∈ bs) (hn : Worth n) (e : s.draw c x n = .ok s') : s'.Ok bs qs := by
  unfold Do.draw at e
  split at e
  · cases e
  · split at e
    · cases e
    · rename_i h1 h2
      cases e
      have z := h.put (x := x) (n := (c.draws.getD (s.st.drawn.fmod c.draws.length).toNat 0).fmod n) hx (fmod_worth (by omega) hn)
      exact ⟨z.wo.setN, z.bs, z.qs, z.wr, z.nw⟩
theorem Do.Ok.send {bs qs : List Str} {c : DoC} {s s' : Do} (h : s.Ok bs qs) {to : Int} {sign : Str} {span : Fm} {rank : Int} {g k : Fm} (e : s.send c to sign span rank g k = .ok s') : s'.Ok bs qs := by
  unfold Do.send at e
  split at e
  · cases e
  · split at e
    · cases e
    · split at e
      · cases e
      · split at e
        · cases e
        · split at e
          · cases e
          · cases e
            exact ⟨h.wo.setN, h.bs, h.qs, h.wr, h.nw⟩
theorem Do.Ok.pulled {bs qs : List Str} {s : Do} (h : s.Ok bs qs) {q b : Str} {n : Int} {r : List Int} (hq : q ∈ qs) (hb : b ∈ bs) (e : lookD [] q s.st.queues = n :: r) : (s.pulled q b n r).Ok bs qs := by
  have hm : (q, lookD [] q s.st.queues) ∈ s.st.queues := lookD_in (show q ∈ s.st.qs by rw [h.qs]; exact hq)
  rw [e] at hm
  have h1 := h.wo.ql _ hm
  have h2 := h.wo.qw _ hm
  refine ⟨(h.wo.setQ (by simp only [List.length_cons] at h1; omega) fun m hm' => h2 m (List.mem_cons_of_mem _ hm')).setB (h2 n List.mem_cons_self), ?_, ?_, fun y hy => ?_, nodup_addW (nodup_addW h.nw)⟩
  · show (((s.st.setQ q r).setB b n)).bs = bs
    rw [MSt.setB_bs, MSt.setQ_bs, h.bs]
  · show (((s.st.setQ q r).setB b n)).qs = qs
    rw [MSt.setB_qs, MSt.setQ_qs, h.qs]
  · rcases mem_addW.mp hy with rfl | hy
    · exact .inr hq
    · rcases mem_addW.mp hy with rfl | hy
      · exact .inl hb
      · exact h.wr y hy
mutual
theorem run_ok {bs qs : List Str} {c : DoC} (hc : c.Ok) : ∀ (d : Dd) {s s' : Do}, d.Ok bs qs → s.Ok bs qs → d.run c s = .ok s' → s'.Ok bs qs
  | .put b f, s, s', hd, h, e => by
    rw [Dd.Ok] at hd
    rw [Dd.run] at e
    cases h1 : f.ev (s.env c) with
    | error x => rw [h1] at e; cases e
    | ok n => rw [h1] at e; cases e; exact h.put hd.1 (h.ev hc hd.2 h1)
  | .push b f, s, s', hd, h, e => by
    rw [Dd.Ok] at hd
    rw [Dd.run] at e
    cases h1 : f.ev (s.env c) with
    | error x => rw [h1] at e; cases e
    | ok n => rw [h1] at e; exact h.push hd.1 (h.ev hc hd.2 h1) e
  | .pull q b ds, s, s', hd, h, e => by
    rw [Dd.Ok] at hd
    rw [Dd.run] at e
    cases h1 : lookD [] q s.st.queues with
    | nil => rw [h1] at e; exact runs_ok hc ds hd.2.2 h e
    | cons n r => rw [h1] at e; cases e; exact h.pulled hd.1 hd.2.1 h1
  | .draw b f, s, s', hd, h, e => by
    rw [Dd.Ok] at hd
    rw [Dd.run] at e
    cases h1 : f.ev (s.env c) with
    | error x => rw [h1] at e; cases e
    | ok n => rw [h1] at e; exact h.draw hd.1 (h.ev hc hd.2 h1) e
  | .send to sign span rank g k, s, s', hd, h, e => by
    rw [Dd.run] at e
    exact h.send e
  | .iff f a b, s, s', hd, h, e => by
    rw [Dd.Ok] at hd
    rw [Dd.run] at e
    cases h1 : f.ev (s.env c) with
    | error x => rw [h1] at e; cases e
    | ok n =>
      rw [h1] at e
      by_cases hn : n = 0
      · rw [hn] at e; exact runs_ok hc b hd.2.2 h e
      · have e2 : (if n = 0 then Dd.runs c b s else Dd.runs c a s) = .ok s' := e
        rw [if_neg hn] at e2
        exact runs_ok hc a hd.2.1 h e2
  | .fin, s, s', hd, h, e => by
    rw [Dd.run] at e
    cases e
    exact ⟨h.wo, h.bs, h.qs, h.wr, h.nw⟩
theorem runs_ok {bs qs : List Str} {c : DoC} (hc : c.Ok) : ∀ (ds : List Dd) {s s' : Do}, Dd.Oks bs qs ds → s.Ok bs qs → Dd.runs c ds s = .ok s' → s'.Ok bs qs
  | [], s, s', hd, h, e => by rw [Dd.runs] at e; cases e; exact h
  | d :: ds, s, s', hd, h, e => by
    rw [Dd.Oks] at hd
    rw [Dd.runs] at e
    cases h1 : Dd.run c d s with
    | error x => rw [h1] at e; cases e
    | ok s1 => rw [h1] at e; exact runs_ok hc ds hd.2 (run_ok hc d hd.1 h h1) e
end
/-- deeds done one after the other, the first i of them -/
theorem runs_take {c : DoC} {ds : List Dd} {i : Nat} {d : Dd} (h : ds[i]? = some d) (s : Do) : Dd.runs c (ds.take (i + 1)) s = match Dd.runs c (ds.take i) s with
    | .error x => .error x
    | .ok s' => d.run c s' := by
  induction ds generalizing i s with
  | nil => simp at h
  | cons e ds ih =>
    cases i with
    | zero =>
      simp only [List.getElem?_cons_zero, Option.some.injEq] at h
      subst h
      simp only [List.take_succ_cons, List.take_zero, Dd.runs]
      cases Dd.run c e s with
      | error x => rfl
      | ok s1 => rfl
    | succ i =>
      rw [List.getElem?_cons_succ] at h
      rw [List.take_succ_cons, Dd.runs, List.take_succ_cons, Dd.runs]
      cases Dd.run c e s with
      | error x => rfl
      | ok s1 => exact ih h s1
theorem runs_err {c : DoC} {ds : List Dd} {i : Nat} {x : Flt} {s : Do} (h : Dd.runs c (ds.take i) s = .error x) : Dd.runs c ds s = .error x := by
  induction ds generalizing i s with
  | nil => rw [List.take_nil, Dd.runs] at h; cases h
  | cons e ds ih =>
    cases i with
    | zero => rw [List.take_zero, Dd.runs] at h; cases h
    | succ i =>
      rw [List.take_succ_cons, Dd.runs] at h
      rw [Dd.runs]
      cases h1 : Dd.run c e s with
      | error y => rw [h1] at h; exact h
      | ok s1 => rw [h1] at h; exact ih h
mutual
/-- how many deeds -/
def Dd.cnt : Dd → Nat
  | .pull _ _ ds => Dd.cnts ds + 1
  | .iff _ a b => Dd.cnts a + Dd.cnts b + 1
  | _ => 1
def Dd.cnts : List Dd → Nat
  | [] => 0
  | d :: ds => d.cnt + Dd.cnts ds
end
theorem send_news {c : DoC} {s s' : Do} {to : Int} {sign : Str} {span : Fm} {rank : Int} {g k : Fm} (e : s.send c to sign span rank g k = .ok s') : s'.news.length ≤ s.news.length + 1 := by
  unfold Do.send at e
  split at e
  · cases e
  · split at e
    · cases e
    · split at e
      · cases e
      · split at e
        · cases e
        · split at e
          · cases e
          · cases e
            show (s.news ++ [_]).length ≤ _
            rw [List.length_append, List.length_singleton]
            omega
mutual
theorem run_news {c : DoC} : ∀ (d : Dd) {s s' : Do}, d.run c s = .ok s' → s'.news.length ≤ s.news.length + d.cnt
  | .put b f, s, s', e => by
    rw [Dd.run] at e
    split at e
    · cases e
    · cases e; exact Nat.le_add_right _ _
  | .push b f, s, s', e => by
    rw [Dd.run] at e
    split at e
    · cases e
    · unfold Do.push at e
      split at e
      · cases e
      · cases e; exact Nat.le_add_right _ _
  | .pull q b ds, s, s', e => by
    rw [Dd.run] at e
    split at e
    · have := runs_news ds e
      rw [Dd.cnt]
      omega
    · cases e; exact Nat.le_add_right _ _
  | .draw b f, s, s', e => by
    rw [Dd.run] at e
    split at e
    · cases e
    · unfold Do.draw at e
      split at e
      · cases e
      · split at e
        · cases e
        · cases e; exact Nat.le_add_right _ _
  | .send to sign span rank g k, s, s', e => by
    rw [Dd.run] at e
    have := send_news e
    rw [Dd.cnt]
    · exact this
    all_goals intros; contradiction
  | .iff f a b, s, s', e => by
    rw [Dd.run] at e
    rw [Dd.cnt]
    split at e
    · cases e
    · split at e
      · have := runs_news b e
        omega
      · have := runs_news a e
        omega
  | .fin, s, s', e => by
    rw [Dd.run] at e
    cases e
    exact Nat.le_add_right _ _
theorem runs_news {c : DoC} : ∀ (ds : List Dd) {s s' : Do}, Dd.runs c ds s = .ok s' → s'.news.length ≤ s.news.length + Dd.cnts ds
  | [], s, s', e => by rw [Dd.runs] at e; cases e; exact Nat.le_add_right _ _
  | d :: ds, s, s', e => by
    rw [Dd.runs] at e
    rw [Dd.cnts]
    split at e
    · cases e
    · rename_i s1 h1
      have := run_news d h1
      have := runs_news ds e
      omega
end
theorem cnts_take : ∀ (ds : List Dd) {i : Nat} {d : Dd}, ds[i]? = some d → Dd.cnts (ds.take i) + d.cnt ≤ Dd.cnts ds
  | [], i, d, h => by simp at h
  | e :: ds, 0, d, h => by
    simp only [List.getElem?_cons_zero, Option.some.injEq] at h
    subst h
    rw [List.take_zero, Dd.cnts, Dd.cnts]
    omega
  | e :: ds, i + 1, d, h => by
    rw [List.getElem?_cons_succ] at h
    have := cnts_take ds h
    rw [List.take_succ_cons, Dd.cnts, Dd.cnts]
    omega
/-! #### what was written; a record -/
def Do.wB (s : Do) (ns : List Str) : List (Str × Int) := (ns.filter fun x => decide (x ∈ s.wr)).map fun x => (x, lookD 0 x s.st.boxes)
def Do.wQ (s : Do) (ns : List Str) : List (Str × List Int) := (ns.filter fun x => decide (x ∈ s.wr)).map fun x => (x, lookD [] x s.st.queues)
def qD (p : Str × List Int) : PyData := .tuple [.str p.1, .list (p.2.map PyData.int)]
structure Rec where
  hap : Hap
  wb : List (Str × Int)
  wq : List (Str × List Int)
  news : List Hap
def Rec.data (r : Rec) : PyData := .tuple [.tuple [.int r.hap.time, .int r.hap.rank, .int r.hap.frm, .int r.hap.count], .int r.hap.to, .str r.hap.sign, .int r.hap.g, .int r.hap.h, .list (r.wb.map boxD ++ r.wq.map qD), .list (r.news.map Hap.data)]
def Mach.deedsFor (m : Mach) (sign : Str) : List Dd := match m.hears.find? (fun p => decide (p.1 = sign)) with
  | some p => p.2
  | none => []
def Mach.ns (m : Mach) : List Str := m.boxes.map (·.1)
/-- a happening done -/
def Mach.doing (m : Mach) (s : MSt) (x : Hap) : Except Flt Do := Dd.runs ⟨m.draws, x⟩ (m.deedsFor x.sign) ⟨s, [], [], false⟩
def Do.told (m : Mach) (x : Hap) (d : Do) : Rec := ⟨x, d.wB m.ns, d.wQ m.queues, d.news⟩
/-- a machine whose deeds name what is there -/
structure Mach.Ok (n : Nat) (m : Mach) : Prop where
  sm : m.Sm
  nd : m.Nd
  deeds : ∀ p ∈ m.hears, Dd.Oks m.ns m.queues p.2 ∧ Dd.depths p.2 ≤ n ∧ Dd.fdeps p.2 < n ∧ Dd.cnts p.2 ≤ 1000
theorem Mach.Ok.for_ {n : Nat} {m : Mach} (h : m.Ok n) (hn : 0 < n) (sign : Str) : Dd.Oks m.ns m.queues (m.deedsFor sign) ∧ Dd.depths (m.deedsFor sign) ≤ n ∧ Dd.fdeps (m.deedsFor sign) < n ∧ Dd.cnts (m.deedsFor sign) ≤ 1000 := by
  unfold Mach.deedsFor
  cases e : m.hears.find? (fun p => decide (p.1 = sign)) with
  | some p => exact h.deeds p (List.mem_of_find?_eq_some e)
  | none => exact ⟨by rw [Dd.Oks]; exact True.intro, by rw [Dd.depths]; exact Nat.zero_le _, by rw [Dd.fdeps]; exact hn, by rw [Dd.cnts]; exact Nat.zero_le _⟩
end Mo
namespace Mo
open PySem PySem.Spec PyProof.Rows L2
/-! ### deeds as the law makes them: plain Lean -/
theorem oks_all {bs qs : List Str} : ∀ {ds : List Dd}, Dd.Oks bs qs ds ↔ ∀ d ∈ ds, d.Ok bs qs
  | [] => by rw [Dd.Oks]; exact ⟨(fun _ _ h => nomatch h), fun _ => True.intro⟩
  | d :: ds => by rw [Dd.Oks, oks_all, List.forall_mem_cons]
theorem sms_all : ∀ {ds : List Dd}, Dd.Sms ds ↔ ∀ d ∈ ds, d.Sm
  | [] => by rw [Dd.Sms]; exact ⟨(fun _ _ h => nomatch h), fun _ => True.intro⟩
  | d :: ds => by rw [Dd.Sms, sms_all, List.forall_mem_cons]
theorem depths_all {n : Nat} : ∀ {ds : List Dd}, Dd.depths ds ≤ n ↔ ∀ d ∈ ds, d.depth < n
  | [] => by rw [Dd.depths]; exact ⟨(fun _ _ h => nomatch h), fun _ => Nat.zero_le _⟩
  | d :: ds => by
    rw [Dd.depths, List.forall_mem_cons, ← depths_all]
    omega
theorem fdeps_all {n : Nat} : ∀ {ds : List Dd}, Dd.fdeps ds ≤ n ↔ ∀ d ∈ ds, d.fdep ≤ n
  | [] => by rw [Dd.fdeps]; exact ⟨(fun _ _ h => nomatch h), fun _ => Nat.zero_le _⟩
  | d :: ds => by
    rw [Dd.fdeps, List.forall_mem_cons, ← fdeps_all]
    omega
theorem cnts_snoc (d : Dd) : ∀ ds : List Dd, Dd.cnts (ds ++ [d]) = Dd.cnts ds + d.cnt
  | [] => by rw [List.nil_append, Dd.cnts, Dd.cnts, Nat.zero_add]; rfl
  | e :: ds => by rw [List.cons_append, Dd.cnts, Dd.cnts, cnts_snoc d ds]; omega
mutual
/-- what is sent goes to machines that are there, with signs of these and ranks -/
def Dd.To (many : Nat) (ss : List Str) : Dd → Prop
  | .pull _ _ ds => Dd.Tos many ss ds
  | .send to sign _ rank _ _ => 0 ≤ to ∧ to < (many : Int) ∧ sign ∈ ss ∧ 0 ≤ rank ∧ rank ≤ 9
  | .iff _ a b => Dd.Tos many ss a ∧ Dd.Tos many ss b
  | _ => True
def Dd.Tos (many : Nat) (ss : List Str) : List Dd → Prop
  | [] => True
  | d :: ds => d.To many ss ∧ Dd.Tos many ss ds
end
theorem tos_all {many : Nat} {ss : List Str} : ∀ {ds : List Dd}, Dd.Tos many ss ds ↔ ∀ d ∈ ds, d.To many ss
  | [] => by rw [Dd.Tos]; exact ⟨(fun _ _ h => nomatch h), fun _ => True.intro⟩
  | d :: ds => by rw [Dd.Tos, tos_all, List.forall_mem_cons]
/-- a deed, at most so deep, by these names -/
structure DdG (deep many : Nat) (bs qs ss : List Str) (d : Dd) : Prop where
  ok : d.Ok bs qs
  dep : d.depth ≤ 2 * deep
  fd : d.fdep ≤ 3
  sm : d.Sm
  to : d.To many ss
structure DsG (deep many : Nat) (bs qs ss : List Str) (ds : List Dd) : Prop where
  all : ∀ d ∈ ds, DdG deep many bs qs ss d
  len : ds.length ≤ 4
section
variable {deep many : Nat} {bs qs ss : List Str} {ds : List Dd} {d : Dd}
theorem DsG.ok (h : DsG deep many bs qs ss ds) : Dd.Oks bs qs ds := oks_all.mpr fun d m => (h.all d m).ok
theorem DsG.dep (h : DsG deep many bs qs ss ds) : Dd.depths ds ≤ 2 * deep + 1 := depths_all.mpr fun d m => Nat.lt_succ_of_le (h.all d m).dep
theorem DsG.fd (h : DsG deep many bs qs ss ds) : Dd.fdeps ds ≤ 3 := fdeps_all.mpr fun d m => (h.all d m).fd
theorem DsG.sm (h : DsG deep many bs qs ss ds) : Dd.Sms ds := sms_all.mpr fun d m => (h.all d m).sm
theorem DsG.to (h : DsG deep many bs qs ss ds) : Dd.Tos many ss ds := tos_all.mpr fun d m => (h.all d m).to
theorem DdG.iff {f : Fm} {a b : List Dd} (hf : f.Ok bs qs) (hd : f.depth ≤ 3) (h : DsG deep many bs qs ss a) (k : DsG deep many bs qs ss b) : DdG (deep + 1) many bs qs ss (.iff f a b) where
  ok := by rw [Dd.Ok]; exact ⟨hf, h.ok, k.ok⟩
  dep := by rw [Dd.depth]; have := h.dep; have := k.dep; omega
  fd := by rw [Dd.fdep]; have := h.fd; have := k.fd; omega
  sm := by rw [Dd.Sm]; have := h.len; have := k.len; exact ⟨⟨by omega, h.sm⟩, by omega, k.sm⟩
  to := by rw [Dd.To]; exact ⟨h.to, k.to⟩
theorem DdG.pull {q b : Str} (hq : q ∈ qs) (hb : b ∈ bs) (h : DsG deep many bs qs ss ds) : DdG (deep + 1) many bs qs ss (.pull q b ds) where
  ok := by rw [Dd.Ok]; exact ⟨hq, hb, h.ok⟩
  dep := by rw [Dd.depth]; have := h.dep; omega
  fd := by rw [Dd.fdep]; exact h.fd
  sm := by rw [Dd.Sm]; have := h.len; exact ⟨by omega, h.sm⟩
  to := by rw [Dd.To]; exact h.to
theorem DdG.put {b : Str} {f : Fm} (hb : b ∈ bs) (hf : f.Ok bs qs) (hd : f.depth ≤ 3) : DdG deep many bs qs ss (.put b f) := ⟨by rw [Dd.Ok]; exact ⟨hb, hf⟩, Nat.zero_le _, hd, by rw [Dd.Sm] <;> simp, by rw [Dd.To] <;> simp⟩
theorem DdG.push {b : Str} {f : Fm} (hb : b ∈ qs) (hf : f.Ok bs qs) (hd : f.depth ≤ 3) : DdG deep many bs qs ss (.push b f) := ⟨by rw [Dd.Ok]; exact ⟨hb, hf⟩, Nat.zero_le _, hd, by rw [Dd.Sm] <;> simp, by rw [Dd.To] <;> simp⟩
theorem DdG.draw {b : Str} {f : Fm} (hb : b ∈ bs) (hf : f.Ok bs qs) (hd : f.depth ≤ 3) : DdG deep many bs qs ss (.draw b f) := ⟨by rw [Dd.Ok]; exact ⟨hb, hf⟩, Nat.zero_le _, hd, by rw [Dd.Sm] <;> simp, by rw [Dd.To] <;> simp⟩
theorem DdG.fin : DdG deep many bs qs ss .fin := ⟨by rw [Dd.Ok]; exact True.intro, Nat.zero_le _, Nat.zero_le _, by rw [Dd.Sm] <;> simp, by rw [Dd.To] <;> simp⟩
theorem DdG.send {to : Int} {sign : Str} {sp g h : Fm} {rank : Int} (h1 : 0 ≤ to) (h2 : to < (many : Int)) (h3 : sign ∈ ss) (h4 : 0 ≤ rank) (h5 : rank ≤ 9) (o1 : sp.Ok bs qs) (o2 : g.Ok bs qs) (o3 : h.Ok bs qs) (d1 : sp.depth ≤ 3) (d2 : g.depth ≤ 3) (d3 : h.depth ≤ 3) :
    DdG deep many bs qs ss (.send to sign sp rank g h) := ⟨by rw [Dd.Ok]; exact ⟨o1, o2, o3⟩, Nat.zero_le _, by show max sp.depth (max g.depth h.depth) ≤ 3; omega, by rw [Dd.Sm] <;> simp, by rw [Dd.To]; exact ⟨h1, h2, h3, h4, h5⟩⟩
theorem DsG.snoc (h : DsG deep many bs qs ss ds) (k : DdG deep many bs qs ss d) (l : ds.length < 4) : DsG deep many bs qs ss (ds ++ [d]) where
  all := fun e m => by
    rcases List.mem_append.mp m with m | m
    · exact h.all e m
    · rw [List.mem_singleton.mp m]; exact k
  len := by rw [List.length_append, List.length_singleton]; omega
end
/-- a machine as the law makes it: at most four boxes and so on; five deep, by its own names -/
structure MchG (many : Nat) (ss : List Str) (m : Mach) : Prop where
  bl : m.boxes.length ≤ 6
  ql : m.queues.length ≤ 3
  dl : m.draws.length ≤ 20
  hl : m.hears.length ≤ 4
  nd : (m.boxes.map (·.1) ++ m.queues).Nodup
  nm : ∀ x ∈ m.boxes.map (·.1) ++ m.queues, NameOk x
  bw : ∀ p ∈ m.boxes, Worth p.2
  dw : ∀ n ∈ m.draws, 0 ≤ n ∧ n ≤ 1000000000000000
  ds : ∀ p ∈ m.hears, DsG 4 many (m.boxes.map (·.1)) m.queues ss p.2 ∧ Dd.cnts p.2 ≤ 20 ∧ p.1 ∈ ss
  hn : (m.hears.map (·.1)).Nodup
  name : NameOk m.name
end Mo
namespace Mo
open PySem PySem.Spec PyProof.Rows L2
/-! ### a whole number -/
def spWhole : Sp := fun vs H Q _ => ∃ (n : Int), vs = [.int n] ∧ Q (.bl true) H
section
variable {P : Program} {w : World} {K : PySem.W.Frag} {mg : Str → Option Value} {base : Heap}
theorem ok__law_whole (T : Tx K mg) : OkG P w K mg base 1 "_law_whole" ["_law_found"] spWhole := by
  refine T.f__law_whole.okX sc__law_whole (fun vs H Q E h => ?_) (fun cdv A outer s H vs Q E hr h => ?_)
  · obtain ⟨n, rfl, _⟩ := h
    rfl
  · have hu1 := hu_of hr; have hu0 := hr.units0; have hu64 := hr.units; have hu65 := hu65_of hr; have nd := sc__law_whole.nd
    obtain ⟨n, rfl, q⟩ := h
    refine ⟨_, (pss_one (ps_ret (pe_and (pe_callB (call_isiKK (K := K) rfl) (by rfl) T.b_isinstance (by decide +kernel) (pa_cons (pv 0) (pa_cons (pe_bltn (v := .ty "int") (by rfl) T.b_int (by decide +kernel) rfl) pa_nil))) (pe_one (pe_not (pe_callB (call_isiKK (K := K) rfl) (by rfl) T.b_isinstance (by decide +kernel) (pa_cons (pv 0) (pa_cons (pe_bltn (v := .ty "bool") (by rfl) T.b_bool (by decide +kernel) rfl) pa_nil)))))))), ?_⟩
    refine go_start (σ' := [some (.int n)]) rfl ?_
    k_extra "we"
    exact q
end
end Mo
namespace Mo
open PySem PySem.Spec PyProof.Rows L2
/-! ### states compared; slices -/
section
variable {K : PySem.W.Frag} {H : Hp} {Q : VK} {a b : Addr}
theorem go_eqV {x y : V} (h : EqR K H (EqV K H 2) x y) (k : Q (.bl true) H) : rEqA K x y H Q := .inr (.inr ⟨2, by decide, h, k⟩)
theorem go_eqVn {x y : V} (n : Nat) (hn : n ≤ 60) (h : EqR K H (EqV K H n) x y) (k : Q (.bl true) H) : rEqA K x y H Q := .inr (.inr ⟨n, hn, h, k⟩)
theorem eqr_boxes {bs : List (Str × Int)} (h1 : H a = some (.dK (boxesV bs))) (h2 : H b = some (.dK (boxesV bs))) (nd : (bs.map (·.1)).Nodup) {n : Nat} : EqR K H (EqV K H (n + 1)) (.ref a) (.ref b) := by
  refine .inr ⟨a, b, _, _, rfl, rfl, h1, h2, rfl, fun p hp => ⟨p.2, ?_, ?_⟩⟩
  · refine (val_mem ?_).mp hp
    rw [boxesV_keys]
    have : (bs.map fun p => (Sum.inr p.1 : Key)) = (bs.map (·.1)).map Sum.inr := by rw [List.map_map]; rfl
    rw [this]
    rw [List.nodup_iff_pairwise_ne] at nd ⊢
    rw [List.pairwise_map]
    exact nd.imp fun h z => h (Sum.inr.inj z)
  · unfold boxesV at hp
    obtain ⟨q, _, rfl⟩ := List.mem_map.mp hp
    exact .inl ⟨rfl, rfl⟩
theorem paired_ints (ns : List Int) {n : Nat} : Paired (EqV K H (n + 1)) (ns.map V.int) (ns.map V.int) := by
  induction ns with
  | nil => exact .nil
  | cons i r ih => exact .cons (.inl ⟨rfl, rfl⟩) ih
theorem eqr_queues {qs : List (Str × List Int)} {as cs : List Addr} (h1 : H a = some (.dK (queuesV qs as))) (h2 : H b = some (.dK (queuesV qs cs))) (nd : (qs.map (·.1)).Nodup) (l1 : qs.length = as.length) (l2 : qs.length = cs.length)
    (ha : ∀ (i : Nat) (x : Addr) (y : Str × List Int), qs[i]? = some y → as[i]? = some x → H x = some (.lst (y.2.map V.int))) (hc : ∀ (i : Nat) (x : Addr) (y : Str × List Int), qs[i]? = some y → cs[i]? = some x → H x = some (.lst (y.2.map V.int))) {n : Nat} : EqR K H (EqV K H (n + 2)) (.ref a) (.ref b) := by
  refine .inr ⟨a, b, _, _, rfl, rfl, h1, h2, ?_, fun p hp => ?_⟩
  · unfold queuesV
    rw [List.length_map, List.length_map, List.length_zip, List.length_zip]
    omega
  · unfold queuesV at hp
    obtain ⟨e, he, rfl⟩ := List.mem_map.mp hp
    obtain ⟨i, hi⟩ := List.mem_iff_getElem?.mp he
    obtain ⟨e1, e2⟩ := List.getElem?_zip_eq_some.mp hi
    have hil := (List.getElem?_eq_some_iff.mp e1).1
    obtain ⟨c, hc1⟩ : ∃ c, cs[i]? = some c := ⟨_, List.getElem?_eq_getElem (by omega)⟩
    refine ⟨.ref c, ?_, ?_⟩
    · refine (val_mem ?_).mp ?_
      · unfold queuesV
        rw [List.map_map]
        have : ((·.1) ∘ fun p : (Str × List Int) × Addr => ((Sum.inr p.1.1 : Key), V.ref p.2)) = fun p => (Sum.inr p.1.1 : Key) := rfl
        rw [this]
        have e3 : (qs.zip cs).map (fun p => (Sum.inr p.1.1 : Key)) = (qs.map (·.1)).map Sum.inr := by
          have : (qs.zip cs).map (fun p => (Sum.inr p.1.1 : Key)) = ((qs.zip cs).map (·.1)).map fun p => Sum.inr p.1 := by rw [List.map_map]; rfl
          rw [this, List.map_fst_zip (by omega), List.map_map]
          rfl
        rw [e3, List.nodup_iff_pairwise_ne, List.pairwise_map]
        rw [List.nodup_iff_pairwise_ne] at nd
        exact nd.imp fun h z => h (Sum.inr.inj z)
      · unfold queuesV
        exact List.mem_map.mpr ⟨(e.1, c), List.mem_of_getElem? (i := i) (List.getElem?_zip_eq_some.mpr ⟨e1, hc1⟩), rfl⟩
    · exact .inr (.inr (.inl ⟨_, _, _, _, rfl, rfl, SqL.of (ha i _ _ e1 e2), SqL.of (hc i _ _ e1 hc1), paired_ints _⟩))
/-! #### slices of lists -/
theorem go_slL {xs : List V} {lo hi : Option Int} (h : SqL K H a xs) (k : ∀ p, H p = none → Q (.ref p) (upd H p (.lst (cutV xs lo hi)))) : rSli K (.ref a) lo hi H Q := .inl ⟨a, xs, rfl, h, k⟩
theorem cut_take (xs : List V) (n : Nat) : cutV xs none (some (n : Int)) = xs.take n := by
  unfold cutV
  have e1 : HT.sIx xs.length 0 none = 0 := rfl
  rw [e1, HT.sIx_nat, List.drop_zero, Nat.sub_zero, ← List.take_take, List.take_of_length_le (Nat.le_refl _)] <;> rfl
theorem cut_mid (xs : List V) (m n : Nat) (h : m ≤ xs.length) : cutV xs (some (m : Int)) (some ((m + n : Nat) : Int)) = (xs.drop m).take n := by
  unfold cutV
  rw [HT.sIx_nat, HT.sIx_nat, Nat.min_eq_left h]
  rcases Nat.le_total (m + n) xs.length with z | z
  · rw [Nat.min_eq_left z, Nat.add_sub_cancel_left]
  · rw [Nat.min_eq_right z, List.take_of_length_le (by rw [List.length_drop]; exact Nat.le_refl _), List.take_of_length_le (by rw [List.length_drop]; omega)]
end
end Mo
namespace Mo
open PySem PySem.Spec PyProof.Rows L2
/-! ### more steps by facts and segments -/
section
variable {K : PySem.W.Frag} {Γ : List Fc} {S S' R : List Vo} {σ σ' : St} {H : Hp} {Q : VK} {D : Ends} {t tw : TS} {g : TG} {tA : TA} {A : Hp → Prop} {v y : V} {c : Str}
/-- what a clause 'except .. as x' catches -/
theorem w_as {cv : Value} {i : Nat} {ts : Addr → Value → Option Addr → TS} {Wout : WX} (hb : PySem.W.exmOne K (.ref (He.ga K c)) cv = some true)
    (k : ∀ a, Wh K Γ S fun H => ts a (.ref (He.ga K c)) none { nx := fun σ' H' => D.nx (σ'.set i none) H', rt := D.rt, bk := fun σ' H' => D.bk (σ'.set i none) H', ct := fun σ' H' => D.ct (σ'.set i none) H' } (σ.set i (some (.ref a))) H) :
    Wh K Γ S fun H => wAs K cv i ts Wout D (.ref (He.ga K c)) none σ H := fun H z => ⟨true, hb, fun _ a _ => k a H z, fun h => nomatch h⟩
theorem w_only {cv : Value} {ts : Addr → Value → Option Addr → TS} {Wout : WX} (hb : PySem.W.exmOne K (.ref (He.ga K c)) cv = some true)
    (k : ∀ a, Wh K Γ S fun H => ts a (.ref (He.ga K c)) none D σ H) :
    Wh K Γ S fun H => wOnly K cv ts Wout D (.ref (He.ga K c)) none σ H := fun H z => ⟨true, hb, fun _ a _ => k a H z, fun h => nomatch h⟩
/-- one leaves from its place -/
theorem w_popAt {p : Addr} {xs : List V} {j : Int} {n : Nat} (m : Sw p (.lst xs) (.lst (xs.eraseIdx n)) S S') (hj : j = (n : Int)) (hy : xs[n]? = some y) (hl : xs.length ≤ 1000000) (k : Wh K Γ S' fun H => Q y H) : Wh K Γ S fun H => rPopAt (.ref p) [.int j] H Q := fun H z => by
  subst hj
  have hn := (List.getElem?_eq_some_iff.mp hy).1
  refine ⟨p, xs, (n : Int), n, y, rfl, rfl, z.own m.mem, by omega, by omega, ?_, hy, k _ (z.sw m)⟩
  unfold seqIndex?
  simp
  omega
theorem dpa_erase {H : Hp} : ∀ {vs : List V} {ds : List PyData} (i : Nat), DpAll K H vs ds → DpAll K H (vs.eraseIdx i) (ds.eraseIdx i)
  | _, _, _, .nil => .nil
  | _, _, 0, .cons _ r => r
  | _, _, i + 1, .cons h r => .cons h (dpa_erase i r)
theorem DL.erase {vs : List V} {ds : List PyData} (i : Nat) (h : DL K Γ vs ds) : DL K Γ (vs.eraseIdx i) (ds.eraseIdx i) := fun G b => dpa_erase i (h G b)
theorem dpa_take' {H : Hp} : ∀ {vs : List V} {ds : List PyData} (n : Nat), DpAll K H vs ds → DpAll K H (vs.take n) (ds.take n)
  | _, _, 0, _ => .nil
  | _, _, _ + 1, .nil => .nil
  | _, _, n + 1, .cons h r => .cons h (dpa_take' n r)
theorem DL.take {vs : List V} {ds : List PyData} (i : Nat) (h : DL K Γ vs ds) : DL K Γ (vs.take i) (ds.take i) := fun G b => dpa_take' i (h G b)
/-- the data of one of them -/
theorem w_datsAt {vs : List V} {ds : List PyData} {j : Nat} {d : PyData} (m : .dats vs ds ∈ Γ) (h : ds[j]? = some d) (k : ∀ y, vs[j]? = some y → Wh K (.dat y d :: Γ) S A) : Wh K Γ S A := fun H z => by
  obtain ⟨G, a, b⟩ := z
  have t : DpAll K G vs ds := b _ m
  obtain ⟨y, e1, e2⟩ := dpa_get t h
  exact k y e1 H ⟨G, a, cons_facts (f := .dat y _) e2 b⟩
theorem w_datsGet {vs : List V} {ds : List PyData} {j : Nat} {y : V} {A : Hp → Prop} (m : .dats vs ds ∈ Γ) (h : vs[j]? = some y) (k : ∀ d, ds[j]? = some d → Wh K (.dat y d :: Γ) S A) : Wh K Γ S A := fun H z => by
  obtain ⟨G, a, b⟩ := z
  have t : DpAll K G vs ds := b _ m
  have hl := dpa_len t
  have hj := (List.getElem?_eq_some_iff.mp h).1
  obtain ⟨v, e1, e2⟩ := dpa_get t (List.getElem?_eq_getElem (show j < ds.length by omega))
  rw [h] at e1
  cases e1
  exact k _ (List.getElem?_eq_getElem (by omega)) H ⟨G, a, cons_facts (f := .dat y _) e2 b⟩
theorem w_lenO {K : PySem.W.Frag} {Γ : List Fc} {S : List Vo} {Q : VK} {a : Addr} {xs : List V} (m : .obj a (.tup xs) ∈ Γ) (k : Wh K Γ S fun H => Q (.int (xs.length : Int)) H) : Wh K Γ S fun H => rLenA K [.ref a] H Q := fun H z => go_lenT (SqT.of (z.obj m)) (k H z)
/-- slices of tuples, not the whole -/
theorem dpa_drop' {H : Hp} : ∀ {vs : List V} {ds : List PyData} (n : Nat), DpAll K H vs ds → DpAll K H (vs.drop n) (ds.drop n)
  | _, _, 0, h => h
  | _, _, _ + 1, .nil => .nil
  | _, _, n + 1, .cons _ r => dpa_drop' n r
theorem w_slTD {x : V} {ds es : List PyData} {lo hi : Option Int} (m : .dat x (.tuple ds) ∈ Γ) (hn : ¬ (HT.sIx ds.length 0 lo = 0 ∧ HT.sIx ds.length ds.length hi = ds.length)) (he : (ds.drop (HT.sIx ds.length 0 lo)).take (HT.sIx ds.length ds.length hi - HT.sIx ds.length 0 lo) = es) (k : ∀ p, Wh K (.dat (.ref p) (.tuple es) :: Γ) S fun H => Q (.ref p) H) : Wh K Γ S fun H => rSli K x lo hi H Q := fun H z => by
  obtain ⟨G, a, b⟩ := z
  obtain ⟨p, xs, rfl, t1, t2⟩ := dp_tup (b _ m : Dp K G x (.tuple ds))
  have hl := dpa_len t2
  refine .inr (.inl ⟨p, xs, rfl, ext_t a.ex t1, by rw [hl]; exact hn, fun q hq => k q _ ⟨_, a.fix hq, fun g mg => ?_⟩⟩)
  rcases List.mem_cons.mp mg with e | mg
  · rw [e, ← he]
    refine .tup (SqT.of upd_same) (dpa_mono (Ext.new (a.gno hq)) ?_)
    unfold cutV
    rw [hl]
    exact dpa_take' _ (dpa_drop' _ t2)
  · exact Fc.mono (Ext.new (a.gno hq)) (b g mg)
theorem w_slTO {a : Addr} {xs ys : List V} {lo hi : Option Int} (m : .obj a (.tup xs) ∈ Γ) (hn : ¬ (HT.sIx xs.length 0 lo = 0 ∧ HT.sIx xs.length xs.length hi = xs.length)) (he : cutV xs lo hi = ys) (k : ∀ p, Wh K (.obj p (.tup ys) :: Γ) S fun H => Q (.ref p) H) : Wh K Γ S fun H => rSli K (.ref a) lo hi H Q := fun H z =>
  .inr (.inl ⟨a, xs, rfl, SqT.of (z.obj m), hn, fun q hq => by rw [he]; exact k q _ (z.fix hq)⟩)
/-- a list cut, as a new list -/
theorem cut_drop {xs : List V} {n : Nat} : cutV xs (some (n : Int)) none = xs.drop n := by
  unfold cutV
  rw [HT.sIx_nat, show HT.sIx xs.length xs.length none = xs.length from rfl, List.take_of_length_le (by rw [List.length_drop]; omega)]
  rcases Nat.le_total n xs.length with h | h
  · rw [Nat.min_eq_left h]
  · rw [Nat.min_eq_right h, List.drop_of_length_le (Nat.le_refl _), List.drop_of_length_le h]
theorem w_slLD {p : Addr} {xs : List V} {j : Int} (n : Nat) (hj : j = (n : Int)) (m : AtH K Γ S p (.lst xs)) (k : ∀ l, Wh K Γ (own l (.lst (xs.drop n)) :: S) fun H => Q (.ref l) H) : Wh K Γ S fun H => rSli K (.ref p) (some j) none H Q := fun H z => by
  subst hj
  refine go_slL (SqL.of (m H z)) fun l hl => ?_
  rw [cut_drop]
  exact k l _ (z.new hl)
theorem w_slLT {p : Addr} {xs : List V} {j : Int} (n : Nat) (hj : j = (n : Int)) (m : AtH K Γ S p (.lst xs)) (k : ∀ l, Wh K Γ (own l (.lst (xs.take n)) :: S) fun H => Q (.ref l) H) : Wh K Γ S fun H => rSli K (.ref p) none (some j) H Q := fun H z => by
  subst hj
  refine go_slL (SqL.of (m H z)) fun l hl => ?_
  rw [cut_take]
  exact k l _ (z.new hl)
/-- a tuple, by its data -/
theorem tyx_t {H : Hp} {a : Addr} {xs : List V} (h : SqT K H a xs) : TyX K H (.ref a) (.type "tuple") := by
  rcases h with (h | ⟨o, h⟩) | ⟨o, its, n, h1, h2, _⟩
  · exact .base (.tup h)
  · exact .fTuple h
  · exact .kTuple h1 h2
theorem w_isi_tD {a : Addr} {ds : List PyData} (m : .dat (.ref a) (.tuple ds) ∈ Γ) (k : Wh K Γ S fun H => Q (.bl true) H) : Wh K Γ S fun H => rIsi K [.ref a, .ty "tuple"] H Q := fun H z => by
  obtain ⟨b, xs, e, h1, _⟩ := dp_tup (z.dat m)
  cases e
  exact go_isi (.ty _) (tyx_t h1) (kit_ty (by decide +kernel)) (k H z)
theorem w_nonv (m : .dat v .none ∈ Γ) (k : v = .non → Wh K Γ S A) : Wh K Γ S A := fun H z => k (dp_non (z.dat m)) H z
theorem w_tupv {ds : List PyData} (m : .dat v (.tuple ds) ∈ Γ) (k : ∀ a, v = .ref a → Wh K Γ S A) : Wh K Γ S A := fun H z => by
  obtain ⟨a, xs, e, _⟩ := dp_tup (z.dat m)
  exact k a e H z
theorem w_lstv {ds : List PyData} (m : .dat v (.list ds) ∈ Γ) (k : ∀ a, v = .ref a → Wh K Γ S A) : Wh K Γ S A := fun H z => by
  obtain ⟨a, xs, e, _⟩ := dp_lst (z.dat m)
  exact k a e H z
theorem erase_map {α β : Type} (f : α → β) : ∀ (l : List α) (i : Nat), (l.map f).eraseIdx i = (l.eraseIdx i).map f
  | [], _ => rfl
  | _ :: _, 0 => rfl
  | _ :: r, i + 1 => by
    rw [List.map_cons, List.eraseIdx_cons_succ, List.eraseIdx_cons_succ, List.map_cons, erase_map f r i]
/-! #### enumerate -/
def forEnum (K : PySem.W.Frag) (g : TG) (tw : TS) (D : Ends) (σ : St) (vs : List V) (H : Hp) : Prop := ∃ a xs, vs = [.ref a] ∧ SqL K H a xs ∧ LoopX g tw D σ H (Ite K a)
theorem w_forEnum (k : Wh K Γ S fun H => tA σ H fun vs H1 => forEnum K g tw D σ vs H1) : Wh K Γ S fun H => tFor (iEnum K tA) g tw D σ H := k
theorem w_enumD {p : Addr} {ds : List PyData} (m : .dat (.ref p) (.list ds) ∈ Γ) (k : Wh K Γ S fun H => LoopX g tw D σ H (Ite K p)) : Wh K Γ S fun H => forEnum K g tw D σ [.ref p] H := fun H z => by
  obtain ⟨a, xs, ea, h1, h2⟩ := dp_lst (z.dat m)
  cases ea
  exact ⟨p, xs, rfl, h1, k H z⟩
theorem w_enumL {p : Addr} {xs : List V} (m : AtH K Γ S p (.lst xs)) (k : Wh K Γ S fun H => LoopX g tw D σ H (Ite K p)) : Wh K Γ S fun H => forEnum K g tw D σ [.ref p] H := fun H z => ⟨p, xs, rfl, SqL.of (m H z), k H z⟩
theorem fixT {T : Addr} {xs : List V} (z : Hg K Γ S H) (hT : H T = none) : Hg K (.obj T (.tup xs) :: Γ) S (upd H T (.tup xs)) := z.fix hT
theorem w_loop_eD {ι : Type} {p : Addr} (ds : List PyData) (C : Nat → ι → Prop) (sg : Nat → ι → St) (Γf : Nat → ι → List Fc) (Sf : Nat → ι → List Vo) (a0 : ι) (h0 : C 0 a0) (hσ : σ = sg 0 a0) (hΓ : ∀ f ∈ Γf 0 a0, f ∈ Γ) (hS : Dr S (Sf 0 a0))
    (hl : ∀ i a, .dat (.ref p) (.list ds) ∈ Γf i a)
    (hs : ∀ (i : Nat) d v T a, ds[i]? = some d → C i a → Wh K (.obj T (.tup [.int (i : Int), v]) :: .dat v d :: Γf i a) (Sf i a) fun H => g (.ref T) (sg i a) H fun σ2 H2 => tw { D with nx := NX K (C (i + 1)) (sg (i + 1)) (Γf (i + 1)) (Sf (i + 1)), ct := NX K (C (i + 1)) (sg (i + 1)) (Γf (i + 1)) (Sf (i + 1)), bk := D.nx } σ2 H2)
    (hd : ∀ a, C ds.length a → Wh K (Γf ds.length a) (Sf ds.length a) fun H => D.nx (sg ds.length a) H) : Wh K Γ S fun H => LoopX g tw D σ H (Ite K p) := fun H z => by
  refine ⟨fun i m σ H => m = ds.length - i ∧ i ≤ ds.length ∧ NX K (C i) (sg i) (Γf i) (Sf i) σ H, ⟨ds.length, by simp, Nat.zero_le _, w_again a0 h0 hσ hΓ hS H z⟩, ?_⟩
  rintro i m σ' H' ⟨rfl, hi, a, hC, hσ, z'⟩
  subst hσ
  obtain ⟨G, z1, z2⟩ := id z'
  obtain ⟨b, ys, ea, t1, t2⟩ := dp_lst (z2 _ (hl i a) : Dp K G (.ref p) (.list ds))
  cases ea
  have hlen := dpa_len t2
  by_cases hlt : i < ds.length
  · obtain ⟨v, e1, e2⟩ := dpa_get t2 (List.getElem?_eq_getElem hlt)
    refine .inr ⟨⟨ys, v, ext_l z1.ex t1, e1⟩, NX K (C (i + 1)) (sg (i + 1)) (Γf (i + 1)) (Sf (i + 1)), fun σ'' H'' p' => ⟨ds.length - (i + 1), by omega, rfl, hlt, p'⟩, fun x H'' y => ?_⟩
    obtain ⟨T, w, rfl, hT, rfl, y2⟩ := y
    have zz : Hg K (.dat w (ds[i]) :: Γf i a) (Sf i a) H' := ⟨G, z1, cons_facts (f := .dat w _) (go_Q (xs := ys) (z2 _ (hl i a)) z1.ex y2 (List.getElem?_eq_getElem hlt)) z2⟩
    exact hs i _ w T a (List.getElem?_eq_getElem hlt) hC _ (fixT zz hT)
  · have e : i = ds.length := by omega
    subst e
    exact .inl ⟨⟨ys, ext_l z1.ex t1, by omega⟩, hd a hC H' z'⟩
theorem w_loop_eL {ι : Type} {p : Addr} (xs : List V) (C : Nat → ι → Prop) (sg : Nat → ι → St) (Γf : Nat → ι → List Fc) (Sf : Nat → ι → List Vo) (a0 : ι) (h0 : C 0 a0) (hσ : σ = sg 0 a0) (hΓ : ∀ f ∈ Γf 0 a0, f ∈ Γ) (hS : Dr S (Sf 0 a0))
    (hl : ∀ i a, AtH K (Γf i a) (Sf i a) p (.lst xs))
    (hs : ∀ (i : Nat) v T a, xs[i]? = some v → C i a → Wh K (.obj T (.tup [.int (i : Int), v]) :: Γf i a) (Sf i a) fun H => g (.ref T) (sg i a) H fun σ2 H2 => tw { D with nx := NX K (C (i + 1)) (sg (i + 1)) (Γf (i + 1)) (Sf (i + 1)), ct := NX K (C (i + 1)) (sg (i + 1)) (Γf (i + 1)) (Sf (i + 1)), bk := D.nx } σ2 H2)
    (hd : ∀ a, C xs.length a → Wh K (Γf xs.length a) (Sf xs.length a) fun H => D.nx (sg xs.length a) H) : Wh K Γ S fun H => LoopX g tw D σ H (Ite K p) := fun H z => by
  refine ⟨fun i m σ H => m = xs.length - i ∧ i ≤ xs.length ∧ NX K (C i) (sg i) (Γf i) (Sf i) σ H, ⟨xs.length, by simp, Nat.zero_le _, w_again a0 h0 hσ hΓ hS H z⟩, ?_⟩
  rintro i m σ' H' ⟨rfl, hi, a, hC, hσ, z'⟩
  subst hσ
  have hx := SqL.of (K := K) (hl i a H' z')
  by_cases hlt : i < xs.length
  · refine .inr ⟨⟨xs, xs[i], hx, List.getElem?_eq_getElem hlt⟩, NX K (C (i + 1)) (sg (i + 1)) (Γf (i + 1)) (Sf (i + 1)), fun σ'' H'' p' => ⟨xs.length - (i + 1), by omega, rfl, hlt, p'⟩, fun x H'' y => ?_⟩
    obtain ⟨T, w, rfl, hT, rfl, y2⟩ := y
    exact hs i w T a (y2 xs hx) hC _ (fixT z' hT)
  · have e : i = xs.length := by omega
    subst e
    exact .inl ⟨⟨xs, hx, Nat.le_refl _⟩, hd a hC H' z'⟩
/-! #### comprehensions over enumerate -/
variable {tt : TT} {te : TE} {wv : List Nat}
def lcEnum (K : PySem.W.Frag) (g : TG) (tt : TT) (te : TE) (wv : List Nat) (σ : St) (Q : VK) (vs : List V) (H : Hp) : Prop := ∃ a xs, vs = [.ref a] ∧ SqL K H a xs ∧ LcA g tt te wv σ Q H (Ite K a)
theorem w_lcEnum (k : Wh K Γ S fun H => tA σ H fun vs H1 => lcEnum K g tt te wv σ Q vs H1) : Wh K Γ S fun H => tLc (iEnum K tA) g tt te wv σ H Q := k
theorem w_lcEnumL {p : Addr} {xs : List V} (m : AtH K Γ S p (.lst xs)) (k : Wh K Γ S fun H => LcA g tt te wv σ Q H (Ite K p)) : Wh K Γ S fun H => lcEnum K g tt te wv σ Q [.ref p] H := fun H z => ⟨p, xs, rfl, SqL.of (m H z), k H z⟩
theorem w_lc_eL {ι : Type} {p : Addr} (xs : List V) (C : Nat → ι → Prop) (ac : Nat → ι → List V) (Γf : Nat → ι → List Fc) (Sf : Nat → ι → List Vo) (a0 : ι) (h0 : C 0 a0) (ha : ac 0 a0 = []) (hΓ : ∀ f ∈ Γf 0 a0, f ∈ Γ) (hS : Dr S (Sf 0 a0))
    (hl : ∀ i a, AtH K (Γf i a) (Sf i a) p (.lst xs))
    (hs : ∀ Dl (i : Nat) v T a, xs[i]? = some v → C i a → Wh K (.obj T (.tup [.int (i : Int), v]) :: Γf i a) (own Dl (.lst (ac i a)) :: Sf i a) fun H => g (.ref T) (wipe σ wv) H fun σ2 H2 => wipe σ2 wv = wipe σ wv ∧ tt σ2 H2 fun b H3 =>
      if b = true then te σ2 H3 fun y H4 => ∃ acc, H4 Dl = some (.lst acc) ∧ acc.length < sizeLine ∧ NL K Dl (C (i + 1)) (ac (i + 1)) (Γf (i + 1)) (Sf (i + 1)) (upd H4 Dl (.lst (acc ++ [y]))) else NL K Dl (C (i + 1)) (ac (i + 1)) (Γf (i + 1)) (Sf (i + 1)) H3)
    (hd : ∀ Dl a, C xs.length a → Wh K (Γf xs.length a) (own Dl (.lst (ac xs.length a)) :: Sf xs.length a) fun H => Q (.ref Dl) H) : Wh K Γ S fun H => LcA g tt te wv σ Q H (Ite K p) := fun H z Dl hD => by
  refine ⟨fun i m H => m = xs.length - i ∧ i ≤ xs.length ∧ NL K Dl (C i) (ac i) (Γf i) (Sf i) H, ⟨xs.length, by simp, Nat.zero_le _, a0, h0, by rw [ha]; exact (z.fit hΓ hS).new hD⟩, ?_⟩
  rintro i m H' ⟨rfl, hi, a, hC, z'⟩
  have hx := SqL.of (K := K) (hl i a H' z'.pop)
  by_cases hlt : i < xs.length
  · refine .inr ⟨⟨xs, xs[i], hx, List.getElem?_eq_getElem hlt⟩, NL K Dl (C (i + 1)) (ac (i + 1)) (Γf (i + 1)) (Sf (i + 1)), fun H'' p' => ⟨xs.length - (i + 1), by omega, rfl, hlt, p'⟩, fun x H'' y => ?_⟩
    obtain ⟨T, w, rfl, hT, rfl, y2⟩ := y
    exact hs Dl i w T a (y2 xs hx) hC _ (fixT z' hT)
  · have e : i = xs.length := by omega
    subst e
    exact .inl ⟨⟨xs, hx, Nat.le_refl _⟩, hd Dl a hC H' z'⟩
end
section
variable {K : PySem.W.Frag} {Γ : List Fc} {S : List Vo} {σ : St} {D : Ends} {t u : TS}
/-- a part behind which all is as ahead of it, but for the slots -/
theorem w_cutS (σ1 : St) (h1 : Wh K Γ S fun H => t { D with nx := NX K (fun _ : Unit => True) (fun _ => σ1) (fun _ => Γ) (fun _ => S) } σ H) (h2 : Wh K Γ S fun H => u D σ1 H) : Wh K Γ S fun H => Evl.tCut t u D σ H :=
  w_cut (ι := Unit) (fun _ => True) (fun _ => σ1) (fun _ => Γ) (fun _ => S) h1 fun _ _ => h2
end
section
variable {K : PySem.W.Frag} {Γ : List Fc} {S : List Vo} {σ : St} {D : Ends} {t u : TS} {Q : VK}
theorem w_cutD (d : PyData) (sg : V → St) (h1 : Wh K Γ S fun H => t { D with nx := NX K (fun _ : V => True) sg (fun v => .dat v d :: Γ) (fun _ => S) } σ H) (h2 : ∀ v, Wh K (.dat v d :: Γ) S fun H => u D (sg v) H) : Wh K Γ S fun H => Evl.tCut t u D σ H :=
  w_cut (ι := V) (fun _ => True) sg (fun v => .dat v d :: Γ) (fun _ => S) h1 fun v _ => h2 v
theorem w_ij {a b : Int} {A : Int → Int → Hp → Prop} (k : Wh K Γ S fun H => A a b H) : Wh K Γ S fun H => ∃ i j, [V.int a, V.int b] = [V.int i, V.int j] ∧ A i j H := fun H z => ⟨a, b, rfl, k H z⟩
/-- one of a list, by what it is -/
theorem w_pick {p : Addr} {xs : List V} {j : Int} {d : PyData} (m : AtH K Γ S p (.lst xs)) (h : ∃ v, atI xs j = some v ∧ DV K Γ v d) (k : ∀ v, Wh K (.dat v d :: Γ) S fun H => Q v H) : Wh K Γ S fun H => rSub K (.ref p) (.int j) H Q := by
  obtain ⟨v, e, hd⟩ := h
  exact w_sub m e (w_dat hd (k v))
end
/-! #### promises for any of a kind -/
def spEx {α : Type} (f : α → Sp) : Sp := fun vs H Q E => ∃ a, f a vs H Q E
theorem fn_ex {α : Type} {f : α → Sp} {P : Program} {w : World} {K : PySem.W.Frag} {mg : Str → Option Value} {base : Heap} {CX : CXT} {k : Nat} {fa : Addr} {fd : FuncData} {ps : List Str} (F : ∀ a, FnOk P w K mg base CX k fa fd ps (f a)) : FnOk P w K mg base CX k fa fd ps (spEx f) :=
  ⟨fun vs H Q E ⟨a, h⟩ => (F a).len vs H Q E h, fun A outer s H args us vs Q E hr he hb hv ⟨a, hs⟩ => (F a).run A outer s H args us vs Q E hr he hb hv hs⟩
theorem w_ex {α : Type} {f : α → Sp} {K : PySem.W.Frag} {Γ : List Fc} {S : List Vo} {vs : List V} {Q : VK} {E : XK} (a : α) (k : Wh K Γ S fun H => f a vs H Q E) : Wh K Γ S fun H => spEx f vs H Q E := fun H z => ⟨a, k H z⟩
end Mo
namespace Mo
open PySem PySem.Spec PyProof.Rows L2
/-! ### many segments as one -/
def segsV {α : Type} (f : α → Vo) (es : List α) : Vo := (es.map f).flatten
section
variable {α : Type} {f : α → Vo} {K : PySem.W.Frag} {Γ : List Fc} {S R S0 : List Vo} {A B es : List α} {e : α} {P : Hp → Prop}
theorem segsV_app (A B : List α) : segsV f (A ++ B) = segsV f A ++ segsV f B := by
  unfold segsV
  rw [List.map_append, List.flatten_append]
theorem segsV_mid (A : List α) (e : α) (B : List α) : segsV f (A ++ e :: B) = segsV f A ++ (f e ++ segsV f B) := by
  rw [segsV_app]
  rfl
theorem segsV_snoc (A : List α) (e : α) : segsV f (A ++ [e]) = segsV f A ++ f e := by
  rw [segsV_mid]
  show _ ++ (_ ++ []) = _
  rw [List.append_nil]
theorem w_segOpen (m : Take (segsV f (A ++ e :: B)) S R) (k : Wh K Γ (f e :: segsV f A :: segsV f B :: R) P) : Wh K Γ S P := fun H z =>
  k H ((z.tk1 m).cong (by
    rw [segsV_mid, List.flatten_cons, List.flatten_cons, List.flatten_cons, List.flatten_cons, List.append_assoc, List.append_assoc, ← List.append_assoc, ← List.append_assoc (segsV f A)]
    exact List.Perm.append_right _ List.perm_append_comm))
theorem Dr.seg (h : Dr S0 (f e :: segsV f A :: segsV f B :: R)) : Dr S0 (segsV f (A ++ e :: B) :: R) := by
  obtain ⟨J, j⟩ := h
  refine ⟨J, j.trans ?_⟩
  rw [List.flatten_append, List.flatten_append, segsV_mid, List.flatten_cons, List.flatten_cons, List.flatten_cons, List.flatten_cons, List.append_assoc, List.append_assoc, ← List.append_assoc (f e), ← List.append_assoc (segsV f A)]
  exact List.Perm.append_left _ (List.Perm.append_right _ List.perm_append_comm)
theorem Dr.segNil (h : Dr S0 R) : Dr S0 (segsV f [] :: R) := by
  obtain ⟨J, j⟩ := h
  refine ⟨J, j.trans ?_⟩
  rw [List.flatten_append, List.flatten_append]
  exact List.Perm.refl _
theorem Dr.segSnoc (h : Dr S0 (segsV f A :: f e :: R)) : Dr S0 (segsV f (A ++ [e]) :: R) := by
  obtain ⟨J, j⟩ := h
  refine ⟨J, j.trans ?_⟩
  rw [List.flatten_append, List.flatten_append, segsV_snoc, List.flatten_cons, List.flatten_cons, List.flatten_cons, List.append_assoc]
/-- an item at its place -/
theorem at_split {i : Nat} (h : es[i]? = some e) : es = es.take i ++ e :: es.drop (i + 1) := by
  obtain ⟨hi, rfl⟩ := List.getElem?_eq_some_iff.mp h
  rw [← List.drop_eq_getElem_cons hi, List.take_append_drop]
theorem set_split {i : Nat} {y : α} (h : es[i]? = some e) : es.set i y = es.take i ++ y :: es.drop (i + 1) := by
  have hi := (List.getElem?_eq_some_iff.mp h).1
  rw [List.set_eq_take_append_cons_drop, if_pos hi]
theorem w_segAt {i : Nat} (h : es[i]? = some e) (m : Take (segsV f es) S R) (k : Wh K Γ (f e :: segsV f (es.take i) :: segsV f (es.drop (i + 1)) :: R) P) : Wh K Γ S P := by
  refine w_segOpen (A := es.take i) (B := es.drop (i + 1)) (e := e) ?_ k
  rw [← at_split h]
  exact m
theorem Dr.segBack {i : Nat} (h : es[i]? = some e) (d : Dr S0 (f e :: segsV f (es.take i) :: segsV f (es.drop (i + 1)) :: R)) : Dr S0 (segsV f es :: R) := by
  have z := Dr.seg d
  rw [← at_split h] at z
  exact z
theorem Dr.segSet {i : Nat} {y : α} (h : es[i]? = some e) (d : Dr S0 (f y :: segsV f (es.take i) :: segsV f (es.drop (i + 1)) :: R)) : Dr S0 (segsV f (es.set i y) :: R) := by
  rw [set_split h]
  exact Dr.seg d
end
/-! ### by names: facts of many -/
def allF {α : Type} (K : PySem.W.Frag) (f : α → List Fc) (es : List α) : Fc := .gen (fun G => ∀ e ∈ es, ∀ x ∈ f e, x.In K G) fun _ _ z h e he x hx => Fc.mono z (h e he x hx)
section
variable {α : Type} {f : α → List Fc} {K : PySem.W.Frag} {Γ : List Fc} {S : List Vo} {es : List α} {e : α} {P : Hp → Prop}
/-- the facts of one of them -/
theorem w_allGet (m : allF K f es ∈ Γ) (h : e ∈ es) (k : Wh K (f e ++ Γ) S P) : Wh K Γ S P := fun H ⟨G, a, b⟩ => k H ⟨G, a, fun g hg => by
  rcases List.mem_append.mp hg with hg | hg
  · exact (b _ m : ∀ e ∈ es, ∀ x ∈ f e, x.In K G) e h g hg
  · exact b g hg⟩
theorem w_allNil (k : Wh K (allF K f [] :: Γ) S P) : Wh K Γ S P := Wh.learn (f := allF K f []) (fun _ _ => fun _ h => nomatch h) k
theorem w_allSnoc (m : allF K f es ∈ Γ) (h : ∀ x ∈ f e, x ∈ Γ) (k : Wh K (allF K f (es ++ [e]) :: Γ) S P) : Wh K Γ S P := Wh.learn (f := allF K f (es ++ [e])) (fun G b => by
  show ∀ y ∈ es ++ [e], ∀ x ∈ f y, x.In K G
  intro y hy x hx
  rcases List.mem_append.mp hy with hy | hy
  · exact (b _ m : ∀ e ∈ es, ∀ x ∈ f e, x.In K G) y hy x hx
  · rw [List.mem_singleton.mp hy] at hx
    exact b x (h x hx)) k
end
end Mo
namespace Mo
open PySem PySem.Spec PyProof.Rows L2
/-! ### law_k01's machines -/
theorem Fm.depth2 : ∀ f : Fm, 2 * f.depth + 1 ≤ f.size
  | .num _ => Nat.le_refl _
  | .box _ => Nat.le_refl _
  | .long _ => Nat.le_refl _
  | .got _ => Nat.le_refl _
  | .now => Nat.le_refl _
  | .two _ f g => by
    have h1 := Fm.depth2 f
    have h2 := Fm.depth2 g
    rw [Fm.depth, Fm.size]
    omega
section
variable {K : PySem.W.Frag} {Γ : List Fc} {S : List Vo} {Q : VK} {E : XK}
theorem w_worth1 {pu : Addr} (m : pur pu ∈ S) (k : ∀ d, Worth d → Wh K Γ S fun H => Q (.int d) H) : Wh K Γ S fun H => spWorth [.ref pu] H Q E := fun H ⟨G, z1, z2⟩ =>
  ⟨G, S.flatten, pu, rfl, z1, List.mem_flatten.mpr ⟨_, m, List.mem_cons_self⟩, fun d H' hd z3 => k d hd H' ⟨G, z3, z2⟩⟩
theorem w_names1 {pu : Addr} {n : Nat} (m : pur pu ∈ S) (hn : n ≤ 9) (k : ∀ lp (ns : List Str), ns.length = n → ns.Nodup → (∀ x ∈ ns, NameOk x) → Wh K (.obj lp (.lst (ns.map V.str)) :: Γ) S fun H => Q (.ref lp) H) : Wh K Γ S fun H => spNames [.ref pu, .int (n : Int)] H Q E := fun H ⟨G, z1, z2⟩ =>
  ⟨G, S.flatten, pu, n, rfl, z1, List.mem_flatten.mpr ⟨_, m, List.mem_cons_self⟩, hn, fun lp ns G' H' h1 h2 h3 x z3 h4 => k lp ns h1 h2 h3 H' ⟨G', z3, fun f hf => by
    rcases List.mem_cons.mp hf with rfl | hf
    · exact h4
    · exact Fc.mono x (z2 f hf)⟩⟩
theorem w_fm1 {n m : Nat} {pu lb lq : Addr} {bs qs : List Str} (mp : pur pu ∈ S) (mb : .obj lb (.lst (bs.map V.str)) ∈ Γ) (mq : .obj lq (.lst (qs.map V.str)) ∈ Γ) (nb : bs.length ≤ 100) (nq : qs.length ≤ 100) (m1 : 1 ≤ m) (m2 : m < n) (m3 : m ≤ 100)
    (k : ∀ (v : V) (f : Fm), f.Ok bs qs → f.size ≤ m → Wh K (.dat v f.data :: Γ) S fun H => Q v H) : Wh K Γ S fun H => spFormula n K [.ref pu, .ref lb, .ref lq, .int (m : Int)] H Q E := fun H ⟨G, z1, z2⟩ =>
  ⟨G, S.flatten, pu, lb, lq, bs, qs, m, rfl, z1, List.mem_flatten.mpr ⟨_, mp, List.mem_cons_self⟩, z2 _ mb, z2 _ mq, nb, nq, m1, m2, m3, fun v f G' H' h1 h2 x z3 h4 => k v f h1 h2 H' ⟨G', z3, fun g hg => by
    rcases List.mem_cons.mp hg with rfl | hg
    · exact h4
    · exact Fc.mono x (z2 g hg)⟩⟩
theorem w_wd1 {A : Hp → Prop} {v : V} {y : Str} (m : .dat v (.str y) ∈ Γ) (k : v = .str y → Wh K Γ S A) : Wh K Γ S A := fun H z => k (dp_str (z.dat m)) H z
theorem w_slML {p : Addr} {xs : List V} {i j : Int} (a n : Nat) (hi : i = (a : Int)) (hj : j = ((a + n : Nat) : Int)) (ha : a ≤ xs.length) (m : AtH K Γ S p (.lst xs)) (k : ∀ l, Wh K Γ (own l (.lst ((xs.drop a).take n)) :: S) fun H => Q (.ref l) H) : Wh K Γ S fun H => rSli K (.ref p) (some i) (some j) H Q := fun H z => by
  subst hi hj
  refine go_slL (SqL.of (m H z)) fun l hl => ?_
  rw [cut_mid _ _ _ ha]
  exact k l _ (z.new hl)
end
structure G1I where
  pu : Addr
  lt : Addr
  lb : Addr
  lq : Addr
  lf : Addr
  bs : List Str
  qs : List Str
  many : Nat
  deep : Nat
  left : Int
structure G1I.Pre (i : G1I) (Γ : List Fc) : Prop where
  t : .obj i.lt (.tup [.ref i.lb, .ref i.lq, .int (i.many : Int)]) ∈ Γ
  b : .obj i.lb (.lst (i.bs.map V.str)) ∈ Γ
  q : .obj i.lq (.lst (i.qs.map V.str)) ∈ Γ
  bl : i.bs.length ≤ 100
  ql : i.qs.length ≤ 100
  m0 : 0 < i.many
  ml : i.many ≤ 100
  d1 : 1 ≤ i.deep
theorem G1I.Pre.mono {i : G1I} {Γ Γ' : List Fc} (h : i.Pre Γ) (s : ∀ f ∈ Γ, f ∈ Γ') : i.Pre Γ' := ⟨s _ h.t, s _ h.b, s _ h.q, h.bl, h.ql, h.m0, h.ml, h.d1⟩
def ss1 : List Str := ["tick", "b"]
def spDeed1 (n : Nat) (K : PySem.W.Frag) : Sp := SpF K (fun i : G1I => [.ref i.pu, .ref i.lt, .int (i.deep : Int), .ref i.lf]) (fun i Γ => i.Pre Γ ∧ i.deep ≤ n) (fun i => [pur i.pu, own i.lf (.lst [.int i.left])])
  (fun i v Γ' S' => ∃ (t : Addr) (d : Dd) (l : Int), v = .ref t ∧ DdG (i.deep - 1) i.many i.bs i.qs ss1 d ∧ Γ' = [.dat (.ref t) d.data] ∧ S' = [pur i.pu, own i.lf (.lst [.int l])]) noEx
def spDeeds1 (n : Nat) (K : PySem.W.Frag) : Sp := SpF K (fun i : G1I × Nat => [.ref i.1.pu, .ref i.1.lt, .int (i.2 : Int), .int (i.1.deep : Int), .ref i.1.lf]) (fun i Γ => i.1.Pre Γ ∧ i.1.deep ≤ n ∧ i.2 ≤ 4) (fun i => [pur i.1.pu, own i.1.lf (.lst [.int i.1.left])])
  (fun i v Γ' S' => ∃ (t : Addr) (ds : List Dd) (l : Int), v = .ref t ∧ DsG (i.1.deep - 1) i.1.many i.1.bs i.1.qs ss1 ds ∧ Γ' = [.dat (.ref t) (.list (Dd.datas ds))] ∧ S' = [pur i.1.pu, own i.1.lf (.lst [.int l])]) noEx
section
variable {P : Program} {w : World} {K : PySem.W.Frag} {mg : Str → Option Value} {base : Heap}
theorem ok__law_deedA (T : Tx K mg) (n l : Nat) (hl : 9 ≤ l) (G__law_deeds : OkG P w K mg base l "_law_deeds" ["_law_purse_here", "_law_there", "_law_most", "_law_deep", "_law_left"] (spDeeds1 n K)) : OkG P w K mg base (l + 1) "_law_deed" ["_law_purse_here", "_law_there", "_law_deep", "_law_left"] (spDeed1 (n + 1) K) := by
  have G__law_draw := ok__law_draw (P := P) (w := w) (base := base) T
  have G__law_worth := ok__law_worth (P := P) (w := w) (base := base) T
  have G__law_formula := ok__law_formula (P := P) (w := w) (base := base) T 6
  refine T.f__law_deed.okX sc__law_deed (fun vs H Q E h => ?_) (fun cdv A outer s H vs Q E hr h => ?_)
  · obtain ⟨i, _, _, rfl, _⟩ := h
    rfl
  · have hu1 := hu_of hr; have hu0 := hr.units0; have hu64 := hr.units; have hu65 := hu65_of hr; have nd := sc__law_deed.nd
    obtain ⟨⟨pu, lt, lb, lq, lf, bs, qs, many, deep, left⟩, Γ, S, rfl, z, ⟨hp, hdn⟩, q, x⟩ := h
    have ⟨ht, hbx, hqx, hbl, hql, hm0, hml, hd1⟩ := hp
    dsimp only at z ht hbx hqx hbl hql hm0 hml hd1 hdn q x
    refine ⟨_, (pss_cons (ps_asg (pv 1) (pg_tupK (K := K) (n := 3) rfl rfl (pgs_cons (pg_name (i := 4) nd rfl (Or.inl rfl)) (pgs_cons (pg_name (i := 5) nd rfl (Or.inl rfl)) (pgs_cons (pg_name (i := 6) nd rfl (Or.inl rfl)) pgs_nil))) rfl rfl))
      (pss_cons (ps_set (i := 7) nd rfl (Or.inl rfl) (pcl T.g__law_draw G__law_draw hr (takes_of rfl rfl rfl rfl) (pa_cons (pv 0) (pa_cons pe_int pa_nil))))
      (pss_cons (ps_set (i := 8) nd rfl (Or.inl rfl) (pcl T.g__law_formula G__law_formula hr (takes_of rfl rfl rfl rfl) (pa_cons (pv 0) (pa_cons (pv 4) (pa_cons (pv 5) (pa_cons pe_int pa_nil))))))
      (Evl.pss_cut (ps_if (PW.pt (pw_and (pt_cmpR (op_eqK (K := K) rfl hu64) (pv 7) pe_int (nomark _)) (pw_and1 (pt_cmpR (op_gt) (pe_callB (call_lenK (K := K) rfl) (by rfl) T.b_len (by decide +kernel) (pa_cons (pv 4) pa_nil)) pe_int (nomark _))))) (pss_one (ps_ret (pe_tup (pa_cons pe_str (pa_cons (pe_ix (ix_anyK (K := K) rfl hu1) (pv 4) (pcl T.g__law_draw G__law_draw hr (takes_of rfl rfl rfl rfl) (pa_cons (pv 0) (pa_cons (pe_callB (call_lenK (K := K) rfl) (by rfl) T.b_len (by decide +kernel) (pa_cons (pv 4) pa_nil)) pa_nil))) (fun _ _ => rfl)) (pa_cons (pv 8) pa_nil))))))
      pss_nil)
      (Evl.pss_cut (ps_if (PW.pt (pw_and (pt_cmpR (op_eqK (K := K) rfl hu64) (pv 7) pe_int (nomark _)) (pw_and1 (pt_cmpR (op_gt) (pe_callB (call_lenK (K := K) rfl) (by rfl) T.b_len (by decide +kernel) (pa_cons (pv 5) pa_nil)) pe_int (nomark _))))) (pss_one (ps_ret (pe_tup (pa_cons pe_str (pa_cons (pe_ix (ix_anyK (K := K) rfl hu1) (pv 5) (pcl T.g__law_draw G__law_draw hr (takes_of rfl rfl rfl rfl) (pa_cons (pv 0) (pa_cons (pe_callB (call_lenK (K := K) rfl) (by rfl) T.b_len (by decide +kernel) (pa_cons (pv 5) pa_nil)) pa_nil))) (fun _ _ => rfl)) (pa_cons (pv 8) pa_nil))))))
      pss_nil)
      (Evl.pss_cut (ps_if (PW.pt (pw_and (pt_cmpR (op_eqK (K := K) rfl hu64) (pv 7) pe_int (nomark _)) (pw_and (pt_cmpR (op_gt) (pe_callB (call_lenK (K := K) rfl) (by rfl) T.b_len (by decide +kernel) (pa_cons (pv 5) pa_nil)) pe_int (nomark _)) (pw_and (pt_cmpR (op_gt) (pe_callB (call_lenK (K := K) rfl) (by rfl) T.b_len (by decide +kernel) (pa_cons (pv 4) pa_nil)) pe_int (nomark _)) (pw_and1 (pt_cmpR (op_gt) (pv 2) pe_int (nomark _))))))) (pss_cons (ps_set (i := 9) nd rfl (Or.inl rfl) (pe_ix (ix_anyK (K := K) rfl hu1) (pv 5) (pcl T.g__law_draw G__law_draw hr (takes_of rfl rfl rfl rfl) (pa_cons (pv 0) (pa_cons (pe_callB (call_lenK (K := K) rfl) (by rfl) T.b_len (by decide +kernel) (pa_cons (pv 5) pa_nil)) pa_nil))) (fun _ _ => rfl)))
      (pss_cons (ps_set (i := 10) nd rfl (Or.inl rfl) (pe_ix (ix_anyK (K := K) rfl hu1) (pv 4) (pcl T.g__law_draw G__law_draw hr (takes_of rfl rfl rfl rfl) (pa_cons (pv 0) (pa_cons (pe_callB (call_lenK (K := K) rfl) (by rfl) T.b_len (by decide +kernel) (pa_cons (pv 4) pa_nil)) pa_nil))) (fun _ _ => rfl)))
      (pss_one (ps_ret (pe_tup (pa_cons pe_str (pa_cons (pv 9) (pa_cons (pv 10) (pa_cons (pcl T.g__law_deeds G__law_deeds hr (takes_of rfl rfl rfl rfl) (pa_cons (pv 0) (pa_cons (pv 1) (pa_cons pe_int (pa_cons (pe_op op_sub (pv 2) pe_int) (pa_cons (pv 3) pa_nil)))))) pa_nil)))))))))
      pss_nil)
      (Evl.pss_cut (ps_if (PW.pt (pw_and (pt_cmpR (op_eqK (K := K) rfl hu64) (pv 7) pe_int (nomark _)) (pw_and1 (pt_cmpR (op_gt) (pe_callB (call_lenK (K := K) rfl) (by rfl) T.b_len (by decide +kernel) (pa_cons (pv 4) pa_nil)) pe_int (nomark _))))) (pss_one (ps_ret (pe_tup (pa_cons pe_str (pa_cons (pe_ix (ix_anyK (K := K) rfl hu1) (pv 4) (pcl T.g__law_draw G__law_draw hr (takes_of rfl rfl rfl rfl) (pa_cons (pv 0) (pa_cons (pe_callB (call_lenK (K := K) rfl) (by rfl) T.b_len (by decide +kernel) (pa_cons (pv 4) pa_nil)) pa_nil))) (fun _ _ => rfl)) (pa_cons (pv 8) pa_nil))))))
      pss_nil)
      (Evl.pss_cut (ps_if (PW.pt (pw_and (pt_cmpR (op_eqK (K := K) rfl hu64) (pv 7) pe_int (nomark _)) (pw_and1 (pt_cmpR (op_gt) (pv 2) pe_int (nomark _))))) (pss_cons (ps_set (i := 11) nd rfl (Or.inl rfl) (pcl T.g__law_deeds G__law_deeds hr (takes_of rfl rfl rfl rfl) (pa_cons (pv 0) (pa_cons (pv 1) (pa_cons pe_int (pa_cons (pe_op op_sub (pv 2) pe_int) (pa_cons (pv 3) pa_nil)))))))
      (pss_one (ps_ret (pe_tup (pa_cons pe_str (pa_cons (pv 8) (pa_cons (pv 11) (pa_cons (pcl T.g__law_deeds G__law_deeds hr (takes_of rfl rfl rfl rfl) (pa_cons (pv 0) (pa_cons (pv 1) (pa_cons pe_int (pa_cons (pe_op op_sub (pv 2) pe_int) (pa_cons (pv 3) pa_nil)))))) pa_nil))))))))
      pss_nil)
      (pss_cons (ps_if (pt_cmpR (op_eqK (K := K) rfl hu64) (pv 7) pe_int (nomark _)) (pss_one (ps_ret (pe_tup (pa_cons pe_str pa_nil))))
      pss_nil)
      (pss_cons (ps_set (i := 12) nd rfl (Or.inl rfl) (pcl T.g__law_draw G__law_draw hr (takes_of rfl rfl rfl rfl) (pa_cons (pv 0) (pa_cons (pv 6) pa_nil))))
      (pss_cons (ps_set (i := 13) nd rfl (Or.inl rfl) (pcl T.g__law_draw G__law_draw hr (takes_of rfl rfl rfl rfl) (pa_cons (pv 0) (pa_cons pe_int pa_nil))))
      (pss_one (ps_ret (pe_tup (pa_cons pe_str (pa_cons (pv 12) (pa_cons (pe_ix (ix_anyK (K := K) rfl hu1) (pe_lst (pa_cons pe_str (pa_cons pe_str pa_nil))) (pcl T.g__law_draw G__law_draw hr (takes_of rfl rfl rfl rfl) (pa_cons (pv 0) (pa_cons pe_int pa_nil))) (fun _ _ => rfl)) (pa_cons (pv 8) (pa_cons (pv 13) (pa_cons (pe_tup (pa_cons pe_str (pa_cons pe_int pa_nil))) (pa_cons (pe_tup (pa_cons pe_str (pa_cons (pcl T.g__law_worth G__law_worth hr (takes_of rfl rfl rfl rfl) (pa_cons (pv 0) pa_nil)) pa_nil))) pa_nil))))))))))))))))))))), ?_⟩
    refine w_start (σ' := [some (.ref pu), some (.ref lt), some (.int (deep : Int)), some (.ref lf), none, none, none, none, none, none, none, none, none, none]) rfl z ?_
    dsimp only [List.cons_append, List.nil_append] at q ⊢
    have fin : ∀ (t : Addr) (d : Dd) (l : Int) (Γ2 : List Fc) (S2 : List Vo), DdG (deep - 1) many bs qs ss1 d → Fc.dat (.ref t) d.data ∈ Γ2 → (∀ f ∈ Γ, f ∈ Γ2) → Dr S2 (pur pu :: own lf (.lst [.int l]) :: S) → Wh K Γ2 S2 fun H => Q (.ref t) H := fun t d l Γ2 S2 h1 m hs hd H y => q _ [.dat (.ref t) d.data] _ H ⟨t, d, l, rfl, h1, rfl, rfl⟩ (y.fit (List.forall_mem_cons.mpr ⟨m, hs⟩) hd)
    k_extra "W"
    intro way hway
    k_extra "W"
    rw [show V.int 5 = V.int ((5 : Nat) : Int) from rfl]
    refine w_fm1 (m := 5) (by k_extra "mr") (by k_extra "m") (by k_extra "m") hbl hql (by decide) (by decide) (by decide) fun v1 f1 hf1 hs1 => ?_
    have hd1 := Fm.depth2 f1
    k_extra "W"
    refine w_cut (ι := Unit) (fun _ => True) (fun _ => [some (.ref pu), some (.ref lt), some (.int (deep : Int)), some (.ref lf), some (.ref lb), some (.ref lq), some (.int (many : Int)), some (.int (way : Int)), some v1, none, none, none, none, none]) (fun _ => .dat v1 f1.data :: Γ) (fun _ => pur pu :: own lf (.lst [.int left]) :: S) ?_ ?_
    · k_extra "W"
      refine w_ite (fun e1 => ?_) (fun e1 => ?_)
      · k_extra "W"
        refine w_lenL (by k_extra "at") ?_
        rw [List.length_map]
        k_extra "W"
        refine w_ite (fun e2 => ?_) (fun e2 => ?_)
        · k_extra "W"
          refine w_lenL (by k_extra "at") ?_
          rw [List.length_map]
          k_extra "W"
          intro d2 hd2
          obtain ⟨bn, hb1⟩ : ∃ b, bs[d2]? = some b := ⟨_, List.getElem?_eq_getElem (by omega)⟩
          have hbm := List.mem_of_getElem? hb1
          refine w_sub (v := .str bn) (by k_extra "at") (atI_nat (by rw [List.getElem?_map, hb1]; rfl)) ?_
          k_extra "W"
          exact fin _ (.put bn f1) left _ _ ⟨by rw [Dd.Ok]; exact ⟨hbm, hf1⟩, by simp [Dd.depth], by rw [Dd.fdep]; omega, by simp [Dd.Sm], by simp [Dd.To]⟩ (by rw [Dd.data]; k_extra "m") (by k_extra "sub") (by k_extra "dr")
        · k_extra "W"
          exact w_again () True.intro rfl (by k_extra "sub") (by k_extra "dr")
      · k_extra "W"
        exact w_again () True.intro rfl (by k_extra "sub") (by k_extra "dr")
    rintro _ _
    k_extra "W"
    refine w_cut (ι := Unit) (fun _ => True) (fun _ => [some (.ref pu), some (.ref lt), some (.int (deep : Int)), some (.ref lf), some (.ref lb), some (.ref lq), some (.int (many : Int)), some (.int (way : Int)), some v1, none, none, none, none, none]) (fun _ => .dat v1 f1.data :: Γ) (fun _ => pur pu :: own lf (.lst [.int left]) :: S) ?_ ?_
    · k_extra "W"
      refine w_ite (fun e1 => ?_) (fun e1 => ?_)
      · k_extra "W"
        refine w_lenL (by k_extra "at") ?_
        rw [List.length_map]
        k_extra "W"
        refine w_ite (fun e2 => ?_) (fun e2 => ?_)
        · k_extra "W"
          refine w_lenL (by k_extra "at") ?_
          rw [List.length_map]
          k_extra "W"
          intro d2 hd2
          obtain ⟨bn, hb1⟩ : ∃ b, qs[d2]? = some b := ⟨_, List.getElem?_eq_getElem (by omega)⟩
          have hbm := List.mem_of_getElem? hb1
          refine w_sub (v := .str bn) (by k_extra "at") (atI_nat (by rw [List.getElem?_map, hb1]; rfl)) ?_
          k_extra "W"
          exact fin _ (.push bn f1) left _ _ ⟨by rw [Dd.Ok]; exact ⟨hbm, hf1⟩, by simp [Dd.depth], by rw [Dd.fdep]; omega, by simp [Dd.Sm], by simp [Dd.To]⟩ (by rw [Dd.data]; k_extra "m") (by k_extra "sub") (by k_extra "dr")
        · k_extra "W"
          exact w_again () True.intro rfl (by k_extra "sub") (by k_extra "dr")
      · k_extra "W"
        exact w_again () True.intro rfl (by k_extra "sub") (by k_extra "dr")
    rintro _ _
    k_extra "W"
    refine w_cut (ι := Unit) (fun _ => True) (fun _ => [some (.ref pu), some (.ref lt), some (.int (deep : Int)), some (.ref lf), some (.ref lb), some (.ref lq), some (.int (many : Int)), some (.int (way : Int)), some v1, none, none, none, none, none]) (fun _ => .dat v1 f1.data :: Γ) (fun _ => pur pu :: own lf (.lst [.int left]) :: S) ?_ ?_
    · k_extra "W"
      refine w_ite (fun e1 => ?_) (fun e1 => ?_)
      · k_extra "W"
        refine w_lenL (by k_extra "at") ?_
        rw [List.length_map]
        k_extra "W"
        refine w_ite (fun e2 => ?_) (fun e2 => ?_)
        · k_extra "W"
          refine w_lenL (by k_extra "at") ?_
          rw [List.length_map]
          k_extra "W"
          refine w_ite (fun e3 => ?_) (fun e3 => ?_)
          · k_extra "W"
            refine w_ite (fun e4 => ?_) (fun e4 => ?_)
            · k_extra "W"
              refine w_lenL (by k_extra "at") ?_
              rw [List.length_map]
              k_extra "W"
              intro d2 hd2
              obtain ⟨qn, hb1⟩ : ∃ b, qs[d2]? = some b := ⟨_, List.getElem?_eq_getElem (by omega)⟩
              have hqm := List.mem_of_getElem? hb1
              refine w_sub (v := .str qn) (by k_extra "at") (atI_nat (by rw [List.getElem?_map, hb1]; rfl)) ?_
              k_extra "W"
              refine w_lenL (by k_extra "at") ?_
              rw [List.length_map]
              k_extra "W"
              intro d3 hd3
              obtain ⟨bn, hb2⟩ : ∃ b, bs[d3]? = some b := ⟨_, List.getElem?_eq_getElem (by omega)⟩
              have hbm := List.mem_of_getElem? hb2
              refine w_sub (v := .str bn) (by k_extra "at") (atI_nat (by rw [List.getElem?_map, hb2]; rfl)) ?_
              k_extra "W"
              rw [show (deep : Int) - 1 = ((deep - 1 : Nat) : Int) by omega]
              refine w_don ((⟨pu, lt, lb, lq, lf, bs, qs, many, deep - 1, left⟩ : G1I), 2) (by k_extra "ts") ⟨⟨by k_extra "m", by k_extra "m", by k_extra "m", hbl, hql, hm0, hml, by dsimp only; omega⟩, by dsimp only; omega, by dsimp only; omega⟩ ?_
              rintro _ Γ' S' ⟨t, ds, l2, rfl, g1, rfl, rfl⟩
              dsimp only [List.cons_append, List.nil_append] at g1 ⊢
              k_extra "W"
              exact fin _ (.pull qn bn ds) l2 _ _ ⟨by rw [Dd.Ok]; exact ⟨hqm, hbm, g1.ok⟩, by rw [Dd.depth]; have := g1.dep; omega, by rw [Dd.fdep]; exact g1.fd, by rw [Dd.Sm]; exact ⟨by have := g1.len; omega, g1.sm⟩, by rw [Dd.To]; exact tos_all.mpr fun d hd => (g1.all d hd).to⟩ (by rw [Dd.data]; k_extra "m") (by k_extra "sub") (by k_extra "dr")
            · k_extra "W"
              exact w_again () True.intro rfl (by k_extra "sub") (by k_extra "dr")
          · k_extra "W"
            exact w_again () True.intro rfl (by k_extra "sub") (by k_extra "dr")
        · k_extra "W"
          exact w_again () True.intro rfl (by k_extra "sub") (by k_extra "dr")
      · k_extra "W"
        exact w_again () True.intro rfl (by k_extra "sub") (by k_extra "dr")
    rintro _ _
    k_extra "W"
    refine w_cut (ι := Unit) (fun _ => True) (fun _ => [some (.ref pu), some (.ref lt), some (.int (deep : Int)), some (.ref lf), some (.ref lb), some (.ref lq), some (.int (many : Int)), some (.int (way : Int)), some v1, none, none, none, none, none]) (fun _ => .dat v1 f1.data :: Γ) (fun _ => pur pu :: own lf (.lst [.int left]) :: S) ?_ ?_
    · k_extra "W"
      refine w_ite (fun e1 => ?_) (fun e1 => ?_)
      · k_extra "W"
        refine w_lenL (by k_extra "at") ?_
        rw [List.length_map]
        k_extra "W"
        refine w_ite (fun e2 => ?_) (fun e2 => ?_)
        · k_extra "W"
          refine w_lenL (by k_extra "at") ?_
          rw [List.length_map]
          k_extra "W"
          intro d2 hd2
          obtain ⟨bn, hb1⟩ : ∃ b, bs[d2]? = some b := ⟨_, List.getElem?_eq_getElem (by omega)⟩
          have hbm := List.mem_of_getElem? hb1
          refine w_sub (v := .str bn) (by k_extra "at") (atI_nat (by rw [List.getElem?_map, hb1]; rfl)) ?_
          k_extra "W"
          exact fin _ (.draw bn f1) left _ _ ⟨by rw [Dd.Ok]; exact ⟨hbm, hf1⟩, by simp [Dd.depth], by rw [Dd.fdep]; omega, by simp [Dd.Sm], by simp [Dd.To]⟩ (by rw [Dd.data]; k_extra "m") (by k_extra "sub") (by k_extra "dr")
        · k_extra "W"
          exact w_again () True.intro rfl (by k_extra "sub") (by k_extra "dr")
      · k_extra "W"
        exact w_again () True.intro rfl (by k_extra "sub") (by k_extra "dr")
    rintro _ _
    k_extra "W"
    refine w_cut (ι := Unit) (fun _ => True) (fun _ => [some (.ref pu), some (.ref lt), some (.int (deep : Int)), some (.ref lf), some (.ref lb), some (.ref lq), some (.int (many : Int)), some (.int (way : Int)), some v1, none, none, none, none, none]) (fun _ => .dat v1 f1.data :: Γ) (fun _ => pur pu :: own lf (.lst [.int left]) :: S) ?_ ?_
    · k_extra "W"
      refine w_ite (fun e1 => ?_) (fun e1 => ?_)
      · k_extra "W"
        refine w_ite (fun e2 => ?_) (fun e2 => ?_)
        · k_extra "W"
          rw [show (deep : Int) - 1 = ((deep - 1 : Nat) : Int) by omega]
          refine w_don ((⟨pu, lt, lb, lq, lf, bs, qs, many, deep - 1, left⟩ : G1I), 2) (by k_extra "ts") ⟨⟨by k_extra "m", by k_extra "m", by k_extra "m", hbl, hql, hm0, hml, by dsimp only; omega⟩, by dsimp only; omega, by dsimp only; omega⟩ ?_
          rintro _ Γ' S' ⟨t, ds, l2, rfl, g1, rfl, rfl⟩
          dsimp only [List.cons_append, List.nil_append] at g1 ⊢
          k_extra "W"
          rw [show (deep : Int) - 1 = ((deep - 1 : Nat) : Int) by omega]
          refine w_don ((⟨pu, lt, lb, lq, lf, bs, qs, many, deep - 1, l2⟩ : G1I), 2) (by k_extra "ts") ⟨⟨by k_extra "m", by k_extra "m", by k_extra "m", hbl, hql, hm0, hml, by dsimp only; omega⟩, by dsimp only; omega, by dsimp only; omega⟩ ?_
          rintro _ Γ' S' ⟨t2, es, l3, rfl, g2, rfl, rfl⟩
          dsimp only [List.cons_append, List.nil_append] at g2 ⊢
          k_extra "W"
          exact fin _ (.iff f1 ds es) l3 _ _ ⟨by rw [Dd.Ok]; exact ⟨hf1, g1.ok, g2.ok⟩, by rw [Dd.depth]; have := g1.dep; have := g2.dep; omega, by rw [Dd.fdep]; have := g1.fd; have := g2.fd; omega, by rw [Dd.Sm]; exact ⟨⟨by have := g1.len; omega, g1.sm⟩, by have := g2.len; omega, g2.sm⟩, by rw [Dd.To]; exact ⟨tos_all.mpr fun d hd => (g1.all d hd).to, tos_all.mpr fun d hd => (g2.all d hd).to⟩⟩ (by rw [Dd.data]; k_extra "m") (by k_extra "sub") (by k_extra "dr")
        · k_extra "W"
          exact w_again () True.intro rfl (by k_extra "sub") (by k_extra "dr")
      · k_extra "W"
        exact w_again () True.intro rfl (by k_extra "sub") (by k_extra "dr")
    rintro _ _
    k_extra "W"
    refine w_ite (fun e5 => ?_) (fun e5 => ?_)
    · k_extra "W"
      exact fin _ .fin left _ _ ⟨by rw [Dd.Ok]; exact True.intro, by simp [Dd.depth], by simp [Dd.fdep], by simp [Dd.Sm], by simp [Dd.To]⟩ (by rw [Dd.data]; k_extra "m") (by k_extra "sub") (by k_extra "dr")
    k_extra "W"
    intro to hto
    k_extra "W"
    intro rank hrank
    k_extra "W"
    refine w_lstO fun l4 => ?_
    k_extra "W"
    intro si hsi
    obtain ⟨sg, hsg, hsm⟩ : ∃ sg : Str, atI [V.str "tick", V.str "b"] (si : Int) = some (.str sg) ∧ sg ∈ ss1 := by
      have : si = 0 ∨ si = 1 := by omega
      rcases this with rfl | rfl
      · exact ⟨"tick", rfl, by simp [ss1]⟩
      · exact ⟨"b", rfl, by simp [ss1]⟩
    refine w_sub (by k_extra "at") hsg ?_
    k_extra "W"
    refine w_worth1 (by k_extra "mr") fun wn hwn => ?_
    k_extra "W"
    exact fin _ (.send (to : Int) sg f1 (rank : Int) (.got 0) (.num wn)) left _ _ ⟨by rw [Dd.Ok]; exact ⟨hf1, by show 0 < 2; decide, hwn⟩, by simp [Dd.depth], by simp only [Dd.fdep, Fm.depth]; omega, by simp [Dd.Sm], by rw [Dd.To]; exact ⟨by omega, by omega, hsm, by omega, by omega⟩⟩ (by rw [Dd.data]; k_extra "m") (by k_extra "sub") (by k_extra "dr")
theorem ok__law_deedsA (T : Tx K mg) (n l : Nat) (hl : 9 ≤ l) (G__law_deed : OkG P w K mg base l "_law_deed" ["_law_purse_here", "_law_there", "_law_deep", "_law_left"] (spDeed1 n K)) : OkG P w K mg base (l + 1) "_law_deeds" ["_law_purse_here", "_law_there", "_law_most", "_law_deep", "_law_left"] (spDeeds1 n K) := by
  have G__law_draw := ok__law_draw (P := P) (w := w) (base := base) T
  refine T.f__law_deeds.okX sc__law_deeds (fun vs H Q E h => ?_) (fun cdv A outer s H vs Q E hr h => ?_)
  · obtain ⟨i, _, _, rfl, _⟩ := h
    rfl
  · have hu1 := hu_of hr; have hu0 := hr.units0; have hu64 := hr.units; have hu65 := hu65_of hr; have nd := sc__law_deeds.nd
    obtain ⟨⟨⟨pu, lt, lb, lq, lf, bs, qs, many, deep, left⟩, most⟩, Γ, S, rfl, z, ⟨hp, hdn, hm4⟩, q, x⟩ := h
    have ⟨ht, hbx, hqx, hbl, hql, hm0, hml, hd1⟩ := hp
    dsimp only at z ht hbx hqx hbl hql hm0 hml hd1 hdn hm4 q x
    refine ⟨_, (pss_cons (ps_set (i := 5) nd rfl (Or.inl rfl) (pe_lst pa_nil))
      (pss_cons (ps_for (passes_of rfl) rfl (pi_range1 rfl T.b_range (pa_cons (pcl T.g__law_draw G__law_draw hr (takes_of rfl rfl rfl rfl) (pa_cons (pv 0) (pa_cons (pe_op (op_addK (K := K) rfl) (pv 2) pe_int) pa_nil))) pa_nil)) (pg_name (i := 6) nd rfl (Or.inl rfl))
      (pss_one (ps_if (pt_cmpR (op_gt) (pe_ix (ix_anyK (K := K) rfl hu1) (pv 4) pe_int (fun _ _ => rfl)) pe_int (nomark _)) (pss_cons (ps_asg (pe_op op_sub (pe_ix (ix_anyK (K := K) rfl hu1) (pv 4) pe_int (fun _ _ => rfl)) pe_int) (pg_sub (pv 4) pe_int (set_any hu1)))
      (pss_one (ps_expr (pe_bmK (K := K) rfl PySem.F.plainAttrs_list PySem.F.slot_list_append PySem.F.type_list_append mt_append (pv 5) (pa_cons (pcl T.g__law_deed G__law_deed hr (takes_of rfl rfl rfl rfl) (pa_cons (pv 0) (pa_cons (pv 1) (pa_cons (pv 3) (pa_cons (pv 4) pa_nil))))) pa_nil)))))
      pss_nil)))
      (pss_one (ps_ret (pv 5))))), ?_⟩
    refine w_start (σ' := [some (.ref pu), some (.ref lt), some (.int (most : Int)), some (.int (deep : Int)), some (.ref lf), none, none]) rfl z ?_
    dsimp only [List.cons_append, List.nil_append] at q ⊢
    k_extra "W"
    refine w_lstO fun ld => ?_
    k_extra "W"
    intro nd hnd
    k_extra "W"
    refine w_dats (vs := []) (ds := ([] : List Dd).map Dd.data) DL.nil ?_
    refine w_forR nd rfl (by omega) ?_
    refine w_loop_r (ι := ((List V × List Dd) × Int) × Option V) nd (fun j a => a.1.1.1.length = a.1.1.2.length ∧ a.1.1.2.length ≤ j ∧ ∀ d ∈ a.1.1.2, DdG (deep - 1) many bs qs ss1 d) (fun _ a => [some (.ref pu), some (.ref lt), some (.int (most : Int)), some (.int (deep : Int)), some (.ref lf), some (.ref ld), a.2]) (fun _ a => .dats a.1.1.1 (a.1.1.2.map Dd.data) :: Γ) (fun _ a => own ld (.lst a.1.1.1) :: pur pu :: own lf (.lst [.int a.1.2]) :: S) ((([], []), left), none) ⟨rfl, Nat.le_refl _, fun _ h => nomatch h⟩ rfl (by k_extra "sub") (by k_extra "dr") ?_ ?_
    · rintro j ⟨⟨⟨vs, ds⟩, l1⟩, u⟩ hj ⟨g1, g2, g3⟩
      dsimp only at g1 g2 g3 ⊢
      k_extra "W"
      refine w_ite (fun e1 => ?_) (fun e1 => ?_)
      · k_extra "W"
        refine w_setL (n := 0) (by k_extra "sw") rfl (by simp) ?_
        rw [List.set_cons_zero]
        k_extra "W"
        refine w_don (⟨pu, lt, lb, lq, lf, bs, qs, many, deep, l1 - 1⟩ : G1I) (by k_extra "ts") ⟨⟨by k_extra "m", by k_extra "m", by k_extra "m", hbl, hql, hm0, hml, hd1⟩, hdn⟩ ?_
        rintro _ Γ' S' ⟨t, d, l2, rfl, h1, rfl, rfl⟩
        dsimp only [List.cons_append, List.nil_append] at h1 ⊢
        k_extra "W"
        refine w_app (by k_extra "sw") (by omega) ?_
        refine w_dats (vs := vs ++ [.ref t]) (ds := (ds ++ [d]).map Dd.data) (by rw [List.map_append]; exact DL.snoc (DL.mem (by k_extra "m")) (DV.mem (by k_extra "m"))) ?_
        k_extra "W"
        refine w_again (((vs ++ [.ref t], ds ++ [d]), l2), _) ⟨by dsimp only; rw [List.length_append, List.length_append, g1]; rfl, by dsimp only; rw [List.length_append, List.length_singleton]; omega, fun e he => ?_⟩ rfl (by k_extra "sub") (by k_extra "dr")
        rcases List.mem_append.mp he with he | he
        · exact g3 e he
        · rw [List.mem_singleton.mp he]; exact h1
      · k_extra "W"
        refine w_again (((vs, ds), l1), _) ⟨g1, by dsimp only; omega, g3⟩ rfl (by k_extra "sub") (by k_extra "dr")
    rintro ⟨⟨⟨vs, ds⟩, l1⟩, u⟩ ⟨g1, g2, g3⟩
    dsimp only at g1 g2 g3 ⊢
    refine w_freeze (p := ld) (ds := Dd.datas ds) (by k_extra "t") (by rw [datas_map]; exact DL.mem (by k_extra "m")) ?_
    k_extra "W"
    exact fun H z => q _ _ _ H ⟨ld, ds, l1, rfl, ⟨g3, by omega⟩, rfl, rfl⟩ (z.fit (by k_extra "sub") (by k_extra "dr"))
theorem ok__law_deeds (T : Tx K mg) : ∀ n, OkG P w K mg base (2 * n + 10) "_law_deeds" ["_law_purse_here", "_law_there", "_law_most", "_law_deep", "_law_left"] (spDeeds1 n K) := by
  intro n
  induction n with
  | zero =>
    refine T.f__law_deeds.okX sc__law_deeds (fun vs H Q E h => ?_) (fun cdv A outer s H vs Q E hr h => ?_)
    · obtain ⟨i, _, _, rfl, _⟩ := h
      rfl
    · obtain ⟨i, _, _, rfl, z, ⟨hp, hd, _⟩, _⟩ := h
      have := hp.d1
      exact absurd hd (by omega)
  | succ n ih => exact ok__law_deedsA T (n + 1) (2 * n + 11) (by omega) (ok__law_deedA T n (2 * n + 10) (by omega) ih)
structure M1 (many : Nat) (m : Mach) : Prop where
  bl : m.boxes.length ≤ 6
  ql : m.queues.length ≤ 3
  dl : m.draws.length ≤ 20
  hl : m.hears.length ≤ 4
  nb : (m.boxes.map (·.1)).Nodup
  nq : m.queues.Nodup
  nm : ∀ x ∈ m.boxes.map (·.1), NameOk x
  qm : ∀ x ∈ m.queues, NameOk x
  name : NameOk m.name
  ds : ∀ p ∈ m.hears, DsG 4 many (m.boxes.map (·.1)) m.queues ss1 p.2 ∧ NameOk p.1
def spMachine1 (K : PySem.W.Frag) : Sp := SpF K (fun i : Addr × Str × Nat => [.ref i.1, .str i.2.1, .int (i.2.2 : Int)]) (fun i _ => NameOk i.2.1 ∧ 0 < i.2.2 ∧ i.2.2 ≤ 100) (fun i => [pur i.1])
  (fun i v Γ' S' => ∃ (t : Addr) (m : Mach), v = .ref t ∧ M1 i.2.2 m ∧ Γ' = [.dat (.ref t) m.data] ∧ S' = [pur i.1]) noEx
theorem ok__law_machine (T : Tx K mg) : OkG P w K mg base 24 "_law_machine" ["_law_purse_here", "_law_name", "_law_many"] (spMachine1 K) := by
  have G__law_draw := ok__law_draw (P := P) (w := w) (base := base) T
  have G__law_worth := ok__law_worth (P := P) (w := w) (base := base) T
  have G__law_names := ok__law_names (P := P) (w := w) (base := base) T
  have G__law_deeds := ok__law_deeds (P := P) (w := w) (base := base) T 5
  refine T.f__law_machine.okX sc__law_machine (fun vs H Q E h => ?_) (fun cdv A outer s H vs Q E hr h => ?_)
  · obtain ⟨i, _, _, rfl, _⟩ := h
    rfl
  · have hu1 := hu_of hr; have hu0 := hr.units0; have hu64 := hr.units; have hu65 := hu65_of hr; have nd := sc__law_machine.nd
    obtain ⟨⟨pu, name, many⟩, Γ, S, rfl, z, ⟨hno, hm0, hml⟩, q, x⟩ := h
    dsimp only at z hno hm0 hml q x
    refine ⟨_, (pss_cons (ps_set (i := 3) nd rfl (Or.inl rfl) (pcl T.g__law_names G__law_names hr (takes_of rfl rfl rfl rfl) (pa_cons (pv 0) (pa_cons pe_int pa_nil))))
      (pss_cons (ps_set (i := 4) nd rfl (Or.inl rfl) (pe_slice (sl_anyK (K := K) rfl) (pv 3) po_none (po_some (pcl T.g__law_draw G__law_draw hr (takes_of rfl rfl rfl rfl) (pa_cons (pv 0) (pa_cons pe_int pa_nil))))))
      (pss_cons (ps_set (i := 5) nd rfl (Or.inl rfl) (pe_slice (sl_anyK (K := K) rfl) (pv 3) (po_some pe_int) (po_some (pe_op (op_addK (K := K) rfl) pe_int (pcl T.g__law_draw G__law_draw hr (takes_of rfl rfl rfl rfl) (pa_cons (pv 0) (pa_cons pe_int pa_nil)))))))
      (pss_cons (ps_setLc (i := 6) rfl nd rfl rfl (sw_true rfl rfl rfl (by decide +kernel)) (own := [("_law_k", 9)]) (pi_range1 rfl T.b_range (pa_cons (pcl T.g__law_draw G__law_draw hr (takes_of rfl rfl rfl rfl) (pa_cons (pv 0) (pa_cons pe_int pa_nil))) pa_nil)) (blkOk_by (own := [("_law_k", 9)]) (N := nm__law_machine) (sc := defScope s__law_machine) (by decide +kernel)) (fun _ _ _ _ _ => (pg_name (i := 9) nd rfl (Or.inl rfl) (Or.inr rfl))) (fun _ _ _ _ _ => pts_nil) (fun _ _ _ _ _ => (pcl T.g__law_draw G__law_draw hr takes0 (pa_cons (pv 0) (pa_cons (pe_op (op_addK (K := K) rfl) (pe_op op_pow pe_int pe_int) pe_int) pa_nil)))))
      (pss_cons (ps_set (i := 7) nd rfl (Or.inl rfl) (pe_lst pa_nil))
      (pss_cons (ps_for (passes_of rfl) rfl (pi_seqK (K := K) rfl (pcl T.g__law_names G__law_names hr (takes_of rfl rfl rfl rfl) (pa_cons (pv 0) (pa_cons (pcl T.g__law_draw G__law_draw hr (takes_of rfl rfl rfl rfl) (pa_cons (pv 0) (pa_cons pe_int pa_nil))) pa_nil)))) (pg_name (i := 8) nd rfl (Or.inl rfl))
      (pss_one (ps_expr (pe_bmK (K := K) rfl PySem.F.plainAttrs_list PySem.F.slot_list_append PySem.F.type_list_append mt_append (pv 7) (pa_cons (pe_tup (pa_cons (pv 8) (pa_cons (pcl T.g__law_deeds G__law_deeds hr (takes_of rfl rfl rfl rfl) (pa_cons (pv 0) (pa_cons (pe_tup (pa_cons (pv 4) (pa_cons (pv 5) (pa_cons (pv 2) pa_nil)))) (pa_cons pe_int (pa_cons pe_int (pa_cons (pe_lst (pa_cons pe_int pa_nil)) pa_nil)))))) pa_nil))) pa_nil)))))
      (pss_one (ps_ret (pe_tup (pa_cons (pv 1) (pa_cons (pe_lc (own := [("_law_box", 10)]) rfl nd (pi_seqK (K := K) rfl (pv 4)) (blkOk_by (own := [("_law_box", 10)]) (N := nm__law_machine) (sc := defScope s__law_machine) (by decide +kernel)) (fun _ _ _ _ _ => (pg_name (i := 10) nd rfl (Or.inl rfl) (Or.inr rfl))) (fun _ _ _ _ _ => pts_nil) (fun _ _ _ _ _ => (pe_tup (pa_cons (pv 10) (pa_cons (pcl T.g__law_worth G__law_worth hr takes0 (pa_cons (pv 0) pa_nil)) pa_nil))))) (pa_cons (pv 5) (pa_cons (pv 6) (pa_cons (pv 7) pa_nil)))))))))))))), ?_⟩
    refine w_start (σ' := [some (.ref pu), some (.str name), some (.int (many : Int)), none, none, none, none, none, none, none, none]) rfl z ?_
    dsimp only [List.cons_append, List.nil_append] at q ⊢
    k_extra "W"
    rw [show V.int 9 = V.int ((9 : Nat) : Int) from rfl]
    refine w_names1 (n := 9) (by k_extra "mr") (by decide) fun ln xs hxl hxn hxo => ?_
    k_extra "W"
    intro i1 hi1
    k_extra "W"
    refine w_slLT i1 rfl (by k_extra "at") fun lb => ?_
    rw [← List.map_take]
    refine w_freezeO (p := lb) (by k_extra "t") ?_
    have hyn : (xs.take i1).Nodup := names_take hxn i1
    have hyo : ∀ x ∈ xs.take i1, NameOk x := fun x hx => hxo x (List.mem_of_mem_take hx)
    have hyl : (xs.take i1).length ≤ 6 := Nat.le_trans (List.length_take_le _ _) (by omega)
    generalize xs.take i1 = bs at hyn hyo hyl
    k_extra "W"
    intro i2 hi2
    k_extra "W"
    refine w_slML (xs := xs.map V.str) 6 i2 rfl (by omega) (by rw [List.length_map, hxl]; decide) (by k_extra "at") fun lq => ?_
    rw [← List.map_drop, ← List.map_take]
    refine w_freezeO (p := lq) (by k_extra "t") ?_
    have hqn : ((xs.drop 6).take i2).Nodup := names_take (hxn.sublist (List.drop_sublist _ _)) i2
    have hqo : ∀ x ∈ (xs.drop 6).take i2, NameOk x := fun x hx => hxo x (List.mem_of_mem_drop (List.mem_of_mem_take hx))
    have hql : ((xs.drop 6).take i2).length ≤ 3 := Nat.le_trans (List.length_take_le _ _) (by omega)
    generalize (xs.drop 6).take i2 = qs at hqn hqo hql
    k_extra "W"
    intro n3 hn3
    k_extra "W"
    refine w_lcR n3 rfl (by omega) ?_
    refine w_lc_r (ι := List Int) n3 (fun j a => a.length = j) (fun _ a => a.map V.int) (fun _ _ => .obj lq (.lst (qs.map V.str)) :: .obj lb (.lst (bs.map V.str)) :: Γ) (fun _ _ => pur pu :: S) [] rfl rfl (by k_extra "sub") (by k_extra "dr") ?_ ?_
    · rintro Dl j a hj ha
      k_extra "W"
      intro dv hdv
      k_extra "W"
      refine w_lcp (a ++ [(dv : Int)]) (by rw [List.length_append, ha]; rfl) (by rw [List.map_append]; rfl) (by k_extra "t") (by rw [List.length_map]; omega) (by k_extra "sub") (by k_extra "dr")
    rintro ldr draws hdl
    refine w_freeze (p := ldr) (ds := draws.map PyData.int) (by k_extra "t") DL.ints ?_
    k_extra "W"
    refine w_lstO fun lh => ?_
    k_extra "W"
    intro n5 hn5
    k_extra "W"
    refine w_names1 (n := n5) (by k_extra "mr") (by omega) fun lns ns hnl hnn hnk => ?_
    k_extra "W"
    refine w_dats (vs := []) (ds := ([] : List (Str × List Dd)).map hearD) DL.nil ?_
    refine w_loop_l (ι := (List V × List (Str × List Dd)) × Option V) (ns.map V.str) (fun j a => a.1.1.length = a.1.2.length ∧ a.1.2.length ≤ j ∧ ∀ p ∈ a.1.2, DsG 4 many bs qs ss1 p.2 ∧ NameOk p.1) (fun _ a => [some (.ref pu), some (.str name), some (.int (many : Int)), some (.ref ln), some (.ref lb), some (.ref lq), some (.ref ldr), some (.ref lh), a.2, none, none]) (fun _ a => .dats a.1.1 (a.1.2.map hearD) :: .obj lns (.lst (ns.map V.str)) :: .dat (.ref ldr) (.list (draws.map PyData.int)) :: .obj lq (.lst (qs.map V.str)) :: .obj lb (.lst (bs.map V.str)) :: Γ) (fun _ a => own lh (.lst a.1.1) :: pur pu :: S) (([], []), none) ⟨rfl, Nat.le_refl _, fun _ h => nomatch h⟩ rfl (by k_extra "sub") (by k_extra "dr") (fun _ _ => by k_extra "at") ?_ ?_
    · rintro j v ⟨⟨vs, hs⟩, u⟩ hv ⟨g1, g2, g3⟩
      rw [List.getElem?_map] at hv
      obtain ⟨sg, hsg, rfl⟩ := Option.map_eq_some_iff.mp hv
      have hsn := hnk sg (List.mem_of_getElem? hsg)
      have hj5 := (List.getElem?_eq_some_iff.mp hsg).1
      dsimp only at g1 g2 g3 ⊢
      k_extra "W"
      rename_i pt
      refine w_lstO fun lf => ?_
      k_extra "W"
      refine w_don ((⟨pu, pt, lb, lq, lf, bs, qs, many, 5, 20⟩ : G1I), 4) (by k_extra "ts") ⟨⟨by k_extra "m", by k_extra "m", by k_extra "m", by dsimp only; omega, by dsimp only; omega, hm0, hml, by dsimp only; decide⟩, by dsimp only; decide, by dsimp only; decide⟩ ?_
      rintro _ Γ' S' ⟨t, ds, l2, rfl, h1, rfl, rfl⟩
      dsimp only [List.cons_append, List.nil_append] at h1 ⊢
      k_extra "W"
      rename_i pt2
      refine w_app (by k_extra "sw") (by omega) ?_
      refine w_dats (vs := vs ++ [.ref pt2]) (ds := (hs ++ [(sg, ds)]).map hearD) (by rw [List.map_append]; exact DL.snoc (DL.mem (by k_extra "m")) (DV.mem (by show Fc.dat _ (.tuple [.str sg, .list (Dd.datas ds)]) ∈ _; k_extra "m"))) ?_
      k_extra "W"
      refine w_again ((vs ++ [.ref pt2], hs ++ [(sg, ds)]), _) ⟨by dsimp only; rw [List.length_append, List.length_append, g1]; rfl, by dsimp only; rw [List.length_append, List.length_singleton]; omega, fun e he => ?_⟩ rfl (by k_extra "sub") (by k_extra "dr")
      rcases List.mem_append.mp he with he | he
      · exact g3 e he
      · rw [List.mem_singleton.mp he]; exact ⟨h1, hsn⟩
    rintro ⟨⟨vs, hs⟩, u⟩ ⟨g1, g2, g3⟩
    dsimp only at g1 g2 g3 ⊢
    rw [List.length_map, hnl] at g2
    refine w_freeze (p := lh) (ds := hs.map hearD) (by k_extra "t") (DL.mem (by k_extra "m")) ?_
    refine w_dat (v := .ref lq) (d := .list (qs.map PyData.str)) (fun G b => .lst (SqL.of (b (.obj lq _) (by k_extra "m"))) (dpa_strs qs)) ?_
    k_extra "W"
    refine w_dats (vs := []) (ds := ([] : List (Str × Int)).map boxD) DL.nil ?_
    refine w_lc_l (ι := List V × List (Str × Int)) (bs.map V.str) (fun j a => a.1.length = j ∧ a.2.map (·.1) = bs.take j) (fun _ a => a.1) (fun _ a => .dats a.1 (a.2.map boxD) :: .dat (.ref lq) (.list (qs.map PyData.str)) :: .dat (.ref lh) (.list (hs.map hearD)) :: .dat (.ref ldr) (.list (draws.map PyData.int)) :: .obj lb (.lst (bs.map V.str)) :: Γ) (fun _ _ => pur pu :: S) ([], []) ⟨rfl, rfl⟩ rfl (by k_extra "sub") (by k_extra "dr") (fun _ _ => by k_extra "at") ?_ ?_
    · rintro Dl j v ⟨ws, bw⟩ hv ⟨k1, k2⟩
      rw [List.getElem?_map] at hv
      obtain ⟨y, hy, rfl⟩ := Option.map_eq_some_iff.mp hv
      have hj := (List.getElem?_eq_some_iff.mp hy).1
      dsimp only at k1 k2 ⊢
      k_extra "W"
      refine w_worth1 (by k_extra "mr") fun dw hdw => ?_
      k_extra "W"
      rename_i pt
      refine w_dats (vs := ws ++ [.ref pt]) (ds := (bw ++ [(y, dw)]).map boxD) (by rw [List.map_append]; exact DL.snoc (DL.mem (by k_extra "m")) (DV.mem (by show Fc.dat _ (.tuple [.str y, .int dw]) ∈ _; k_extra "m"))) ?_
      refine w_lcp (ws ++ [.ref pt], bw ++ [(y, dw)]) ⟨by dsimp only; rw [List.length_append, List.length_singleton, k1], by dsimp only; rw [List.map_append, k2, List.take_add_one, hy]; rfl⟩ rfl (by k_extra "t") (by omega) (by k_extra "sub") (by k_extra "dr")
    rintro lbw ⟨ws, bw⟩ ⟨k1, k2⟩
    dsimp only at k1 k2 ⊢
    rw [List.length_map, List.take_length] at k2
    refine w_freeze (p := lbw) (ds := bw.map boxD) (by k_extra "t") (DL.mem (by k_extra "m")) ?_
    k_extra "W"
    rename_i pt
    have hbwl : bw.length ≤ 6 := by
      have := congrArg List.length k2
      rw [List.length_map] at this
      omega
    exact fun H z => q _ [.dat (.ref pt) (Mach.mk name bw qs draws hs).data] _ H ⟨pt, ⟨name, bw, qs, draws, hs⟩, rfl, ⟨hbwl, hql, by dsimp only; omega, by dsimp only; omega, by dsimp only; rw [k2]; exact hyn, hqn, by dsimp only; rw [k2]; exact hyo, hqo, hno, by dsimp only; rw [k2]; exact g3⟩, rfl, rfl⟩ (z.fit (List.forall_mem_cons.mpr ⟨by show Fc.dat _ (.tuple [.str name, .list (bw.map boxD), .list (qs.map PyData.str), .list (draws.map PyData.int), .list (hs.map hearD)]) ∈ _; k_extra "m", by k_extra "sub"⟩) (by k_extra "dr"))
end
end Mo
namespace Mo
open PySem PySem.Spec PyProof.Rows L2
/-! ### promises whose exceptions have data; words of a text -/
def SpE {ι : Type} (K : PySem.W.Frag) (A : ι → List V) (Pr : ι → List Fc → Prop) (O : ι → List Vo) (Po : ι → V → List Fc → List Vo → Prop) (Ex : ι → Value → Option Addr → List Fc → List Vo → Prop) : Sp := fun vs H Q E => ∃ (i : ι) (Γ : List Fc) (S : List Vo), vs = A i ∧ Hg K Γ (O i ++ S) H ∧ Pr i Γ ∧
  (∀ v Γ' S' H', Po i v Γ' S' → Hg K (Γ' ++ Γ) (S' ++ S) H' → Q v H') ∧ ∀ e d Γ' S' H', Ex i e d Γ' S' → Hg K (Γ' ++ Γ) (S' ++ S) H' → E e d H'
section
variable {ι : Type} {K : PySem.W.Frag} {Γ : List Fc} {S R : List Vo} {A : ι → List V} {Pr : ι → List Fc → Prop} {O : ι → List Vo} {Po : ι → V → List Fc → List Vo → Prop} {Ex : ι → Value → Option Addr → List Fc → List Vo → Prop} {Q : VK} {E : XK} {vs : List V}
theorem w_doE (i : ι) (t : Takes' (O i) S R) (hp : Pr i Γ) (k : ∀ v Γ' S', Po i v Γ' S' → Wh K (Γ' ++ Γ) (S' ++ R) fun H => Q v H) (x : ∀ e d Γ' S', Ex i e d Γ' S' → Wh K (Γ' ++ Γ) (S' ++ R) fun H => E e d H) (hA : vs = A i := by rfl) :
    Wh K Γ S fun H => SpE K A Pr O Po Ex vs H Q E := fun _ z => ⟨i, Γ, R, hA, z.tk t, hp, fun v Γ' S' H' h z' => k v Γ' S' h H' z', fun e d Γ' S' H' h z' => x e d Γ' S' h H' z'⟩
end
theorem spl_len (S : List Nat) : ∀ (l : List Nat) (k : Nat) (acc : List Nat), (TL.spl S k acc l).length ≤ l.length + 1 ∧ ∀ p ∈ TL.spl S k acc l, p.length ≤ acc.length + l.length
  | [], k, acc => by
    rw [TL.spl_nil]
    exact ⟨Nat.le_refl _, fun p hp => by rw [List.mem_singleton.mp hp]; exact Nat.le_add_right _ _⟩
  | c :: r, 0, acc => by
    cases h : TL.pre S (c :: r) with
    | true =>
      rw [TL.spl_hit h]
      obtain ⟨h1, h2⟩ := spl_len S r (S.length - 1) []
      refine ⟨by rw [List.length_cons, List.length_cons]; omega, fun p hp => ?_⟩
      rcases List.mem_cons.mp hp with rfl | hp
      · exact Nat.le_add_right _ _
      · have := h2 p hp
        rw [List.length_nil] at this
        rw [List.length_cons]
        omega
    | false =>
      rw [TL.spl_miss h]
      obtain ⟨h1, h2⟩ := spl_len S r 0 (acc ++ [c])
      refine ⟨by rw [List.length_cons]; omega, fun p hp => ?_⟩
      have := h2 p hp
      rw [List.length_append, List.length_singleton] at this
      rw [List.length_cons]
      omega
  | c :: r, k + 1, acc => by
    obtain ⟨h1, h2⟩ := spl_len S r k acc
    show (TL.spl S k acc r).length ≤ _ ∧ ∀ p ∈ TL.spl S k acc r, _
    exact ⟨by rw [List.length_cons]; omega, fun p hp => by have := h2 p hp; rw [List.length_cons]; omega⟩
def blank : Str := " "
theorem tl_blank : TL.tl blank = [32] := by decide +kernel
theorem split_len (x : Str) : (Txt.split x blank).length ≤ (TL.tl x).length + 1 ∧ ∀ p ∈ Txt.split x blank, (TL.tl p).length ≤ (TL.tl x).length := by
  have h := TL.split_spl x blank (by rw [tl_blank]; decide) (TL.kind_ok (by decide +kernel))
  obtain ⟨h1, h2⟩ := spl_len (TL.tl blank) (TL.tl x) 0 []
  rw [← h] at h1 h2
  rw [List.length_map] at h1
  refine ⟨h1, fun p hp => ?_⟩
  have := h2 _ (List.mem_map_of_mem hp)
  rw [List.length_nil] at this
  omega
end Mo
namespace Mo
open PySem PySem.Spec PyProof.Rows L2
/-! ### words and numbers, written -/
inductive Wd where
  | i (n : Int)
  | s (x : Str)
  deriving DecidableEq
def Wd.v : Wd → V
  | .i n => .int n
  | .s x => .str x
def Wd.d : Wd → PyData
  | .i n => .int n
  | .s x => .str x
def Wd.t : Wd → Str
  | .i n => Str.ofString (toString n)
  | .s x => x
/-- not long -/
def Wd.Ok : Wd → Prop
  | .i n => Bd 128 n
  | .s x => x.length ≤ 900
theorem log_bdW {n : Int} (h : Bd 128 n) : n.natAbs.log2 < 1920 := by
  by_cases h0 : n.natAbs = 0
  · rw [h0]; decide
  · have := (Nat.log2_lt h0).mpr h
    omega
def rStrIS : List V → Hp → VK → Prop := fun xs H Q => (∃ i, xs = [.int i] ∧ i.natAbs.log2 < 1920 ∧ Q (.str (Str.ofString (toString i))) H) ∨ ∃ a, xs = [.str a] ∧ Q (.str a) H
theorem cr_strIS {X : Cx} : CallR X (.type "str") rStrIS := call_str_int.or SkE.call_str_str
theorem w_strW {K : PySem.W.Frag} {Γ : List Fc} {S : List Vo} {Q : VK} {w : Wd} (h : w.Ok) (k : Wh K Γ S fun H => Q (.str w.t) H) : Wh K Γ S fun H => rStrIS [w.v] H Q := fun H z => by
  cases w with
  | i n => exact .inl ⟨n, rfl, log_bdW h, k H z⟩
  | s x => exact .inr ⟨x, rfl, k H z⟩
def nl : Str := "\n"
theorem tl_nl : TL.tl nl = [10] := by decide +kernel
/-- words joined by blanks -/
def wrT (ws : List Wd) : Str := Txt.join blank (ws.map Wd.t)
/-- signs of a whole number -/
theorem tl_intW (n : Int) : TL.tl (Str.ofString (toString n)) = if n < 0 then 45 :: TL.numL n.natAbs else TL.numL n.natAbs := by
  cases n with
  | ofNat m =>
    rw [if_neg (by show ¬ ((m : Int) < 0); omega)]
    exact TL.tl_num m
  | negSucc m =>
    rw [if_pos (Int.negSucc_lt_zero m)]
    rw [TL.tl_ofString]
    show (("-" ++ toString (m + 1) : String)).toList.map Char.toNat = _
    rw [String.toList_append, List.map_append]
    have h := TL.tl_num (m + 1)
    rw [TL.tl_ofString] at h
    exact congrArg (45 :: ·) h
theorem Wd.Ok.len {w : Wd} (h : w.Ok) : w.t.length ≤ 900 := by
  cases w with
  | s x => exact h
  | i n =>
    have h : n.natAbs < 2 ^ 128 := h
    have hl := TL.numL_len (n := n.natAbs) (k := 40) (by decide) (Nat.lt_trans h (by decide))
    show (Str.ofString (toString n)).length ≤ 900
    rw [TL.len_tl, tl_intW]
    split
    · rw [List.length_cons]; omega
    · omega
end Mo
namespace Mo
open PySem PySem.Spec PyProof.Rows L2
/-! ### an exception with one own field made and raised -/
/-- what its __init__ does: self.f = y -/
def spNT (C : Addr) (f : Str) : Sp := fun vs H Q _ => ∃ a y, vs = [.ref a, y] ∧ H a = some (exo a C none) ∧ ∀ d, H d = none → d ≠ a → Q .non (upd (upd H d (exd d [(f, y)])) a (exo a C (some d)))
section
variable {X : Cx} {K : PySem.W.Frag} {o e : Expr} {es : List Expr} {to te : TE} {ta : TA} {f c : Str} {fs : List Str} {p p' pos : Pos} {k j : Nat} {W : WX} {ps : List Str} {sp : Sp}
theorem ps_ostK (hK : X.K = K) (ho : PE X o to) (he : PE X e te) (hs : swapsWith e (some (.Attribute o f p')) pos.line X.env = pure false := by rfl) : PS X (.Assign [.Attribute o f p'] e pos) (tOst K f to te) := hK ▸ ps_ost ho he hs
theorem mk_oexK (hK : X.K = K) (T : OexF X.K c fs) (bd : Binds X.K (fdA X.K (He.fAd X.K (c, some "__init__"))) ps []) (G : X.mg c = some (.ref (He.ga X.K c))) (F : OkM X.prog X.w X.K X.mg X.base k c "__init__" ps sp) (hr : Room j X.A) (tk : Takes X W) (ha : PA X (e :: es) ta) (hj : k + 1 ≤ j := by omega) (hg : Gl X c := by rfl)
    (hdb : (c == ("__debug__" : Str)) = false := by decide) (he : starEach (e :: es) X.env = (false, eval e X.env) :: starEach es X.env := by rfl) (hpl : (backTo pos (starEach es X.env)).any (·.1) = false := by rfl) :
    PMk X (.Call (.Name c p) (e :: es) [] pos) (tMkO (He.ga K c) sp [] ta) := hK ▸ pmk_oex T.c T.i T.t F (hr.mono hj) bd .nil (fun _ _ _ _ e s' I q => tk e s' (XE.of_call I (fun _ _ _ h => h.elim) q)) hg G ha hdb he hpl
end
section
variable {K : PySem.W.Frag} {Γ : List Fc} {S : List Vo} {Q : XK} {C : Addr} {f : Str} {y : V}
/-- C(y), its data at d -/
theorem w_mkO (k : ∀ d, Wh K Γ (own d (.xd [(f, y)]) :: S) fun H => Q (.ref C) (some d) H) : Wh K Γ S fun H1 => [y].length ≤ 1000 ∧ ∀ a, H1 a = none → spNT C f (.ref a :: ([y] ++ [])) (upd H1 a (exo a C none))
    (fun v H2 => v = .non ∧ ∃ (d : Addr) (fs : List (Str × V)), H2 a = some (exo a C (some d)) ∧ H2 d = some (exd d fs) ∧ H1 d = none ∧ Q (.ref C) (some d) (upd (del H2 a) d (.xd fs))) (fun _ _ _ => False) := fun H1 z => by
  refine ⟨(show (1 : Nat) ≤ 1000 by decide), fun a ha => ⟨a, y, rfl, upd_same, fun d hd hne => ⟨rfl, d, [(f, y)], upd_same, ?_, ?_, ?_⟩⟩⟩
  · rw [upd_ne hne]; exact upd_same
  · rw [upd_ne hne] at hd; exact hd
  · have h1 : H1 d = none := by rw [upd_ne hne] at hd; exact hd
    have e : upd (del (upd (upd (upd H1 a (exo a C none)) d (exd d [(f, y)])) a (exo a C (some d))) a) d (.xd [(f, y)]) = upd H1 d (.xd [(f, y)]) := by
      funext b
      by_cases hb : b = d
      · subst hb
        rw [upd_same, upd_same]
      · rw [upd_ne hb, upd_ne hb]
        by_cases hba : b = a
        · subst hba
          rw [del_same, ha]
        · rw [del_ne hba, upd_ne hba, upd_ne hb, upd_ne hba]
    rw [e]
    exact k d _ (z.new h1)
def mkOQ (C : Addr) (sp : Sp) (dvs : List V) (vs : List V) (H1 : Hp) (Q : XK) : Prop := vs.length ≤ 1000 ∧ ∀ a, H1 a = none → sp (.ref a :: (vs ++ dvs)) (upd H1 a (exo a C none))
    (fun v H2 => v = .non ∧ ∃ (d : Addr) (fs : List (Str × V)), H2 a = some (exo a C (some d)) ∧ H2 d = some (exd d fs) ∧ H1 d = none ∧ Q (.ref C) (some d) (upd (del H2 a) d (.xd fs))) (fun _ _ _ => False)
theorem w_tmkO {sp : Sp} {dvs : List V} {ta : TA} {σ : St} (k : Wh K Γ S fun H => ta σ H fun vs H1 => mkOQ C sp dvs vs H1 Q) : Wh K Γ S fun H => tMkO C sp dvs ta σ H Q := k
theorem w_mkO2 (k : ∀ d, Wh K Γ (own d (.xd [(f, y)]) :: S) fun H => Q (.ref C) (some d) H) : Wh K Γ S fun H1 => mkOQ C (spNT C f) [] [y] H1 Q := w_mkO k
end
end Mo
namespace Mo
open PySem PySem.Spec PyProof.Rows L2
/-! ### texts: signs, heads, numbers written -/
def rInSign : R2 := fun x y H Q => ∃ (c : Nat) (z : Str), x = .str ⟨#[c]⟩ ∧ y = .str z ∧ Q (.bl (decide (c ∈ z.cps.toList))) H
theorem op_inSign {X : Cx} : OpR X (compareOp .In) rInSign := op_in_sign
theorem cr_allK {X : Cx} {K : PySem.W.Frag} (hK : X.K = K) (hc : X.calm = true) : CallR X (.builtin "all") (rAll K) := hK ▸ cr_all hc
def rSws : V → List V → Hp → VK → Prop := fun x xs H Q => ∃ a b, x = .str a ∧ xs = [.str b] ∧ Q (.bl (Txt.startswith a b)) H
theorem mt_sws {X : Cx} : MtR X "str.startswith" rSws := mt_startswith
def rSpl : V → List V → Hp → VK → Prop := fun x xs H Q => ∃ a b, x = .str a ∧ xs = [.str b] ∧ (b.length == 0) = false ∧ a.length + 2 ≤ sizeLine ∧ rNewStrs (Txt.split a b) H Q
theorem mt_spl {X : Cx} : MtR X "str.split" rSpl := mt_split
def rIntS : List V → Hp → VK → Prop := fun xs H Q => ∃ a n, xs = [.str a] ∧ PySem.intText? a = some n ∧ a.length ≤ 640 ∧ Q (.int n) H
theorem cr_intS {X : Cx} : CallR X (.type "int") rIntS := call_int_str
def lcTxt (g : TG) (tt : TT) (te : TE) (vs : List Nat) (σ : St) (Q : VK) (x : V) (H : Hp) : Prop := ∃ z, x = .str z ∧ LcA g tt te vs σ Q H (Its z)
section
variable {K : PySem.W.Frag} {Γ : List Fc} {S : List Vo} {Q : VK} {σ : St} {g : TG} {tt : TT} {te tx : TE} {vs : List Nat} {ι : Type}
theorem w_chain {r r' : R2} {ta tb tc : TE} (k : Wh K Γ S fun H => ta σ H fun x H1 => tb σ H1 fun y H2 => r x y H2 fun z H3 => ∃ k, z = .bl k ∧ (if k = true then tc σ H3 fun w' H4 => r' y w' H4 Q else Q (.bl false) H3)) : Wh K Γ S fun H => tChain r r' ta tb tc σ H Q := k
theorem w_lcTxt (k : Wh K Γ S fun H => tx σ H fun x H1 => lcTxt g tt te vs σ Q x H1) : Wh K Γ S fun H => tLc (iStr tx) g tt te vs σ H Q := k
theorem w_lcS {z : Str} (k : Wh K Γ S fun H => LcA g tt te vs σ Q H (Its z)) : Wh K Γ S fun H => lcTxt g tt te vs σ Q (.str z) H := fun H y => ⟨z, rfl, k H y⟩
theorem w_inSign {c : Nat} {z : Str} (k : Wh K Γ S fun H => Q (.bl (decide (c ∈ TL.tl z))) H) : Wh K Γ S fun H => rInSign (.str ⟨#[c]⟩) (.str z) H Q := fun H y => ⟨c, z, rfl, rfl, k H y⟩
theorem w_lc_s (z : Str) (C : Nat → ι → Prop) (ac : Nat → ι → List V) (Γf : Nat → ι → List Fc) (Sf : Nat → ι → List Vo) (a0 : ι) (h0 : C 0 a0) (ha : ac 0 a0 = []) (hΓ : ∀ f ∈ Γf 0 a0, f ∈ Γ) (hS : Dr S (Sf 0 a0))
    (hs : ∀ Dl (i : Nat) c a, (TL.tl z)[i]? = some c → C i a → Wh K (Γf i a) (own Dl (.lst (ac i a)) :: Sf i a) fun H => g (.str ⟨#[c]⟩) (wipe σ vs) H fun σ2 H2 => wipe σ2 vs = wipe σ vs ∧ tt σ2 H2 fun b H3 =>
      if b = true then te σ2 H3 fun y H4 => ∃ acc, H4 Dl = some (.lst acc) ∧ acc.length < sizeLine ∧ NL K Dl (C (i + 1)) (ac (i + 1)) (Γf (i + 1)) (Sf (i + 1)) (upd H4 Dl (.lst (acc ++ [y]))) else NL K Dl (C (i + 1)) (ac (i + 1)) (Γf (i + 1)) (Sf (i + 1)) H3)
    (hd : ∀ Dl a, C (TL.tl z).length a → Wh K (Γf (TL.tl z).length a) (own Dl (.lst (ac (TL.tl z).length a)) :: Sf (TL.tl z).length a) fun H => Q (.ref Dl) H) : Wh K Γ S fun H => LcA g tt te vs σ Q H (Its z) := fun H zz Dl hD => by
  have hsz : z.cps.size = (TL.tl z).length := TL.len_tl z
  refine ⟨fun i m H => m = (TL.tl z).length - i ∧ i ≤ (TL.tl z).length ∧ NL K Dl (C i) (ac i) (Γf i) (Sf i) H, ⟨(TL.tl z).length, by simp, Nat.zero_le _, a0, h0, by rw [ha]; exact (zz.fit hΓ hS).new hD⟩, ?_⟩
  rintro i m H' ⟨rfl, hi, a, hC, z'⟩
  by_cases hlt : i < (TL.tl z).length
  · refine .inr ⟨(show i < z.cps.size by omega), NL K Dl (C (i + 1)) (ac (i + 1)) (Γf (i + 1)) (Sf (i + 1)), fun H'' p' => ⟨(TL.tl z).length - (i + 1), by omega, rfl, hlt, p'⟩, fun x H'' y => ?_⟩
    obtain ⟨rfl, c, hc, rfl⟩ := y
    exact hs Dl i c a (by show z.cps.toList[i]? = some c; rw [Array.getElem?_toList]; exact hc) hC H'' z'
  · have e : i = (TL.tl z).length := by omega
    subst e
    exact .inl ⟨(show z.cps.size ≤ (TL.tl z).length by omega), hd Dl a hC H' z'⟩
theorem w_all {p : Addr} {xs : List V} {bs : List Bool} (m : AtH K Γ S p (.lst xs)) (e : xs = bs.map V.bl) (k : Wh K Γ S fun H => Q (.bl (bs.all id)) H) : Wh K Γ S fun H => rAll K [.ref p] H Q := fun H z => ⟨p, bs, rfl, by rw [← e]; exact SqL.of (m H z), k H z⟩
end
open TL PySem.Builtin PySem.Builtin.Str PySem.StrLaws in
/-- x.startswith(y) -/
theorem sw_pre (x y : Str) : Txt.startswith x y = TL.pre (tl y) (tl x) := by
  have h1 := len_tl x
  have h2 := len_tl y
  show (decide (0 + y.length ≤ x.length) && subAt x y 0) = _
  rw [subAt_eq, h2]
  unfold pre
  show (decide (0 + (tl y).length ≤ x.length) && ((tl x).drop 0).take (tl y).length == tl y) = _
  rw [List.drop_zero]
  by_cases h : (tl y).length ≤ (tl x).length
  · rw [decide_eq_true (by omega), Bool.true_and]
  · rw [decide_eq_false (by omega), Bool.false_and]
    symm
    rw [beq_eq_false_iff_ne]
    intro e
    have := congrArg List.length e
    rw [List.length_take] at this
    omega
theorem tl_cutS (x : Str) (n : Nat) : TL.tl (cutS x (some (n : Int)) none) = (TL.tl x).drop n := by
  show (x.cps.toList.drop (HT.sIx x.length 0 (some (n : Int)))).take (x.length - HT.sIx x.length 0 (some (n : Int))) = x.cps.toList.drop n
  rw [HT.sIx_nat]
  have h : x.length = x.cps.toList.length := TL.len_tl x
  rcases Nat.le_total n x.length with h1 | h1
  · rw [Nat.min_eq_left h1, List.take_of_length_le (by rw [List.length_drop]; omega)]
  · rw [Nat.min_eq_right h1, List.drop_eq_nil_of_le (by omega), List.drop_eq_nil_of_le (by omega), List.take_nil]
section
variable {K : PySem.W.Frag} {Γ : List Fc} {S : List Vo} {Q : VK}
theorem w_intS {a : Str} {n : Int} (h : PySem.intText? a = some n) (hl : a.length ≤ 640) (k : Wh K Γ S fun H => Q (.int n) H) : Wh K Γ S fun H => rIntS [.str a] H Q := fun H z => ⟨a, n, rfl, h, hl, k H z⟩
end
section
variable {K : PySem.W.Frag} {Γ : List Fc} {S : List Vo} {Q : VK}
theorem w_sws {a b : Str} (k : Wh K Γ S fun H => Q (.bl (TL.pre (TL.tl b) (TL.tl a))) H) : Wh K Γ S fun H => rSws (.str a) [.str b] H Q := fun H z => ⟨a, b, rfl, rfl, by rw [sw_pre]; exact k H z⟩
theorem w_subS {z : Str} {j : Int} {c : Nat} (hl : (TL.tl z).length ≤ 100000) (e : atI (TL.tl z) j = some c) (k : Wh K Γ S fun H => Q (.str ⟨#[c]⟩) H) : Wh K Γ S fun H => rSub K (.str z) (.int j) H Q := fun H y => go_subS (by rw [sizeLine_eq, TL.len_tl z]; omega) e (k H y)
theorem w_slS {z : Str} {lo hi : Option Int} (hl : (TL.tl z).length ≤ 100000) (k : Wh K Γ S fun H => Q (.str (cutS z lo hi)) H) : Wh K Γ S fun H => rSli K (.str z) lo hi H Q := fun H y => .inr (.inr ⟨z, rfl, by rw [sizeLine_eq, TL.len_tl z]; omega, k H y⟩)
theorem w_lenT {z : Str} (hl : (TL.tl z).length ≤ 100000) (k : Wh K Γ S fun H => Q (.int ((TL.tl z).length : Int)) H) : Wh K Γ S fun H => rLenA K [.str z] H Q := w_lenS (by rw [TL.len_tl z]; exact hl) (by rw [TL.len_tl z]; exact k)
end
theorem w_addTx {K : PySem.W.Frag} {Γ : List Fc} {S : List Vo} {Q : VK} {a b : Str} (h : (TL.tl (a ++ b)).length ≤ 100000) (k : Wh K Γ S fun H => Q (.str (a ++ b)) H) : Wh K Γ S fun H => rAddA K (.str a) (.str b) H Q := w_addS (by rw [sizeLine_eq, TL.len_tl, TL.len_tl]; rw [TL.tl_append, List.length_append] at h; omega) k
end Mo
namespace Mo
open PySem PySem.Spec PyProof.Rows L2
/-! ### NoText, texts split -/
def noTextX (K : PySem.W.Frag) (n : Int) (e : Value) (d : Option Addr) (Γ' : List Fc) (S' : List Vo) : Prop := e = .ref (He.ga K "NoText") ∧ ∃ x, d = some x ∧ Γ' = [] ∧ S' = [own x (.xd [("line", .int n)])]
theorem w_spl {K : PySem.W.Frag} {Γ : List Fc} {S : List Vo} {Q : VK} {x y : Str} (h0 : (y.length == 0) = false) (hl : x.length ≤ 90000) (k : ∀ p, Wh K Γ (own p (.lst ((Txt.split x y).map V.str)) :: S) fun H => Q (.ref p) H) : Wh K Γ S fun H => rSpl (.str x) [.str y] H Q := fun H z => ⟨x, y, rfl, rfl, h0, by rw [sizeLine_eq]; omega, fun p hp => k p _ (z.new hp)⟩
/-- a told thing, or None -/
def OptD (v : V) (o : Option PyData) (Γ' : List Fc) : Prop := match o with
  | none => v = .non ∧ Γ' = []
  | some d => ∃ a, v = .ref a ∧ Γ' = [.dat (.ref a) d]
end Mo
namespace Mo
open PySem PySem.Spec PyProof.Rows L2
/-! ### words and numbers as data -/
def Wd.tup (ws : List Wd) : PyData := .tuple (ws.map Wd.d)
theorem dpa_wdv {K : PySem.W.Frag} {H : Hp} : ∀ ws : List Wd, DpAll K H (ws.map Wd.v) (ws.map Wd.d)
  | [] => .nil
  | .i n :: ws => .cons (.int n) (dpa_wdv ws)
  | .s x :: ws => .cons (.str x) (dpa_wdv ws)
theorem dpa_wds {K : PySem.W.Frag} {H : Hp} : ∀ {ws : List Wd} {vs : List V}, DpAll K H vs (ws.map Wd.d) → vs = ws.map Wd.v
  | [], _, .nil => rfl
  | .i n :: ws, _, .cons h t => by rw [dp_int h, dpa_wds t]; rfl
  | .s x :: ws, _, .cons h t => by rw [dp_str h, dpa_wds t]; rfl
theorem DL.wds {K : PySem.W.Frag} {Γ : List Fc} {ws : List Wd} : DL K Γ (ws.map Wd.v) (ws.map Wd.d) := fun _ _ => dpa_wdv ws
theorem wdv_flat : ∀ ws : List Wd, (ws.map Wd.v).all flatV = true
  | [] => rfl
  | .i _ :: ws => wdv_flat ws
  | .s _ :: ws => wdv_flat ws
theorem wdv_noN : ∀ ws : List Wd, inV .non (ws.map Wd.v) = false
  | [] => rfl
  | .i _ :: ws => wdv_noN ws
  | .s _ :: ws => wdv_noN ws
section
variable {K : PySem.W.Frag} {Γ : List Fc} {S S' : List Vo} {Q : VK} {A : Hp → Prop}
theorem w_listW {v : V} {ws : List Wd} (m : .dat v (Wd.tup ws) ∈ Γ) (k : ∀ l, Wh K Γ (own l (.lst (ws.map Wd.v)) :: S) fun H => Q (.ref l) H) : Wh K Γ S fun H => rListOf K [v] H Q := fun H z => by
  obtain ⟨a, xs, rfl, h1, h2⟩ := dp_tup (z.dat m)
  have e := dpa_wds h2
  subst e
  exact go_listT h1 fun l hl => k l _ (z.new hl)
theorem w_objW {a : Addr} {xs : List V} {ws : List Wd} (m : .obj a (.tup xs) ∈ Γ) (e : xs = ws.map Wd.v) (k : Wh K (.dat (.ref a) (Wd.tup ws) :: Γ) S A) : Wh K Γ S A := Wh.learn (f := .dat (.ref a) (Wd.tup ws)) (by subst e; exact DV.tup m DL.wds) k
theorem w_inTo {a : Addr} {x : V} {xs : List V} {b : Bool} (m : .obj a (.tup xs) ∈ Γ) (fx : flatV x = true) (fs : xs.all flatV = true) (e : inV x xs = b) (k : Wh K Γ S fun H => Q (.bl b) H) : Wh K Γ S fun H => rInA K x (.ref a) H Q := fun H z => .inr (.inl ⟨a, xs, rfl, .inr (SqT.of (z.obj m)), fx, fs, by rw [e]; exact k H z⟩)
end
end Mo
namespace Mo
open PySem PySem.Spec PyProof.Rows L2
/-! ### data that stands as a tree: lists of our own, tuples told -/
theorem map_snoc {α β : Type} {f : α → β} {l : List α} {x : α} : (l ++ [x]).map f = l.map f ++ [f x] := by rw [List.map_append]; rfl
inductive Tr where
  | wd (x : Wd)
  | dt (v : V) (d : PyData)
  | ls (p : Addr) (ts : List Tr)
  | tu (p : Addr) (ts : List Tr)
def Tr.v : Tr → V
  | .wd x => x.v
  | .dt v _ => v
  | .ls p _ => .ref p
  | .tu p _ => .ref p
mutual
def Tr.dat : Tr → PyData
  | .wd x => x.d
  | .dt _ d => d
  | .ls _ ts => .list (Tr.dats ts)
  | .tu _ ts => .tuple (Tr.dats ts)
def Tr.dats : List Tr → List PyData
  | [] => []
  | t :: ts => t.dat :: Tr.dats ts
end
mutual
def Tr.F : Tr → List Fc
  | .wd _ => []
  | .dt v d => [.dat v d]
  | .ls _ ts => Tr.FF ts
  | .tu p ts => .obj p (.tup (ts.map Tr.v)) :: Tr.FF ts
def Tr.FF : List Tr → List Fc
  | [] => []
  | t :: ts => t.F ++ Tr.FF ts
end
mutual
def Tr.S : Tr → Vo
  | .wd _ => []
  | .dt _ _ => []
  | .ls p ts => own p (.lst (ts.map Tr.v)) ++ Tr.SS ts
  | .tu _ ts => Tr.SS ts
def Tr.SS : List Tr → Vo
  | [] => []
  | t :: ts => t.S ++ Tr.SS ts
end
theorem Tr.dats_map : ∀ ts : List Tr, Tr.dats ts = ts.map Tr.dat
  | [] => by rw [Tr.dats, List.map_nil]
  | t :: ts => by rw [Tr.dats, Tr.dats_map ts, List.map_cons]
theorem Tr.SS_segs : ∀ ts : List Tr, Tr.SS ts = segsV Tr.S ts
  | [] => by rw [Tr.SS]; rfl
  | t :: ts => by rw [Tr.SS, Tr.SS_segs ts]; rfl
theorem Tr.FF_mem {f : Fc} : ∀ {ts : List Tr}, f ∈ Tr.FF ts ↔ ∃ t ∈ ts, f ∈ t.F
  | [] => by rw [Tr.FF]; simp
  | t :: ts => by rw [Tr.FF, List.mem_append, Tr.FF_mem (ts := ts)]; simp
section
variable {K : PySem.W.Frag} {G H : Hp}
mutual
theorem Tr.dp : ∀ (t : Tr) (L : Vo), (∀ f ∈ t.F, f.In K G) → Hd G H (t.S ++ L) → Dp K H t.v t.dat
  | .wd (.i n), _, _, _ => .int n
  | .wd (.s x), _, _, _ => .str x
  | .dt v d, _, hf, z => by
    have h : Dp K G v d := hf (.dat v d) (by rw [Tr.F]; exact List.mem_singleton.mpr rfl)
    rw [Tr.dat]
    exact dp_mono z.ex h
  | .ls p ts, L, hf, z => by
    rw [Tr.F] at hf
    rw [Tr.S, List.append_assoc] at z
    rw [Tr.dat]
    have hp : H p = some (.lst (ts.map Tr.v)) := z.eq List.mem_cons_self
    exact .lst (SqL.of hp) (Tr.dps ts L hf z.drop)
  | .tu p ts, L, hf, z => by
    rw [Tr.F] at hf
    rw [Tr.S] at z
    rw [Tr.dat]
    have hp : G p = some (.tup (ts.map Tr.v)) := hf (.obj p _) List.mem_cons_self
    exact .tup (SqT.of (z.ex _ _ hp)) (Tr.dps ts L (fun f m => hf f (List.mem_cons_of_mem _ m)) z)
theorem Tr.dps : ∀ (ts : List Tr) (L : Vo), (∀ f ∈ Tr.FF ts, f.In K G) → Hd G H (Tr.SS ts ++ L) → DpAll K H (ts.map Tr.v) (Tr.dats ts)
  | [], _, _, _ => by rw [Tr.dats]; exact .nil
  | t :: ts, L, hf, z => by
    rw [Tr.FF] at hf
    rw [Tr.SS, List.append_assoc] at z
    rw [Tr.dats, List.map_cons]
    refine .cons (Tr.dp t (Tr.SS ts ++ L) (fun f m => hf f (List.mem_append_left _ m)) z) (Tr.dps ts (t.S ++ L) (fun f m => hf f (List.mem_append_right _ m)) (z.perm ?_))
    rw [← List.append_assoc, ← List.append_assoc]
    exact List.Perm.append_right _ List.perm_append_comm
end
end
/-- the facts of a tree -/
def trF (K : PySem.W.Frag) (t : Tr) : Fc := .gen (fun G => ∀ f ∈ t.F, f.In K G) fun _ _ z h f m => Fc.mono z (h f m)
def trsF (K : PySem.W.Frag) (ts : List Tr) : Fc := .gen (fun G => ∀ f ∈ Tr.FF ts, f.In K G) fun _ _ z h f m => Fc.mono z (h f m)
section
variable {K : PySem.W.Frag} {Γ : List Fc} {S R S0 : List Vo} {A : Hp → Prop} {t : Tr} {ts : List Tr} {p : Addr}
theorem dpH_tr (m : trF K t ∈ Γ) (n : Take t.S S R) : ∀ H, Hg K Γ S H → Dp K H t.v t.dat := fun H z => by
  obtain ⟨G, a, b⟩ := z.tk1 n
  exact Tr.dp t R.flatten (b _ m) a
theorem dpH_trs {p : Addr} (m : trsF K ts ∈ Γ) (h : own p (.lst (ts.map Tr.v)) ∈ S) (n : Take (Tr.SS ts) S R) : ∀ H, Hg K Γ S H → Dp K H (.ref p) (.list (ts.map Tr.dat)) := fun H z => by
  have hp := z.own h
  obtain ⟨G, a, b⟩ := z.tk1 n
  rw [← Tr.dats_map]
  exact .lst (SqL.of hp) (Tr.dps ts R.flatten (b _ m) a)
/-- facts of trees learnt -/
theorem w_trF (h : ∀ f ∈ t.F, f ∈ Γ) (k : Wh K (trF K t :: Γ) S A) : Wh K Γ S A := Wh.learn (f := trF K t) (fun _ b => fun f m => b f (h f m)) k
theorem w_trsNil (k : Wh K (trsF K [] :: Γ) S A) : Wh K Γ S A := Wh.learn (f := trsF K []) (fun _ _ => fun f m => by rw [Tr.FF] at m; exact nomatch m) k
theorem ff_app (as bs : List Tr) : ∀ f, f ∈ Tr.FF (as ++ bs) ↔ f ∈ Tr.FF as ∨ f ∈ Tr.FF bs := fun f => by
  rw [Tr.FF_mem, Tr.FF_mem, Tr.FF_mem]
  constructor
  · rintro ⟨t, h, k⟩
    rcases List.mem_append.mp h with h | h
    · exact .inl ⟨t, h, k⟩
    · exact .inr ⟨t, h, k⟩
  · rintro (⟨t, h, k⟩ | ⟨t, h, k⟩)
    · exact ⟨t, List.mem_append_left _ h, k⟩
    · exact ⟨t, List.mem_append_right _ h, k⟩
theorem w_trsSnoc (m : trsF K ts ∈ Γ) (n : trF K t ∈ Γ) (k : Wh K (trsF K (ts ++ [t]) :: Γ) S A) : Wh K Γ S A := Wh.learn (f := trsF K (ts ++ [t])) (fun G b => by
  intro f hf
  rcases (ff_app ts [t] f).mp hf with h | h
  · exact (b _ m : ∀ f ∈ Tr.FF ts, f.In K G) f h
  · obtain ⟨u, hu, hk⟩ := Tr.FF_mem.mp h
    rw [List.mem_singleton.mp hu] at hk
    exact (b _ n : ∀ f ∈ t.F, f.In K G) f hk) k
theorem w_trsGet (m : trsF K ts ∈ Γ) (h : t ∈ ts) (k : Wh K (trF K t :: Γ) S A) : Wh K Γ S A := Wh.learn (f := trF K t) (fun G b => fun f hf => (b _ m : ∀ f ∈ Tr.FF ts, f.In K G) f (Tr.FF_mem.mpr ⟨t, h, hf⟩)) k
theorem w_trL (m : trsF K ts ∈ Γ) (k : Wh K (trF K (.ls p ts) :: Γ) S A) : Wh K Γ S A := Wh.learn (f := trF K (.ls p ts)) (fun G b => fun f hf => by rw [Tr.F] at hf; exact (b _ m : ∀ f ∈ Tr.FF ts, f.In K G) f hf) k
theorem w_trT (m : trsF K ts ∈ Γ) (n : .obj p (.tup (ts.map Tr.v)) ∈ Γ) (k : Wh K (trF K (.tu p ts) :: Γ) S A) : Wh K Γ S A := Wh.learn (f := trF K (.tu p ts)) (fun G b => fun f hf => by
  rw [Tr.F] at hf
  rcases List.mem_cons.mp hf with e | hf
  · rw [e]; exact b _ n
  · exact (b _ m : ∀ f ∈ Tr.FF ts, f.In K G) f hf) k
theorem w_trLo (m : trF K (.ls p ts) ∈ Γ) (k : Wh K (trsF K ts :: Γ) S A) : Wh K Γ S A := Wh.learn (f := trsF K ts) (fun G b => fun f hf => (b _ m : ∀ f ∈ (Tr.ls p ts).F, f.In K G) f (by rw [Tr.F]; exact hf)) k
theorem w_trTo (m : trF K (.tu p ts) ∈ Γ) (k : Wh K (.obj p (.tup (ts.map Tr.v)) :: trsF K ts :: Γ) S A) : Wh K Γ S A := by
  refine Wh.learn (f := trsF K ts) (fun G b => fun f hf => (b _ m : ∀ f ∈ (Tr.tu p ts).F, f.In K G) f (by rw [Tr.F]; exact List.mem_cons_of_mem _ hf)) ?_
  exact Wh.learn (f := .obj p (.tup (ts.map Tr.v))) (fun G b => (b _ (List.mem_cons_of_mem _ m) : ∀ f ∈ (Tr.tu p ts).F, f.In K G) _ (by rw [Tr.F]; exact List.mem_cons_self)) k
theorem w_trD {v : V} {d : PyData} (m : trF K (.dt v d) ∈ Γ) (k : Wh K (.dat v d :: Γ) S A) : Wh K Γ S A := Wh.learn (f := .dat v d) (fun G b => (b _ m : ∀ f ∈ (Tr.dt v d).F, f.In K G) _ (by rw [Tr.F]; exact List.mem_singleton.mpr rfl)) k
theorem w_trDm {v : V} {d : PyData} (m : .dat v d ∈ Γ) (k : Wh K (trF K (.dt v d) :: Γ) S A) : Wh K Γ S A := w_trF (fun f hf => by rw [Tr.F] at hf; rw [List.mem_singleton.mp hf]; exact m) k
theorem w_trW {x : Wd} (k : Wh K (trF K (.wd x) :: Γ) S A) : Wh K Γ S A := w_trF (fun f hf => by rw [Tr.F] at hf; exact nomatch hf) k
/-- segments opened and closed -/
theorem w_trOpenL (m : Take (Tr.ls p ts).S S R) (k : Wh K Γ (own p (.lst (ts.map Tr.v)) :: segsV Tr.S ts :: R) A) : Wh K Γ S A := fun H z => k H ((z.tk1 m).cong (by
  rw [List.flatten_cons, List.flatten_cons, List.flatten_cons, Tr.S, Tr.SS_segs, List.append_assoc]))
theorem Dr.trL (h : Dr S0 (own p (.lst (ts.map Tr.v)) :: segsV Tr.S ts :: R)) : Dr S0 ((Tr.ls p ts).S :: R) := by
  obtain ⟨J, j⟩ := h
  refine ⟨J, j.trans ?_⟩
  rw [List.flatten_append, List.flatten_append, List.flatten_cons, List.flatten_cons, List.flatten_cons, Tr.S, Tr.SS_segs, List.append_assoc]
theorem trT_S : (Tr.tu p ts).S = segsV Tr.S ts := by rw [Tr.S, Tr.SS_segs]
end
end Mo
namespace Mo
open PySem PySem.Spec PyProof.Rows L2
/-! ### trees walked: loops over told tuples, what kind a thing is -/
inductive SpD : Nat → PyData → Prop where
  | int {n i} : SpD (n + 1) (.int i)
  | str {n x} : SpD (n + 1) (.str x)
  | tup {n ds} (h : ∀ d ∈ ds, SpD n d) : SpD (n + 1) (.tuple ds)
inductive SpOk : Nat → Tr → Prop where
  | wd {n x} : SpOk (n + 1) (.wd x)
  | dt {n v d} (h : SpD n d) : SpOk n (.dt v d)
  | ls {n p ts} (h : ∀ t ∈ ts, SpOk n t) (l : ts.length ≤ 10000) : SpOk (n + 1) (.ls p ts)
  | tu {n p ts} (h : ∀ t ∈ ts, SpOk n t) : SpOk (n + 1) (.tu p ts)
theorem SpD.up : ∀ {n : Nat} {d : PyData}, SpD n d → ∀ {m}, n ≤ m → SpD m d
  | _, _, .int, m + 1, _ => .int
  | _, _, .str, m + 1, _ => .str
  | n + 1, _, .tup h, m + 1, k => .tup fun d hd => SpD.up (h d hd) (by omega)
  | _, _, .int, 0, h => absurd h (by omega)
  | _, _, .str, 0, h => absurd h (by omega)
  | _, _, .tup _, 0, h => absurd h (by omega)
theorem SpOk.up {n : Nat} {t : Tr} (h : SpOk n t) : ∀ {m}, n ≤ m → SpOk m t := by
  induction h with
  | wd => intro m k; cases m with
    | zero => omega
    | succ m => exact .wd
  | dt h => intro m k; exact .dt (h.up k)
  | ls _ l ih => intro m k; cases m with
    | zero => omega
    | succ m => exact .ls (fun t ht => ih t ht (by omega)) l
  | tu _ ih => intro m k; cases m with
    | zero => omega
    | succ m => exact .tu fun t ht => ih t ht (by omega)
theorem Take.nil {S : List Vo} : Take [] S S := List.Perm.refl _
section
variable {K : PySem.W.Frag} {Γ : List Fc} {S R S0 : List Vo} {σ : St} {D : Ends} {g : TG} {tw : TS} {Q : VK} {ι : Type} {A : Hp → Prop}
theorem w_isi_it {a : Int} (k : Wh K Γ S fun H => Q (.bl false) H) : Wh K Γ S fun H => rIsi K [.int a, .ty "tuple"] H Q := fun H z => go_isi (.ty _) (.base (.int _)) (kit_ty (by decide +kernel)) (k H z)
theorem w_isi_tl {a : Addr} {xs : List V} (m : .obj a (.tup xs) ∈ Γ) (k : Wh K Γ S fun H => Q (.bl false) H) : Wh K Γ S fun H => rIsi K [.ref a, .ty "list"] H Q := fun H z => go_isi (.ty _) (.base (.tup (z.obj m))) (kit_ty (by decide +kernel)) (k H z)
theorem w_isi_lt {a : Addr} {xs : List V} (m : AtH K Γ S a (.lst xs)) (k : Wh K Γ S fun H => Q (.bl false) H) : Wh K Γ S fun H => rIsi K [.ref a, .ty "tuple"] H Q := fun H z => go_isi (.ty _) (.base (.lst (m H z))) (kit_ty (by decide +kernel)) (k H z)
theorem w_isi_tlD {a : Addr} {ds : List PyData} (m : .dat (.ref a) (.tuple ds) ∈ Γ) (k : Wh K Γ S fun H => Q (.bl false) H) : Wh K Γ S fun H => rIsi K [.ref a, .ty "list"] H Q := fun H z => by
  obtain ⟨b, xs, e, h1, h2⟩ := dp_tup (z.dat m)
  cases e
  exact go_isi (.ty _) (tyx_t h1) (kit_ty (by decide +kernel)) (k H z)
theorem w_forO {p : Addr} {xs : List V} (m : .obj p (.tup xs) ∈ Γ) (k : Wh K Γ S fun H => LoopX g tw D σ H (Itt K p)) : Wh K Γ S fun H => forSeq K g tw D σ (.ref p) H := fun H z => ⟨p, rfl, .inr ⟨⟨xs, SqT.of (z.obj m)⟩, k H z⟩⟩
theorem w_forDT {p : Addr} {ds : List PyData} (m : .dat (.ref p) (.tuple ds) ∈ Γ) (k : Wh K Γ S fun H => LoopX g tw D σ H (Itt K p)) : Wh K Γ S fun H => forSeq K g tw D σ (.ref p) H := fun H z => by
  obtain ⟨a, xs, ea, h1, h2⟩ := dp_tup (z.dat m)
  cases ea
  exact ⟨p, rfl, .inr ⟨⟨xs, h1⟩, k H z⟩⟩
/-- over a tuple that is told -/
theorem w_loop_o {p : Addr} (xs : List V) (C : Nat → ι → Prop) (sg : Nat → ι → St) (Γf : Nat → ι → List Fc) (Sf : Nat → ι → List Vo) (a0 : ι) (h0 : C 0 a0) (hσ : σ = sg 0 a0) (hΓ : ∀ f ∈ Γf 0 a0, f ∈ Γ) (hS : Dr S (Sf 0 a0))
    (hl : ∀ i a, .obj p (.tup xs) ∈ Γf i a)
    (hs : ∀ (i : Nat) x a, xs[i]? = some x → C i a → Wh K (Γf i a) (Sf i a) fun H => g x (sg i a) H fun σ2 H2 => tw { D with nx := NX K (C (i + 1)) (sg (i + 1)) (Γf (i + 1)) (Sf (i + 1)), ct := NX K (C (i + 1)) (sg (i + 1)) (Γf (i + 1)) (Sf (i + 1)), bk := D.nx } σ2 H2)
    (hd : ∀ a, C xs.length a → Wh K (Γf xs.length a) (Sf xs.length a) fun H => D.nx (sg xs.length a) H) : Wh K Γ S fun H => LoopX g tw D σ H (Itt K p) := fun H z =>
  loop_t (xs := xs) (fun i => NX K (C i) (sg i) (Γf i) (Sf i)) (w_again a0 h0 hσ hΓ hS H z) (fun i σ' H' _ ⟨a, hC, hσ, z⟩ => SqT.of (z.obj (hl i a))) (fun i x σ' H' hi ⟨a, hC, hσ, z⟩ => by subst hσ; exact hs i x a hi hC H' z) fun σ' H' ⟨a, hC, hσ, z⟩ => by subst hσ; exact hd a hC H' z
theorem go_QT {p : Addr} {ds : List PyData} {xs : List V} {G H : Hp} {i : Nat} {v : V} (h : Dp K G (.ref p) (.tuple ds)) (e : Ext G H) (q : ∀ xs, SqT K H p xs → xs[i]? = some v) {d : PyData} (hd : ds[i]? = some d) : Dp K G v d := by
  obtain ⟨a, ys, ea, h1, h2⟩ := dp_tup h
  cases ea
  obtain ⟨w, e1, e2⟩ := dpa_get h2 hd
  have := (q ys (ext_t e h1)).symm.trans e1
  cases this
  exact e2
/-- over a tuple that is data -/
theorem w_loop_DT {p : Addr} (ds : List PyData) (C : Nat → ι → Prop) (sg : Nat → ι → St) (Γf : Nat → ι → List Fc) (Sf : Nat → ι → List Vo) (a0 : ι) (h0 : C 0 a0) (hσ : σ = sg 0 a0) (hΓ : ∀ f ∈ Γf 0 a0, f ∈ Γ) (hS : Dr S (Sf 0 a0))
    (hl : ∀ i a, .dat (.ref p) (.tuple ds) ∈ Γf i a)
    (hs : ∀ (i : Nat) d v a, ds[i]? = some d → C i a → Wh K (.dat v d :: Γf i a) (Sf i a) fun H => g v (sg i a) H fun σ2 H2 => tw { D with nx := NX K (C (i + 1)) (sg (i + 1)) (Γf (i + 1)) (Sf (i + 1)), ct := NX K (C (i + 1)) (sg (i + 1)) (Γf (i + 1)) (Sf (i + 1)), bk := D.nx } σ2 H2)
    (hd : ∀ a, C ds.length a → Wh K (Γf ds.length a) (Sf ds.length a) fun H => D.nx (sg ds.length a) H) : Wh K Γ S fun H => LoopX g tw D σ H (Itt K p) := fun H z => by
  refine ⟨fun i m σ H => m = ds.length - i ∧ i ≤ ds.length ∧ NX K (C i) (sg i) (Γf i) (Sf i) σ H, ⟨ds.length, by simp, Nat.zero_le _, w_again a0 h0 hσ hΓ hS H z⟩, ?_⟩
  rintro i m σ' H' ⟨rfl, hi, a, hC, hσ, z'⟩
  subst hσ
  obtain ⟨G, z1, z2⟩ := id z'
  obtain ⟨b, ys, ea, t1, t2⟩ := dp_tup (z2 _ (hl i a) : Dp K G (.ref p) (.tuple ds))
  cases ea
  have hlen := dpa_len t2
  by_cases hlt : i < ds.length
  · obtain ⟨v, e1, e2⟩ := dpa_get t2 (List.getElem?_eq_getElem hlt)
    refine .inr ⟨⟨ys, v, ext_t z1.ex t1, e1⟩, NX K (C (i + 1)) (sg (i + 1)) (Γf (i + 1)) (Sf (i + 1)), fun σ'' H'' p' => ⟨ds.length - (i + 1), by omega, rfl, hlt, p'⟩, fun x H'' y => ?_⟩
    obtain ⟨rfl, y2⟩ := y
    exact hs i _ x a (List.getElem?_eq_getElem hlt) hC H'' ⟨G, z1, cons_facts (f := .dat x _) (go_QT (xs := ys) (z2 _ (hl i a)) z1.ex y2 (List.getElem?_eq_getElem hlt)) z2⟩
  · have e : i = ds.length := by omega
    subst e
    exact .inl ⟨⟨ys, ext_t z1.ex t1, by omega⟩, hd a hC H' z'⟩
theorem w_segCons {t : Tr} {ts : List Tr} (k : Wh K Γ (t.S :: segsV Tr.S ts :: R) A) : Wh K Γ (segsV Tr.S (t :: ts) :: R) A := fun H z => k H (z.cong (by
  have e : segsV Tr.S (t :: ts) = t.S ++ segsV Tr.S ts := rfl
  rw [List.flatten_cons, List.flatten_cons, List.flatten_cons, e, List.append_assoc]))
theorem w_intD {v : V} {i : Int} (m : .dat v (.int i) ∈ Γ) (k : v = .int i → Wh K Γ S A) : Wh K Γ S A := fun H z => k (dp_int (z.dat m)) H z
theorem w_tupDr {v : V} {ds : List PyData} (m : .dat v (.tuple ds) ∈ Γ) (k : ∀ a, v = .ref a → Wh K Γ S A) : Wh K Γ S A := fun H z => by
  obtain ⟨a, xs, rfl, _⟩ := dp_tup (z.dat m)
  exact k a rfl H z
theorem dpH_t2 {t : Addr} {x y : V} {d e : PyData} (m : .obj t (.tup [x, y]) ∈ Γ) (hx : ∀ H, Hg K Γ S H → Dp K H x d) (hy : ∀ H, Hg K Γ S H → Dp K H y e) : ∀ H, Hg K Γ S H → Dp K H (.ref t) (.tuple [d, e]) := fun H z => .tup (SqT.of (z.obj m)) (.cons (hx H z) (.cons (hy H z) .nil))
end
end Mo
namespace Mo
open PySem PySem.Spec PyProof.Rows L2
/-! ### data copied: trees of lists and tuples -/
inductive Cp : Nat → Tr → Prop where
  | wd {n x} : Cp (n + 1) (.wd x)
  | ls {n p ts} (h : ∀ t ∈ ts, Cp n t) (l : ts.length ≤ 1000) : Cp (n + 1) (.ls p ts)
  | tu {n p ts} (h : ∀ t ∈ ts, Cp n t) (l : ts.length ≤ 1000) : Cp (n + 1) (.tu p ts)
theorem Cp.sp {n : Nat} {t : Tr} (h : Cp n t) : SpOk n t := by
  induction h with
  | wd => exact .wd
  | ls _ l ih => exact .ls ih (by omega)
  | tu _ _ ih => exact .tu ih
inductive Pd : Nat → PyData → Prop where
  | int {n i} : Pd (n + 1) (.int i)
  | str {n x} : Pd (n + 1) (.str x)
  | lst {n ds} (h : ∀ d ∈ ds, Pd n d) (l : ds.length ≤ 1000) : Pd (n + 1) (.list ds)
  | tup {n ds} (h : ∀ d ∈ ds, Pd n d) (l : ds.length ≤ 1000) : Pd (n + 1) (.tuple ds)
theorem Pd.up : ∀ {n : Nat} {d : PyData}, Pd n d → ∀ {m}, n ≤ m → Pd m d
  | _, _, .int, m + 1, _ => .int
  | _, _, .str, m + 1, _ => .str
  | n + 1, _, .lst h l, m + 1, k => .lst (fun d hd => Pd.up (h d hd) (by omega)) l
  | n + 1, _, .tup h l, m + 1, k => .tup (fun d hd => Pd.up (h d hd) (by omega)) l
  | _, _, .int, 0, h => absurd h (by omega)
  | _, _, .str, 0, h => absurd h (by omega)
  | _, _, .lst _ _, 0, h => absurd h (by omega)
  | _, _, .tup _ _, 0, h => absurd h (by omega)
/-- a copy's tree has its data's shape -/
theorem Cp.int {n : Nat} {t : Tr} {i : Int} (h : Cp n t) (e : t.dat = .int i) : t = .wd (.i i) := by
  cases h with
  | wd =>
    rename_i x
    cases x with
    | i j => rw [Tr.dat] at e; cases e; rfl
    | s j => rw [Tr.dat] at e; cases e
  | ls => rw [Tr.dat] at e; cases e
  | tu => rw [Tr.dat] at e; cases e
theorem Cp.str {n : Nat} {t : Tr} {i : Str} (h : Cp n t) (e : t.dat = .str i) : t = .wd (.s i) := by
  cases h with
  | wd =>
    rename_i x
    cases x with
    | i j => rw [Tr.dat] at e; cases e
    | s j => rw [Tr.dat] at e; cases e; rfl
  | ls => rw [Tr.dat] at e; cases e
  | tu => rw [Tr.dat] at e; cases e
theorem Cp.lst {n : Nat} {t : Tr} {ds : List PyData} (h : Cp n t) (e : t.dat = .list ds) : ∃ p ts, t = .ls p ts ∧ ts.map Tr.dat = ds ∧ ∀ u ∈ ts, Cp (n - 1) u := by
  cases h with
  | wd =>
    rename_i x
    cases x with
    | i j => rw [Tr.dat] at e; cases e
    | s j => rw [Tr.dat] at e; cases e
  | ls h l => rw [Tr.dat, Tr.dats_map] at e; cases e; exact ⟨_, _, rfl, rfl, h⟩
  | tu => rw [Tr.dat] at e; cases e
theorem Cp.tup {n : Nat} {t : Tr} {ds : List PyData} (h : Cp n t) (e : t.dat = .tuple ds) : ∃ p ts, t = .tu p ts ∧ ts.map Tr.dat = ds ∧ ∀ u ∈ ts, Cp (n - 1) u := by
  cases h with
  | wd =>
    rename_i x
    cases x with
    | i j => rw [Tr.dat] at e; cases e
    | s j => rw [Tr.dat] at e; cases e
  | ls h l => rw [Tr.dat] at e; cases e
  | tu h l => rw [Tr.dat, Tr.dats_map] at e; cases e; exact ⟨_, _, rfl, rfl, h⟩
section
variable {K : PySem.W.Frag} {Γ : List Fc} {S R S0 : List Vo} {σ : St} {D : Ends} {g : TG} {tt : TT} {te : TE} {vs : List Nat} {Q : VK} {ι : Type} {A : Hp → Prop}
theorem w_lstDr {v : V} {ds : List PyData} (m : .dat v (.list ds) ∈ Γ) (k : ∀ a, v = .ref a → Wh K Γ S A) : Wh K Γ S A := fun H z => by
  obtain ⟨a, xs, e, _⟩ := dp_lst (z.dat m)
  exact k a e H z
theorem tyx_l {H : Hp} {a : Addr} {xs : List V} (h : SqL K H a xs) : TyX K H (.ref a) (.type "list") := by
  rcases h with (h | ⟨o, h⟩) | ⟨o, its, n, h1, h2, _⟩
  · exact .base (.lst h)
  · exact .base (.frz h)
  · exact .kList h1 h2
theorem w_isi_lD {a : Addr} {ds : List PyData} (m : .dat (.ref a) (.list ds) ∈ Γ) (k : Wh K Γ S fun H => Q (.bl true) H) : Wh K Γ S fun H => rIsi K [.ref a, .ty "list"] H Q := fun H z => by
  obtain ⟨b, xs, e, h1, h2⟩ := dp_lst (z.dat m)
  cases e
  exact go_isi (.ty _) (tyx_l h1) (kit_ty (by decide +kernel)) (k H z)
theorem w_lcDT {p : Addr} {ds : List PyData} (m : .dat (.ref p) (.tuple ds) ∈ Γ) (k : Wh K Γ S fun H => LcA g tt te vs σ Q H (Itt K p)) : Wh K Γ S fun H => lcSeq K g tt te vs σ Q (.ref p) H := fun H z => by
  obtain ⟨a, xs, ea, h1, h2⟩ := dp_tup (z.dat m)
  cases ea
  exact ⟨p, rfl, .inr ⟨⟨xs, h1⟩, k H z⟩⟩
theorem w_lc_DT {p : Addr} (ds : List PyData) (C : Nat → ι → Prop) (ac : Nat → ι → List V) (Γf : Nat → ι → List Fc) (Sf : Nat → ι → List Vo) (a0 : ι) (h0 : C 0 a0) (ha : ac 0 a0 = []) (hΓ : ∀ f ∈ Γf 0 a0, f ∈ Γ) (hS : Dr S (Sf 0 a0))
    (hl : ∀ i a, .dat (.ref p) (.tuple ds) ∈ Γf i a)
    (hs : ∀ Dl (i : Nat) d v a, ds[i]? = some d → C i a → Wh K (.dat v d :: Γf i a) (own Dl (.lst (ac i a)) :: Sf i a) fun H => g v (wipe σ vs) H fun σ2 H2 => wipe σ2 vs = wipe σ vs ∧ tt σ2 H2 fun b H3 =>
      if b = true then te σ2 H3 fun y H4 => ∃ acc, H4 Dl = some (.lst acc) ∧ acc.length < sizeLine ∧ NL K Dl (C (i + 1)) (ac (i + 1)) (Γf (i + 1)) (Sf (i + 1)) (upd H4 Dl (.lst (acc ++ [y]))) else NL K Dl (C (i + 1)) (ac (i + 1)) (Γf (i + 1)) (Sf (i + 1)) H3)
    (hd : ∀ Dl a, C ds.length a → Wh K (Γf ds.length a) (own Dl (.lst (ac ds.length a)) :: Sf ds.length a) fun H => Q (.ref Dl) H) : Wh K Γ S fun H => LcA g tt te vs σ Q H (Itt K p) := fun H z Dl hD => by
  refine ⟨fun i m H => m = ds.length - i ∧ i ≤ ds.length ∧ NL K Dl (C i) (ac i) (Γf i) (Sf i) H, ⟨ds.length, by simp, Nat.zero_le _, a0, h0, by rw [ha]; exact (z.fit hΓ hS).new hD⟩, ?_⟩
  rintro i m H' ⟨rfl, hi, a, hC, z'⟩
  obtain ⟨G, z1, z2⟩ := id z'
  obtain ⟨b, ys, ea, t1, t2⟩ := dp_tup (z2 _ (hl i a) : Dp K G (.ref p) (.tuple ds))
  cases ea
  have hlen := dpa_len t2
  by_cases hlt : i < ds.length
  · obtain ⟨v, e1, e2⟩ := dpa_get t2 (List.getElem?_eq_getElem hlt)
    refine .inr ⟨⟨ys, v, ext_t z1.ex t1, e1⟩, NL K Dl (C (i + 1)) (ac (i + 1)) (Γf (i + 1)) (Sf (i + 1)), fun H'' p' => ⟨ds.length - (i + 1), by omega, rfl, hlt, p'⟩, fun x H'' y => ?_⟩
    obtain ⟨rfl, y2⟩ := y
    exact hs Dl i _ x a (List.getElem?_eq_getElem hlt) hC H'' ⟨G, z1, cons_facts (f := .dat x _) (go_QT (xs := ys) (z2 _ (hl i a)) z1.ex y2 (List.getElem?_eq_getElem hlt)) z2⟩
  · have e : i = ds.length := by omega
    subst e
    exact .inl ⟨⟨ys, ext_t z1.ex t1, by omega⟩, hd Dl a hC H' z'⟩
end
end Mo
namespace Mo
open PySem PySem.Spec PyProof.Rows L2
/-! ### tuples put together, made of lists; lists of texts beside others -/
theorem op_catTK {X : Cx} {K : PySem.W.Frag} (hK : X.K = K) : OpR X (binaryOp .Add) (rCatA K) := hK ▸ op_catA
def sqF (K : PySem.W.Frag) (a : Addr) (xs : List V) : Fc := .gen (fun G => SqT K G a xs) fun _ _ e h => ext_t e h
section
variable {K : PySem.W.Frag} {Γ : List Fc} {S S' : List Vo} {Q : VK} {A : Hp → Prop}
theorem w_catS {a b : Addr} {xs ys : List V} (m : sqF K a xs ∈ Γ) (n : .obj b (.tup ys) ∈ Γ) (h0 : xs ≠ []) (h1 : ys ≠ []) (hl : xs.length + ys.length ≤ 100000) (k : ∀ p, Wh K (.obj p (.tup (xs ++ ys)) :: Γ) S fun H => Q (.ref p) H) : Wh K Γ S fun H => rCatA K (.ref a) (.ref b) H Q := fun H z =>
  ⟨a, b, xs, ys, rfl, rfl, z.fact m, SqT.of (z.obj n), by rw [sizeLine_eq]; omega, fun e => absurd e h0, fun _ e => absurd e h1, fun _ _ p hp => k p _ (z.fix hp)⟩
/-- a told tuple of five -/
theorem w_hap5 {v : V} {h : Hap} (m : .dat v h.data ∈ Γ) (k : ∀ a key, v = .ref a → Wh K (.dat key h.keyD :: sqF K a [key, .int h.to, .str h.sign, .int h.g, .int h.h] :: Γ) S A) : Wh K Γ S A := fun H z => by
  obtain ⟨G, x, y⟩ := id z
  obtain ⟨a, xs, rfl, h1, h2⟩ := dp_tup (y _ m : Dp K G v h.data)
  cases h2 with
  | cons k1 h2 =>
    cases h2 with
    | cons k2 h2 =>
      cases h2 with
      | cons k3 h2 =>
        cases h2 with
        | cons k4 h2 =>
          cases h2 with
          | cons k5 h2 =>
            cases h2
            rw [dp_int k2, dp_str k3, dp_int k4, dp_int k5] at h1
            exact k a _ rfl H ⟨G, x, cons_facts (f := .dat _ h.keyD) k1 (cons_facts (f := sqF K a _) h1 y)⟩
/-- tuple(list) -/
theorem w_tupL {p : Addr} {xs : List V} (m : AtH K Γ S p (.lst xs)) (k : ∀ l, Wh K (.obj l (.tup xs) :: Γ) S fun H => Q (.ref l) H) : Wh K Γ S fun H => rTupleOf K [.ref p] H Q := fun H z => ⟨p, xs, rfl, .inl ⟨SqL.of (m H z), fun l hl => k l _ (z.fix hl)⟩⟩
end
end Mo
namespace Mo
open PySem PySem.Spec PyProof.Rows L2
/-! ### law_k01: copied -/
def spCop1 (n : Nat) (K : PySem.W.Frag) : Sp := SpF K (fun i : V × PyData => [i.1]) (fun i Γ => .dat i.1 i.2 ∈ Γ ∧ Pd n i.2) (fun _ => [])
  (fun i v Γ' S' => ∃ t : Tr, v = t.v ∧ t.dat = i.2 ∧ Cp n t ∧ Γ' = [trF K t] ∧ S' = [t.S]) noEx
section
variable {P : Program} {w : World} {K : PySem.W.Frag} {mg : Str → Option Value} {base : Heap}
theorem ok__law_copied (T : Tx K mg) : ∀ n, OkG P w K mg base (n + 1) "_law_copied" ["_law_part"] (spCop1 n K) := by
  intro n
  induction n with
  | zero =>
    refine T.f__law_copied.okX sc__law_copied (fun vs H Q E h => ?_) (fun cdv A outer s H vs Q E hr h => ?_)
    · obtain ⟨i, _, _, rfl, _⟩ := h
      rfl
    · obtain ⟨i, _, _, rfl, z, ⟨_, h1⟩, _⟩ := h
      cases h1
  | succ n G__law_copied =>
    refine T.f__law_copied.okX sc__law_copied (fun vs H Q E h => ?_) (fun cdv A outer s H vs Q E hr h => ?_)
    · obtain ⟨i, _, _, rfl, _⟩ := h
      rfl
    · have hu1 := hu_of hr; have hu0 := hr.units0; have hu64 := hr.units; have hu65 := hu65_of hr; have nd := sc__law_copied.nd
      obtain ⟨⟨v, d⟩, Γ, S, rfl, z, ⟨hv, hok⟩, q, x⟩ := h
      dsimp only at z hv hok q x
      refine ⟨_, (pss_cons (ps_if (pt_truthK (K := K) rfl (pe_callB (call_isiKK (K := K) rfl) (by rfl) T.b_isinstance (by decide +kernel) (pa_cons (pv 0) (pa_cons (pe_bltn (v := .ty "list") (by rfl) T.b_list (by decide +kernel) rfl) pa_nil))) (by intro _; rfl)) (pss_one (ps_ret (pe_lc (own := [("_law_one", 1)]) rfl nd (pi_seqK (K := K) rfl (pv 0)) (blkOk_by (own := [("_law_one", 1)]) (N := nm__law_copied) (sc := defScope s__law_copied) (by decide +kernel)) (fun _ _ _ _ _ => (pg_name (i := 1) nd rfl (Or.inl rfl) (Or.inr rfl))) (fun _ _ _ _ _ => pts_nil) (fun _ _ _ _ _ => (pcl T.g__law_copied G__law_copied hr takes0 (pa_cons (pv 1) pa_nil))))))
      pss_nil)
      (pss_cons (ps_if (pt_truthK (K := K) rfl (pe_callB (call_isiKK (K := K) rfl) (by rfl) T.b_isinstance (by decide +kernel) (pa_cons (pv 0) (pa_cons (pe_bltn (v := .ty "tuple") (by rfl) T.b_tuple (by decide +kernel) rfl) pa_nil))) (by intro _; rfl)) (pss_one (ps_ret (pe_callTy (call_tupleK (K := K) rfl) (by rfl) T.b_tuple (by decide +kernel) (pa_cons (pe_lc (own := [("_law_one", 1)]) rfl nd (pi_seqK (K := K) rfl (pv 0)) (blkOk_by (own := [("_law_one", 1)]) (N := nm__law_copied) (sc := defScope s__law_copied) (by decide +kernel)) (fun _ _ _ _ _ => (pg_name (i := 1) nd rfl (Or.inl rfl) (Or.inr rfl))) (fun _ _ _ _ _ => pts_nil) (fun _ _ _ _ _ => (pcl T.g__law_copied G__law_copied hr takes0 (pa_cons (pv 1) pa_nil)))) pa_nil))))
      pss_nil)
      (pss_one (ps_ret (pv 0))))), ?_⟩
      refine w_start (σ' := [some v, none]) rfl z ?_
      dsimp only [List.cons_append, List.nil_append] at q ⊢
      cases hok with
      | int =>
        rename_i i
        refine w_intD hv fun e => ?_
        subst e
        k_extra "W"
        refine w_isi_it ?_
        k_extra "W"
        refine w_trW (x := .i i) ?_
        exact fun H z => q _ [trF K (.wd (.i i))] [Tr.S (.wd (.i i))] H ⟨.wd (.i i), rfl, rfl, .wd, rfl, rfl⟩ (z.fit (by k_extra "sub") (by rw [Tr.S]; exact Dr.keep Take.nil Dr.refl))
      | str =>
        rename_i y
        refine w_str hv fun e => ?_
        subst e
        k_extra "W"
        refine w_trW (x := .s y) ?_
        exact fun H z => q _ [trF K (.wd (.s y))] [Tr.S (.wd (.s y))] H ⟨.wd (.s y), rfl, rfl, .wd, rfl, rfl⟩ (z.fit (by k_extra "sub") (by rw [Tr.S]; exact Dr.keep Take.nil Dr.refl))
      | lst hds hl =>
        rename_i ds
        refine w_lstDr hv fun a e => ?_
        subst e
        k_extra "W"
        refine w_isi_lD hv ?_
        k_extra "W"
        refine w_trsNil ?_
        refine w_lc_D (ι := List Tr) ds (fun j ts => ts.map Tr.dat = ds.take j ∧ ∀ t ∈ ts, Cp n t) (fun _ ts => ts.map Tr.v) (fun _ ts => trsF K ts :: .dat (.ref a) (.list ds) :: Γ) (fun _ ts => segsV Tr.S ts :: S) [] ⟨rfl, fun _ h => nomatch h⟩ rfl (by k_extra "sub") (Dr.segNil Dr.refl) (fun _ _ => by k_extra "m") ?_ ?_
        · rintro Dl j d v ts hd ⟨g1, g2⟩
          have hj := (List.getElem?_eq_some_iff.mp hd).1
          have htl : ts.length ≤ 1000 := by
            have := congrArg List.length g1
            rw [List.length_map] at this
            rw [this]
            exact Nat.le_trans (List.length_take_le _ _) (by omega)
          k_extra "W"
          refine w_don (v, d) (by k_extra "ts") ⟨by k_extra "m", hds d (List.mem_of_getElem? hd)⟩ ?_
          rintro _ Γ' S' ⟨t, rfl, e1, e2, rfl, rfl⟩
          dsimp only [List.cons_append, List.nil_append] at e1 ⊢
          refine w_trsSnoc (ts := ts) (t := t) (by k_extra "m") (by k_extra "m") ?_
          refine w_lcp (ts ++ [t]) ⟨by rw [List.map_append, g1, List.take_add_one, hd, ← e1]; rfl, fun u hu => ?_⟩ (by rw [List.map_append]; rfl) (by k_extra "t") (by rw [List.length_map]; omega) (by k_extra "sub") (Dr.segSnoc (by k_extra "dr"))
          rcases List.mem_append.mp hu with hu | hu
          · exact g2 u hu
          · rw [List.mem_singleton.mp hu]; exact e2
        rintro l ts ⟨g1, g2⟩
        rw [List.take_length] at g1
        have htl : ts.length ≤ 1000 := by
          have := congrArg List.length g1
          rw [List.length_map] at this
          omega
        refine w_trL (p := l) (ts := ts) (by k_extra "m") ?_
        k_extra "W"
        exact fun H z => q _ [trF K (.ls l ts)] [(Tr.ls l ts).S] H ⟨.ls l ts, rfl, by rw [Tr.dat, Tr.dats_map, g1], .ls g2 htl, rfl, rfl⟩ (z.fit (by k_extra "sub") (Dr.trL (by k_extra "dr")))
      | tup hds hl =>
        rename_i ds
        refine w_tupDr hv fun a e => ?_
        subst e
        k_extra "W"
        refine w_isi_tlD hv ?_
        k_extra "W"
        refine w_isi_tD hv ?_
        k_extra "W"
        refine w_lcDT (by k_extra "m") ?_
        refine w_trsNil ?_
        refine w_lc_DT (ι := List Tr) ds (fun j ts => ts.map Tr.dat = ds.take j ∧ ∀ t ∈ ts, Cp n t) (fun _ ts => ts.map Tr.v) (fun _ ts => trsF K ts :: .dat (.ref a) (.tuple ds) :: Γ) (fun _ ts => segsV Tr.S ts :: S) [] ⟨rfl, fun _ h => nomatch h⟩ rfl (by k_extra "sub") (Dr.segNil Dr.refl) (fun _ _ => by k_extra "m") ?_ ?_
        · rintro Dl j d v ts hd ⟨g1, g2⟩
          have hj := (List.getElem?_eq_some_iff.mp hd).1
          have htl : ts.length ≤ 1000 := by
            have := congrArg List.length g1
            rw [List.length_map] at this
            rw [this]
            exact Nat.le_trans (List.length_take_le _ _) (by omega)
          k_extra "W"
          refine w_don (v, d) (by k_extra "ts") ⟨by k_extra "m", hds d (List.mem_of_getElem? hd)⟩ ?_
          rintro _ Γ' S' ⟨t, rfl, e1, e2, rfl, rfl⟩
          dsimp only [List.cons_append, List.nil_append] at e1 ⊢
          refine w_trsSnoc (ts := ts) (t := t) (by k_extra "m") (by k_extra "m") ?_
          refine w_lcp (ts ++ [t]) ⟨by rw [List.map_append, g1, List.take_add_one, hd, ← e1]; rfl, fun u hu => ?_⟩ (by rw [List.map_append]; rfl) (by k_extra "t") (by rw [List.length_map]; omega) (by k_extra "sub") (Dr.segSnoc (by k_extra "dr"))
          rcases List.mem_append.mp hu with hu | hu
          · exact g2 u hu
          · rw [List.mem_singleton.mp hu]; exact e2
        rintro l ts ⟨g1, g2⟩
        rw [List.take_length] at g1
        have htl : ts.length ≤ 1000 := by
          have := congrArg List.length g1
          rw [List.length_map] at this
          omega
        k_extra "W"
        refine w_tupL (by k_extra "at") fun l2 => ?_
        refine w_trT (p := l2) (ts := ts) (by k_extra "m") (by k_extra "m") ?_
        exact fun H z => q _ [trF K (.tu l2 ts)] [(Tr.tu l2 ts).S] H ⟨.tu l2 ts, rfl, by rw [Tr.dat, Tr.dats_map, g1], .tu g2 htl, rfl, rfl⟩ (z.fit (by k_extra "sub") (by rw [trT_S]; k_extra "dr"))
end
end Mo
namespace Mo
open PySem PySem.Spec PyProof.Rows L2
/-! ### everything of a tree spoilt -/
def spSpoil (n : Nat) (K : PySem.W.Frag) : Sp := SpF K (fun t : Tr => [t.v]) (fun t Γ => trF K t ∈ Γ ∧ SpOk n t) (fun t => [t.S]) (fun _ v Γ' S' => v = .non ∧ Γ' = [] ∧ S' = []) noEx
section
variable {P : Program} {w : World} {K : PySem.W.Frag} {mg : Str → Option Value} {base : Heap}
theorem ok__law_spoil (T : Tx K mg) : ∀ n, OkG P w K mg base (n + 1) "_law_spoil" ["_law_part"] (spSpoil n K) := by
  intro n
  induction n with
  | zero =>
    refine T.f__law_spoil.okX sc__law_spoil (fun vs H Q E h => ?_) (fun cdv A outer s H vs Q E hr h => ?_)
    · obtain ⟨i, _, _, rfl, _⟩ := h
      rfl
    · obtain ⟨i, _, _, rfl, z, h1, _⟩ := h
      exfalso
      have h2 := h1.2
      cases h2 with
      | dt h => cases h
  | succ n G__law_spoil =>
    refine T.f__law_spoil.okX sc__law_spoil (fun vs H Q E h => ?_) (fun cdv A outer s H vs Q E hr h => ?_)
    · obtain ⟨i, _, _, rfl, _⟩ := h
      rfl
    · have hu1 := hu_of hr; have hu0 := hr.units0; have hu64 := hr.units; have hu65 := hu65_of hr; have nd := sc__law_spoil.nd
      obtain ⟨t, Γ, S, rfl, z, ⟨ht, hok⟩, q, x⟩ := h
      dsimp only at z ht hok q x
      refine ⟨_, (pss_cons (ps_if (PW.pt (pw_or (pt_truthK (K := K) rfl (pe_callB (call_isiKK (K := K) rfl) (by rfl) T.b_isinstance (by decide +kernel) (pa_cons (pv 0) (pa_cons (pe_bltn (v := .ty "tuple") (by rfl) T.b_tuple (by decide +kernel) rfl) pa_nil))) (by intro _; rfl)) (pw_or1 (pt_truthK (K := K) rfl (pe_callB (call_isiKK (K := K) rfl) (by rfl) T.b_isinstance (by decide +kernel) (pa_cons (pv 0) (pa_cons (pe_bltn (v := .ty "list") (by rfl) T.b_list (by decide +kernel) rfl) pa_nil))) (by intro _; rfl))))) (pss_one (ps_for (passes_of rfl) rfl (pi_seqK (K := K) rfl (pv 0)) (pg_name (i := 1) nd rfl (Or.inl rfl))
      (pss_one (ps_expr (pcl T.g__law_spoil G__law_spoil hr (takes_of rfl rfl rfl rfl) (pa_cons (pv 1) pa_nil))))))
      pss_nil)
      (pss_one (ps_if (pt_truthK (K := K) rfl (pe_callB (call_isiKK (K := K) rfl) (by rfl) T.b_isinstance (by decide +kernel) (pa_cons (pv 0) (pa_cons (pe_bltn (v := .ty "list") (by rfl) T.b_list (by decide +kernel) rfl) pa_nil))) (by intro _; rfl)) (pss_one (ps_expr (pe_bmK (K := K) rfl PySem.F.plainAttrs_list PySem.F.slot_list_append PySem.F.type_list_append mt_append (pv 0) (pa_cons pe_str pa_nil))))
      pss_nil))), ?_⟩
      refine w_start (σ' := [some t.v, none]) rfl z ?_
      dsimp only [List.cons_append, List.nil_append] at q ⊢
      cases hok with
      | wd =>
        rename_i w
        cases w with
        | i i =>
          show Wh K _ _ _
          rw [show (Tr.wd (.i i)).v = .int i from rfl]
          k_extra "W"
          refine w_isi_it ?_
          k_extra "W"
          exact fun H z => q _ _ _ H ⟨rfl, rfl, rfl⟩ (z.fit (by k_extra "sub") (by k_extra "dr"))
        | s y =>
          rw [show (Tr.wd (.s y)).v = .str y from rfl]
          k_extra "W"
          exact fun H z => q _ _ _ H ⟨rfl, rfl, rfl⟩ (z.fit (by k_extra "sub") (by k_extra "dr"))
      | dt hd =>
        rename_i v d
        refine w_trD (v := v) (d := d) ht ?_
        rw [show (Tr.dt v d).v = v from rfl]
        cases hd with
        | int =>
          refine w_intD List.mem_cons_self fun e => ?_
          subst e
          k_extra "W"
          refine w_isi_it ?_
          k_extra "W"
          exact fun H z => q _ _ _ H ⟨rfl, rfl, rfl⟩ (z.fit (by k_extra "sub") (by k_extra "dr"))
        | str =>
          refine w_str List.mem_cons_self fun e => ?_
          subst e
          k_extra "W"
          exact fun H z => q _ _ _ H ⟨rfl, rfl, rfl⟩ (z.fit (by k_extra "sub") (by k_extra "dr"))
        | tup hds =>
          rename_i ds
          refine w_tupDr List.mem_cons_self fun a e => ?_
          subst e
          k_extra "W"
          refine w_isi_tD List.mem_cons_self ?_
          k_extra "W"
          refine w_forDT List.mem_cons_self ?_
          refine w_loop_DT (ι := Option V) ds (fun _ _ => True) (fun _ u => [some (.ref a), u]) (fun _ _ => .dat (.ref a) (.tuple ds) :: Γ) (fun _ _ => S) none True.intro rfl (by k_extra "sub") (by k_extra "dr") (fun _ _ => List.mem_cons_self) ?_ ?_
          · rintro i d v u hd _
            k_extra "W"
            refine w_trDm (v := v) (d := d) List.mem_cons_self ?_
            refine w_don (Tr.dt v d) (Takes'.cons (by rw [show (Tr.dt v d).S = [] by rw [Tr.S]]; exact Take.nil) Takes'.nil) ⟨List.mem_cons_self, .dt (hds d (List.mem_of_getElem? hd))⟩ ?_
            rintro _ Γ' S' ⟨rfl, rfl, rfl⟩
            dsimp only [List.cons_append, List.nil_append]
            k_extra "W"
            exact w_again _ True.intro rfl (by k_extra "sub") (by k_extra "dr")
          rintro u _
          k_extra "W"
          refine w_isi_tlD List.mem_cons_self ?_
          k_extra "W"
          exact fun H z => q _ _ _ H ⟨rfl, rfl, rfl⟩ (z.fit (by k_extra "sub") (by k_extra "dr"))
      | ls hts hl =>
        rename_i p ts
        refine w_trLo (p := p) (ts := ts) ht ?_
        refine w_trOpenL (p := p) (ts := ts) (by k_extra "t") ?_
        rw [show (Tr.ls p ts).v = .ref p from rfl]
        k_extra "W"
        refine w_isi_lt (by k_extra "at") ?_
        k_extra "W"
        refine w_loop_l (ι := Option V) (ts.map Tr.v) (fun _ _ => True) (fun _ u => [some (.ref p), u]) (fun _ _ => trsF K ts :: Γ) (fun i _ => own p (.lst (ts.map Tr.v)) :: segsV Tr.S (ts.drop i) :: S) none True.intro rfl (by k_extra "sub") (by rw [List.drop_zero]; k_extra "dr") (fun _ _ => by k_extra "at") ?_ ?_
        · rintro i v u hv _
          rw [List.getElem?_map] at hv
          obtain ⟨t, ht2, rfl⟩ := Option.map_eq_some_iff.mp hv
          have hmem := List.mem_of_getElem? ht2
          have hdr : ts.drop i = t :: ts.drop (i + 1) := by rw [List.drop_eq_getElem_cons (List.getElem?_eq_some_iff.mp ht2).1]; congr 1; exact (List.getElem?_eq_some_iff.mp ht2).2
          rw [hdr]
          refine w_trsGet (ts := ts) (t := t) (by k_extra "m") hmem ?_
          k_extra "W"
          refine Wh.tk1 (x := segsV Tr.S (t :: ts.drop (i + 1))) (by k_extra "t") ?_
          refine w_segCons ?_
          refine w_don t (by k_extra "ts") ⟨by k_extra "m", hts t hmem⟩ ?_
          rintro _ Γ' S' ⟨rfl, rfl, rfl⟩
          dsimp only [List.cons_append, List.nil_append]
          k_extra "W"
          exact w_again _ True.intro rfl (by k_extra "sub") (by k_extra "dr")
        rintro u _
        k_extra "W"
        refine w_app (by k_extra "sw") (by rw [List.length_map]; omega) ?_
        k_extra "W"
        exact fun H z => q _ _ _ H ⟨rfl, rfl, rfl⟩ (z.fit (by k_extra "sub") (by k_extra "dr"))
      | tu hts =>
        rename_i p ts
        refine w_trTo (p := p) (ts := ts) ht ?_
        rw [show (Tr.tu p ts).v = .ref p from rfl, trT_S]
        k_extra "W"
        refine w_forO List.mem_cons_self ?_
        refine w_loop_o (ι := Option V) (ts.map Tr.v) (fun _ _ => True) (fun _ u => [some (.ref p), u]) (fun _ _ => .obj p (.tup (ts.map Tr.v)) :: trsF K ts :: Γ) (fun i _ => segsV Tr.S (ts.drop i) :: S) none True.intro rfl (by k_extra "sub") (by rw [List.drop_zero]; k_extra "dr") (fun _ _ => List.mem_cons_self) ?_ ?_
        · rintro i v u hv _
          rw [List.getElem?_map] at hv
          obtain ⟨t, ht2, rfl⟩ := Option.map_eq_some_iff.mp hv
          have hmem := List.mem_of_getElem? ht2
          have hdr : ts.drop i = t :: ts.drop (i + 1) := by rw [List.drop_eq_getElem_cons (List.getElem?_eq_some_iff.mp ht2).1]; congr 1; exact (List.getElem?_eq_some_iff.mp ht2).2
          rw [hdr]
          refine w_trsGet (ts := ts) (t := t) (by k_extra "m") hmem ?_
          k_extra "W"
          refine Wh.tk1 (x := segsV Tr.S (t :: ts.drop (i + 1))) (by k_extra "t") ?_
          refine w_segCons ?_
          refine w_don t (by k_extra "ts") ⟨by k_extra "m", hts t hmem⟩ ?_
          rintro _ Γ' S' ⟨rfl, rfl, rfl⟩
          dsimp only [List.cons_append, List.nil_append]
          k_extra "W"
          exact w_again _ True.intro rfl (by k_extra "sub") (by k_extra "dr")
        rintro u _
        k_extra "W"
        refine w_isi_tl List.mem_cons_self ?_
        k_extra "W"
        exact fun H z => q _ _ _ H ⟨rfl, rfl, rfl⟩ (z.fit (by k_extra "sub") (by k_extra "dr"))
end
end Mo
namespace Mo
open PySem PySem.Spec PyProof.Rows L2
/-! ### model.py -/
def spCopied (n : Nat) (K : PySem.W.Frag) : Sp := fun vs H Q _ => ∃ (G : Hp) (L : Vo) (a : Addr) (xs : List V) (ds : List Dd), vs = [.ref a] ∧ Hd G H L ∧ SqL K H a xs ∧ DdsIn K G H xs ds ∧ Dd.depths ds < n ∧ ds.length ≤ 1000 ∧ Dd.Sms ds ∧
  ∀ p G' H', Ext G G' → Ext H H' → Hd G' H' L → Dp K G' (.ref p) (.list (Dd.datas ds)) → Q (.ref p) H'
section
variable {P : Program} {w : World} {K : PySem.W.Frag} {mg : Str → Option Value} {base : Heap}
theorem ok_copied (T : Tx K mg) : ∀ n, OkG P w K mg base (n + 1) "copied" ["deeds"] (spCopied n K) := by
  intro n
  induction n with
  | zero =>
    refine T.f_copied.okX sc_copied (fun vs H Q E h => ?_) (fun cdv A outer s H vs Q E hr h => ?_)
    · obtain ⟨G, L, a, xs, ds, rfl, _⟩ := h
      rfl
    · obtain ⟨G, L, a, xs, ds, rfl, _, _, _, hd, _⟩ := h
      exact absurd hd (Nat.not_lt_zero _)
  | succ n G_copied =>
    refine T.f_copied.okX sc_copied (fun vs H Q E h => ?_) (fun cdv A outer s H vs Q E hr h => ?_)
    · obtain ⟨G, L, a, xs, ds, rfl, _⟩ := h
      rfl
    · have hu1 := hu_of hr; have hu0 := hr.units0; have hu64 := hr.units; have hu65 := hu65_of hr; have nd := sc_copied.nd
      obtain ⟨G, L, a, xs, ds, rfl, hH, hS, hD, hd, hl, hsm, q⟩ := h
      refine ⟨_, (pss_cons (ps_set (i := 1) nd rfl (Or.inl rfl) (pe_lst pa_nil))
      (pss_cons (ps_for (passes_of rfl) rfl (pi_seqK (K := K) rfl (pv 0)) (pg_name (i := 2) nd rfl (Or.inl rfl))
      (pss_one (ps_if (pt_cmpR (op_eqK (K := K) rfl hu64) (pe_ix (ix_anyK (K := K) rfl hu1) (pv 2) pe_int (fun _ _ => rfl)) pe_str (nomark _)) (pss_one (ps_expr (pe_bmK (K := K) rfl PySem.F.plainAttrs_list PySem.F.slot_list_append PySem.F.type_list_append mt_append (pv 1) (pa_cons (pe_tup (pa_cons pe_str (pa_cons (pe_ix (ix_anyK (K := K) rfl hu1) (pv 2) pe_int (fun _ _ => rfl)) (pa_cons (pcl T.g_copied G_copied hr (takes_of rfl rfl rfl rfl) (pa_cons (pe_ix (ix_anyK (K := K) rfl hu1) (pv 2) pe_int (fun _ _ => rfl)) pa_nil)) (pa_cons (pcl T.g_copied G_copied hr (takes_of rfl rfl rfl rfl) (pa_cons (pe_ix (ix_anyK (K := K) rfl hu1) (pv 2) pe_int (fun _ _ => rfl)) pa_nil)) pa_nil))))) pa_nil))))
      (pss_one (ps_if (pt_cmpR (op_eqK (K := K) rfl hu64) (pe_ix (ix_anyK (K := K) rfl hu1) (pv 2) pe_int (fun _ _ => rfl)) pe_str (nomark _)) (pss_one (ps_expr (pe_bmK (K := K) rfl PySem.F.plainAttrs_list PySem.F.slot_list_append PySem.F.type_list_append mt_append (pv 1) (pa_cons (pe_tup (pa_cons pe_str (pa_cons (pe_ix (ix_anyK (K := K) rfl hu1) (pv 2) pe_int (fun _ _ => rfl)) (pa_cons (pe_ix (ix_anyK (K := K) rfl hu1) (pv 2) pe_int (fun _ _ => rfl)) (pa_cons (pcl T.g_copied G_copied hr (takes_of rfl rfl rfl rfl) (pa_cons (pe_ix (ix_anyK (K := K) rfl hu1) (pv 2) pe_int (fun _ _ => rfl)) pa_nil)) pa_nil))))) pa_nil))))
      (pss_one (ps_expr (pe_bmK (K := K) rfl PySem.F.plainAttrs_list PySem.F.slot_list_append PySem.F.type_list_append mt_append (pv 1) (pa_cons (pv 2) pa_nil)))))))))
      (pss_one (ps_ret (pv 1))))), ?_⟩
      refine go_start (σ' := [some (.ref a), none, none]) rfl ?_
      have hlen := ddsIn_len hD
      k_extra "we"
      refine go_sz rfl fun l hl0 => ?_
      k_extra "we"
      refine go_sqL (ext_l (Ext.new hl0) hS) ?_
      refine loop_l (fun i σ H' => ∃ G' acc v, σ = [some (.ref a), some (.ref l), v] ∧ Ext G G' ∧ Ext H H' ∧ Hd G' H' ((l, Eq (.lst acc)) :: L) ∧ DpAll K G' acc (Dd.datas (ds.take i)))
        ⟨G, [], none, rfl, Ext.refl G, Ext.new hl0, hH.new hl0 rfl, by rw [List.take_zero, Dd.datas]; exact .nil⟩ (fun i σ' H' _ ⟨G', acc, v, _, _, eH, _⟩ => ext_l eH hS) ?_ ?_
      · rintro i x σ' H' hi ⟨G', acc, v, rfl, eG, eH, hH', hA⟩
        obtain ⟨d, hd1, hd2⟩ := ddsIn_get hD hi
        have hd3 := ddIn_mono eG eH hd2
        have hdep := depths_get hd1
        have hsm1 := sms_get hsm hd1
        have hacc : acc.length < sizeLine := by
          have e1 := dpa_len hA
          rw [datas_map, List.length_map, List.length_take] at e1
          rw [sizeLine_eq]
          omega
        have hlE : H' l = some (.lst acc) := hH'.eq List.mem_cons_self
        have htk : i + 1 ≤ ds.length → True := fun _ => True.intro
        obtain ⟨t, ts, rfl, ht⟩ := ddIn_head hH'.ex hd3
        -- the deed is put behind the others
        have fin : ∀ (G2 H2 : Hp) (y : V), Ext G' G2 → Ext H H2 → Hd G2 H2 ((l, Eq (.lst acc)) :: L) → Dp K G2 y d.data → ∃ G3 acc3 v3, [some (V.ref a), some (V.ref l), some (V.ref t)] = [some (.ref a), some (.ref l), v3] ∧ Ext G G3 ∧ Ext H (upd H2 l (.lst (acc ++ [y]))) ∧ Hd G3 (upd H2 l (.lst (acc ++ [y]))) ((l, Eq (.lst acc3)) :: L) ∧ DpAll K G3 acc3 (Dd.datas (ds.take (i + 1))) := fun G2 H2 y x1 x2 x3 x4 => by
          refine ⟨G2, acc ++ [y], _, rfl, eG.trans x1, x2.put (hl0), x3.set 0 rfl rfl, ?_⟩
          rw [datas_take hd1]
          exact dpa_app (dpa_mono x1 hA) (dpa_one x4)
        k_extra "we"
        refine go_subT ht (atI_nat (j := 0) rfl) ?_
        k_extra "we"
        refine go_eqs ?_
        k_extra "we"
        refine go_ite (fun hif => ?_) (fun nif => ?_)
        · obtain ⟨f, ones, others, a2, m1, m2, v2, vs2, ws2, rfl, e2, k1, k2, k3, k4, k5, k6⟩ := ddIn_if hd3 hif
          cases e2
          rw [Dd.depth] at hdep
          have hdep' : max (Dd.depths ones) (Dd.depths others) + 1 < n + 1 := by omega
          rw [Dd.Sm] at hsm1
          k_extra "we"
          refine go_tyL (SqL.of hlE) ?_
          k_extra "we"
          refine go_subT k1 rfl ?_
          k_extra "we"
          refine go_subT k1 rfl ?_
          k_extra "we"
          refine ⟨G', _, m1, vs2, ones, rfl, hH', k3, k4, by omega, hsm1.1.1, hsm1.1.2, fun p1 G1 H1 x1 y1 z1 w1 => ?_⟩
          k_extra "we"
          refine go_subT (ext_t y1 k1) rfl ?_
          k_extra "we"
          refine ⟨G1, _, m2, ws2, others, rfl, z1, ext_l y1 k5, ddsIn_mono x1 y1 k6, by omega, hsm1.2.1, hsm1.2.2, fun p2 G2 H2 x2 y2 z2 w2 => ?_⟩
          k_extra "we"
          refine go_sz rfl fun t2 ht2 => ?_
          obtain ⟨x3, z3, w3⟩ := dp_fix (K := K) (xs := [.str "if", v2, .ref p1, .ref p2]) (ds := [.str "if", f.data, .list (Dd.datas ones), .list (Dd.datas others)]) z2 ht2 (.cons (.str _) (.cons (dp_mono (x1.trans x2) k2) (.cons (dp_mono x2 w1) (.cons w2 .nil))))
          k_extra "we"
          refine go_app (z3.eq List.mem_cons_self) hacc ?_
          exact fin _ _ _ ((x1.trans x2).trans x3) (((eH.trans y1).trans y2).trans (Ext.new ht2)) z3 w3
        · k_extra "we"
          refine go_subT ht (atI_nat (j := 0) rfl) ?_
          k_extra "we"
          refine go_eqs ?_
          k_extra "we"
          refine go_ite (fun hpu => ?_) (fun npu => ?_)
          · obtain ⟨qq, b2, ds2, a2, m1, vs2, rfl, e2, k1, k3, k4⟩ := ddIn_pull hd3 hpu
            cases e2
            rw [Dd.depth] at hdep
            rw [Dd.Sm] at hsm1
            k_extra "we"
            refine go_tyL (SqL.of hlE) ?_
            k_extra "we"
            refine go_subT k1 rfl ?_
            k_extra "we"
            refine go_subT k1 rfl ?_
            k_extra "we"
            refine go_subT k1 rfl ?_
            k_extra "we"
            refine ⟨G', _, m1, vs2, ds2, rfl, hH', k3, k4, by omega, hsm1.1, hsm1.2, fun p1 G1 H1 x1 y1 z1 w1 => ?_⟩
            k_extra "we"
            refine go_sz rfl fun t2 ht2 => ?_
            obtain ⟨x3, z3, w3⟩ := dp_fix (K := K) (xs := [.str "pull", .str qq, .str b2, .ref p1]) (ds := [.str "pull", .str qq, .str b2, .list (Dd.datas ds2)]) z1 ht2 (.cons (.str _) (.cons (.str _) (.cons (.str _) (.cons w1 .nil))))
            k_extra "we"
            refine go_app (z3.eq List.mem_cons_self) hacc ?_
            exact fin _ _ _ (x1.trans x3) ((eH.trans y1).trans (Ext.new ht2)) z3 w3
          · k_extra "we"
            refine go_tyL (SqL.of hlE) ?_
            k_extra "we"
            refine go_app hlE hacc ?_
            exact fin _ _ _ (Ext.refl _) eH hH' (ddIn_plain hd3 nif npu)
      · rintro σ' H' ⟨G', acc, v, rfl, eG, eH, hH', hA⟩
        k_extra "we"
        rw [List.take_of_length_le (by omega)] at hA
        obtain ⟨x1, x2, x3⟩ := dp_freeze hH' (hH'.eq List.mem_cons_self) hA
        exact q l _ H' (eG.trans x1) eH x2 x3
/-! #### a machine, copied; a model made; first states -/
def spCopiedMachine (n : Nat) (K : PySem.W.Frag) : Sp := fun vs H Q _ => ∃ (G : Hp) (L : Vo) (x : V) (m : Mach), vs = [x] ∧ Hd G H L ∧ MachIn K G H x m ∧ m.depth < n ∧ m.Sm ∧
  ∀ y G' H', Ext G G' → Ext H H' → Hd G' H' L → Dp K G' y m.data → Q y H'
theorem ok_copied_machine (T : Tx K mg) (n : Nat) : OkG P w K mg base (n + 2) "copied_machine" ["machine"] (spCopiedMachine n K) := by
  have G_copied := ok_copied (P := P) (w := w) (base := base) T n
  refine T.f_copied_machine.okX sc_copied_machine (fun vs H Q E h => ?_) (fun cdv A outer s H vs Q E hr h => ?_)
  · obtain ⟨G, L, x, m, rfl, _⟩ := h
    rfl
  · have hu1 := hu_of hr; have hu0 := hr.units0; have hu64 := hr.units; have hu65 := hu65_of hr; have nd := sc_copied_machine.nd
    obtain ⟨G, L, x, m, rfl, hH, hM, hd, hsm, q⟩ := h
    refine ⟨_, (pss_cons (ps_asg (pv 0) (pg_tupK (K := K) (n := 5) rfl rfl (pgs_cons (pg_name (i := 1) nd rfl (Or.inl rfl)) (pgs_cons (pg_name (i := 2) nd rfl (Or.inl rfl)) (pgs_cons (pg_name (i := 3) nd rfl (Or.inl rfl)) (pgs_cons (pg_name (i := 4) nd rfl (Or.inl rfl)) (pgs_cons (pg_name (i := 5) nd rfl (Or.inl rfl)) pgs_nil))))) rfl rfl))
      (pss_one (ps_ret (pe_tup (pa_cons (pv 1) (pa_cons (pe_callTy (call_listK (K := K) rfl) (by rfl) T.b_list (by decide +kernel) (pa_cons (pv 2) pa_nil)) (pa_cons (pe_callTy (call_listK (K := K) rfl) (by rfl) T.b_list (by decide +kernel) (pa_cons (pv 3) pa_nil)) (pa_cons (pe_callTy (call_listK (K := K) rfl) (by rfl) T.b_list (by decide +kernel) (pa_cons (pv 4) pa_nil)) (pa_cons (pe_lc (own := [("sign", 6), ("deeds", 7)]) rfl nd (pi_seqK (K := K) rfl (pv 5)) (blkOk_by (own := [("sign", 6), ("deeds", 7)]) (N := nm_copied_machine) (sc := defScope s_copied_machine) (by decide +kernel)) (fun _ _ _ _ _ => (pg_tupK (K := K) (n := 2) rfl rfl (pgs_cons (pg_name (i := 6) nd rfl (Or.inl rfl) (Or.inr rfl)) (pgs_cons (pg_name (i := 7) nd rfl (Or.inl rfl) (Or.inr rfl)) pgs_nil)) rfl rfl)) (fun _ _ _ _ _ => pts_nil) (fun _ _ _ _ _ => (pe_tup (pa_cons (pv 6) (pa_cons (pcl T.g_copied G_copied hr takes0 (pa_cons (pv 7) pa_nil)) pa_nil))))) pa_nil))))))))), ?_⟩
    refine go_start (σ' := [some x, none, none, none, none, none, none, none]) rfl ?_
    obtain ⟨a, lb, lq, ld, lh, rfl, ht, hb, hq, hdr, vs, hh, hhs⟩ := hM
    k_extra "we"
    refine go_gtup ht rfl ?_
    k_extra "we"
    obtain ⟨vb, hb1, hb2⟩ := hb
    have hlb := dpa_len hb2
    rw [List.length_map] at hlb
    refine go_listL hb1 fun p1 hp1 => ?_
    obtain ⟨x1, z1, w1⟩ := dp_freeze (K := K) (hH.new hp1 (φ := Eq (.lst vb)) rfl) upd_same hb2
    k_extra "we"
    refine go_listL (ext_l (Ext.new hp1) hq) fun p2 hp2 => ?_
    obtain ⟨x2, z2, w2⟩ := dp_freeze (K := K) (z1.new hp2 (φ := Eq (.lst (m.queues.map V.str))) rfl) upd_same (dpa_strs _)
    k_extra "we"
    refine go_listL (ext_l ((Ext.new hp1).trans (Ext.new hp2)) hdr) fun p3 hp3 => ?_
    obtain ⟨x3, z3, w3⟩ := dp_freeze (K := K) (z2.new hp3 (φ := Eq (.lst (m.draws.map V.int))) rfl) upd_same (dpa_ints _)
    have e3 := ((Ext.new (o := .lst vb) hp1).trans (Ext.new (o := .lst (m.queues.map V.str)) hp2)).trans (Ext.new (o := .lst (m.draws.map V.int)) hp3)
    k_extra "we"
    refine go_sqL (ext_l e3 hh) (go_lcA fun Dl hD => ?_)
    obtain ⟨H3, eH3⟩ : ∃ H3, H3 = upd (upd (upd H p1 (.lst vb)) p2 (.lst (m.queues.map V.str))) p3 (.lst (m.draws.map V.int)) := ⟨_, rfl⟩
    obtain ⟨G3, eG3⟩ : ∃ G3, G3 = upd (upd (upd G p1 (.lst vb)) p2 (.lst (m.queues.map V.str))) p3 (.lst (m.draws.map V.int)) := ⟨_, rfl⟩
    rw [← eH3, ← eG3] at z3
    rw [← eG3] at x3 w3
    rw [← eH3] at e3 hD ⊢
    have xG := (x1.trans x2).trans x3
    refine lcx_l (fun i H' => ∃ G' acc, Ext G3 G' ∧ Ext H3 H' ∧ Hd G' H' ((Dl, Eq (.lst acc)) :: L) ∧ acc.length = i ∧ DpAll K G' acc ((m.hears.take i).map hearD))
      ⟨G3, [], Ext.refl _, Ext.new hD, z3.new hD rfl, rfl, .nil⟩ (fun i H' _ ⟨G', acc, _, eH, _⟩ => ext_l (e3.trans eH) hh) ?_ ?_
    · rintro i x H' hi ⟨G', acc, eG, eH, hH', hlen, hA⟩
      obtain ⟨hh2, hh3⟩ := hhs
      obtain ⟨t, l, ws, p, rfl, t1, l1, d1, hp⟩ := hh3 i x hi
      have e4 := e3.trans eH
      have hdp : Dd.depths p.2 < n := Nat.lt_of_le_of_lt (Mach.depth_get hp) hd
      have hsm2 := hsm.deeds p (List.mem_of_getElem? hp)
      have hlt : i < m.hears.length := (List.getElem?_eq_some_iff.mp hp).1
      refine go_gtup (ext_t e4 t1) rfl ?_
      k_extra "we"
      refine ⟨rfl, ?_⟩
      k_extra "we"
      refine ⟨G', _, l, ws, p.2, rfl, hH', ext_l e4 l1, ddsIn_mono (xG.trans eG) e4 d1, hdp, hsm2.1, hsm2.2, fun p4 G4 H4 x4 y4 z4 w4 => ?_⟩
      k_extra "we"
      refine go_sz rfl fun t2 ht2 => ?_
      obtain ⟨x5, z5, w5⟩ := dp_fix (K := K) (xs := [.str p.1, .ref p4]) (ds := [.str p.1, .list (Dd.datas p.2)]) z4 ht2 (.cons (.str _) (.cons w4 .nil))
      refine ⟨acc, z5.eq List.mem_cons_self, by rw [hlen, sizeLine_eq]; have := hsm.hears; omega, _, acc ++ [.ref t2], (eG.trans x4).trans x5, ((eH.trans y4).trans (Ext.new ht2)).put hD, z5.set 0 rfl rfl, by rw [List.length_append, hlen, List.length_singleton], ?_⟩
      rw [List.take_add_one, hp, List.map_append]
      exact dpa_app (dpa_mono (x4.trans x5) hA) (dpa_one w5)
    · rintro H' ⟨G', acc, eG, eH, hH', hlen, hA⟩
      rw [hhs.1, List.take_of_length_le (Nat.le_refl _)] at hA
      obtain ⟨x6, z6, w6⟩ := dp_freeze (K := K) hH' (hH'.eq List.mem_cons_self) hA
      k_extra "we"
      refine go_sz rfl fun t2 ht2 => ?_
      have y1 := (x2.trans x3).trans (eG.trans x6)
      obtain ⟨x7, z7, w7⟩ := dp_fix (K := K) (xs := [.str m.name, .ref p1, .ref p2, .ref p3, .ref Dl]) (ds := [.str m.name, .list (m.boxes.map boxD), .list (m.queues.map PyData.str), .list (m.draws.map PyData.int), .list (m.hears.map hearD)]) z6 ht2
        (.cons (.str _) (.cons (dp_mono y1 w1) (.cons (dp_mono (x3.trans (eG.trans x6)) w2) (.cons (dp_mono (eG.trans x6) w3) (.cons w6 .nil)))))
      exact q _ _ _ (((xG.trans eG).trans x6).trans x7) ((e3.trans eH).trans (Ext.new ht2)) z7 w7
/-- a model's object -/
def ModelAt (K : PySem.W.Frag) (H : Hp) (p dx l : Addr) : Prop := H p = some (.ins (He.ga K "Model") dx (fl_Model (.ref l)))
def spModelInit (n : Nat) (K : PySem.W.Frag) : Sp := fun vs H Q _ => ∃ (G : Hp) (L : Vo) (p dx a : Addr) (xs : List V) (ms : List Mach), vs = [.ref p, .ref a] ∧ Hd G H ((p, Eq (.ins (He.ga K "Model") dx [])) :: L) ∧ SqL K H a xs ∧ xs.length = ms.length ∧
  (∀ (i : Nat) (x : V) (m : Mach), xs[i]? = some x → ms[i]? = some m → MachIn K G H x m) ∧ (∀ m ∈ ms, m.depth < n ∧ m.Sm) ∧ ms.length ≤ 1000 ∧
  ∀ l G' H', Ext G G' → (∀ b o, H b = some o → b ≠ p → H' b = some o) → Hd G' H' ((p, Eq (.ins (He.ga K "Model") dx (fl_Model (.ref l)))) :: L) → Dp K G' (.ref l) (.list (ms.map Mach.data)) → Q .non H'
theorem ok_Model_init (T : Tx K mg) (n : Nat) : OkM P w K mg base (n + 3) "Model" "__init__" ["self", "machines"] (spModelInit n K) := by
  have G_copied_machine := ok_copied_machine (P := P) (w := w) (base := base) T n
  refine T.f_Model_init.okX sc_Model_init (fun vs H Q E h => ?_) (fun cdv A outer s H vs Q E hr h => ?_)
  · obtain ⟨G, L, p, dx, a, xs, ms, rfl, _⟩ := h
    rfl
  · have hu1 := hu_of hr; have hu0 := hr.units0; have hu64 := hr.units; have hu65 := hu65_of hr; have nd := sc_Model_init.nd
    obtain ⟨G, L, p, dx, a, xs, ms, rfl, hH, hS, hxl, hM, hd, hml, q⟩ := h
    refine ⟨_, (pss_one (ps_fldK (K := K) rfl (pv 0) (pe_lc (own := [("machine", 2)]) rfl nd (pi_seqK (K := K) rfl (pv 1)) (blkOk_by (own := [("machine", 2)]) (N := nm_Model_init) (sc := defScope s_Model_init) (by decide +kernel)) (fun _ _ _ _ _ => (pg_name (i := 2) nd rfl (Or.inl rfl) (Or.inr rfl))) (fun _ _ _ _ _ => pts_nil) (fun _ _ _ _ _ => (pcl T.g_copied_machine G_copied_machine hr takes0 (pa_cons (pv 2) pa_nil)))) rfl)), ?_⟩
    refine go_start (σ' := [some (.ref p), some (.ref a), none]) rfl ?_
    k_extra "we"
    refine go_sqL hS (go_lcA fun Dl hD => ?_)
    refine lcx_l (fun i H' => ∃ G' acc, Ext G G' ∧ Ext H H' ∧ Hd G' H' ((Dl, Eq (.lst acc)) :: (p, Eq (.ins (He.ga K "Model") dx [])) :: L) ∧ acc.length = i ∧ DpAll K G' acc ((ms.take i).map Mach.data))
      ⟨G, [], Ext.refl _, Ext.new hD, hH.new hD rfl, rfl, .nil⟩ (fun i H' _ ⟨G', acc, _, eH, _⟩ => ext_l eH hS) ?_ ?_
    · rintro i x H' hi ⟨G', acc, eG, eH, hH', hlen, hA⟩
      have hlt : i < ms.length := by rw [← hxl]; exact (List.getElem?_eq_some_iff.mp hi).1
      have hm : ms[i]? = some ms[i] := List.getElem?_eq_getElem hlt
      obtain ⟨h1, h2⟩ := hd _ (List.getElem_mem hlt)
      k_extra "we"
      refine ⟨rfl, ?_⟩
      k_extra "we"
      refine ⟨G', _, x, ms[i], rfl, hH', machIn_mono eG eH (hM i x _ hi hm), h1, h2, fun y G4 H4 x4 y4 z4 w4 => ?_⟩
      k_extra "we"
      refine ⟨acc, z4.eq List.mem_cons_self, by rw [hlen, sizeLine_eq]; omega, _, acc ++ [y], eG.trans x4, (eH.trans y4).put hD, z4.set 0 rfl rfl, by rw [List.length_append, hlen, List.length_singleton], ?_⟩
      rw [List.take_add_one, hm, List.map_append]
      exact dpa_app (dpa_mono x4 hA) (dpa_one w4)
    · rintro H' ⟨G', acc, eG, eH, hH', hlen, hA⟩
      rw [hxl, List.take_of_length_le (Nat.le_refl _)] at hA
      obtain ⟨x6, z6, w6⟩ := dp_freeze (K := K) hH' (hH'.eq List.mem_cons_self) hA
      k_extra "we"
      refine go_sfldL (z6.eq List.mem_cons_self) T.c_Model T.n_Model_machines rfl ?_
      refine q Dl _ _ (eG.trans x6) (fun b o hb hn => by rw [upd_ne hn]; exact eH b o hb) ?_ w6
      have z7 := z6.set (o' := .ins (He.ga K "Model") dx (putF "machines" (.ref Dl) [])) (ψ := Eq (.ins (He.ga K "Model") dx (fl_Model (.ref Dl)))) 0 rfl (by rw [in_Model_0]; rfl)
      exact z7
def spStateInit (K : PySem.W.Frag) : Sp := fun vs H Q _ => ∃ (p dx : Addr) (a b c d : V), vs = [.ref p, a, b, c, d] ∧ H p = some (.ins (He.ga K "State") dx []) ∧ Q .non (upd H p (.ins (He.ga K "State") dx (fl_State a b c d)))
theorem ok_State_init (T : Tx K mg) : OkM P w K mg base 1 "State" "__init__" ["self", "boxes", "queues", "drawn", "sent"] (spStateInit K) := by
  refine T.f_State_init.okX sc_State_init (fun vs H Q E h => ?_) (fun cdv A outer s H vs Q E hr h => ?_)
  · obtain ⟨p, dx, a, b, c, d, rfl, _⟩ := h
    rfl
  · have hu1 := hu_of hr; have hu0 := hr.units0; have hu64 := hr.units; have hu65 := hu65_of hr; have nd := sc_State_init.nd
    obtain ⟨p, dx, a, b, c, d, rfl, hp, q⟩ := h
    refine ⟨_, (pss_cons (ps_fldK (K := K) rfl (pv 0) (pv 1) rfl)
      (pss_cons (ps_fldK (K := K) rfl (pv 0) (pv 2) rfl)
      (pss_cons (ps_fldK (K := K) rfl (pv 0) (pv 3) rfl)
      (pss_one (ps_fldK (K := K) rfl (pv 0) (pv 4) rfl))))), ?_⟩
    refine go_start (σ' := [some (.ref p), some a, some b, some c, some d]) rfl ?_
    k_extra "we"
    refine go_sfldL hp T.c_State T.n_State_boxes rfl ?_
    rw [in_State_0]
    k_extra "we"
    refine go_sfldL upd_same T.c_State T.n_State_queues rfl ?_
    rw [upd_upd, in_State_1]
    k_extra "we"
    refine go_sfldL upd_same T.c_State T.n_State_drawn rfl ?_
    rw [upd_upd, in_State_2]
    k_extra "we"
    refine go_sfldL upd_same T.c_State T.n_State_sent rfl ?_
    rw [upd_upd, in_State_3]
    exact q
/-- a model that stays: its object, its machines -/
structure ModelG (K : PySem.W.Frag) (G : Hp) (p : Addr) (ms : List Mach) : Prop where
  there : ∃ dx l, G p = some (.ins (He.ga K "Model") dx (fl_Model (.ref l))) ∧ Dp K G (.ref l) (.list (ms.map Mach.data))
theorem ModelG.mono {G G' : Hp} {p : Addr} {ms : List Mach} (h : ModelG K G p ms) (e : Ext G G') : ModelG K G' p ms :=
  let ⟨dx, l, h1, h2⟩ := h.there
  ⟨dx, l, e _ _ h1, dp_mono e h2⟩
theorem perm_back {α : Type} (z c b : α) (E L : List α) : (z :: c :: b :: (E ++ L)).Perm (c :: b :: (E ++ (z :: L))) :=
  (List.perm_middle (a := z) (l₁ := c :: b :: E) (l₂ := L)).symm
end
end Mo
namespace Mo
open PySem PySem.Spec PyProof.Rows L2
/-! ### a model, a first state: by facts and segments -/
/-- a model that stays -/
def MdOk (K : PySem.W.Frag) (Γ : List Fc) (pm : Addr) (ms : List Mach) : Prop := ∃ dx lm, .obj pm (.ins (He.ga K "Model") dx (fl_Model (.ref lm))) ∈ Γ ∧ .dat (.ref lm) (.list (ms.map Mach.data)) ∈ Γ
theorem MdOk.mono {K : PySem.W.Frag} {Γ Γ' : List Fc} {pm : Addr} {ms : List Mach} (h : MdOk K Γ pm ms) (s : ∀ f ∈ Γ, f ∈ Γ') : MdOk K Γ' pm ms := let ⟨dx, lm, a, b⟩ := h; ⟨dx, lm, s _ a, s _ b⟩
section
variable {K : PySem.W.Frag} {Γ : List Fc} {S R : List Vo} {Q : VK} {E : XK}
theorem w_mkModel {n : Nat} {a : Addr} {ms : List Mach} (m : .dat (.ref a) (.list (ms.map Mach.data)) ∈ Γ) (hd : ∀ m ∈ ms, m.depth < n ∧ m.Sm) (hl : ms.length ≤ 1000)
    (k : ∀ p dx lm, Wh K (.obj p (.ins (He.ga K "Model") dx (fl_Model (.ref lm))) :: .dat (.ref lm) (.list (ms.map Mach.data)) :: Γ) S fun H => Q (.ref p) H) : Wh K Γ S fun H => mkI (He.ga K "Model") (spModelInit n K) [.ref a] H Q E := fun H z x dx nx nd ne => by
  obtain ⟨G, a1, b1⟩ := z.made (fs := []) (C := He.ga K "Model") nx nd ne
  obtain ⟨a', xs, ea, t1, t2⟩ := dp_lst (b1 _ m : Dp K G (.ref a) (.list (ms.map Mach.data)))
  cases ea
  have hlen := dpa_len t2
  rw [List.length_map] at hlen
  refine ⟨G, S.flatten, x, dx, a, xs, ms, rfl, a1, ext_l a1.ex t1, hlen, fun i v m' h1 h2 => ?_, hd, hl, fun l G' H' e1 _ z' d => ⟨rfl, ?_⟩⟩
  · obtain ⟨d, h3, h4⟩ := dpa_get' t2 h1
    rw [List.getElem?_map, h2] at h3
    cases h3
    exact machIn_of a1.ex h4
  · refine k x dx l H' (Hg.freeze ⟨G', z', fun f hf => ?_⟩)
    rcases List.mem_cons.mp hf with e | hf
    · rw [e]; exact d
    · exact Fc.mono e1 (b1 f hf)
end
end Mo
namespace Mo
open PySem PySem.Spec PyProof.Rows L2
/-! ### a model made of trees -/
inductive TrH (K : PySem.W.Frag) (G H : Hp) : Tr → Prop where
  | wd {x} : TrH K G H (.wd x)
  | dt {v d} (h : Dp K G v d) : TrH K G H (.dt v d)
  | ls {p ts} (h : H p = some (.lst (ts.map Tr.v))) (hs : ∀ t ∈ ts, TrH K G H t) : TrH K G H (.ls p ts)
  | tu {p ts} (h : G p = some (.tup (ts.map Tr.v))) (hs : ∀ t ∈ ts, TrH K G H t) : TrH K G H (.tu p ts)
section
variable {K : PySem.W.Frag} {G H : Hp}
mutual
theorem Tr.h : ∀ (t : Tr) (L : Vo), (∀ f ∈ t.F, f.In K G) → Hd G H (t.S ++ L) → TrH K G H t
  | .wd x, _, _, _ => .wd
  | .dt v d, _, hf, _ => .dt (hf (.dat v d) (by rw [Tr.F]; exact List.mem_singleton.mpr rfl))
  | .ls p ts, L, hf, z => by
    rw [Tr.F] at hf
    rw [Tr.S, List.append_assoc] at z
    exact .ls (z.eq List.mem_cons_self) (Tr.hs ts L hf z.drop)
  | .tu p ts, L, hf, z => by
    rw [Tr.F] at hf
    rw [Tr.S] at z
    exact .tu (hf (.obj p _) List.mem_cons_self) (Tr.hs ts L (fun f m => hf f (List.mem_cons_of_mem _ m)) z)
theorem Tr.hs : ∀ (ts : List Tr) (L : Vo), (∀ f ∈ Tr.FF ts, f.In K G) → Hd G H (Tr.SS ts ++ L) → ∀ t ∈ ts, TrH K G H t
  | [], _, _, _ => fun _ m => nomatch m
  | t :: ts, L, hf, z => by
    rw [Tr.FF] at hf
    rw [Tr.SS, List.append_assoc] at z
    intro u hu
    rcases List.mem_cons.mp hu with e | hu
    · rw [e]
      exact Tr.h t (Tr.SS ts ++ L) (fun f m => hf f (List.mem_append_left _ m)) z
    · refine Tr.hs ts (t.S ++ L) (fun f m => hf f (List.mem_append_right _ m)) (z.perm ?_) u hu
      rw [← List.append_assoc, ← List.append_assoc]
      exact List.Perm.append_right _ List.perm_append_comm
end
theorem map_cons_of {α β : Type} {f : α → β} {l : List α} {b : β} {bs : List β} (h : l.map f = b :: bs) : ∃ a r, l = a :: r ∧ f a = b ∧ r.map f = bs := List.map_eq_cons_iff.mp h
theorem map_nil_of {α β : Type} {f : α → β} {l : List α} (h : l.map f = []) : l = [] := List.map_eq_nil_iff.mp h
theorem dpa_of {G : Hp} : ∀ {ts : List Tr}, (∀ t ∈ ts, Dp K G t.v t.dat) → DpAll K G (ts.map Tr.v) (ts.map Tr.dat)
  | [], _ => .nil
  | t :: ts, h => .cons (h t List.mem_cons_self) (dpa_of fun u m => h u (List.mem_cons_of_mem _ m))
/-- data without lists stays -/
theorem TrH.dpG {t : Tr} (h : TrH K G H t) : ∀ {k n : Nat}, Cp k t → SpD n t.dat → Dp K G t.v t.dat := by
  induction h with
  | wd =>
    rename_i x
    intro k n _ _
    cases x with
    | i j => exact .int j
    | s j => exact .str j
  | dt h => intro k n _ _; exact h
  | ls h hs ih => intro k n _ hd; rw [Tr.dat] at hd; cases hd
  | tu h hs ih =>
    rename_i p ts
    intro k n hc hd
    rw [Tr.dat, Tr.dats_map] at hd ⊢
    cases hd with
    | tup hds =>
      cases hc with
      | tu hc _ => exact .tup (SqT.of h) (dpa_of fun t ht => ih t ht (hc t ht) (hds _ (List.mem_map.mpr ⟨t, ht, rfl⟩)))
theorem spd3 {n : Nat} {x y : Str} {d : PyData} (h : SpD (n + 1) d) : SpD (n + 2) (.tuple [.str x, .str y, d]) := .tup fun e he => by
  simp only [List.mem_cons, List.not_mem_nil, or_false] at he
  rcases he with rfl | rfl | rfl
  · exact .str
  · exact .str
  · exact h
theorem Fm.spd : ∀ f : Fm, SpD (f.depth + 2) f.data
  | .num n => .tup fun e he => by
    simp only [List.mem_cons, List.not_mem_nil, or_false] at he
    rcases he with rfl | rfl
    · exact .str
    · exact .int
  | .box n => .tup fun e he => by
    simp only [List.mem_cons, List.not_mem_nil, or_false] at he
    rcases he with rfl | rfl
    · exact .str
    · exact .str
  | .long n => .tup fun e he => by
    simp only [List.mem_cons, List.not_mem_nil, or_false] at he
    rcases he with rfl | rfl
    · exact .str
    · exact .str
  | .got n => .tup fun e he => by
    simp only [List.mem_cons, List.not_mem_nil, or_false] at he
    rcases he with rfl | rfl
    · exact .str
    · exact .int
  | .now => .tup fun e he => by
    simp only [List.mem_cons, List.not_mem_nil, or_false] at he
    subst he
    exact .str
  | .two o f g => by
    have h1 := Fm.spd f
    have h2 := Fm.spd g
    rw [Fm.data, Fm.depth]
    refine .tup fun e he => ?_
    simp only [List.mem_cons, List.not_mem_nil, or_false] at he
    rcases he with rfl | rfl | rfl
    · exact .str
    · exact h1.up (by omega)
    · exact h2.up (by omega)
mutual
theorem ddIn_tr (e : Ext G H) : ∀ (d : Dd) {t : Tr} {k : Nat}, TrH K G H t → Cp k t → t.dat = d.data → DdIn K G H t.v d
  | .put b f, t, k, h, hc, e1 => .put (by rw [← e1]; exact h.dpG hc (by rw [e1, Dd.data]; exact spd3 f.spd))
  | .push b f, t, k, h, hc, e1 => .push (by rw [← e1]; exact h.dpG hc (by rw [e1, Dd.data]; exact spd3 f.spd))
  | .draw b f, t, k, h, hc, e1 => .draw (by rw [← e1]; exact h.dpG hc (by rw [e1, Dd.data]; exact spd3 f.spd))
  | .fin, t, k, h, hc, e1 => .fin (by
    rw [← e1]
    refine h.dpG (n := 2) hc ?_
    rw [e1, Dd.data]
    exact .tup fun d hd => by rw [List.mem_singleton.mp hd]; exact .str)
  | .send to sign span rank g q, t, k, h, hc, e1 => .send (by
    rw [← e1]
    refine h.dpG (n := span.depth + g.depth + q.depth + 3) hc ?_
    rw [e1, Dd.data]
    refine .tup fun d hd => ?_
    simp only [List.mem_cons, List.not_mem_nil, or_false] at hd
    rcases hd with rfl | rfl | rfl | rfl | rfl | rfl | rfl
    · exact .str
    · exact .int
    · exact .str
    · exact span.spd.up (by omega)
    · exact .int
    · exact g.spd.up (by omega)
    · exact q.spd.up (by omega))
  | .pull q b ds, t, k, h, hc, e1 => by
    rw [Dd.data] at e1
    obtain ⟨p, ts, rfl, e2, c2⟩ := hc.tup e1
    obtain ⟨t1, r1, rfl, a1, e2⟩ := map_cons_of e2
    obtain ⟨t2, r2, rfl, a2, e2⟩ := map_cons_of e2
    obtain ⟨t3, r3, rfl, a3, e2⟩ := map_cons_of e2
    obtain ⟨t4, r4, rfl, a4, e2⟩ := map_cons_of e2
    obtain rfl := map_nil_of e2
    obtain rfl := (c2 t1 (by simp)).str a1
    obtain rfl := (c2 t2 (by simp)).str a2
    obtain rfl := (c2 t3 (by simp)).str a3
    obtain ⟨l, us, rfl, a5, c5⟩ := (c2 t4 (by simp)).lst a4
    cases h with
    | tu h hs =>
      cases hs _ (show Tr.ls l us ∈ _ by simp) with
      | ls h4 hs4 => exact .pull (SqT.of (e _ _ h)) (SqL.of h4) (ddsIn_tr e ds hs4 c5 a5)
  | .iff f ones others, t, k, h, hc, e1 => by
    rw [Dd.data] at e1
    obtain ⟨p, ts, rfl, e2, c2⟩ := hc.tup e1
    obtain ⟨t1, r1, rfl, a1, e2⟩ := map_cons_of e2
    obtain ⟨t2, r2, rfl, a2, e2⟩ := map_cons_of e2
    obtain ⟨t3, r3, rfl, a3, e2⟩ := map_cons_of e2
    obtain ⟨t4, r4, rfl, a4, e2⟩ := map_cons_of e2
    obtain rfl := map_nil_of e2
    obtain rfl := (c2 t1 (by simp)).str a1
    obtain ⟨l3, us3, rfl, a5, c5⟩ := (c2 t3 (by simp)).lst a3
    obtain ⟨l4, us4, rfl, a6, c6⟩ := (c2 t4 (by simp)).lst a4
    cases h with
    | tu h hs =>
      have hf := (hs t2 (by simp)).dpG (c2 t2 (by simp)) (by rw [a2]; exact f.spd)
      rw [a2] at hf
      cases hs _ (show Tr.ls l3 us3 ∈ _ by simp) with
      | ls h3 hs3 =>
        cases hs _ (show Tr.ls l4 us4 ∈ _ by simp) with
        | ls h4 hs4 => exact .iff (SqT.of (e _ _ h)) hf (SqL.of h3) (ddsIn_tr e ones hs3 c5 a5) (SqL.of h4) (ddsIn_tr e others hs4 c6 a6)
theorem ddsIn_tr (e : Ext G H) : ∀ (ds : List Dd) {ts : List Tr} {k : Nat}, (∀ t ∈ ts, TrH K G H t) → (∀ t ∈ ts, Cp k t) → ts.map Tr.dat = Dd.datas ds → DdsIn K G H (ts.map Tr.v) ds
  | [], ts, k, h, hc, e1 => by
    rw [Dd.datas] at e1
    obtain rfl := map_nil_of e1
    exact .nil
  | d :: ds, ts, k, h, hc, e1 => by
    rw [Dd.datas] at e1
    obtain ⟨t, r, rfl, a1, e2⟩ := map_cons_of e1
    exact .cons (ddIn_tr e d (h t List.mem_cons_self) (hc t List.mem_cons_self) a1) (ddsIn_tr e ds (fun u m => h u (List.mem_cons_of_mem _ m)) (fun u m => hc u (List.mem_cons_of_mem _ m)) e2)
end
theorem strs_tr : ∀ {ts : List Tr} {k : Nat} {xs : List Str}, (∀ t ∈ ts, Cp k t) → ts.map Tr.dat = xs.map PyData.str → ts.map Tr.v = xs.map V.str
  | [], k, xs, _, e => by
    have : xs = [] := map_nil_of e.symm
    rw [this]
    rfl
  | t :: ts, k, [], _, e => by cases e
  | t :: ts, k, x :: xs, h, e => by
    rw [List.map_cons, List.map_cons] at e
    injection e with e1 e2
    rw [List.map_cons, List.map_cons, strs_tr (fun u m => h u (List.mem_cons_of_mem _ m)) e2, (h t List.mem_cons_self).str e1]
    rfl
theorem ints_tr : ∀ {ts : List Tr} {k : Nat} {xs : List Int}, (∀ t ∈ ts, Cp k t) → ts.map Tr.dat = xs.map PyData.int → ts.map Tr.v = xs.map V.int
  | [], k, xs, _, e => by
    have : xs = [] := map_nil_of e.symm
    rw [this]
    rfl
  | t :: ts, k, [], _, e => by cases e
  | t :: ts, k, x :: xs, h, e => by
    rw [List.map_cons, List.map_cons] at e
    injection e with e1 e2
    rw [List.map_cons, List.map_cons, ints_tr (fun u m => h u (List.mem_cons_of_mem _ m)) e2, (h t List.mem_cons_self).int e1]
    rfl
theorem machIn_tr (e : Ext G H) {m : Mach} {t : Tr} {k : Nat} (h : TrH K G H t) (hc : Cp k t) (e1 : t.dat = m.data) : MachIn K G H t.v m := by
  unfold Mach.data at e1
  obtain ⟨p, ts, rfl, e2, c2⟩ := hc.tup e1
  obtain ⟨t1, r1, rfl, a1, e2⟩ := map_cons_of e2
  obtain ⟨t2, r2, rfl, a2, e2⟩ := map_cons_of e2
  obtain ⟨t3, r3, rfl, a3, e2⟩ := map_cons_of e2
  obtain ⟨t4, r4, rfl, a4, e2⟩ := map_cons_of e2
  obtain ⟨t5, r5, rfl, a5, e2⟩ := map_cons_of e2
  obtain rfl := map_nil_of e2
  obtain rfl := (c2 t1 (by simp)).str a1
  obtain ⟨lb, bs, rfl, b2, d2⟩ := (c2 t2 (by simp)).lst a2
  obtain ⟨lq, qs, rfl, b3, d3⟩ := (c2 t3 (by simp)).lst a3
  obtain ⟨ld, ds, rfl, b4, d4⟩ := (c2 t4 (by simp)).lst a4
  obtain ⟨lh, hs, rfl, b5, d5⟩ := (c2 t5 (by simp)).lst a5
  cases h with
  | tu h hh =>
    cases hh _ (show Tr.ls lb bs ∈ _ by simp) with
    | ls h2 hs2 =>
      cases hh _ (show Tr.ls lq qs ∈ _ by simp) with
      | ls h3 hs3 =>
        cases hh _ (show Tr.ls ld ds ∈ _ by simp) with
        | ls h4 hs4 =>
          cases hh _ (show Tr.ls lh hs ∈ _ by simp) with
          | ls h5 hs5 =>
            refine ⟨p, lb, lq, ld, lh, rfl, SqT.of (e _ _ h), ⟨_, SqL.of h2, ?_⟩, ?_, ?_, _, SqL.of h5, ?_, ?_⟩
            · rw [← b2]
              refine dpa_of fun u hu => (hs2 u hu).dpG (n := 2) (d2 u hu) ?_
              have : u.dat ∈ m.boxes.map boxD := by rw [← b2]; exact List.mem_map.mpr ⟨u, hu, rfl⟩
              obtain ⟨b, _, hb⟩ := List.mem_map.mp this
              rw [← hb]
              exact .tup fun x hx => by
                simp only [List.mem_cons, List.not_mem_nil, or_false] at hx
                rcases hx with rfl | rfl
                · exact .str
                · exact .int
            · rw [← strs_tr d3 b3]; exact SqL.of h3
            · rw [← ints_tr d4 b4]; exact SqL.of h4
            · have := congrArg List.length b5
              rw [List.length_map, List.length_map] at this
              rw [List.length_map]; exact this
            · intro i v hv
              rw [List.getElem?_map] at hv
              obtain ⟨u, hu, rfl⟩ := Option.map_eq_some_iff.mp hv
              have hum := List.mem_of_getElem? hu
              have e6 : (hs.map Tr.dat)[i]? = some u.dat := by rw [List.getElem?_map, hu]; rfl
              rw [b5, List.getElem?_map] at e6
              obtain ⟨q, hq, hqd⟩ := Option.map_eq_some_iff.mp e6
              obtain ⟨tp, ws, rfl, b6, d6⟩ := (d5 u hum).tup hqd.symm
              obtain ⟨w1, s1, rfl, f1, b6⟩ := map_cons_of b6
              obtain ⟨w2, s2, rfl, f2, b6⟩ := map_cons_of b6
              obtain rfl := map_nil_of b6
              obtain rfl := (d6 w1 (by simp)).str f1
              obtain ⟨lw, us, rfl, b7, d7⟩ := (d6 w2 (by simp)).lst f2
              cases hs5 _ hum with
              | tu h6 hs6 =>
                cases hs6 _ (show Tr.ls lw us ∈ _ by simp) with
                | ls h7 hs7 => exact ⟨tp, lw, _, q, rfl, SqT.of (e _ _ h6), SqL.of h7, ddsIn_tr e q.2 hs7 d7 b7, hq⟩
end
section
variable {K : PySem.W.Frag} {Γ : List Fc} {S R : List Vo} {Q : VK} {E : XK}
theorem w_mkModelT {n k : Nat} {a : Addr} {ts : List Tr} {ms : List Mach} (m : trsF K ts ∈ Γ) (hp : own a (.lst (ts.map Tr.v)) ∈ S) (ht : Take (segsV Tr.S ts) S R) (hc : ∀ t ∈ ts, Cp k t) (e : ts.map Tr.dat = ms.map Mach.data) (hd : ∀ m ∈ ms, m.depth < n ∧ m.Sm) (hl : ms.length ≤ 1000)
    (kk : ∀ p dx lm, Wh K (.obj p (.ins (He.ga K "Model") dx (fl_Model (.ref lm))) :: .dat (.ref lm) (.list (ms.map Mach.data)) :: Γ) S fun H => Q (.ref p) H) : Wh K Γ S fun H => mkI (He.ga K "Model") (spModelInit n K) [.ref a] H Q E := fun H z x dx nx nd ne => by
  have z0 := z.made (fs := []) (C := He.ga K "Model") nx nd ne
  have hpa := z0.own (List.mem_cons_of_mem _ hp)
  have hlen : ts.length = ms.length := by
    have := congrArg List.length e
    rwa [List.length_map, List.length_map] at this
  obtain ⟨G, a1, b1⟩ := z0
  have hth : ∀ t ∈ ts, TrH K G (upd (upd H dx (HO.own x)) x (HO.ins (He.ga K "Model") dx [])) t := by
    rw [← Tr.SS_segs] at ht
    have t1 : (own x (.ins (He.ga K "Model") dx []) :: S).flatten.Perm (Tr.SS ts ++ (own x (.ins (He.ga K "Model") dx []) :: R).flatten) := Take.there ht
    exact Tr.hs ts _ (b1 _ m) (a1.perm t1.symm)
  refine ⟨G, S.flatten, x, dx, a, _, ms, rfl, a1, SqL.of hpa, by rw [List.length_map]; exact hlen, fun i v m' h1 h2 => ?_, hd, hl, fun l G' H' e1 _ z' d => ⟨rfl, ?_⟩⟩
  · rw [List.getElem?_map] at h1
    obtain ⟨t, h3, rfl⟩ := Option.map_eq_some_iff.mp h1
    have htm := List.mem_of_getElem? h3
    have e4 : (ts.map Tr.dat)[i]? = some t.dat := by rw [List.getElem?_map, h3]; rfl
    rw [e, List.getElem?_map, h2] at e4
    exact machIn_tr a1.ex (hth t htm) (hc t htm) (Option.some.inj e4).symm
  · refine kk x dx l H' (Hg.freeze ⟨G', z', fun f hf => ?_⟩)
    rcases List.mem_cons.mp hf with e | hf
    · rw [e]; exact d
    · exact Fc.mono e1 (b1 f hf)
end
end Mo
namespace Mo
open PySem PySem.Spec PyProof.Rows L2
/-! ### a dict's names sorted: they are sorted in one way only -/
theorem not_lt_cps {a b : Str} : ltCps b.cps.toList a.cps.toList = false ↔ a.cps.toList ≤ b.cps.toList := by
  rw [ltCps_eq, decide_eq_false_iff_not]
  exact Iff.rfl
theorem rise_pair : ∀ (ys : List Str) (a : Str), risingS a ys = true → (a :: ys).Pairwise (fun x y => x.cps.toList ≤ y.cps.toList)
  | [], a, _ => List.pairwise_singleton _ _
  | b :: ys, a, h => by
    rw [risingS, Bool.and_eq_true] at h
    have h1 : a.cps.toList ≤ b.cps.toList := not_lt_cps.mp (by simpa using h.1)
    have h2 := rise_pair ys b h.2
    refine List.pairwise_cons.mpr ⟨fun c m => ?_, h2⟩
    rcases List.mem_cons.mp m with rfl | m
    · exact h1
    · exact List.le_trans h1 ((List.pairwise_cons.mp h2).1 c m)
theorem sorted_pair {ys : List Str} (h : sortedS ys = true) : ys.Pairwise (fun x y => x.cps.toList ≤ y.cps.toList) := by
  cases ys with
  | nil => exact List.Pairwise.nil
  | cons a ys => exact rise_pair ys a h
theorem sorted_uniq {xs ys : List Str} (hp : xs.Perm ys) (h1 : sortedS xs = true) (h2 : sortedS ys = true) : xs = ys :=
  List.Perm.eq_of_pairwise (fun a b _ _ h k => Str.ext' (Array.toList_inj.mp (List.le_antisymm h k))) (sorted_pair h1) (sorted_pair h2) hp
def rSortedD (K : PySem.W.Frag) : List V → Hp → VK → Prop := fun xs H Q => ∃ (a : Addr) (kvs : List (Key × V)) (ks : List Str), xs = [.ref a] ∧ Rd H a (.dK kvs) ∧ kvs.map (·.1) = ks.map Sum.inr ∧ ks.length < 64 ∧
    ∀ ys p, ys.Perm ks → sortedS ys = true → H p = none → Q (.ref p) (upd H p (.lst (ys.map V.str)))
theorem cr_sortedDK {X : Cx} {K : PySem.W.Frag} (_ : X.K = K) (hcalm : X.calm = true) : CallR X (.builtin "sorted") (rSortedD K) := call_sortedD hcalm
section
variable {K : PySem.W.Frag} {Γ : List Fc} {S : List Vo} {Q : VK} {a : Addr}
theorem w_sortD {kvs : List (Key × V)} {ks : List Str} (e : kvs.map (·.1) = ks.map Sum.inr) (h64 : ks.length < 64) (m : AtH K Γ S a (.dK kvs)) (k : ∀ (ys : List Str) (p : Addr), ys.Perm ks → sortedS ys = true → Wh K Γ (own p (.lst (ys.map V.str)) :: S) fun H => Q (.ref p) H) : Wh K Γ S fun H => rSortedD K [.ref a] H Q := fun H z =>
  ⟨a, kvs, ks, rfl, .inl (m H z), e, h64, fun ys p h1 h2 hp => k ys p h1 h2 _ (z.new hp)⟩
end
end Mo
namespace Mo
open PySem PySem.Spec PyProof.Rows L2
/-! ### a list of texts sorted -/
def rSortedS (K : PySem.W.Frag) : List V → Hp → VK → Prop := fun vs H Q => ∃ (a : Addr) (zs : List Str), vs = [V.ref a] ∧ SqL K H a (zs.map V.str) ∧ zs.length < 64 ∧ ∀ (ys : List Str) (p : Addr), ys.Perm zs → sortedS ys = true → H p = none → Q (.ref p) (upd H p (.lst (ys.map V.str)))
theorem cr_sortedS {X : Cx} : CallR X (.builtin "sorted") (rSortedS X.K) := by
  intro pins s σ H vs us Q I r h
  obtain ⟨a, zs, rfl, hs, h64, q⟩ := h
  obtain ⟨its, rv, hl, hz⟩ := I.list hs
  rw [Vals.ref1 r]
  have hS := rv.strs
  refine PyProof.Rows.sorted_strs hl.isList hS (by have := rv.length; rw [List.length_map] at this; omega) fun out ss' k1 k2 k3 => ?_
  obtain ⟨ep, he'⟩ := PyProof.Rows.sortedAll_at s.heap its out
  have hlen : (ss'.map V.str).length ≤ sizeLine := by
    rw [List.length_map, k2.length_eq]
    rw [List.length_map] at hz
    exact hz
  exact ⟨.ref _, upd H (s.heap.objs.size + 1) (.lst (ss'.map V.str)), I.laid (t' := s.toks) (fun _ _ => PyProof.Rows.sortedAll_old) (Nat.le_succ _) ⟨hlen, out.toList, ep, vals_of_strs k1, by rw [Array.toArray_toList]; exact he'⟩, rfl, q _ _ k2 k3 (I.hok.fresh (Nat.le_succ _))⟩
theorem cr_sortedSK {X : Cx} {K : PySem.W.Frag} (hK : X.K = K) : CallR X (.builtin "sorted") (rSortedS K) := hK ▸ cr_sortedS
section
variable {K : PySem.W.Frag} {Γ : List Fc} {S : List Vo} {Q : VK} {a : Addr}
theorem w_sortS {zs : List Str} (h64 : zs.length < 64) (m : AtH K Γ S a (.lst (zs.map V.str))) (k : ∀ (ys : List Str) (p : Addr), ys.Perm zs → sortedS ys = true → Wh K Γ (own p (.lst (ys.map V.str)) :: S) fun H => Q (.ref p) H) : Wh K Γ S fun H => rSortedS K [.ref a] H Q := fun H z => ⟨a, zs, rfl, SqL.of (m H z), h64, fun ys p h1 h2 hp => k ys p h1 h2 _ (z.new hp)⟩
end
end Mo
namespace Mo
open PySem PySem.Spec PyProof.Rows L2
/-! ### data that may be compared: texts of signs that there are, not deep -/
structure Shp (n : Nat) (d : PyData) : Prop where
  lay : d.canLay0 = true
  dep : d.depth ≤ n
structure Shps (n : Nat) (ds : List PyData) : Prop where
  lay : PyData.canLayAll0 ds = true
  dep : PyData.depthAll ds ≤ n
section
variable {n m : Nat} {d : PyData} {ds es : List PyData}
theorem Shp.shaped (h : Shp n d) (hn : n ≤ 64) : SeqAt.shaped d = true := by
  unfold SeqAt.shaped
  rw [Bool.and_eq_true]
  exact ⟨h.lay, decide_eq_true (Nat.le_trans h.dep hn)⟩
theorem Shp.int {i : Int} : Shp n (.int i) := ⟨rfl, by simp only [PyData.depth]; exact Nat.zero_le _⟩
theorem Shp.bool {i : Bool} : Shp n (.bool i) := ⟨rfl, by simp only [PyData.depth]; exact Nat.zero_le _⟩
theorem Shp.none : Shp n .none := ⟨rfl, by simp only [PyData.depth]; exact Nat.zero_le _⟩
theorem Shp.str {x : Str} (h : PyData.strOk x = true) : Shp n (.str x) := ⟨h, by simp only [PyData.depth]; exact Nat.zero_le _⟩
theorem Shps.nil : Shps n [] := ⟨rfl, by simp only [PyData.depthAll]; exact Nat.zero_le _⟩
theorem Shps.cons (h : Shp n d) (t : Shps n ds) : Shps n (d :: ds) := ⟨by show (PyData.canLay0 d && PyData.canLayAll0 ds) = true; rw [h.lay, t.lay]; rfl, by have h1 := h.dep; have h2 := t.dep; simp only [PyData.depthAll]; omega⟩
theorem Shps.app (h : Shps n ds) (t : Shps n es) : Shps n (ds ++ es) := by
  induction ds with
  | nil => exact t
  | cons d ds ih =>
    have h1 := h.lay
    have h2 := h.dep
    have h1' : (PyData.canLay0 d && PyData.canLayAll0 ds) = true := h1
    rw [Bool.and_eq_true] at h1'
    simp only [PyData.depthAll] at h2
    exact .cons ⟨h1'.1, by omega⟩ (ih ⟨h1'.2, by omega⟩)
theorem Shp.tup (h : Shps n ds) : Shp (n + 1) (.tuple ds) := ⟨h.lay, by have := h.dep; simp only [PyData.depth]; omega⟩
theorem Shp.lst (h : Shps n ds) : Shp (n + 1) (.list ds) := ⟨h.lay, by have := h.dep; simp only [PyData.depth]; omega⟩
theorem Shps.map {α : Type} {f : α → PyData} : ∀ {xs : List α}, (∀ x ∈ xs, Shp n (f x)) → Shps n (xs.map f)
  | [], _ => .nil
  | x :: xs, h => .cons (h x List.mem_cons_self) (Shps.map fun y hy => h y (List.mem_cons_of_mem _ hy))
theorem Shps.ints {ns : List Int} : Shps n (ns.map PyData.int) := .map fun _ _ => .int
end
/-- texts of signs that there are -/
def SOk (x : Str) : Prop := PyData.strOk x = true
theorem NameOk.sok {x : Str} (h : NameOk x) : SOk x := by
  show x.cps.all (· < 0x110000) = true
  rw [Array.all_eq_true_iff_forall_mem]
  intro c hc
  have := h.let_ c (by rw [Array.mem_toList_iff]; exact hc)
  exact decide_eq_true (by omega)
end Mo
namespace Mo
open PySem PySem.Spec PyProof.Rows L2
/-! ### first_state -/
section
variable {P : Program} {w : World} {K : PySem.W.Frag} {mg : Str → Option Value} {base : Heap}
def spFirst (K : PySem.W.Frag) : Sp := fun vs H Q _ => ∃ (G : Hp) (L : Vo) (pm : Addr) (ms : List Mach) (i : Nat) (m : Mach), vs = [.ref pm, .int (i : Int)] ∧ Hd G H L ∧ ModelG K G pm ms ∧ ms[i]? = some m ∧ m.Nd ∧ m.Sm ∧
  ∀ p dx b q as H', as.length = m.queues.length → Ext H H' → Hd G H' (vo (StC K p dx b q as m.first) ++ L) → Q (.ref p) H'
theorem ok_first_state (T : Tx K mg) : OkG P w K mg base 3 "first_state" ["model", "at"] (spFirst K) := by
  have G_State_init := ok_State_init (P := P) (w := w) (base := base) T
  refine T.f_first_state.okX sc_first_state (fun vs H Q E h => ?_) (fun cdv A outer s H vs Q E hr h => ?_)
  · obtain ⟨G, L, pm, ms, i, m, rfl, _⟩ := h
    rfl
  · have hu1 := hu_of hr; have hu0 := hr.units0; have hu64 := hr.units; have hu65 := hu65_of hr; have nd := sc_first_state.nd
    obtain ⟨G, L, pm, ms, i, m, rfl, hH, hM, hm, hnd, hsm, q⟩ := h
    refine ⟨_, (pss_cons (ps_set (i := 2) nd rfl (Or.inl rfl) pe_dnew)
      (pss_cons (ps_for (passes_of rfl) rfl (pi_seqK (K := K) rfl (pe_ix (ix_anyK (K := K) rfl hu1) (pe_ix (ix_anyK (K := K) rfl hu1) (pe_fldK (K := K) rfl (pv 0) rfl) (pv 1) (fun _ _ => rfl)) pe_int (fun _ _ => rfl))) (pg_tupK (K := K) (n := 2) rfl rfl (pgs_cons (pg_name (i := 3) nd rfl (Or.inl rfl)) (pgs_cons (pg_name (i := 4) nd rfl (Or.inl rfl)) pgs_nil)) rfl rfl)
      (pss_one (ps_asg (pv 4) (pg_sub (pv 2) (pv 3) (set_any hu1)))))
      (pss_cons (ps_set (i := 5) nd rfl (Or.inl rfl) pe_dnew)
      (pss_cons (ps_for (passes_of rfl) rfl (pi_seqK (K := K) rfl (pe_ix (ix_anyK (K := K) rfl hu1) (pe_ix (ix_anyK (K := K) rfl hu1) (pe_fldK (K := K) rfl (pv 0) rfl) (pv 1) (fun _ _ => rfl)) pe_int (fun _ _ => rfl))) (pg_name (i := 3) nd rfl (Or.inl rfl))
      (pss_one (ps_asg (pe_lst pa_nil) (pg_sub (pv 5) (pv 3) (set_any hu1)))))
      (pss_one (ps_ret (pmkK (K := K) rfl T.k_State G_State_init hr (takes_of rfl rfl rfl rfl) (pa_cons (pv 2) (pa_cons (pv 5) (pa_cons pe_int (pa_cons pe_int pa_nil))))))))))), ?_⟩
    refine go_start (σ' := [some (.ref pm), some (.int (i : Int)), none, none, none, none]) rfl ?_
    obtain ⟨dxm, lm, hpm, hDm⟩ := hM.there
    have eG := hH.ex
    have hmi : (ms.map Mach.data)[i]? = some m.data := by rw [List.getElem?_map, hm]; rfl
    k_extra "we"
    refine go_dK fun b hb => ?_
    have z1 := hH.new hb (φ := Eq (.dK (boxesV []))) rfl
    k_extra "we"
    refine go_fldL (z1.ex _ _ hpm) T.c_Model T.n_Model_machines lk_Model_machines ?_
    k_extra "we"
    refine go_gL z1.ex hDm (n := i) rfl hmi fun vm hvm => ?_
    unfold Mach.data at hvm
    k_extra "we"
    refine go_gT z1.ex hvm (n := 1) rfl rfl fun vb hvb => ?_
    obtain ⟨lb, bs, rfl, hlb, hbs⟩ := dp_lst hvb
    have hbl := dpa_len hbs
    rw [List.length_map] at hbl
    k_extra "we"
    refine go_sqL (ext_l z1.ex hlb) ?_
    refine loop_l (xs := bs) (fun j σ H' => ∃ v1 v2, σ = [some (.ref pm), some (.int (i : Int)), some (.ref b), v1, v2, none] ∧ Ext H H' ∧ Hd G H' ((b, Eq (.dK (boxesV (m.boxes.take j)))) :: L))
      ⟨none, none, rfl, Ext.new hb, z1⟩ ?_ ?_ ?_
    · rintro j σ' H' _ ⟨v1, v2, _, e1, e2⟩
      exact ext_l e2.ex hlb
    · rintro j x σ' H' hj ⟨v1, v2, rfl, e1, e2⟩
      obtain ⟨d, hd1, hd2⟩ := dpa_get' hbs hj
      rw [List.getElem?_map] at hd1
      cases hbx : m.boxes[j]? with
      | none => rw [hbx] at hd1; cases hd1
      | some bx =>
        rw [hbx] at hd1
        obtain rfl := Option.some.inj hd1
        unfold boxD at hd2
        obtain ⟨t, ts, rfl, ht, hts⟩ := dp_tup hd2
        cases hts with
        | cons f1 hts => cases hts with
          | cons f2 hts =>
            cases hts
            obtain rfl := dp_str f1
            obtain rfl := dp_int f2
            have hlt : j < m.boxes.length := (List.getElem?_eq_some_iff.mp hbx).1
            have hnin : bx.1 ∉ (m.boxes.take j).map (·.1) := by
              rw [List.map_take]
              exact nodup_take hnd.boxes (by rw [List.getElem?_map, hbx]; rfl)
            refine go_gtup (ext_t e2.ex ht) rfl ?_
            k_extra "we"
            refine go_setK (e2.eq List.mem_cons_self) (by unfold boxesV; rw [List.length_map, List.length_take, sizeLine_eq]; have := hsm.boxes; omega) ?_
            rw [boxesV_put hnin]
            refine ⟨_, _, rfl, e1.put hb, ?_⟩
            have et : m.boxes.take j ++ [(bx.1, bx.2)] = m.boxes.take (j + 1) := by rw [List.take_add_one, hbx]; rfl
            rw [et]
            exact e2.set 0 rfl rfl
    · rintro σ' H1 ⟨v1, v2, rfl, e1, e2⟩
      rw [hbl, List.take_of_length_le (Nat.le_refl _)] at e2
      k_extra "we"
      refine go_dK fun c hc => ?_
      have z2 := e2.new hc (φ := Eq (.dK (queuesV [] []))) rfl
      have hcH := e1.free hc
      k_extra "we"
      refine go_fldL (z2.ex _ _ hpm) T.c_Model T.n_Model_machines lk_Model_machines ?_
      k_extra "we"
      refine go_gL z2.ex hDm (n := i) rfl hmi fun vm' hvm' => ?_
      unfold Mach.data at hvm'
      k_extra "we"
      refine go_gT z2.ex hvm' (n := 2) rfl rfl fun vq hvq => ?_
      obtain ⟨lq, qs, rfl, hlq, hqs⟩ := dp_lst hvq
      obtain rfl := dpa_strs' hqs
      k_extra "we"
      refine go_sqL (ext_l z2.ex hlq) ?_
      refine loop_l (xs := m.queues.map V.str) (fun j σ H' => ∃ v1 v2 as, σ = [some (.ref pm), some (.int (i : Int)), some (.ref b), v1, v2, some (.ref c)] ∧ as.length = min j m.queues.length ∧ Ext H H' ∧
          Hd G H' ((c, Eq (.dK (queuesV ((m.queues.take j).map fun q => (q, [])) as))) :: (b, Eq (.dK (boxesV m.boxes))) :: ((((m.queues.take j).map fun q => (q, ([] : List Int))).zip as).map fun e => (e.2, Eq (HO.lst (e.1.2.map V.int)))) ++ L))
        ⟨_, _, [], rfl, by simp, e1.trans (Ext.new hc), z2⟩ ?_ ?_ ?_
      · rintro j σ' H' _ ⟨v1, v2, as, _, _, _, e4⟩
        exact ext_l e4.ex hlq
      · rintro j x σ' H' hj ⟨v1, v2, as, rfl, hal, e3, e4⟩
        rw [List.getElem?_map] at hj
        cases hqx : m.queues[j]? with
        | none => rw [hqx] at hj; cases hj
        | some qx =>
          rw [hqx] at hj
          obtain rfl := Option.some.inj hj
          have hlt : j < m.queues.length := (List.getElem?_eq_some_iff.mp hqx).1
          have htl : (m.queues.take j).length = as.length := by rw [List.length_take, hal]
          have hnin : qx ∉ ((m.queues.take j).map fun q => (q, ([] : List Int))).map (·.1) := by
            rw [List.map_map]
            have ee : ((·.1) ∘ fun q => (q, ([] : List Int))) = (id : Str → Str) := rfl
            rw [ee, List.map_id]
            exact nodup_take hnd.queues hqx
          k_extra "we"
          refine go_sz rfl fun z hz => ?_
          k_extra "we"
          have z3 := e4.new hz (φ := Eq (.lst [])) rfl
          refine go_setK (z3.eq (List.mem_cons_of_mem _ List.mem_cons_self)) (by unfold queuesV; rw [List.length_map, List.length_zip, List.length_map, List.length_take, sizeLine_eq]; have := hsm.queues; omega) ?_
          rw [queuesV_put (ns := []) (by rw [List.length_map]; exact htl) hnin]
          have et : ((m.queues.take j).map fun q => (q, ([] : List Int))) ++ [(qx, [])] = (m.queues.take (j + 1)).map fun q => (q, []) := by rw [List.take_add_one, hqx, List.map_append]; rfl
          rw [et]
          refine ⟨_, _, as ++ [z], rfl, by rw [List.length_append, hal, List.length_singleton]; omega, (e3.trans (Ext.new hz)).put hcH, ?_⟩
          have z4 := z3.set (o' := .dK (queuesV ((m.queues.take (j + 1)).map fun q => (q, [])) (as ++ [z]))) (ψ := Eq (.dK (queuesV ((m.queues.take (j + 1)).map fun q => (q, [])) (as ++ [z])))) 1 rfl rfl
          refine z4.perm ?_
          rw [← et, List.zip_append (by rw [List.length_map]; exact htl), List.map_append]
          simp only [List.cons_append, List.set_cons_succ, List.set_cons_zero, List.append_assoc]
          exact (perm_back _ _ _ _ _).symm
      · rintro σ' H2 ⟨v1, v2, as, rfl, hal, e3, e4⟩
        rw [List.length_map, List.take_of_length_le (Nat.le_refl _)] at e4
        rw [List.length_map] at hal
        k_extra "we"
        intro p dx np ndx nex
        refine ⟨p, dx, _, _, _, _, rfl, upd_same, ?_⟩
        refine ⟨rfl, ?_⟩
        rw [upd_upd]
        refine q p dx b c as _ (by omega) (e3.trans (Ext.made np ndx)) ?_
        have z5 := e4.made (φ := Eq (.ins (He.ga K "State") dx (fl_State (.ref b) (.ref c) (.int 0) (.int 0)))) np ndx nex rfl
        unfold StC vo
        simp only [List.map_cons, List.map_map, List.cons_append]
        simp only [List.cons_append] at z5
        exact z5.perm (.cons _ (.swap _ _ _))
end
end Mo
namespace Mo
open PySem PySem.Spec PyProof.Rows L2
/-! ### law_k01: a first state looked at -/
structure L1I where
  p : Addr
  dx : Addr
  b : Addr
  q : Addr
  as : List Addr
  hv : Addr
  m : Mach
structure L1I.Ok (i : L1I) : Prop where
  bl : i.m.boxes.length ≤ 50
  ql : i.m.queues.length ≤ 50
  nb : (i.m.boxes.map (·.1)).Nodup
  nq : i.m.queues.Nodup
  so : ∀ x ∈ i.m.boxes.map (·.1), SOk x
  sq : ∀ x ∈ i.m.queues, SOk x
  as : i.as.length = i.m.queues.length
def spLook1 (K : PySem.W.Frag) : Sp := SpF K (fun i : L1I => [.ref i.p, .ref i.hv]) (fun i Γ => .dat (.ref i.hv) i.m.data ∈ Γ ∧ i.Ok) (fun i => [stV K i.p i.dx i.b i.q i.as i.m.first]) (fun i v Γ' S' => v = .bl true ∧ Γ' = [] ∧ S' = [stV K i.p i.dx i.b i.q i.as i.m.first]) noEx
section
variable {K : PySem.W.Frag} {Γ : List Fc} {S : List Vo} {Q : VK} {E : XK} {a : Addr}
theorem w_isi_dd {kvs : List (Key × V)} (m : AtH K Γ S a (.dK kvs)) (k : Wh K Γ S fun H => Q (.bl true) H) : Wh K Γ S fun H => rIsi K [.ref a, .ty "dict"] H Q := fun H z => go_isi (.ty _) (.base (.dK (m H z))) (kit_ty (by decide +kernel)) (k H z)
theorem w_whole1 {n : Int} (k : Wh K Γ S fun H => Q (.bl true) H) : Wh K Γ S fun H => spWhole [.int n] H Q E := fun H z => ⟨n, rfl, k H z⟩
theorem w_sortSD {zs : List Str} (h64 : zs.length < 64) (m : .dat (.ref a) (.list (zs.map PyData.str)) ∈ Γ) (k : ∀ (ys : List Str) (p : Addr), ys.Perm zs → sortedS ys = true → Wh K Γ (own p (.lst (ys.map V.str)) :: S) fun H => Q (.ref p) H) : Wh K Γ S fun H => rSortedS K [.ref a] H Q := fun H z => by
  obtain ⟨b, xs, e, h1, h2⟩ := dp_lst (z.dat m)
  cases e
  have := dpa_strs' h2
  subst this
  exact ⟨a, zs, rfl, h1, h64, fun ys p h1 h2 hp => k ys p h1 h2 _ (z.new hp)⟩
end
theorem bx_keys (bs : List (Str × Int)) : (boxesV bs).map (·.1) = (bs.map (·.1)).map Sum.inr := by
  unfold boxesV
  rw [List.map_map, List.map_map]
  rfl
theorem qu_keys {qs : List (Str × List Int)} {as : List Addr} (h : qs.length = as.length) : (queuesV qs as).map (·.1) = (qs.map (·.1)).map Sum.inr := by
  unfold queuesV
  rw [List.map_map, List.map_map]
  show List.map (fun e : (Str × List Int) × Addr => (Sum.inr e.1.1 : Key)) (qs.zip as) = _
  have e : (qs.zip as).map (fun e => (Sum.inr e.1.1 : Key)) = ((qs.zip as).map Prod.fst).map fun y => (Sum.inr y.1 : Key) := by rw [List.map_map]; rfl
  rw [e, List.map_fst_zip (by omega)]
  rfl
theorem lookD_of {α : Type} {d : α} : ∀ {l : List (Str × α)} {p : Str × α}, (l.map (·.1)).Nodup → p ∈ l → lookD d p.1 l = p.2
  | [], _, _, h => nomatch h
  | q :: l, p, nd, h => by
    rw [List.map_cons, List.nodup_cons] at nd
    show (if q.1 = p.1 then q.2 else lookD d p.1 l) = p.2
    rcases List.mem_cons.mp h with rfl | h
    · rw [if_pos rfl]
    · rw [if_neg (fun e => nd.1 (by rw [e]; exact List.mem_map.mpr ⟨p, h, rfl⟩))]
      exact lookD_of nd.2 h
theorem look_nil : ∀ (qs : List Str) (x : Str), lookD ([] : List Int) x (qs.map fun q => (q, [])) = []
  | [], _ => rfl
  | q :: qs, x => by
    show (if q = x then [] else lookD [] x (qs.map fun q => (q, []))) = []
    split
    · rfl
    · exact look_nil qs x
section
variable {P : Program} {w : World} {K : PySem.W.Frag} {mg : Str → Option Value} {base : Heap}
theorem ok__law_state (T : Tx K mg) : OkG P w K mg base 2 "_law_state" ["_law_found", "_law_machine_here"] (spLook1 K) := by
  have G__law_whole := ok__law_whole (P := P) (w := w) (base := base) T
  refine T.f__law_state.okX sc__law_state (fun vs H Q E h => ?_) (fun cdv A outer s H vs Q E hr h => ?_)
  · obtain ⟨i, _, _, rfl, _⟩ := h
    rfl
  · have hu1 := hu_of hr; have hu0 := hr.units0; have hu64 := hr.units; have hu65 := hu65_of hr; have nd := sc__law_state.nd
    obtain ⟨⟨p, dx, b, q, as, hv, m⟩, Γ, S, rfl, z, ⟨hd, ⟨hbl, hql, hnb, hnq, hso, hsq, has⟩⟩, q', x⟩ := h
    dsimp only at z hd hbl hql hnb hnq hso hsq has q' x
    refine ⟨_, (pss_cons (ps_if (PW.pt (pw_or (pt_not (pt_truthK (K := K) rfl (pe_callB (call_isiKK (K := K) rfl) (by rfl) T.b_isinstance (by decide +kernel) (pa_cons (pe_fldK (K := K) rfl (pv 0) rfl) (pa_cons (pe_bltn (v := .ty "dict") (by rfl) T.b_dict (by decide +kernel) rfl) pa_nil))) (by intro _; rfl))) (pw_or1 (pt_not (pt_truthK (K := K) rfl (pe_callB (call_isiKK (K := K) rfl) (by rfl) T.b_isinstance (by decide +kernel) (pa_cons (pe_fldK (K := K) rfl (pv 0) rfl) (pa_cons (pe_bltn (v := .ty "dict") (by rfl) T.b_dict (by decide +kernel) rfl) pa_nil))) (by intro _; rfl)))))) (pss_one (ps_ret pe_bl))
      pss_nil)
      (pss_cons (ps_if (pt_cmpR (op_neK (K := K) rfl hu64) (pe_callB (cr_sortedDK (K := K) rfl rfl) (by rfl) T.b_sorted (by decide +kernel) (pa_cons (pe_fldK (K := K) rfl (pv 0) rfl) pa_nil)) (pe_callB (cr_sortedSK (K := K) rfl) (by rfl) T.b_sorted (by decide +kernel) (pa_cons (pe_lc (own := [("_law_name", 2), ("_law_worth_here", 3)]) rfl nd (pi_seqK (K := K) rfl (pe_ix (ix_anyK (K := K) rfl hu1) (pv 1) pe_int (fun _ _ => rfl))) (blkOk_by (own := [("_law_name", 2), ("_law_worth_here", 3)]) (N := nm__law_state) (sc := defScope s__law_state) (by decide +kernel)) (fun _ _ _ _ _ => (pg_tupK (K := K) (n := 2) rfl rfl (pgs_cons (pg_name (i := 2) nd rfl (Or.inl rfl) (Or.inr rfl)) (pgs_cons (pg_name (i := 3) nd rfl (Or.inl rfl) (Or.inr rfl)) pgs_nil)) rfl rfl)) (fun _ _ _ _ _ => pts_nil) (fun _ _ _ _ _ => (pv 2))) pa_nil)) (nomark _)) (pss_one (ps_ret pe_bl))
      pss_nil)
      (pss_cons (ps_for (passes_of rfl) rfl (pi_seqK (K := K) rfl (pe_ix (ix_anyK (K := K) rfl hu1) (pv 1) pe_int (fun _ _ => rfl))) (pg_tupK (K := K) (n := 2) rfl rfl (pgs_cons (pg_name (i := 2) nd rfl (Or.inl rfl)) (pgs_cons (pg_name (i := 3) nd rfl (Or.inl rfl)) pgs_nil)) rfl rfl)
      (pss_one (ps_if (PW.pt (pw_or (pt_not (pt_truthK (K := K) rfl (pcl T.g__law_whole G__law_whole hr (takes_of rfl rfl rfl rfl) (pa_cons (pe_ix (ix_anyK (K := K) rfl hu1) (pe_fldK (K := K) rfl (pv 0) rfl) (pv 2) (fun _ _ => rfl)) pa_nil)) (by intro _; rfl))) (pw_or1 (pt_cmpR (op_neK (K := K) rfl hu64) (pe_ix (ix_anyK (K := K) rfl hu1) (pe_fldK (K := K) rfl (pv 0) rfl) (pv 2) (fun _ _ => rfl)) (pv 3) (nomark _))))) (pss_one (ps_ret pe_bl))
      pss_nil)))
      (pss_cons (ps_if (pt_cmpR (op_neK (K := K) rfl hu64) (pe_callB (cr_sortedDK (K := K) rfl rfl) (by rfl) T.b_sorted (by decide +kernel) (pa_cons (pe_fldK (K := K) rfl (pv 0) rfl) pa_nil)) (pe_callB (cr_sortedSK (K := K) rfl) (by rfl) T.b_sorted (by decide +kernel) (pa_cons (pe_ix (ix_anyK (K := K) rfl hu1) (pv 1) pe_int (fun _ _ => rfl)) pa_nil)) (nomark _)) (pss_one (ps_ret pe_bl))
      pss_nil)
      (pss_cons (ps_for (passes_of rfl) rfl (pi_seqK (K := K) rfl (pe_ix (ix_anyK (K := K) rfl hu1) (pv 1) pe_int (fun _ _ => rfl))) (pg_name (i := 2) nd rfl (Or.inl rfl))
      (pss_one (ps_if (PW.pt (pw_or (pt_not (pt_truthK (K := K) rfl (pe_callB (call_isiKK (K := K) rfl) (by rfl) T.b_isinstance (by decide +kernel) (pa_cons (pe_ix (ix_anyK (K := K) rfl hu1) (pe_fldK (K := K) rfl (pv 0) rfl) (pv 2) (fun _ _ => rfl)) (pa_cons (pe_bltn (v := .ty "list") (by rfl) T.b_list (by decide +kernel) rfl) pa_nil))) (by intro _; rfl))) (pw_or1 (pt_cmpR (op_neK (K := K) rfl hu64) (pe_ix (ix_anyK (K := K) rfl hu1) (pe_fldK (K := K) rfl (pv 0) rfl) (pv 2) (fun _ _ => rfl)) (pe_lst pa_nil) (nomark _))))) (pss_one (ps_ret pe_bl))
      pss_nil)))
      (pss_one (ps_ret (pe_and (pcl T.g__law_whole G__law_whole hr (takes_of rfl rfl rfl rfl) (pa_cons (pe_fldK (K := K) rfl (pv 0) rfl) pa_nil)) (pe_and (pcl T.g__law_whole G__law_whole hr (takes_of rfl rfl rfl rfl) (pa_cons (pe_fldK (K := K) rfl (pv 0) rfl) pa_nil)) (pe_and (pe_cmpR (op_eqK (K := K) rfl hu64) (pe_fldK (K := K) rfl (pv 0) rfl) pe_int (nomark _)) (pe_one (pe_cmpR (op_eqK (K := K) rfl hu64) (pe_fldK (K := K) rfl (pv 0) rfl) pe_int (nomark _))))))))))))), ?_⟩
    refine w_start (σ' := [some (.ref p), some (.ref hv), none, none]) rfl z ?_
    dsimp only [List.cons_append, List.nil_append] at q' ⊢
    have hfb : m.first.bs = m.boxes.map (·.1) := rfl
    have hfq : m.first.qs = m.queues := by
      show (m.queues.map fun q => (q, ([] : List Int))).map (·.1) = _
      rw [List.map_map]
      exact List.map_id _
    have hfl : m.first.queues.length = as.length := by
      show (m.queues.map _).length = _
      rw [List.length_map, has]
    have hfbx : m.first.boxes = m.boxes := rfl
    have hlk : ∀ x, lookD [] x m.first.queues = [] := look_nil m.queues
    unfold Mach.data at hd
    k_extra "W"
    refine w_isi_dd (by k_extra "at") ?_
    k_extra "W"
    refine w_isi_dd (by k_extra "at") ?_
    k_extra "W"
    refine w_sortD (ks := m.first.bs) (bx_keys _) (by rw [hfb, List.length_map]; omega) (by k_extra "at") fun ys ly hy1 hy2 => ?_
    k_extra "W"
    rename_i lb
    have hys : ∀ ys', ys'.Perm (m.boxes.map (·.1)) → sortedS ys' = true → ys' = ys := fun ys' h1 h2 => sorted_uniq (h1.trans (by rw [← hfb]; exact hy1.symm)) h2 hy2
    have hysh : SeqAt.shaped (.list (ys.map PyData.str)) = true := (Shp.lst (n := 1) (.map fun y hy => .str (hso y (by rw [← hfb]; exact hy1.mem_iff.mp hy)))).shaped (by decide)
    refine w_freeze (p := ly) (ds := ys.map PyData.str) (by k_extra "t") DL.strs ?_
    refine w_lc_D (ι := Unit) (m.boxes.map boxD) (fun _ _ => True) (fun j _ => ((m.boxes.map (·.1)).take j).map V.str) (fun _ _ => .dat (.ref lb) (.list (m.boxes.map boxD)) :: .dat (.ref ly) (.list (ys.map PyData.str)) :: Γ) (fun _ _ => stV K p dx b q as m.first :: S) () True.intro rfl (by k_extra "sub") (by k_extra "dr") (fun _ _ => by k_extra "m") ?_ ?_
    · rintro Dl j d v _ hdj _
      rw [List.getElem?_map] at hdj
      obtain ⟨bx, hbx, rfl⟩ := Option.map_eq_some_iff.mp hdj
      have hj := (List.getElem?_eq_some_iff.mp hbx).1
      rw [show boxD bx = .tuple [.str bx.1, .int bx.2] from rfl]
      k_extra "W"
      refine w_lcp () True.intro ?_ (by k_extra "t") (by rw [List.length_map, List.length_take, List.length_map]; omega) (by k_extra "sub") (by k_extra "dr")
      rw [List.take_add_one, List.getElem?_map, hbx, List.map_append]
      rfl
    rintro lc _ _
    rw [List.length_map, List.take_of_length_le (by rw [List.length_map]; exact Nat.le_refl _)]
    k_extra "W"
    refine w_sortS (zs := m.boxes.map (·.1)) (by rw [List.length_map]; omega) (by k_extra "at") fun ys2 l2 h1 h2 => ?_
    obtain rfl := hys ys2 h1 h2
    refine w_freeze (p := l2) (ds := ys2.map PyData.str) (by k_extra "t") DL.strs ?_
    refine w_neD (d := .list (ys2.map PyData.str)) (e := .list (ys2.map PyData.str)) (DV.mem (by k_extra "m")) (DV.mem (by k_extra "m")) hysh hysh ?_
    rw [eqv_self hysh]
    k_extra "W"
    rename_i lb2
    refine w_loop_D (ι := Option V × Option V) (m.boxes.map boxD) (fun _ _ => True) (fun _ a => [some (.ref p), some (.ref hv), a.1, a.2]) (fun _ _ => .dat (.ref lb2) (.list (m.boxes.map boxD)) :: Γ) (fun _ _ => stV K p dx b q as m.first :: S) (none, none) True.intro rfl (by k_extra "sub") (by k_extra "dr") (fun _ _ => by k_extra "m") ?_ ?_
    · rintro j d v ⟨u1, u2⟩ hdj _
      rw [List.getElem?_map] at hdj
      obtain ⟨bx, hbx, rfl⟩ := Option.map_eq_some_iff.mp hdj
      have hbm := List.mem_of_getElem? hbx
      have hbs : bx.1 ∈ m.first.bs := List.mem_map.mpr ⟨bx, hbm, rfl⟩
      have hbv : lookD 0 bx.1 m.first.boxes = bx.2 := lookD_of hnb hbm
      rw [show boxD bx = .tuple [.str bx.1, .int bx.2] from rfl]
      dsimp only
      k_extra "W"
      refine w_subK (by k_extra "at") (val_boxes hbs) ?_
      rw [hbv]
      k_extra "W"
      refine w_whole1 ?_
      k_extra "W"
      refine w_subK (by k_extra "at") (val_boxes hbs) ?_
      rw [hbv]
      k_extra "W"
      refine w_iteN (fun h => absurd rfl h) (fun _ => ?_)
      k_extra "W"
      exact w_again (_, _) True.intro rfl (by k_extra "sub") (by k_extra "dr")
    rintro ⟨u1, u2⟩ _
    dsimp only
    k_extra "W"
    refine w_sortD (ks := m.first.qs) (qu_keys hfl) (by rw [hfq]; omega) (by k_extra "at") fun zs lz hz1 hz2 => ?_
    have hzs : ∀ zs', zs'.Perm m.queues → sortedS zs' = true → zs' = zs := fun zs' h1 h2 => sorted_uniq (h1.trans (by rw [← hfq]; exact hz1.symm)) h2 hz2
    have hzsh : SeqAt.shaped (.list (zs.map PyData.str)) = true := (Shp.lst (n := 1) (.map fun y hy => .str (hsq y (by rw [← hfq]; exact hz1.mem_iff.mp hy)))).shaped (by decide)
    refine w_freeze (p := lz) (ds := zs.map PyData.str) (by k_extra "t") DL.strs ?_
    k_extra "W"
    refine w_sortSD (zs := m.queues) (by omega) (by k_extra "m") fun zs2 l3 h1 h2 => ?_
    obtain rfl := hzs zs2 h1 h2
    refine w_freeze (p := l3) (ds := zs2.map PyData.str) (by k_extra "t") DL.strs ?_
    refine w_neD (d := .list (zs2.map PyData.str)) (e := .list (zs2.map PyData.str)) (DV.mem (by k_extra "m")) (DV.mem (by k_extra "m")) hzsh hzsh ?_
    rw [eqv_self hzsh]
    k_extra "W"
    rename_i lq2
    refine w_loop_D (ι := Option V × Option V) (m.queues.map PyData.str) (fun _ _ => True) (fun _ a => [some (.ref p), some (.ref hv), a.1, a.2]) (fun _ _ => .dat (.ref lq2) (.list (m.queues.map PyData.str)) :: Γ) (fun _ _ => stV K p dx b q as m.first :: S) (_, _) True.intro rfl (by k_extra "sub") (by k_extra "dr") (fun _ _ => by k_extra "m") ?_ ?_
    · rintro j d v ⟨u3, u4⟩ hdj _
      rw [List.getElem?_map] at hdj
      obtain ⟨y, hy, rfl⟩ := Option.map_eq_some_iff.mp hdj
      have hym : y ∈ m.first.qs := by rw [hfq]; exact List.mem_of_getElem? hy
      obtain ⟨qa, hqa⟩ := q_addr (as := as) hfl hym
      have hat : ∀ (Γ' : List Fc) (S' : List Vo), stV K p dx b q as m.first ∈ S' → AtH K Γ' S' qa (.lst []) := fun Γ' S' hm => by
        have h1 : AtH K Γ' S' qa (.lst ((lookD [] y m.first.queues).map V.int)) := at_q hm hfl (by rw [hfq]; exact hnq) hym hqa
        rw [hlk] at h1
        exact h1
      refine w_str List.mem_cons_self fun e => ?_
      subst e
      dsimp only
      k_extra "W"
      refine w_subK (by k_extra "at") hqa ?_
      k_extra "W"
      refine w_isi_ll (hat _ _ (by k_extra "mr")) ?_
      k_extra "W"
      refine w_subK (by k_extra "at") hqa ?_
      k_extra "W"
      refine w_lstO fun l0 => ?_
      refine w_neH (d := .list []) (e := .list []) (dpH_own (hat _ _ (by k_extra "mr")) .nil) (dpH_own (by k_extra "at") .nil) (by decide +kernel) (by decide +kernel) ?_
      rw [eqv_self (d := .list []) (by decide +kernel)]
      k_extra "W"
      exact w_again (_, _) True.intro rfl (by k_extra "sub") (by k_extra "dr")
    rintro ⟨u3, u4⟩ _
    dsimp only
    k_extra "W"
    refine w_whole1 ?_
    k_extra "W"
    refine w_whole1 ?_
    k_extra "W"
    refine w_ite (fun _ => ?_) (fun n => absurd rfl n)
    k_extra "W"
    rw [show decide (m.first.sent = 0) = true from rfl]
    exact fun H z => q' _ _ _ H ⟨rfl, rfl, rfl⟩ (z.fit (by k_extra "sub") (by k_extra "dr"))
end
end Mo
namespace Mo
open PySem PySem.Spec PyProof.Rows L2
/-! ### machines as data to be copied -/
theorem Fm.pd : ∀ f : Fm, Pd (f.depth + 2) f.data
  | .num n => .tup (fun e he => by
    simp only [List.mem_cons, List.not_mem_nil, or_false] at he
    rcases he with rfl | rfl
    · exact .str
    · exact .int) (by show 2 ≤ 1000; omega)
  | .box n => .tup (fun e he => by
    simp only [List.mem_cons, List.not_mem_nil, or_false] at he
    rcases he with rfl | rfl
    · exact .str
    · exact .str) (by show 2 ≤ 1000; omega)
  | .long n => .tup (fun e he => by
    simp only [List.mem_cons, List.not_mem_nil, or_false] at he
    rcases he with rfl | rfl
    · exact .str
    · exact .str) (by show 2 ≤ 1000; omega)
  | .got n => .tup (fun e he => by
    simp only [List.mem_cons, List.not_mem_nil, or_false] at he
    rcases he with rfl | rfl
    · exact .str
    · exact .int) (by show 2 ≤ 1000; omega)
  | .now => .tup (fun e he => by
    simp only [List.mem_cons, List.not_mem_nil, or_false] at he
    subst he
    exact .str) (by show 1 ≤ 1000; omega)
  | .two o f g => by
    have h1 := Fm.pd f
    have h2 := Fm.pd g
    rw [Fm.data, Fm.depth]
    refine .tup (fun e he => ?_) (by show 3 ≤ 1000; omega)
    simp only [List.mem_cons, List.not_mem_nil, or_false] at he
    rcases he with rfl | rfl | rfl
    · exact .str
    · exact h1.up (by omega)
    · exact h2.up (by omega)
theorem pd3 {n : Nat} {x y : Str} {f : Fm} (h : f.depth + 3 ≤ n) : Pd n (.tuple [.str x, .str y, f.data]) := by
  obtain ⟨m, rfl⟩ : ∃ m, n = m + 2 := ⟨n - 2, by omega⟩
  refine .tup (fun e he => ?_) (by show 3 ≤ 1000; omega)
  simp only [List.mem_cons, List.not_mem_nil, or_false] at he
  rcases he with rfl | rfl | rfl
  · exact .str
  · exact .str
  · exact f.pd.up (by omega)
mutual
theorem Dd.pd : ∀ (d : Dd) {n : Nat}, d.Sm → 2 * d.depth + d.fdep + 4 ≤ n → Pd n d.data
  | .put b f, n, _, h => by rw [Dd.data]; rw [Dd.fdep] at h; exact pd3 (by omega)
  | .push b f, n, _, h => by rw [Dd.data]; rw [Dd.fdep] at h; exact pd3 (by omega)
  | .draw b f, n, _, h => by rw [Dd.data]; rw [Dd.fdep] at h; exact pd3 (by omega)
  | .fin, n, _, h => by
    obtain ⟨m, rfl⟩ : ∃ m, n = m + 2 := ⟨n - 2, by omega⟩
    rw [Dd.data]
    exact .tup (fun e he => by rw [List.mem_singleton.mp he]; exact .str) (by show 1 ≤ 1000; omega)
  | .send to sign span rank g q, n, _, h => by
    rw [Dd.fdep] at h
    obtain ⟨m, rfl⟩ : ∃ m, n = m + 2 := ⟨n - 2, by omega⟩
    rw [Dd.data]
    refine .tup (fun d hd => ?_) (by show 7 ≤ 1000; omega)
    simp only [List.mem_cons, List.not_mem_nil, or_false] at hd
    rcases hd with rfl | rfl | rfl | rfl | rfl | rfl | rfl
    · exact .str
    · exact .int
    · exact .str
    · exact span.pd.up (by omega)
    · exact .int
    · exact g.pd.up (by omega)
    · exact q.pd.up (by omega)
  | .pull q b ds, n, hs, h => by
    rw [Dd.Sm] at hs
    rw [Dd.fdep, Dd.depth] at h
    obtain ⟨m, rfl⟩ : ∃ m, n = m + 2 := ⟨n - 2, by omega⟩
    rw [Dd.data]
    refine .tup (fun e he => ?_) (by show 4 ≤ 1000; omega)
    simp only [List.mem_cons, List.not_mem_nil, or_false] at he
    rcases he with rfl | rfl | rfl | rfl
    · exact .str
    · exact .str
    · exact .str
    · exact .lst (Dd.pds ds hs.2 (by omega)) (by rw [datas_map, List.length_map]; exact hs.1)
  | .iff f a b, n, hs, h => by
    rw [Dd.Sm] at hs
    rw [Dd.fdep, Dd.depth] at h
    obtain ⟨m, rfl⟩ : ∃ m, n = m + 2 := ⟨n - 2, by omega⟩
    rw [Dd.data]
    refine .tup (fun e he => ?_) (by show 4 ≤ 1000; omega)
    simp only [List.mem_cons, List.not_mem_nil, or_false] at he
    rcases he with rfl | rfl | rfl | rfl
    · exact .str
    · exact f.pd.up (by omega)
    · exact .lst (Dd.pds a hs.1.2 (by omega)) (by rw [datas_map, List.length_map]; exact hs.1.1)
    · exact .lst (Dd.pds b hs.2.2 (by omega)) (by rw [datas_map, List.length_map]; exact hs.2.1)
theorem Dd.pds : ∀ (ds : List Dd) {n : Nat}, Dd.Sms ds → 2 * Dd.depths ds + Dd.fdeps ds + 2 ≤ n → ∀ e ∈ Dd.datas ds, Pd n e
  | [], n, _, _ => by rw [Dd.datas]; exact fun _ m => nomatch m
  | d :: ds, n, hs, h => by
    rw [Dd.Sms] at hs
    rw [Dd.depths, Dd.fdeps] at h
    rw [Dd.datas]
    intro e he
    rcases List.mem_cons.mp he with e1 | he
    · rw [e1]
      exact Dd.pd d hs.1 (by omega)
    · exact Dd.pds ds hs.2 (by omega) e he
end
theorem pd_map {α : Type} {n : Nat} {f : α → PyData} {xs : List α} (h : ∀ x ∈ xs, Pd n (f x)) (hl : xs.length ≤ 1000) : Pd (n + 1) (.list (xs.map f)) := .lst (fun d hd => by
  obtain ⟨x, hx, rfl⟩ := List.mem_map.mp hd
  exact h x hx) (by rw [List.length_map]; exact hl)
theorem pd_mach {m : Mach} (hs : m.Sm) (hd : ∀ p ∈ m.hears, Dd.depths p.2 ≤ 9 ∧ Dd.fdeps p.2 ≤ 3) : Pd 30 m.data := by
  refine .tup (fun e he => ?_) (by show 5 ≤ 1000; omega)
  simp only [List.mem_cons, List.not_mem_nil, or_false] at he
  rcases he with rfl | rfl | rfl | rfl | rfl
  · exact .str
  · exact pd_map (n := 28) (fun x _ => .tup (fun e he => by
      simp only [List.mem_cons, List.not_mem_nil, or_false] at he
      rcases he with rfl | rfl
      · exact .str
      · exact .int) (by show 2 ≤ 1000; omega)) hs.boxes
  · exact pd_map (n := 28) (fun _ _ => .str) hs.queues
  · exact pd_map (n := 28) (fun _ _ => .int) hs.draws
  · exact pd_map (n := 28) (fun p hp => .tup (fun e he => by
      simp only [List.mem_cons, List.not_mem_nil, or_false] at he
      rcases he with rfl | rfl
      · exact .str
      · exact .lst (Dd.pds p.2 (hs.deeds p hp).2 (by have := hd p hp; omega)) (by rw [datas_map, List.length_map]; exact (hs.deeds p hp).1)) (by show 2 ≤ 1000; omega)) hs.hears
end Mo
namespace Mo
open PySem PySem.Spec PyProof.Rows L2
structure Hap.Nm (x : Hap) : Prop where
  sign : SOk x.sign
theorem Hap.shp {x : Hap} (h : SOk x.sign) : Shp 2 x.data := .tup (.cons (.tup (.cons .int (.cons .int (.cons .int (.cons .int .nil))))) (.cons .int (.cons (.str h) (.cons .int (.cons .int .nil)))))
theorem Rec.shp {r : Rec} (h : SOk r.hap.sign) (hb : ∀ p ∈ r.wb, SOk p.1) (hq : ∀ p ∈ r.wq, SOk p.1) (hn : ∀ x ∈ r.news, SOk x.sign) : Shp 4 r.data :=
  .tup (.cons (.tup (.cons .int (.cons .int (.cons .int (.cons .int .nil))))) (.cons .int (.cons (.str h) (.cons .int (.cons .int (.cons (.lst (.app (.map fun p hp => .tup (.cons (.str (hb p hp)) (.cons .int .nil))) (.map fun p hp => .tup (.cons (.str (hq p hp)) (.cons (.lst .ints) .nil))))) (.cons (.lst (.map fun x hx => (Hap.shp (hn x hx)))) .nil)))))))
end Mo
namespace Mo
open PySem PySem.Spec PyProof.Rows L2
/-! ### deeds done by a stack of what is left: plain Lean -/
theorem runs_app {c : DoC} : ∀ (a b : List Dd) (s : Do), Dd.runs c (a ++ b) s = match Dd.runs c a s with
    | .error x => .error x
    | .ok s' => Dd.runs c b s'
  | [], b, s => by rw [List.nil_append, Dd.runs]
  | d :: a, b, s => by
    rw [List.cons_append, Dd.runs, Dd.runs]
    cases Dd.run c d s with
    | error x => rfl
    | ok s1 => exact runs_app a b s1
/-- no queue is longer than thirty -/
def Q30 (s : MSt) : Prop := ∀ p ∈ s.queues, p.2.length ≤ 30
theorem Q30.look {s : MSt} (h : Q30 s) {x : Str} (hx : x ∈ s.qs) : (lookD [] x s.queues).length ≤ 30 := h (x, lookD [] x s.queues) (lookD_in hx)
theorem Q30.setQ {s : MSt} (h : Q30 s) {x : Str} {ns : List Int} (hn : ns.length ≤ 30) : Q30 (s.setQ x ns) := fun p hp => by
  rcases mem_setA hp with hp | rfl
  · exact h p hp
  · exact hn
/-- what was touched: names, and the end -/
def theEnd : Str := "the end"
structure Tch (t : List Str) (s : Do) : Prop where
  nm : ∀ x, x ≠ theEnd → (x ∈ t ↔ x ∈ s.wr)
  en : theEnd ∈ t ↔ s.ends = true
theorem Tch.add {t : List Str} {s s' : Do} (h : Tch t s) {x : Str} (hx : x ≠ theEnd) (hw : s'.wr = addW x s.wr) (he : s'.ends = s.ends) : Tch (t ++ [x]) s' where
  nm := fun y hy => by rw [hw, mem_addW, List.mem_append, List.mem_singleton, h.nm y hy, or_comm]
  en := by
    rw [he, List.mem_append, List.mem_singleton]
    constructor
    · rintro (z | z)
      · exact h.en.mp z
      · exact absurd z.symm hx
    · exact fun z => .inl (h.en.mpr z)
theorem Tch.add2 {t : List Str} {s s' : Do} (h : Tch t s) {x y : Str} (hx : x ≠ theEnd) (hy : y ≠ theEnd) (hw : s'.wr = addW x (addW y s.wr)) (he : s'.ends = s.ends) : Tch (t ++ [x] ++ [y]) s' where
  nm := fun z hz => by
    rw [hw, mem_addW, mem_addW, List.mem_append, List.mem_append, List.mem_singleton, List.mem_singleton, h.nm z hz]
    constructor
    · rintro ((a | a) | a)
      · exact .inr (.inr a)
      · exact .inl a
      · exact .inr (.inl a)
    · rintro (a | a | a)
      · exact .inl (.inr a)
      · exact .inr a
      · exact .inl (.inl a)
  en := by
    rw [he, List.mem_append, List.mem_append, List.mem_singleton, List.mem_singleton]
    constructor
    · rintro ((z | z) | z)
      · exact h.en.mp z
      · exact absurd z.symm hx
      · exact absurd z.symm hy
    · exact fun z => .inl (.inl (h.en.mpr z))
theorem Tch.same {t : List Str} {s s' : Do} (h : Tch t s) (hw : s'.wr = s.wr) (he : s'.ends = s.ends) : Tch t s' := ⟨fun x hx => by rw [hw]; exact h.nm x hx, by rw [he]; exact h.en⟩
theorem Tch.end {t : List Str} {s s' : Do} (h : Tch t s) (hw : s'.wr = s.wr) (he : s'.ends = true) : Tch (t ++ [theEnd]) s' where
  nm := fun y hy => by
    rw [hw, List.mem_append, List.mem_singleton, h.nm y hy]
    exact ⟨fun z => z.elim id fun e => absurd e hy, .inl⟩
  en := by rw [he, List.mem_append, List.mem_singleton]; exact ⟨fun _ => rfl, fun _ => .inr rfl⟩
/-- a deed's step: a fault, or what is left to be done and the new state -/
structure Stp (c : DoC) (B Z : List Str) (d : Dd) (s s' : Do) (sub : List Dd) : Prop where
  run : ∀ r, Dd.runs c (d :: r) s = Dd.runs c (sub ++ r) s'
  ok : s'.Ok B Z
  q30 : Q30 s'.st
  oks : Dd.Oks B Z sub
  cnt : Dd.cnts sub < d.cnt
  fd : Dd.fdeps sub ≤ d.fdep
  nl : s'.news.length ≤ s.news.length + 1
def Bad (c : DoC) (d : Dd) (s : Do) (x : Flt) : Prop := ∀ r, Dd.runs c (d :: r) s = .error x
section
variable {c : DoC} {B Z : List Str} {s s' : Do} {x : Flt}
theorem bad_of {d : Dd} (h : d.run c s = .error x) : Bad c d s x := fun r => by rw [Dd.runs, h]
theorem Stp.of {d : Dd} (hc : c.Ok) (hd : d.Ok B Z) (hs : s.Ok B Z) (h : d.run c s = .ok s') (q : Q30 s'.st) (hn : s'.news.length ≤ s.news.length + 1) : Stp c B Z d s s' [] where
  run := fun r => by rw [Dd.runs, h, List.nil_append]
  ok := run_ok hc d hd hs h
  q30 := q
  oks := by rw [Dd.Oks]; exact True.intro
  cnt := by
    rw [Dd.cnts]
    cases d <;> rw [Dd.cnt] <;> first | omega | (intros; contradiction)
  fd := by rw [Dd.fdeps]; exact Nat.zero_le _
  nl := hn
theorem Stp.pull {q b : Str} {ds : List Dd} (hd : (Dd.pull q b ds).Ok B Z) (hs : s.Ok B Z) (h30 : Q30 s.st) (e : lookD [] q s.st.queues = []) : Stp c B Z (.pull q b ds) s s ds where
  run := fun r => by
    rw [Dd.runs, Dd.run, e, runs_app]
    try (cases Dd.runs c ds s <;> rfl)
  ok := hs
  q30 := h30
  oks := by rw [Dd.Ok] at hd; exact hd.2.2
  cnt := by rw [Dd.cnt]; omega
  fd := by rw [Dd.fdep]; exact Nat.le_refl _
  nl := Nat.le_add_right _ _
theorem Stp.iff {f : Fm} {a b : List Dd} {n : Int} (hd : (Dd.iff f a b).Ok B Z) (hs : s.Ok B Z) (h30 : Q30 s.st) (e : f.ev (s.env c) = .ok n) : Stp c B Z (.iff f a b) s s (if n = 0 then b else a) where
  run := fun r => by
    rw [Dd.runs, Dd.run, e, runs_app]
    by_cases h : n = 0
    · subst h; rfl
    · rw [if_neg h]
      show (match (if n = 0 then Dd.runs c b s else Dd.runs c a s) with | .error x => _ | .ok s' => _) = _
      rw [if_neg h]
  ok := hs
  q30 := h30
  oks := by
    rw [Dd.Ok] at hd
    split
    · exact hd.2.2
    · exact hd.2.1
  cnt := by rw [Dd.cnt]; split <;> omega
  fd := by rw [Dd.fdep]; split <;> omega
  nl := Nat.le_add_right _ _
theorem Stp.fin (hs : s.Ok B Z) (h30 : Q30 s.st) : Stp c B Z .fin s { s with ends := true } [] where
  run := fun r => by rw [Dd.runs, Dd.run, List.nil_append]
  ok := ⟨hs.wo, hs.bs, hs.qs, hs.wr, hs.nw⟩
  q30 := h30
  oks := by rw [Dd.Oks]; exact True.intro
  cnt := by rw [Dd.cnts, Dd.cnt] <;> first | omega | (intros; contradiction)
  fd := by rw [Dd.fdeps]; exact Nat.zero_le _
  nl := Nat.le_add_right _ _
end
/-! #### what is sent: its three worths, one after the other -/
structure SentC (e : Env) (fs : List Fm) (i : Nat) (ns : List Int) : Prop where
  len : ns.length = i
  ev : ∀ (j : Nat) (n : Int) (f : Fm), ns[j]? = some n → fs[j]? = some f → f.ev e = .ok n
  rg : ∀ n, ns[0]? = some n → 1 ≤ n ∧ n ≤ 1000000
theorem SentC.nil {e : Env} {fs : List Fm} : SentC e fs 0 [] := ⟨rfl, (fun _ _ _ h => nomatch h), (fun _ h => nomatch h)⟩
theorem SentC.snoc {e : Env} {fs : List Fm} {i : Nat} {ns : List Int} {f : Fm} {n : Int} (h : SentC e fs i ns) (hf : fs[i]? = some f) (hn : f.ev e = .ok n) (hr : i = 0 → 1 ≤ n ∧ n ≤ 1000000) : SentC e fs (i + 1) (ns ++ [n]) where
  len := by rw [List.length_append, h.len]; rfl
  ev := fun j m g hj hg => by
    rw [List.getElem?_append] at hj
    split at hj
    · exact h.ev j m g hj hg
    · rename_i hl
      rw [h.len] at hj hl
      have e0 : j - i = 0 := by
        rcases Nat.eq_zero_or_pos (j - i) with z | z
        · exact z
        · rw [List.getElem?_eq_none (by simp; omega)] at hj; cases hj
      have e1 : j = i := by omega
      subst e1
      rw [Nat.sub_self] at hj
      simp only [List.getElem?_cons_zero, Option.some.injEq] at hj
      rw [hf] at hg
      cases hg
      rw [← hj]
      exact hn
  rg := fun m hm => by
    rcases Nat.eq_zero_or_pos i with z | z
    · have : ns = [] := List.eq_nil_of_length_eq_zero (by rw [h.len, z])
      subst this
      simp only [List.nil_append, List.getElem?_cons_zero, Option.some.injEq] at hm
      rw [← hm]
      exact hr z
    · rw [List.getElem?_append_left (by rw [h.len]; exact z)] at hm
      exact h.rg m hm
section
variable {c : DoC} {s : Do} {to rank : Int} {sign : Str} {sp g k : Fm} {i : Nat} {ns : List Int} {f : Fm} {x : Flt} {n : Int}
theorem SentC.get {e : Env} {fs : List Fm} (h : SentC e fs i ns) {j : Nat} {f : Fm} (hj : j < i) (hf : fs[j]? = some f) : ∃ n, f.ev e = .ok n ∧ ns[j]? = some n := by
  have hl : j < ns.length := by rw [h.len]; exact hj
  exact ⟨ns[j], h.ev j _ f (List.getElem?_eq_getElem hl) hf, List.getElem?_eq_getElem hl⟩
theorem rg_not {n : Int} (h : 1 ≤ n ∧ n ≤ 1000000) : ¬ (n < 1 ∨ 1000000 < n) := by omega
theorem send_err (h : SentC (s.env c) [sp, g, k] i ns) (hf : [sp, g, k][i]? = some f) (he : f.ev (s.env c) = .error x) : s.send c to sign sp rank g k = .error x := by
  unfold Do.send
  match i, h, hf with
  | 0, h, hf =>
    simp only [List.getElem?_cons_zero, Option.some.injEq] at hf
    subst hf
    rw [he]
  | 1, h, hf =>
    simp only [List.getElem?_cons_succ, List.getElem?_cons_zero, Option.some.injEq] at hf
    subst hf
    obtain ⟨a, h1, h2⟩ := h.get (j := 0) (by omega) rfl
    rw [h1]
    dsimp only
    rw [if_neg (rg_not (h.rg a h2)), he]
  | 2, h, hf =>
    simp only [List.getElem?_cons_succ, List.getElem?_cons_zero, Option.some.injEq] at hf
    subst hf
    obtain ⟨a, h1, h2⟩ := h.get (j := 0) (by omega) rfl
    obtain ⟨b, h3, _⟩ := h.get (j := 1) (by omega) rfl
    rw [h1]
    dsimp only
    rw [if_neg (rg_not (h.rg a h2)), h3]
    dsimp only
    rw [he]
  | i + 3, h, hf => simp at hf
theorem send_span (h : sp.ev (s.env c) = .ok n) (hn : n < 1 ∨ 1000000 < n) : s.send c to sign sp rank g k = .error .span := by
  unfold Do.send
  rw [h]
  dsimp only
  rw [if_pos hn]
theorem sent3 (h : SentC (s.env c) [sp, g, k] 3 ns) : ∃ a b d, ns = [a, b, d] ∧ sp.ev (s.env c) = .ok a ∧ g.ev (s.env c) = .ok b ∧ k.ev (s.env c) = .ok d ∧ 1 ≤ a ∧ a ≤ 1000000 := by
  have hl := h.len
  match ns, hl with
  | [a, b, d], _ => exact ⟨a, b, d, rfl, h.ev 0 a sp rfl rfl, h.ev 1 b g rfl rfl, h.ev 2 d k rfl rfl, h.rg a rfl⟩
theorem send_late {a b d : Int} (h1 : sp.ev (s.env c) = .ok a) (h2 : g.ev (s.env c) = .ok b) (h3 : k.ev (s.env c) = .ok d) (h4 : 1 ≤ a ∧ a ≤ 1000000) (h5 : 1000000000000 < c.hap.time + a) : s.send c to sign sp rank g k = .error .late := by
  unfold Do.send
  rw [h1]
  dsimp only
  rw [if_neg (rg_not h4), h2]
  dsimp only
  rw [h3]
  dsimp only
  rw [if_pos h5]
def sentHap (c : DoC) (s : Do) (to : Int) (sign : Str) (rank a b d : Int) : Hap := ⟨c.hap.time + a, rank, c.hap.to, s.st.sent, to, sign, b, d⟩
def Do.sentOne (s : Do) (x : Hap) : Do := { s with st := { s.st with sent := s.st.sent + 1 }, news := s.news ++ [x] }
theorem send_ok {a b d : Int} (h1 : sp.ev (s.env c) = .ok a) (h2 : g.ev (s.env c) = .ok b) (h3 : k.ev (s.env c) = .ok d) (h4 : 1 ≤ a ∧ a ≤ 1000000) (h5 : ¬ 1000000000000 < c.hap.time + a) : s.send c to sign sp rank g k = .ok (s.sentOne (sentHap c s to sign rank a b d)) := by
  unfold Do.send
  rw [h1]
  dsimp only
  rw [if_neg (rg_not h4), h2]
  dsimp only
  rw [h3]
  dsimp only
  rw [if_neg h5]
  rfl
end
end Mo
namespace Mo
open PySem PySem.Spec PyProof.Rows L2
/-! ### what is sent: to machines that are there, later -/
theorem NameOk.ne {x : Str} (h : NameOk x) : x ≠ theEnd := fun e => by
  have h1 := h.len
  rw [e] at h1
  exact absurd h1 (by decide +kernel)
structure SentOk (many : Nat) (ss : List Str) (c : DoC) (x : Hap) : Prop where
  to0 : 0 ≤ x.to
  to1 : x.to < (many : Int)
  sign : x.sign ∈ ss
  r0 : 0 ≤ x.rank
  r1 : x.rank ≤ 9
  t0 : c.hap.time < x.time
  t1 : x.time ≤ 1000000000000
  frm : x.frm = c.hap.to
  g : Worth x.g
  h : Worth x.h
section
variable {many : Nat} {ss : List Str} {c : DoC} {B Z : List Str}
theorem put_news {s : Do} {x : Str} {n : Int} : (s.put x n).news = s.news := rfl
theorem send_sent (hc : c.Ok) {s s' : Do} {to : Int} {sign : Str} {sp : Fm} {rank : Int} {g k : Fm} (ht : (Dd.send to sign sp rank g k).To many ss) (ho : (Dd.send to sign sp rank g k).Ok B Z) (hs : s.Ok B Z) (e : s.send c to sign sp rank g k = .ok s') : ∀ x ∈ s'.news, x ∈ s.news ∨ SentOk many ss c x := by
  rw [Dd.To] at ht
  rw [Dd.Ok] at ho
  obtain ⟨h1, h2, h3, h4, h5⟩ := ht
  unfold Do.send at e
  split at e
  · cases e
  · rename_i a e1
    split at e
    · cases e
    · rename_i hr
      split at e
      · cases e
      · rename_i b e2
        split at e
        · cases e
        · rename_i d e3
          split at e
          · cases e
          · rename_i hl
            cases e
            intro x hx
            rcases List.mem_append.mp hx with hx | hx
            · exact .inl hx
            · rw [List.mem_singleton.mp hx]
              exact .inr ⟨h1, h2, h3, h4, h5, (by show c.hap.time < c.hap.time + a; omega), (by show c.hap.time + a ≤ _; omega), rfl, hs.ev hc ho.2.1 e2, hs.ev hc ho.2.2 e3⟩
mutual
theorem run_sent (hc : c.Ok) : ∀ (d : Dd) {s s' : Do}, d.To many ss → d.Ok B Z → s.Ok B Z → d.run c s = .ok s' → ∀ x ∈ s'.news, x ∈ s.news ∨ SentOk many ss c x
  | .put b f, s, s', ht, ho, hs, e => by
    rw [Dd.run] at e
    split at e
    · cases e
    · cases e; exact fun x hx => .inl hx
  | .push b f, s, s', ht, ho, hs, e => by
    rw [Dd.run] at e
    split at e
    · cases e
    · unfold Do.push at e
      split at e
      · cases e
      · cases e; exact fun x hx => .inl hx
  | .pull q b ds, s, s', ht, ho, hs, e => by
    rw [Dd.To] at ht
    rw [Dd.Ok] at ho
    rw [Dd.run] at e
    split at e
    · exact runs_sent hc ds ht ho.2.2 hs e
    · cases e; exact fun x hx => .inl hx
  | .draw b f, s, s', ht, ho, hs, e => by
    rw [Dd.run] at e
    split at e
    · cases e
    · unfold Do.draw at e
      split at e
      · cases e
      · split at e
        · cases e
        · cases e; exact fun x hx => .inl hx
  | .send to sign span rank g k, s, s', ht, ho, hs, e => by
    rw [Dd.run] at e
    exact send_sent hc ht ho hs e
  | .iff f a b, s, s', ht, ho, hs, e => by
    rw [Dd.To] at ht
    rw [Dd.Ok] at ho
    rw [Dd.run] at e
    split at e
    · cases e
    · split at e
      · exact runs_sent hc b ht.2 ho.2.2 hs e
      · exact runs_sent hc a ht.1 ho.2.1 hs e
  | .fin, s, s', ht, ho, hs, e => by
    rw [Dd.run] at e
    cases e
    exact fun x hx => .inl hx
theorem runs_sent (hc : c.Ok) : ∀ (ds : List Dd) {s s' : Do}, Dd.Tos many ss ds → Dd.Oks B Z ds → s.Ok B Z → Dd.runs c ds s = .ok s' → ∀ x ∈ s'.news, x ∈ s.news ∨ SentOk many ss c x
  | [], s, s', ht, ho, hs, e => by rw [Dd.runs] at e; cases e; exact fun x hx => .inl hx
  | d :: ds, s, s', ht, ho, hs, e => by
    rw [Dd.Tos] at ht
    rw [Dd.Oks] at ho
    rw [Dd.runs] at e
    split at e
    · cases e
    · rename_i s1 h1
      intro x hx
      rcases runs_sent hc ds ht.2 ho.2 (run_ok hc d ho.1 hs h1) e x hx with h | h
      · exact run_sent hc d ht.1 ho.1 hs h1 x h
      · exact .inr h
end
end
/-- queues stay within thirty -/
theorem push_q30 {s s' : Do} {x : Str} {n : Int} (h : Q30 s.st) (hl : (lookD [] x s.st.queues).length ≤ 30) (e : s.push x n = .ok s') : Q30 s'.st := by
  unfold Do.push at e
  split at e
  · cases e
  · cases e
    exact h.setQ (by rw [List.length_append, List.length_singleton]; omega)
mutual
theorem run_q30 {c : DoC} (hc : c.Ok) {B Z : List Str} : ∀ (d : Dd) {s s' : Do}, d.Ok B Z → s.Ok B Z → Q30 s.st → d.run c s = .ok s' → Q30 s'.st
  | .put b f, s, s', ho, hs, h, e => by
    rw [Dd.run] at e
    split at e
    · cases e
    · cases e; exact h
  | .push b f, s, s', ho, hs, h, e => by
    rw [Dd.Ok] at ho
    rw [Dd.run] at e
    split at e
    · cases e
    · exact push_q30 h (h.look (by rw [hs.qs]; exact ho.1)) e
  | .pull q b ds, s, s', ho, hs, h, e => by
    rw [Dd.Ok] at ho
    rw [Dd.run] at e
    split at e
    · exact runs_q30 hc ds ho.2.2 hs h e
    · rename_i n r hq
      cases e
      have := h.look (x := q) (by rw [hs.qs]; exact ho.1)
      rw [hq, List.length_cons] at this
      exact h.setQ (by omega)
  | .draw b f, s, s', ho, hs, h, e => by
    rw [Dd.run] at e
    split at e
    · cases e
    · unfold Do.draw at e
      split at e
      · cases e
      · split at e
        · cases e
        · cases e; exact h
  | .send to sign span rank g k, s, s', ho, hs, h, e => by
    rw [Dd.run] at e
    unfold Do.send at e
    split at e
    · cases e
    · split at e
      · cases e
      · split at e
        · cases e
        · split at e
          · cases e
          · split at e
            · cases e
            · cases e; exact h
  | .iff f a b, s, s', ho, hs, h, e => by
    rw [Dd.Ok] at ho
    rw [Dd.run] at e
    split at e
    · cases e
    · split at e
      · exact runs_q30 hc b ho.2.2 hs h e
      · exact runs_q30 hc a ho.2.1 hs h e
  | .fin, s, s', ho, hs, h, e => by
    rw [Dd.run] at e
    cases e
    exact h
theorem runs_q30 {c : DoC} (hc : c.Ok) {B Z : List Str} : ∀ (ds : List Dd) {s s' : Do}, Dd.Oks B Z ds → s.Ok B Z → Q30 s.st → Dd.runs c ds s = .ok s' → Q30 s'.st
  | [], s, s', ho, hs, h, e => by rw [Dd.runs] at e; cases e; exact h
  | d :: ds, s, s', ho, hs, h, e => by
    rw [Dd.Oks] at ho
    rw [Dd.runs] at e
    split at e
    · cases e
    · rename_i s1 h1
      exact runs_q30 hc ds ho.2 (run_ok hc d ho.1 hs h1) (run_q30 hc d ho.1 hs h h1) e
end
end Mo
namespace Mo
open PySem PySem.Spec PyProof.Rows L2
/-! ### formulas, deeds, machines: data that may be compared -/
theorem Shp.up {a b : Nat} {d : PyData} (h : Shp a d) (k : a ≤ b) : Shp b d := ⟨h.lay, Nat.le_trans h.dep k⟩
theorem Shps.up {a b : Nat} {ds : List PyData} (h : Shps a ds) (k : a ≤ b) : Shps b ds := ⟨h.lay, Nat.le_trans h.dep k⟩
theorem lit_ok {x : Str} (h : x ∈ (["number", "box", "long", "got", "now", "plus", "less", "times", "part", "rest", "below", "same", "put", "push", "pull", "draw", "send", "if", "end"] : List Str)) : SOk x := by
  simp only [List.mem_cons, List.not_mem_nil, or_false] at h
  rcases h with rfl | rfl | rfl | rfl | rfl | rfl | rfl | rfl | rfl | rfl | rfl | rfl | rfl | rfl | rfl | rfl | rfl | rfl | rfl <;> exact (show PyData.strOk _ = true by decide +kernel)
section
variable {bs qs ss : List Str} {many : Nat}
theorem Fm.shp (hb : ∀ x ∈ bs, SOk x) (hq : ∀ x ∈ qs, SOk x) : ∀ (f : Fm) (n : Nat), f.Ok bs qs → f.depth < n → Shp n f.data
  | .num m, n + 1, _, _ => .tup (.cons (.str (lit_ok (by simp))) (.cons .int .nil))
  | .box x, n + 1, h, _ => .tup (.cons (.str (lit_ok (by simp))) (.cons (.str (hb x h)) .nil))
  | .long x, n + 1, h, _ => .tup (.cons (.str (lit_ok (by simp))) (.cons (.str (hq x h)) .nil))
  | .got j, n + 1, _, _ => .tup (.cons (.str (lit_ok (by simp))) (.cons .int .nil))
  | .now, n + 1, _, _ => .tup (.cons (.str (lit_ok (by simp))) .nil)
  | .two o f g, n + 1, h, hd => by
    have h1 : max f.depth g.depth + 1 < n + 1 := hd
    exact .tup (.cons (.str (lit_ok (by cases o <;> simp [Op.name]))) (.cons (Fm.shp hb hq f n h.1 (by omega)) (.cons (Fm.shp hb hq g n h.2 (by omega)) .nil)))
  | .num _, 0, _, hd => absurd hd (Nat.not_lt_zero _)
  | .box _, 0, _, hd => absurd hd (Nat.not_lt_zero _)
  | .long _, 0, _, hd => absurd hd (Nat.not_lt_zero _)
  | .got _, 0, _, hd => absurd hd (Nat.not_lt_zero _)
  | .now, 0, _, hd => absurd hd (Nat.not_lt_zero _)
  | .two _ _ _, 0, _, hd => absurd hd (Nat.not_lt_zero _)
mutual
theorem Dd.shp (hb : ∀ x ∈ bs, SOk x) (hq : ∀ x ∈ qs, SOk x) (hs : ∀ x ∈ ss, SOk x) (k : Nat) : ∀ (d : Dd), d.Ok bs qs → d.To many ss → d.fdep ≤ k → Shp (d.depth + k + 2) d.data
  | .put b f, h, _, hf => by
    rw [Dd.Ok] at h
    rw [Dd.fdep] at hf
    rw [Dd.data]
    exact .tup (.cons (.str (lit_ok (by simp))) (.cons (.str (hb b h.1)) (.cons ((Fm.shp hb hq f (k + 1) h.2 (by omega)).up (by omega)) .nil)))
  | .push b f, h, _, hf => by
    rw [Dd.Ok] at h
    rw [Dd.fdep] at hf
    rw [Dd.data]
    exact .tup (.cons (.str (lit_ok (by simp))) (.cons (.str (hq b h.1)) (.cons ((Fm.shp hb hq f (k + 1) h.2 (by omega)).up (by omega)) .nil)))
  | .draw b f, h, _, hf => by
    rw [Dd.Ok] at h
    rw [Dd.fdep] at hf
    rw [Dd.data]
    exact .tup (.cons (.str (lit_ok (by simp))) (.cons (.str (hb b h.1)) (.cons ((Fm.shp hb hq f (k + 1) h.2 (by omega)).up (by omega)) .nil)))
  | .pull q b ds, h, ht, hf => by
    rw [Dd.Ok] at h
    rw [Dd.To] at ht
    rw [Dd.fdep] at hf
    rw [Dd.data, Dd.depth]
    have := Dd.shps hb hq hs k ds h.2.2 ht hf
    exact .tup (n := Dd.depths ds + 1 + k + 1) (.cons (.str (lit_ok (by simp))) (.cons (.str (hq q h.1)) (.cons (.str (hb b h.2.1)) (.cons (.lst (n := Dd.depths ds + 1 + k) (this.up (by omega))) .nil))))
  | .send to sign sp rank g w, h, ht, hf => by
    rw [Dd.Ok] at h
    rw [Dd.To] at ht
    rw [Dd.fdep] at hf
    rw [Dd.data]
    exact .tup (.cons (.str (lit_ok (by simp))) (.cons .int (.cons (.str (hs sign ht.2.2.1)) (.cons ((Fm.shp hb hq sp (k + 1) h.1 (by omega)).up (by omega)) (.cons .int (.cons ((Fm.shp hb hq g (k + 1) h.2.1 (by omega)).up (by omega)) (.cons ((Fm.shp hb hq w (k + 1) h.2.2 (by omega)).up (by omega)) .nil)))))))
  | .iff f a c, h, ht, hf => by
    rw [Dd.Ok] at h
    rw [Dd.To] at ht
    rw [Dd.fdep] at hf
    rw [Dd.data, Dd.depth]
    have h1 := Dd.shps hb hq hs k a h.2.1 ht.1 (by omega)
    have h2 := Dd.shps hb hq hs k c h.2.2 ht.2 (by omega)
    exact .tup (n := max (Dd.depths a) (Dd.depths c) + 1 + k + 1) (.cons (.str (lit_ok (by simp))) (.cons ((Fm.shp hb hq f (k + 1) h.1 (by omega)).up (by omega)) (.cons (.lst (n := max (Dd.depths a) (Dd.depths c) + 1 + k) (h1.up (by omega))) (.cons (.lst (n := max (Dd.depths a) (Dd.depths c) + 1 + k) (h2.up (by omega))) .nil))))
  | .fin, _, _, _ => by
    rw [Dd.data]
    exact .tup (.cons (.str (lit_ok (by simp))) .nil)
theorem Dd.shps (hb : ∀ x ∈ bs, SOk x) (hq : ∀ x ∈ qs, SOk x) (hs : ∀ x ∈ ss, SOk x) (k : Nat) : ∀ (ds : List Dd), Dd.Oks bs qs ds → Dd.Tos many ss ds → Dd.fdeps ds ≤ k → Shps (Dd.depths ds + k + 1) (Dd.datas ds)
  | [], _, _, _ => by
    rw [Dd.datas]
    exact .nil
  | d :: ds, h, ht, hf => by
    rw [Dd.Oks] at h
    rw [Dd.Tos] at ht
    rw [Dd.fdeps] at hf
    rw [Dd.datas, Dd.depths]
    exact .cons ((Dd.shp hb hq hs k d h.1 ht.1 (by omega)).up (by omega)) ((Dd.shps hb hq hs k ds h.2 ht.2 (by omega)).up (by omega))
end
end
section
variable {many : Nat} {ss : List Str} {m : Mach}
theorem hears_shp (h : MchG many ss m) (hs : ∀ x ∈ ss, SOk x) {hears : List (Str × List Dd)} (hh : ∀ p ∈ hears, DsG 4 many (m.boxes.map (·.1)) m.queues ss p.2 ∧ p.1 ∈ ss) : Shp 20 (.list (hears.map hearD)) := by
  have hb : ∀ x ∈ m.boxes.map (·.1), SOk x := fun x hx => (h.nm x (List.mem_append_left _ hx)).sok
  have hq : ∀ x ∈ m.queues, SOk x := fun x hx => (h.nm x (List.mem_append_right _ hx)).sok
  refine .lst (n := 19) (.map (f := hearD) fun p hp => ?_)
  obtain ⟨h1, h2⟩ := hh p hp
  have h3 := h1.dep
  exact .tup (n := 18) (.cons (.str (hs p.1 h2)) (.cons (.lst (n := 17) ((Dd.shps hb hq hs 3 p.2 h1.ok h1.to h1.fd).up (by omega))) .nil))
theorem boxes_shp (h : MchG many ss m) {bs : List (Str × Int)} (hb : bs.map (·.1) = m.boxes.map (·.1)) : Shp 2 (.list (bs.map boxD)) :=
  .lst (n := 1) (.map (f := boxD) fun p hp => .tup (.cons (.str (show PyData.strOk p.1 = true from (h.nm p.1 (List.mem_append_left _ (by rw [← hb]; exact List.mem_map_of_mem hp))).sok)) (.cons .int .nil)))
theorem mach_shp (h : MchG many ss m) (hs : ∀ x ∈ ss, SOk x) : Shp 21 m.data := by
  have h1 : Shp 20 (.list (m.queues.map PyData.str)) := .lst (n := 19) (.map (f := PyData.str) fun x hx => .str (show PyData.strOk x = true from (h.nm x (List.mem_append_right _ hx)).sok))
  exact .tup (n := 20) (.cons (.str (show PyData.strOk m.name = true from h.name.sok)) (.cons ((boxes_shp h rfl).up (by decide)) (.cons h1 (.cons (.lst (n := 19) Shps.ints) (.cons (hears_shp h hs fun p hp => ⟨(h.ds p hp).1, (h.ds p hp).2.2⟩) .nil)))))
theorem machs_shaped {ms : List Mach} (h : ∀ m ∈ ms, MchG many ss m) (hs : ∀ x ∈ ss, SOk x) : SeqAt.shaped (.list (ms.map Mach.data)) = true :=
  (Shp.lst (n := 21) (.map (f := Mach.data) fun m hm => mach_shp (h m hm) hs)).shaped (by decide)
end
end Mo
namespace Mo
open PySem PySem.Spec PyProof.Rows L2
section
variable {K : PySem.W.Frag} {Γ : List Fc} {S R : List Vo} {Q : VK} {E : XK}
theorem w_first {pm : Addr} {ms : List Mach} {i : Nat} {m : Mach} (hm : MdOk K Γ pm ms) (hi : ms[i]? = some m) (nd : m.Nd) (sm : m.Sm) (k : ∀ p dx b q as, as.length = m.queues.length → Wh K Γ (stV K p dx b q as m.first :: S) fun H => Q (.ref p) H) : Wh K Γ S fun H => spFirst K [.ref pm, .int (i : Int)] H Q E := fun H z => by
  obtain ⟨G, a1, b1⟩ := z
  obtain ⟨dx, lm, h1, h2⟩ := hm
  exact ⟨G, S.flatten, pm, ms, i, m, rfl, a1, ⟨dx, lm, b1 _ h1, b1 _ h2⟩, hi, nd, sm, fun p dx b q as H' hl _ z' => k p dx b q as hl H' ⟨G, z', b1⟩⟩
end
end Mo
namespace Mo
open PySem PySem.Spec PyProof.Rows L2
/-! ### trees that are not changed any more are data -/
theorem take_head {x : Vo} {R : List Vo} : Take x (x :: R) R := List.Perm.refl _
theorem take_second {x y : Vo} {R : List Vo} : Take y (x :: y :: R) (x :: R) := by
  show (x :: y :: R).flatten.Perm (y ++ (x :: R).flatten)
  rw [List.flatten_cons, List.flatten_cons, List.flatten_cons, ← List.append_assoc, ← List.append_assoc]
  exact List.Perm.append_right _ List.perm_append_comm
theorem take2M {x y : Vo} {S R T : List Vo} (h : Take x S R) (k : Take y R T) : Take (x ++ y) S T := by
  show S.flatten.Perm ((x ++ y) ++ T.flatten)
  rw [List.append_assoc]
  exact h.trans (List.Perm.append_left x k)
section
variable {K : PySem.W.Frag}
mutual
theorem w_frT : ∀ (t : Tr) {Γ : List Fc} {S R : List Vo} {A : Hp → Prop}, trF K t ∈ Γ → Take t.S S R → Wh K (.dat t.v t.dat :: Γ) R A → Wh K Γ S A
  | .wd x, Γ, S, R, A, m, n, k => by
    have n : S.flatten.Perm ([] ++ R.flatten) := by rw [Tr.S] at n; exact n
    refine Wh.cong (S' := R) n.symm ?_
    rw [Tr.dat] at k
    refine w_dat ?_ k
    cases x with
    | i a => exact DV.int
    | s a => exact DV.str
  | .dt v d, Γ, S, R, A, m, n, k => by
    have n : S.flatten.Perm ([] ++ R.flatten) := by rw [Tr.S] at n; exact n
    refine Wh.cong (S' := R) n.symm ?_
    rw [Tr.dat] at k
    exact w_trD m k
  | .ls p ts, Γ, S, R, A, m, n, k => by
    rw [Tr.S] at n
    have n : S.flatten.Perm ((own p (.lst (ts.map Tr.v)) ++ Tr.SS ts) ++ R.flatten) := n
    refine Wh.cong (S' := own p (.lst (ts.map Tr.v)) :: Tr.SS ts :: R) ?_ ?_
    · rw [List.flatten_cons, List.flatten_cons, ← List.append_assoc]
      exact n.symm
    refine w_trLo m ?_
    refine w_frTs ts List.mem_cons_self take_second ?_
    refine w_freeze (p := p) (ds := Tr.dats ts) take_head (DL.mem List.mem_cons_self) ?_
    rw [Tr.dat] at k
    refine w_thin ?_ Dr.refl k
    intro f hf
    rcases List.mem_cons.mp hf with rfl | hf
    · exact List.mem_cons_self
    · exact List.mem_cons_of_mem _ (List.mem_cons_of_mem _ (List.mem_cons_of_mem _ hf))
  | .tu p ts, Γ, S, R, A, m, n, k => by
    rw [Tr.S] at n
    refine w_trTo m ?_
    refine w_frTs ts (List.mem_cons_of_mem _ List.mem_cons_self) n ?_
    rw [Tr.dat] at k
    refine w_dat (v := .ref p) (d := .tuple (Tr.dats ts)) (DV.tup (List.mem_cons_of_mem _ List.mem_cons_self) (DL.mem List.mem_cons_self)) ?_
    refine w_thin ?_ Dr.refl k
    intro f hf
    rcases List.mem_cons.mp hf with rfl | hf
    · exact List.mem_cons_self
    · exact List.mem_cons_of_mem _ (List.mem_cons_of_mem _ (List.mem_cons_of_mem _ (List.mem_cons_of_mem _ hf)))
theorem w_frTs : ∀ (ts : List Tr) {Γ : List Fc} {S R : List Vo} {A : Hp → Prop}, trsF K ts ∈ Γ → Take (Tr.SS ts) S R → Wh K (.dats (ts.map Tr.v) (Tr.dats ts) :: Γ) R A → Wh K Γ S A
  | [], Γ, S, R, A, m, n, k => by
    have n : S.flatten.Perm ([] ++ R.flatten) := by rw [Tr.SS] at n; exact n
    refine Wh.cong (S' := R) n.symm ?_
    rw [Tr.dats] at k
    exact w_dats DL.nil k
  | t :: ts, Γ, S, R, A, m, n, k => by
    rw [Tr.SS] at n
    have n : S.flatten.Perm ((t.S ++ Tr.SS ts) ++ R.flatten) := n
    refine Wh.cong (S' := t.S :: Tr.SS ts :: R) ?_ ?_
    · rw [List.flatten_cons, List.flatten_cons, ← List.append_assoc]
      exact n.symm
    refine w_trsGet (t := t) m List.mem_cons_self ?_
    refine w_frT t List.mem_cons_self take_head ?_
    have hts : ∀ {Γ' : List Fc} {S' : List Vo}, trsF K (t :: ts) ∈ Γ' → Wh K (trsF K ts :: Γ') S' A → Wh K Γ' S' A := fun m k => Wh.learn (f := trsF K ts) (fun G b => fun f hf => (b _ m : ∀ f ∈ Tr.FF (t :: ts), f.In K G) f (by rw [Tr.FF]; exact List.mem_append_right _ hf)) k
    refine hts (List.mem_cons_of_mem _ (List.mem_cons_of_mem _ m)) ?_
    refine w_frTs ts List.mem_cons_self take_head ?_
    rw [Tr.dats, List.map_cons] at k
    refine w_dats (vs := t.v :: ts.map Tr.v) (ds := t.dat :: Tr.dats ts) (DL.cons (DV.mem (by simp)) (DL.mem List.mem_cons_self)) ?_
    refine w_thin ?_ Dr.refl k
    intro f hf
    rcases List.mem_cons.mp hf with rfl | hf
    · exact List.mem_cons_self
    · exact List.mem_cons_of_mem _ (List.mem_cons_of_mem _ (List.mem_cons_of_mem _ (List.mem_cons_of_mem _ (List.mem_cons_of_mem _ hf))))
end
end
end Mo
namespace Mo
open PySem PySem.Spec PyProof.Rows L2
/-! ### law_k01 -/
theorem m1_shp {many : Nat} {m : Mach} (h : M1 many m) : Shp 21 m.data := by
  have hb : ∀ x ∈ m.boxes.map (·.1), SOk x := fun x hx => (h.nm x hx).sok
  have hq : ∀ x ∈ m.queues, SOk x := fun x hx => (h.qm x hx).sok
  have hs : ∀ x ∈ ss1, SOk x := by
    intro x hx
    have hx : x ∈ [("tick" : Str), "b"] := hx
    simp only [List.mem_cons, List.not_mem_nil, or_false] at hx
    rcases hx with rfl | rfl
    · show PyData.strOk _ = true; decide +kernel
    · show PyData.strOk _ = true; decide +kernel
  have h0 : Shp 2 (.list (m.boxes.map boxD)) := .lst (n := 1) (.map (f := boxD) fun p hp => .tup (.cons (.str (hb p.1 (List.mem_map_of_mem hp))) (.cons .int .nil)))
  have h1 : Shp 20 (.list (m.queues.map PyData.str)) := .lst (n := 19) (.map (f := PyData.str) fun x hx => .str (hq x hx))
  have h2 : Shp 20 (.list (m.hears.map hearD)) := by
    refine .lst (n := 19) (.map (f := hearD) fun p hp => ?_)
    obtain ⟨k1, k2⟩ := h.ds p hp
    have h3 := k1.dep
    have hto : Dd.Tos many ss1 p.2 := tos_all.mpr fun d hd => (k1.all d hd).to
    exact .tup (n := 18) (.cons (.str k2.sok) (.cons (.lst (n := 17) ((Dd.shps hb hq hs 3 p.2 k1.ok hto k1.fd).up (by omega))) .nil))
  exact .tup (n := 20) (.cons (.str h.name.sok) (.cons (h0.up (by decide)) (.cons h1 (.cons (.lst (n := 19) Shps.ints) (.cons h2 .nil)))))
theorem M1.sm {many : Nat} {m : Mach} (h : M1 many m) : m.Sm := ⟨by have := h.bl; omega, by have := h.ql; omega, by have := h.dl; omega, by have := h.hl; omega, fun p hp => ⟨by have := (h.ds p hp).1.len; omega, (h.ds p hp).1.sm⟩⟩
theorem M1.pd {many : Nat} {m : Mach} (h : M1 many m) : Pd 30 m.data := pd_mach h.sm fun p hp => ⟨(h.ds p hp).1.dep, (h.ds p hp).1.fd⟩
theorem M1.dep {many : Nat} {m : Mach} (h : M1 many m) : m.depth < 10 := by
  have : ∀ (l : List (Str × List Dd)), (∀ p ∈ l, Dd.depths p.2 ≤ 9) → l.foldr (fun p n => max (Dd.depths p.2) n) 0 ≤ 9 := fun l => by
    induction l with
    | nil => intro _; exact Nat.zero_le _
    | cons p l ih =>
      intro hl
      rw [List.foldr_cons]
      exact Nat.max_le.mpr ⟨hl p List.mem_cons_self, ih fun q hq => hl q (List.mem_cons_of_mem _ hq)⟩
  exact Nat.lt_succ_of_le (this m.hears fun p hp => (h.ds p hp).1.dep)
section
variable {K : PySem.W.Frag} {Γ : List Fc} {S S' : List Vo} {p dx b q : Addr} {as : List Addr} {s : MSt} {x : Str}
theorem ch_newB1 (hx : x ∉ s.bs) (n : Int) : Ch (stV K p dx b q as s) b (.dK (putK (boxesV s.boxes) (Sum.inr x) (.int n))) (stV K p dx b q as { s with boxes := s.boxes ++ [(x, n)] }) := fun G H L z => by
  rw [stV_eq] at z ⊢
  rw [boxesV_put hx]
  exact z.set1 rfl
theorem w_newSt1 {n : Int} {A : Hp → Prop} (m : Rp (stV K p dx b q as s) (stV K p dx b q as { s with boxes := s.boxes ++ [(x, n)] }) S S') (hx : x ∉ s.bs) (hl : s.boxes.length ≤ 1000) (k : Wh K Γ S' A) : Wh K Γ S fun H => rSet (.ref b) (.str x) (.int n) H A := fun H z =>
  go_setK (at_bx m.mem H z) (by rw [boxesV_len, sizeLine_eq]; omega) (k _ (z.rp m (ch_newB1 hx n)))
end
section
variable {P : Program} {w : World} {K : PySem.W.Frag} {mg : Str → Option Value} {base : Heap}
theorem ok_law (T : Tx K mg) : OkG P w K mg base 60 "law" ["_law_script"] (spLaw K) := by
  have G__law_purse := ok__law_purse (P := P) (w := w) (base := base) T
  have G__law_draw := ok__law_draw (P := P) (w := w) (base := base) T
  have G__law_names := ok__law_names (P := P) (w := w) (base := base) T
  have G__law_machine := ok__law_machine (P := P) (w := w) (base := base) T
  have G__law_copied := ok__law_copied (P := P) (w := w) (base := base) T 31
  have G_Model_init := ok_Model_init (P := P) (w := w) (base := base) T 10
  have G__law_spoil := ok__law_spoil (P := P) (w := w) (base := base) T 31
  have G_first_state := ok_first_state (P := P) (w := w) (base := base) T
  have G__law_state := ok__law_state (P := P) (w := w) (base := base) T
  refine T.f_law.okX sc_law (fun vs H Q E h => ?_) (fun cdv A outer s H vs Q E hr h => ?_)
  · obtain ⟨a, ns, rfl, _⟩ := h
    rfl
  · have hu1 := hu_of hr; have hu0 := hr.units0; have hu64 := hr.units; have hu65 := hu65_of hr; have nd := sc_law.nd
    obtain ⟨a0, ns, rfl, _, hS, hl, hb, q⟩ := h
    refine ⟨_, (pss_cons (ps_set (i := 1) nd rfl (Or.inr rfl) (pcl T.g__law_purse G__law_purse hr (takes_of rfl rfl rfl rfl) (pa_cons (pv 0) pa_nil)))
      (pss_cons (ps_set (i := 2) nd rfl (Or.inr rfl) (pcl T.g__law_names G__law_names hr (takes_of rfl rfl rfl rfl) (pa_cons (pv 1) (pa_cons (pe_op (op_addK (K := K) rfl) pe_int (pcl T.g__law_draw G__law_draw hr (takes_of rfl rfl rfl rfl) (pa_cons (pv 1) (pa_cons pe_int pa_nil)))) pa_nil))))
      (pss_cons (ps_setLc (i := 4) rfl nd rfl rfl (sw_true rfl rfl rfl (by decide +kernel)) (own := [("_law_name", 3)]) (pi_seqK (K := K) rfl (pv 2)) (blkOk_by (own := [("_law_name", 3)]) (N := nm_law) (sc := defScope s_law) (by decide +kernel)) (fun _ _ _ _ _ => (pg_name (i := 3) nd rfl (Or.inl rfl) (Or.inr rfl))) (fun _ _ _ _ _ => pts_nil) (fun _ _ _ _ _ => (pcl T.g__law_machine G__law_machine hr takes0 (pa_cons (pv 1) (pa_cons (pv 3) (pa_cons (pe_callB (call_lenK (K := K) rfl) (by rfl) T.b_len (by decide +kernel) (pa_cons (pv 2) pa_nil)) pa_nil))))))
      (pss_cons (ps_set (i := 5) nd rfl (Or.inl rfl) (pcl T.g__law_copied G__law_copied hr (takes_of rfl rfl rfl rfl) (pa_cons (pv 4) pa_nil)))
      (pss_cons (ps_set (i := 6) nd rfl (Or.inl rfl) (pmkK (K := K) rfl T.k_Model G_Model_init hr (takes_of rfl rfl rfl rfl) (pa_cons (pv 5) pa_nil)))
      (pss_cons (ps_expr (pcl T.g__law_spoil G__law_spoil hr (takes_of rfl rfl rfl rfl) (pa_cons (pv 5) pa_nil)))
      (pss_cons (ps_if (pt_cmpR (op_neK (K := K) rfl hu64) (pe_fldK (K := K) rfl (pv 6) rfl) (pv 4) (nomark _)) (pss_one (ps_ret pe_bl))
      pss_nil)
      (pss_cons (ps_for (passes_of rfl) rfl (pi_range1 rfl T.b_range (pa_cons (pe_callB (call_lenK (K := K) rfl) (by rfl) T.b_len (by decide +kernel) (pa_cons (pv 4) pa_nil)) pa_nil)) (pg_name (i := 7) nd rfl (Or.inl rfl))
      (pss_cons (ps_set (i := 8) nd rfl (Or.inl rfl) (pcl T.g_first_state G_first_state hr (takes_of rfl rfl rfl rfl) (pa_cons (pv 6) (pa_cons (pv 7) pa_nil))))
      (pss_cons (ps_if (pt_not (pt_truthK (K := K) rfl (pcl T.g__law_state G__law_state hr (takes_of rfl rfl rfl rfl) (pa_cons (pv 8) (pa_cons (pe_ix (ix_anyK (K := K) rfl hu1) (pv 4) (pv 7) (fun _ _ => rfl)) pa_nil))) (by intro _; rfl))) (pss_one (ps_ret pe_bl))
      pss_nil)
      (pss_cons (ps_asg pe_int (pg_sub (pe_fldK (K := K) rfl (pv 8) rfl) pe_str (set_any hu1)))
      (pss_cons (ps_for (passes_of rfl) rfl (pi_seqK (K := K) rfl (pe_ix (ix_anyK (K := K) rfl hu1) (pe_ix (ix_anyK (K := K) rfl hu1) (pv 4) (pv 7) (fun _ _ => rfl)) pe_int (fun _ _ => rfl))) (pg_name (i := 3) nd rfl (Or.inl rfl))
      (pss_one (ps_expr (pe_bmK (K := K) rfl PySem.F.plainAttrs_list PySem.F.slot_list_append PySem.F.type_list_append mt_append (pe_ix (ix_anyK (K := K) rfl hu1) (pe_fldK (K := K) rfl (pv 8) rfl) (pv 3) (fun _ _ => rfl)) (pa_cons pe_int pa_nil)))))
      (pss_one (ps_if (pt_not (pt_truthK (K := K) rfl (pcl T.g__law_state G__law_state hr (takes_of rfl rfl rfl rfl) (pa_cons (pcl T.g_first_state G_first_state hr (takes_of rfl rfl rfl rfl) (pa_cons (pv 6) (pa_cons (pv 7) pa_nil))) (pa_cons (pe_ix (ix_anyK (K := K) rfl hu1) (pv 4) (pv 7) (fun _ _ => rfl)) pa_nil))) (by intro _; rfl))) (pss_one (ps_ret pe_bl))
      pss_nil)))))))
      (pss_one (ps_ret (pe_cmpR (op_eqK (K := K) rfl hu64) (pe_fldK (K := K) rfl (pv 6) rfl) (pv 4) (nomark _)))))))))))), ?_⟩
    refine go_start (σ' := [some (.ref a0), none, none, none, none, none, none, none, none]) rfl ?_
    k_extra "we"
    refine ⟨a0, ns, rfl, hS, hl, fun z hz => bd_bits (hb z hz), fun pu H1 z1 => ?_⟩
    refine Hg.go (K := K) (Γ := []) (S := [pur pu]) ⟨H, z1, fun _ m => nomatch m⟩ ?_
    k_extra "W"
    intro n0 hn0
    k_extra "W"
    rw [show (1 : Int) + (n0 : Int) = ((1 + n0 : Nat) : Int) by omega]
    refine w_names1 (n := 1 + n0) (by k_extra "mr") (by omega) fun ln xs hxl hxn hxo => ?_
    k_extra "W"
    refine w_dats (vs := []) (ds := ([] : List Mach).map Mach.data) DL.nil ?_
    refine w_lc_l (ι := List V × List Mach) (xs.map V.str) (fun j a => a.1.length = j ∧ a.2.length = j ∧ ∀ m ∈ a.2, M1 (1 + n0) m) (fun _ a => a.1) (fun _ a => [.dats a.1 (a.2.map Mach.data), .obj ln (.lst (xs.map V.str))]) (fun _ _ => [pur pu]) ([], []) ⟨rfl, rfl, fun _ h => nomatch h⟩ rfl (by k_extra "sub") (by k_extra "dr") (fun _ _ => by k_extra "at") ?_ ?_
    · rintro Dl j v ⟨vs, ms⟩ hv ⟨g1, g2, g3⟩
      rw [List.getElem?_map] at hv
      obtain ⟨y, hy, rfl⟩ := Option.map_eq_some_iff.mp hv
      have hj := (List.getElem?_eq_some_iff.mp hy).1
      dsimp only at g1 g2 g3 ⊢
      k_extra "W"
      refine w_lenL (by k_extra "at") ?_
      rw [List.length_map, hxl]
      k_extra "W"
      refine w_don ((pu, y, 1 + n0) : Addr × Str × Nat) (by k_extra "ts") ⟨hxo y (List.mem_of_getElem? hy), by dsimp only; omega, by dsimp only; omega⟩ ?_
      rintro _ Γ' S' ⟨t, m, rfl, hm, rfl, rfl⟩
      dsimp only [List.cons_append, List.nil_append] at hm ⊢
      refine w_dats (vs := vs ++ [.ref t]) (ds := (ms ++ [m]).map Mach.data) (by rw [List.map_append]; exact DL.snoc (DL.mem (by k_extra "m")) (DV.mem (by k_extra "m"))) ?_
      refine w_lcp (vs ++ [.ref t], ms ++ [m]) ⟨by dsimp only; rw [List.length_append, List.length_singleton, g1], by dsimp only; rw [List.length_append, List.length_singleton, g2], fun e he => ?_⟩ rfl (by k_extra "t") (by omega) (by k_extra "sub") (by k_extra "dr")
      rcases List.mem_append.mp he with he | he
      · exact g3 e he
      · rw [List.mem_singleton.mp he]; exact hm
    rintro lm ⟨vs, ms⟩ ⟨g1, g2, g3⟩
    dsimp only at g1 g2 g3 ⊢
    rw [List.length_map, hxl] at g2
    refine w_freeze (p := lm) (ds := ms.map Mach.data) (by k_extra "t") (DL.mem (by k_extra "m")) ?_
    have hsh : SeqAt.shaped (.list (ms.map Mach.data)) = true := (Shp.lst (n := 21) (.map (f := Mach.data) fun m hm => m1_shp (g3 m hm))).shaped (by decide)
    refine w_thin (Γ' := [.dat (.ref lm) (.list (ms.map Mach.data))]) (S' := [pur pu]) (by k_extra "sub") (by k_extra "dr") ?_
    k_extra "W"
    refine w_don ((.ref lm, .list (ms.map Mach.data)) : V × PyData) (by k_extra "ts") ⟨by k_extra "m", pd_map (fun m hm => (g3 m hm).pd) (by omega)⟩ ?_
    rintro _ Γ' S' ⟨t, rfl, e1, c1, rfl, rfl⟩
    dsimp only at e1
    obtain ⟨lp, ts, rfl, e2, c2⟩ := c1.lst e1
    dsimp only [List.cons_append, List.nil_append]
    rw [show (Tr.ls lp ts).v = .ref lp from rfl]
    refine w_trLo (p := lp) (ts := ts) (by k_extra "m") ?_
    refine w_trOpenL (p := lp) (ts := ts) (by k_extra "t") ?_
    k_extra "W"
    refine w_mkModelT (n := 10) (ms := ms) (by k_extra "m") (by k_extra "mr") (by k_extra "t") c2 e2 (fun m hm => ⟨(g3 m hm).dep, (g3 m hm).sm⟩) (by omega) fun pm dxm lm2 => ?_
    k_extra "W"
    refine w_don (Tr.ls lp ts) (Takes'.cons (by
      rw [show (Tr.ls lp ts).S = own lp (.lst (ts.map Tr.v)) ++ segsV Tr.S ts by rw [Tr.S, Tr.SS_segs]]
      exact take2M (by k_extra "t") (by k_extra "t")) Takes'.nil) ⟨by k_extra "m", c1.sp⟩ ?_
    rintro _ Γ' S' ⟨rfl, rfl, rfl⟩
    dsimp only [List.cons_append, List.nil_append]
    k_extra "W"
    refine w_thin (Γ' := [.obj pm (.ins (He.ga K "Model") dxm (fl_Model (.ref lm2))), .dat (.ref lm2) (.list (ms.map Mach.data)), .dat (.ref lm) (.list (ms.map Mach.data))]) (S' := [pur pu]) (by k_extra "sub") (by k_extra "dr") ?_
    refine w_neD (d := .list (ms.map Mach.data)) (e := .list (ms.map Mach.data)) (DV.mem (by k_extra "m")) (DV.mem (by k_extra "m")) hsh hsh ?_
    rw [eqv_self hsh]
    k_extra "W"
    rw [List.length_map]
    refine w_forR ms.length rfl (by omega) ?_
    refine w_loop_r (ι := Option V × Option V × Option V) ms.length (fun _ _ => True) (fun _ a => [some (.ref a0), some (.ref pu), some (.ref ln), a.1, some (.ref lm), some (.ref lp), some (.ref pm), a.2.1, a.2.2]) (fun _ _ => [.obj pm (.ins (He.ga K "Model") dxm (fl_Model (.ref lm2))), .dat (.ref lm2) (.list (ms.map Mach.data)), .dat (.ref lm) (.list (ms.map Mach.data))]) (fun _ _ => [pur pu]) (none, none, none) True.intro rfl (by k_extra "sub") (by k_extra "dr") ?_ ?_
    · rintro i ⟨u1, u2, u3⟩ hi _
      obtain ⟨m, hm⟩ : ∃ m, ms[i]? = some m := ⟨_, List.getElem?_eq_getElem hi⟩
      have h1 := g3 m (List.mem_of_getElem? hm)
      have hnd : m.Nd := ⟨h1.nb, h1.nq⟩
      have hat : atI (ms.map Mach.data) (i : Int) = some m.data := atI_nat (by rw [List.getElem?_map, hm]; rfl)
      dsimp only
      k_extra "W"
      refine w_first (i := i) ⟨dxm, lm2, by k_extra "m", by k_extra "m"⟩ hm hnd h1.sm fun p dx b qa as hal => ?_
      have hlo : ∀ (p dx b qa : Addr) (as : List Addr) (hv : Addr), as.length = m.queues.length → (⟨p, dx, b, qa, as, hv, m⟩ : L1I).Ok := fun p dx b qa as hv h => ⟨by have := h1.bl; dsimp only; omega, by have := h1.ql; dsimp only; omega, h1.nb, h1.nq, fun x hx => (h1.nm x hx).sok, fun x hx => (h1.qm x hx).sok, h⟩
      k_extra "W"
      refine w_subL (d := m.data) (by k_extra "m") hat fun am => ?_
      rw [show valOf m.data am = .ref am from rfl]
      k_extra "W"
      refine w_don (⟨p, dx, b, qa, as, am, m⟩ : L1I) (by k_extra "ts") ⟨by k_extra "m", hlo p dx b qa as am hal⟩ ?_
      rintro _ Γ' S' ⟨rfl, rfl, rfl⟩
      dsimp only [List.cons_append, List.nil_append]
      k_extra "W"
      have hex : ("the spoilt" : Str) ∉ m.first.bs := fun hx => by
        have := (h1.nm _ hx).len
        revert this
        decide +kernel
      refine w_newSt1 (x := "the spoilt") (n := 1) (s := m.first) (by k_extra "rp") hex (by have := h1.bl; show m.boxes.length ≤ 1000; omega) ?_
      k_extra "W"
      refine w_subL (d := m.data) (by k_extra "m") hat fun am2 => ?_
      rw [show valOf m.data am2 = .ref am2 from rfl, show m.data = .tuple [.str m.name, .list (m.boxes.map boxD), .list (m.queues.map PyData.str), .list (m.draws.map PyData.int), .list (m.hears.map hearD)] from rfl]
      k_extra "W"
      rename_i lqs
      have hfq : m.first.qs = m.queues := by
        show (m.queues.map fun q => (q, ([] : List Int))).map (·.1) = _
        rw [List.map_map]
        exact List.map_id _
      refine w_loop_D (ι := MSt × Option V) (m.queues.map PyData.str) (fun j a => a.1.qs = m.queues ∧ ∀ p ∈ a.1.queues, p.2.length ≤ j) (fun _ a => [some (.ref a0), some (.ref pu), some (.ref ln), a.2, some (.ref lm), some (.ref lp), some (.ref pm), some (.int (i : Int)), some (.ref p)]) (fun _ _ => [.dat (.ref lqs) (.list (m.queues.map PyData.str)), .obj pm (.ins (He.ga K "Model") dxm (fl_Model (.ref lm2))), .dat (.ref lm2) (.list (ms.map Mach.data)), .dat (.ref lm) (.list (ms.map Mach.data))]) (fun _ a => [stV K p dx b qa as a.1, pur pu]) ({ m.first with boxes := m.first.boxes ++ [(("the spoilt" : Str), (1 : Int))] }, u1) ⟨hfq, fun p hp => by
        obtain ⟨y, _, rfl⟩ := List.mem_map.mp hp
        exact Nat.le_refl _⟩ rfl (by k_extra "sub") (by k_extra "dr") (fun _ _ => by k_extra "m") ?_ ?_
      · rintro j d v ⟨s2, u4⟩ hd ⟨w1, w2⟩
        rw [List.getElem?_map] at hd
        obtain ⟨y, hy, rfl⟩ := Option.map_eq_some_iff.mp hd
        have hj3 := (List.getElem?_eq_some_iff.mp hy).1
        have hq3 := h1.ql
        dsimp only at w1 w2 ⊢
        have hys : y ∈ s2.qs := by rw [w1]; exact List.mem_of_getElem? hy
        have hl2 : s2.queues.length = as.length := by
          have e1 : s2.qs.length = s2.queues.length := List.length_map _
          rw [← e1, w1, hal]
        have hsn : s2.qs.Nodup := by rw [w1]; exact h1.nq
        obtain ⟨qb, hqb⟩ := q_addr (as := as) hl2 hys
        have hlk := lookQ_len w2 y
        refine w_str List.mem_cons_self fun e => ?_
        subst e
        k_extra "W"
        refine w_subK (by k_extra "at") hqb ?_
        k_extra "W"
        refine w_tyL (at_q (by k_extra "mr") hl2 hsn hys hqb) ?_
        k_extra "W"
        refine w_appQ (x := y) (n := 1) (s := s2) (by k_extra "rp") hl2 hsn hys hqb (by omega) ?_
        k_extra "W"
        refine w_again (s2.setQ y (lookD [] y s2.queues ++ [1]), _) ⟨(MSt.setQ_qs s2 y _).trans w1, fun p hp => ?_⟩ rfl (by k_extra "sub") (by k_extra "dr")
        rcases mem_setA hp with hp | rfl
        · have := w2 p hp
          omega
        · show (lookD [] y s2.queues ++ [1]).length ≤ _
          rw [List.length_append, List.length_singleton]
          omega
      rintro ⟨s2, u4⟩ ⟨w1, w2⟩
      dsimp only at w1 w2 ⊢
      k_extra "W"
      refine w_first (i := i) ⟨dxm, lm2, by k_extra "m", by k_extra "m"⟩ hm hnd h1.sm fun p2 dx2 b2 qa2 as2 hal2 => ?_
      k_extra "W"
      refine w_subL (d := m.data) (by k_extra "m") hat fun am3 => ?_
      rw [show valOf m.data am3 = .ref am3 from rfl]
      k_extra "W"
      refine w_don (⟨p2, dx2, b2, qa2, as2, am3, m⟩ : L1I) (by k_extra "ts") ⟨by k_extra "m", hlo p2 dx2 b2 qa2 as2 am3 hal2⟩ ?_
      rintro _ Γ' S' ⟨rfl, rfl, rfl⟩
      dsimp only [List.cons_append, List.nil_append]
      k_extra "W"
      exact w_again (_, _, _) True.intro rfl (by k_extra "sub") (by k_extra "dr")
    rintro ⟨u1, u2, u3⟩ _
    dsimp only
    k_extra "W"
    refine w_eqD (d := .list (ms.map Mach.data)) (e := .list (ms.map Mach.data)) (DV.mem (by k_extra "m")) (DV.mem (by k_extra "m")) hsh hsh ?_
    rw [eqv_self hsh]
    exact fun H z => q _
end
end Mo
open PySem PySem.W PySem.Calls PyProof.Rows
theorem PySem.Challenge.cw_momentloom_k01_models_kept_holds : PySem.Challenge.rw_momentloom_k01_models_kept.Holds := by
  w_on; o_law
  refine HandSHeadRun.head_any (r := Mo.Rr) (q := view Mo.Rr.prog [21]) (H := Mo.hk) (ob := Mo.ob) (M := 20000) (loose := Mo.loose) (d := HandSHeadRun.topDef Mo.Rr.prog 21) (kwd := []) Mo.ob_eq
    (by kernel_rfl) (fun s => by kernel_rfl) Mo.run (by kernel_rfl) (by kernel_rfl) (by kernel_rfl) (by rfl) (by first | assumption | decide +kernel) (by decide +kernel) ⟨rfl, rfl, rfl, rfl, rfl, by decide +kernel⟩ ?hw ?hc
  case hw => w_witness2
  case hc =>
    refine Mo.walk_ofEB (l := PySem.Challenge.rw_momentloom_k01_models_kept) (n := 63) (k := 60) (x := "_law_script") (CX := fun w => L2.CX PySem.Challenge.rw_momentloom_k01_models_kept.prog w) rfl (by decide) (by kernel_rfl) ⟨rfl, by decide, by decide⟩ ?F (fun _ _ _ _ _ z => Mo.cx_false z)
    intro w mg fa h Y G hmg0
    obtain ⟨K, KX, c⟩ := Y
    have hmg : mg ("law" : PySem.Str) = some (.ref fa) := by
      have e : (HandSHeadRun.topDef Mo.Rr.prog 21).name = ("law" : PySem.Str) := by kernel_rfl
      rw [← e]
      exact hmg0
    have T := Mo.tx_of KX G c
    have e := hmg.symm.trans T.g_law.gl
    cases e
    exact ⟨K, _, Mo.spLaw K, KX, fun s u => Mo.fun_bindsTo T.f_law (ps := ["_law_script"]) (fun _ _ _ _ _ _ us hl => match us, hl with | [_], _ => rfl) s [u] rfl, fun H a ns hl hb hO hS => ⟨a, ns, rfl, hO, hS, hl, hb, fun _ => rfl⟩, fun base _ _ => Mo.ok_law T⟩
