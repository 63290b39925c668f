import PyProof.Rows.All
import Wide.All
import OpenK.AllK
import Wide.FinOn
import KE.KStateDown
import Lean
import HandS.ForMost
import HandS.Exc
import HandS.EndBits
import HandS.WordsExc
import HandS.Defaults
import HandS.DictTup
import HandS.TupLen
import HandS.Deep
import HandS.Wide
import HandS.TryOnly
import HandS.TryMany
import HandS.IsInst
import HandS.ExcIs
import HandS.Sort
import HandS.SortInts
import HandS.Head0
import HandS.Head1
import HandS.Head2
import HandS.HeadEnd
import HandS.HeadHook1
import HandS.HeadHook2
import PySem.Challenge.RW_momentloom_k04_formulas_of_two
set_option Elab.async false
set_option linter.all false
set_option maxRecDepth 100000
set_option maxHeartbeats 4000000
namespace Mo
open PySem PySem.Spec PyProof.Rows L2
/-! ### heaps: a part of a heap, what is tracked and may change -/
def Ext (G H : Hp) : Prop := ∀ a o, G a = some o → H a = some o
theorem Ext.refl (H : Hp) : Ext H H := fun _ _ h => h
theorem Ext.trans {H H1 H2 : Hp} (a : Ext H H1) (b : Ext H1 H2) : Ext H H2 := fun x o h => b x o (a x o h)
theorem Ext.new {H : Hp} {p : Addr} {o : HO} (h : H p = none) : Ext H (upd H p o) := fun a u e => by
  rw [upd_ne (ne_of_none e h)]
  exact e
theorem Ext.put {G H : Hp} {p : Addr} {o : HO} (e : Ext G H) (h : G p = none) : Ext G (upd H p o) := fun a u ha => by
  rw [upd_ne (ne_of_none ha h)]
  exact e a u ha
theorem Ext.made {H : Hp} {x dx C : Addr} {fs : List (Str × V)} (nx : H x = none) (nd : H dx = none) : Ext H (upd (upd H dx (.own x)) x (.ins C dx fs)) := fun a u e => by
  rw [upd_ne (ne_of_none e nx), upd_ne (ne_of_none e nd)]
  exact e
theorem Ext.free {H H' : Hp} (e : Ext H H') {p : Addr} (h : H' p = none) : H p = none := by
  cases q : H p with
  | none => rfl
  | some o =>
    rw [e p o q] at h
    cases h
theorem ext_rd {H H' : Hp} {a : Addr} {u : HO} (e : Ext H H') (h : Rd H a u) : Rd H' a u := by
  rcases h with h | ⟨o, h⟩
  · exact Or.inl (e a _ h)
  · exact Or.inr ⟨o, e a _ h⟩
theorem ext_l {K : PySem.W.Frag} {H H' : Hp} {a : Addr} {xs : List V} (e : Ext H H') (h : SqL K H a xs) : SqL K H' a xs := by
  rcases h with h | h
  · exact Or.inl (ext_rd e h)
  · exact Or.inr h
theorem ext_t {K : PySem.W.Frag} {H H' : Hp} {a : Addr} {xs : List V} (e : Ext H H') (h : SqT K H a xs) : SqT K H' a xs := by
  rcases h with h | h
  · exact Or.inl (ext_rd e h)
  · exact Or.inr h
/-- the volatile objects: addresses, and what is true of what stands there -/
abbrev Vo : Type := List (Addr × (HO → Prop))
structure Hd (G H : Hp) (L : Vo) : Prop where
  ex : Ext G H
  at_ : ∀ p ∈ L, ∃ o, H p.1 = some o ∧ p.2 o
  out : ∀ p ∈ L, G p.1 = none
  nd : (L.map (·.1)).Nodup
section
variable {G H H' : Hp} {L : Vo} {p : Addr} {o o' : HO} {φ ψ : HO → Prop}
theorem Hd.get (h : Hd G H L) (m : (p, φ) ∈ L) : ∃ o, H p = some o ∧ φ o := h.at_ _ m
theorem Hd.eq (h : Hd G H L) (m : (p, Eq o) ∈ L) : H p = some o := by
  obtain ⟨u, h1, h2⟩ := h.at_ _ m
  have h3 : o = u := h2
  rw [h3]
  exact h1
theorem Hd.no (h : Hd G H L) (m : (p, φ) ∈ L) : G p = none := h.out _ m
theorem Hd.nil (e : Ext G H) : Hd G H [] := ⟨e, fun _ z => (nomatch z), fun _ z => (nomatch z), List.nodup_nil⟩
theorem Hd.grow (h : Hd G H L) (e : Ext H H') : Hd G H' L := ⟨h.ex.trans e, fun q m => let ⟨o, a, b⟩ := h.at_ q m; ⟨o, e _ _ a, b⟩, h.out, h.nd⟩
theorem nodup_same : ∀ {L : Vo}, (L.map (·.1)).Nodup → ∀ {p : Addr} {φ ψ : HO → Prop}, (p, φ) ∈ L → (p, ψ) ∈ L → φ = ψ
  | [], _, _, _, _, m, _ => nomatch m
  | (q, χ) :: L, nd, p, φ, ψ, m, n => by
    rw [List.map_cons, List.nodup_cons] at nd
    rcases List.mem_cons.mp m with e | m
    · rcases List.mem_cons.mp n with f | n
      · cases e
        cases f
        rfl
      · cases e
        exact absurd (List.mem_map_of_mem (f := (·.1)) n) nd.1
    · rcases List.mem_cons.mp n with f | n
      · cases f
        exact absurd (List.mem_map_of_mem (f := (·.1)) m) nd.1
      · exact nodup_same nd.2 m n
/-- the object at p is changed, within what is told of it -/
theorem Hd.put (h : Hd G H L) (m : (p, φ) ∈ L) (hφ : φ o') : Hd G (upd H p o') L := by
  refine ⟨h.ex.put (h.no m), fun q n => ?_, h.out, h.nd⟩
  obtain ⟨a, χ⟩ := q
  by_cases e : a = p
  · subst e
    have z := nodup_same h.nd n m
    subst z
    exact ⟨o', upd_same, hφ⟩
  · obtain ⟨u, h1, h2⟩ := h.at_ _ n
    exact ⟨u, by rw [upd_ne e]; exact h1, h2⟩
theorem mem_set_ne : ∀ {L : Vo} {i : Nat} {p : Addr} {φ ψ : HO → Prop}, (L.map (·.1)).Nodup → L[i]? = some (p, φ) → ∀ q ∈ L.set i (p, ψ), q = (p, ψ) ∨ (q ∈ L ∧ q.1 ≠ p)
  | [], _, _, _, _, _, e, _, _ => by simp at e
  | x :: L, 0, p, φ, ψ, nd, e, q, hq => by
    simp only [List.getElem?_cons_zero, Option.some.injEq] at e
    subst e
    rw [List.map_cons, List.nodup_cons] at nd
    rw [List.set_cons_zero] at hq
    rcases List.mem_cons.mp hq with h | h
    · exact Or.inl h
    · refine Or.inr ⟨List.mem_cons_of_mem _ h, fun z => ?_⟩
      have w : q.1 ∈ L.map (·.1) := List.mem_map_of_mem (f := (·.1)) h
      rw [z] at w
      exact nd.1 w
  | x :: L, i + 1, p, φ, ψ, nd, e, q, hq => by
    rw [List.getElem?_cons_succ] at e
    rw [List.map_cons, List.nodup_cons] at nd
    rw [List.set_cons_succ] at hq
    rcases List.mem_cons.mp hq with h | h
    · refine Or.inr ⟨by rw [h]; exact List.mem_cons_self, fun z => ?_⟩
      have w : p ∈ L.map (·.1) := List.mem_map_of_mem (f := (·.1)) (List.mem_of_getElem? e)
      rw [h] at z
      rw [z] at nd
      exact nd.1 w
    · rcases mem_set_ne nd.2 e q h with r | ⟨r, s⟩
      · exact Or.inl r
      · exact Or.inr ⟨List.mem_cons_of_mem _ r, s⟩
theorem map_set_fst : ∀ {L : Vo} {i : Nat} {p : Addr} {φ ψ : HO → Prop}, L[i]? = some (p, φ) → (L.set i (p, ψ)).map (·.1) = L.map (·.1)
  | [], _, _, _, _, e => by simp at e
  | x :: L, 0, p, φ, ψ, e => by
    simp only [List.getElem?_cons_zero, Option.some.injEq] at e
    subst e
    rfl
  | x :: L, i + 1, p, φ, ψ, e => by
    rw [List.getElem?_cons_succ] at e
    rw [List.set_cons_succ, List.map_cons, List.map_cons, map_set_fst e]
theorem Hd.set (h : Hd G H L) (i : Nat) (m : L[i]? = some (p, φ)) (hψ : ψ o') : Hd G (upd H p o') (L.set i (p, ψ)) :=
  ⟨h.ex.put (h.no (List.mem_of_getElem? m)), fun q n => by
    rcases mem_set_ne h.nd m q n with e | ⟨n', e⟩
    · subst e
      exact ⟨o', upd_same, hψ⟩
    · obtain ⟨u, h1, h2⟩ := h.at_ _ n'
      exact ⟨u, by rw [upd_ne e]; exact h1, h2⟩, fun q n => by
    rcases mem_set_ne h.nd m q n with e | ⟨n', e⟩
    · subst e
      exact h.no (List.mem_of_getElem? m)
    · exact h.out _ n', by rw [map_set_fst m]; exact h.nd⟩
/-- what is told of the object at place i is told otherwise -/
theorem Hd.re (h : Hd G H L) (i : Nat) (m : L[i]? = some (p, φ)) (hψ : ∀ o, H p = some o → φ o → ψ o) : Hd G H (L.set i (p, ψ)) :=
  ⟨h.ex, fun q n => by
    rcases mem_set_ne h.nd m q n with e | ⟨n', e⟩
    · subst e
      obtain ⟨u, h1, h2⟩ := h.at_ _ (List.mem_of_getElem? m)
      exact ⟨u, h1, hψ u h1 h2⟩
    · exact h.at_ _ n', fun q n => by
    rcases mem_set_ne h.nd m q n with e | ⟨n', e⟩
    · subst e
      exact h.no (List.mem_of_getElem? m)
    · exact h.out _ n', by rw [map_set_fst m]; exact h.nd⟩
theorem Hd.fresh (h : Hd G H L) (hp : H p = none) : p ∉ L.map (·.1) := fun m => by
  obtain ⟨q, n, e⟩ := List.mem_map.mp m
  obtain ⟨u, h1, _⟩ := h.at_ q n
  rw [e, hp] at h1
  cases h1
/-- a new object that may change -/
theorem Hd.new (h : Hd G H L) (hp : H p = none) (hφ : φ o) : Hd G (upd H p o) ((p, φ) :: L) :=
  ⟨h.ex.trans (Ext.new hp), fun q n => by
    rcases List.mem_cons.mp n with e | n
    · subst e
      exact ⟨o, upd_same, hφ⟩
    · obtain ⟨u, h1, h2⟩ := h.at_ q n
      exact ⟨u, by rw [upd_ne (ne_of_none h1 hp)]; exact h1, h2⟩, fun q n => by
    rcases List.mem_cons.mp n with e | n
    · subst e
      exact h.ex.free hp
    · exact h.out q n, by rw [List.map_cons, List.nodup_cons]; exact ⟨h.fresh hp, h.nd⟩⟩
/-- a new object that stays -/
theorem Hd.fix (h : Hd G H L) (hp : H p = none) : Hd (upd G p o) (upd H p o) L :=
  ⟨fun a u e => by
    by_cases z : a = p
    · subst z
      rw [upd_same] at e ⊢
      exact e
    · rw [upd_ne z] at e ⊢
      exact h.ex a u e, fun q n => by
    obtain ⟨u, h1, h2⟩ := h.at_ q n
    exact ⟨u, by rw [upd_ne (ne_of_none h1 hp)]; exact h1, h2⟩, fun q n => by
    obtain ⟨u, h1, _⟩ := h.at_ q n
    rw [upd_ne (ne_of_none h1 hp)]
    exact h.out q n, h.nd⟩
/-- the first volatile object is to stay as it is -/
theorem Hd.freeze (h : Hd G H ((p, φ) :: L)) (e : H p = some o) : Hd (upd G p o) H L :=
  ⟨fun a u q => by
    by_cases z : a = p
    · subst z
      rw [upd_same] at q
      rw [e]
      exact q
    · rw [upd_ne z] at q
      exact h.ex a u q, fun q n => h.at_ q (List.mem_cons_of_mem _ n), fun q n => by
    have nd := h.nd
    rw [List.map_cons, List.nodup_cons] at nd
    have z : q.1 ≠ p := fun z => by
      have w : q.1 ∈ L.map (·.1) := List.mem_map_of_mem (f := (·.1)) n
      rw [z] at w
      exact nd.1 w
    rw [upd_ne z]
    exact h.out q (List.mem_cons_of_mem _ n), by
    have nd := h.nd
    rw [List.map_cons, List.nodup_cons] at nd
    exact nd.2⟩
theorem Hd.made {x dx C : Addr} {fs : List (Str × V)} (h : Hd G H L) (nx : H x = none) (nd : H dx = none) (ne : dx ≠ x) (hφ : φ (.ins C dx fs)) : Hd G (upd (upd H dx (.own x)) x (.ins C dx fs)) ((x, φ) :: L) :=
  (h.grow (Ext.new nd)).new (by rw [upd_ne (fun z => ne z.symm)]; exact nx) hφ
theorem Hd.drop {x : Addr × (HO → Prop)} (h : Hd G H (x :: L)) : Hd G H L :=
  ⟨h.ex, fun q n => h.at_ q (List.mem_cons_of_mem _ n), fun q n => h.out q (List.mem_cons_of_mem _ n), by
    have nd := h.nd
    rw [List.map_cons, List.nodup_cons] at nd
    exact nd.2⟩
theorem Hd.perm {M : Vo} (h : Hd G H L) (q : M.Perm L) : Hd G H M :=
  ⟨h.ex, fun x n => h.at_ x (q.mem_iff.mp n), fun x n => h.out x (q.mem_iff.mp n), (List.Perm.nodup_iff (q.map (·.1))).mpr h.nd⟩
theorem Hd.swap {x y : Addr × (HO → Prop)} (h : Hd G H (x :: y :: L)) : Hd G H (y :: x :: L) := h.perm (List.Perm.swap x y L)
theorem Hd.ext {G0 : Hp} (h : Hd G H L) (e : Ext G0 G) : Hd G0 H L := ⟨e.trans h.ex, h.at_, fun q n => e.free (h.out q n), h.nd⟩
theorem Hd.newG (_ : Hd G H L) (hG : G p = none) : Ext G (upd G p o) := Ext.new hG
theorem Hd.gno (h : Hd G H L) (hp : H p = none) : G p = none := h.ex.free hp
theorem Hd.ne (h : Hd G H L) {q : Addr} {i j : Nat} (m : L[i]? = some (p, φ)) (n : L[j]? = some (q, ψ)) (hij : i ≠ j) : p ≠ q := fun e => by
  have h1 : (L.map (·.1))[i]? = some p := by rw [List.getElem?_map, m]; rfl
  have h2 : (L.map (·.1))[j]? = some q := by rw [List.getElem?_map, n]; rfl
  rw [← e] at h2
  have l1 : i < (L.map (·.1)).length := (List.getElem?_eq_some_iff.mp h1).1
  have l2 : j < (L.map (·.1)).length := (List.getElem?_eq_some_iff.mp h2).1
  exact hij ((List.getElem?_inj l1 h.nd).mp (h1.trans h2.symm))
end
/-! ### data that stands in a heap -/
section
variable {K : PySem.W.Frag} {G H : Hp}
mutual
theorem dp_mono (e : Ext G H) : ∀ {v : V} {d : PyData}, Dp K G v d → Dp K H v d
  | _, _, .non => .non
  | _, _, .bl b => .bl b
  | _, _, .int i => .int i
  | _, _, .str x => .str x
  | _, _, .lst h r => .lst (ext_l e h) (dpa_mono e r)
  | _, _, .tup h r => .tup (ext_t e h) (dpa_mono e r)
theorem dpa_mono (e : Ext G H) : ∀ {vs : List V} {ds : List PyData}, DpAll K G vs ds → DpAll K H vs ds
  | _, _, .nil => .nil
  | _, _, .cons h r => .cons (dp_mono e h) (dpa_mono e r)
end
theorem dp_int {v : V} {i : Int} (h : Dp K H v (.int i)) : v = .int i := by cases h; rfl
theorem dp_str {v : V} {x : Str} (h : Dp K H v (.str x)) : v = .str x := by cases h; rfl
theorem dp_bl {v : V} {b : Bool} (h : Dp K H v (.bool b)) : v = .bl b := by cases h; rfl
theorem dp_non {v : V} (h : Dp K H v .none) : v = .non := by cases h; rfl
theorem dp_tup {v : V} {ds : List PyData} (h : Dp K H v (.tuple ds)) : ∃ a xs, v = .ref a ∧ SqT K H a xs ∧ DpAll K H xs ds := by
  cases h with
  | tup a b => exact ⟨_, _, rfl, a, b⟩
theorem dp_lst {v : V} {ds : List PyData} (h : Dp K H v (.list ds)) : ∃ a xs, v = .ref a ∧ SqL K H a xs ∧ DpAll K H xs ds := by
  cases h with
  | lst a b => exact ⟨_, _, rfl, a, b⟩
theorem dpa_len : ∀ {vs : List V} {ds : List PyData}, DpAll K H vs ds → vs.length = ds.length
  | _, _, .nil => rfl
  | _, _, .cons _ r => by rw [List.length_cons, List.length_cons, dpa_len r]
theorem dpa_get : ∀ {vs : List V} {ds : List PyData} {i : Nat} {d : PyData}, DpAll K H vs ds → ds[i]? = some d → ∃ v, vs[i]? = some v ∧ Dp K H v d
  | _, _, _, _, .nil, e => by simp at e
  | _, _, 0, _, .cons h _, e => by
    simp only [List.getElem?_cons_zero, Option.some.injEq] at e
    subst e
    exact ⟨_, rfl, h⟩
  | _, _, i + 1, _, .cons _ r, e => by
    rw [List.getElem?_cons_succ] at e
    obtain ⟨v, h1, h2⟩ := dpa_get r e
    exact ⟨v, by rw [List.getElem?_cons_succ]; exact h1, h2⟩
theorem dpa_get' : ∀ {vs : List V} {ds : List PyData} {i : Nat} {v : V}, DpAll K H vs ds → vs[i]? = some v → ∃ d, ds[i]? = some d ∧ Dp K H v d
  | _, _, _, _, .nil, e => by simp at e
  | _, _, 0, _, .cons h _, e => by
    simp only [List.getElem?_cons_zero, Option.some.injEq] at e
    subst e
    exact ⟨_, rfl, h⟩
  | _, _, i + 1, _, .cons _ r, e => by
    rw [List.getElem?_cons_succ] at e
    obtain ⟨v, h1, h2⟩ := dpa_get' r e
    exact ⟨v, by rw [List.getElem?_cons_succ]; exact h1, h2⟩
theorem dpa_app : ∀ {vs ws : List V} {ds es : List PyData}, DpAll K H vs ds → DpAll K H ws es → DpAll K H (vs ++ ws) (ds ++ es)
  | _, _, _, _, .nil, s => s
  | _, _, _, _, .cons h r, s => .cons h (dpa_app r s)
theorem dpa_one {v : V} {d : PyData} (h : Dp K H v d) : DpAll K H [v] [d] := .cons h .nil
theorem dpa_ints : ∀ ns : List Int, DpAll K H (ns.map V.int) (ns.map PyData.int)
  | [] => .nil
  | n :: ns => .cons (.int n) (dpa_ints ns)
end
end Mo
namespace Mo
open PySem PySem.Spec PyProof.Rows L2
abbrev St := L2.St
/-! ### rules: any subscript, any store, any in, any ==, len of anything, calls that may raise -/
section
variable {X : Cx}
def CMulX (i j : Int) : Prop := i.natAbs.log2 + j.natAbs.log2 < 134000000
theorem CMulX.ok {i j : Int} (h : CMulX i j) : IntMulOk i j := by
  have b : ∀ x : Int, Builtin.Int.intBits x ≤ x.natAbs.log2 + 1 := fun x => by
    unfold Builtin.Int.intBits
    split <;> omega
  have h1 := b i
  have h2 := b j
  have h3 : i.natAbs.log2 + j.natAbs.log2 < 134000000 := h
  have e : bitsLine = 134217728 := by decide
  unfold IntMulOk
  intro z
  rw [Bool.and_eq_true] at z
  have z2 := z.2
  unfold Builtin.Int.intTooBig at z2
  have z3 := of_decide_eq_true z2
  rw [e] at z3
  omega
theorem log2_bd {x : Int} {a : Nat} (h : x.natAbs < 2 ^ a) (h0 : 0 < a) : x.natAbs.log2 < a := PySem.Flt.log2_lt_of h0 h
theorem mulX_of {i j : Int} (a b : Nat) (hi : i.natAbs < 2 ^ a) (hj : j.natAbs < 2 ^ b) (h0 : 0 < a) (h1 : 0 < b) (h : a + b ≤ 134000000) : CMulX i j := by
  have x := log2_bd hi h0
  have y := log2_bd hj h1
  unfold CMulX
  omega
theorem op_mulX : OpR X (binaryOp .Mult) (rI CMulX fun i j => .int (i * j)) := opI fun _ _ _ _ _ _ _ hc q => mul_int q hc.ok
def CDivX (_ j : Int) : Prop := j ≠ 0 ∧ j.natAbs.log2 < 9000
theorem op_fdivX : OpR X (binaryOp .FloorDiv) (rI CDivX fun i j => .int (i.fdiv j)) := opI fun _ _ _ _ _ _ _ hc q => floordiv_int hc.1 q (.inl (PyProof.noPylong_of_log2 hc.2))
def CMod (_ j : Int) : Prop := j ≠ 0
theorem op_modX : OpR X (binaryOp .Mod) (rI CMod fun i j => .int (i.fmod j)) := opI fun _ _ _ _ _ _ _ hc q => mod_int' hc q
/-- d[y] by values -/
def rDGet : R2 := fun x y H Q => ∃ a v, x = .ref a ∧ DGet H a y (some v) ∧ Q v H
theorem ix_dict (hu : X.A.units + 1 < cLine) : IxR X rDGet := by
  intro value slice pins s σ H x y v u Q I rx ry h hs
  obtain ⟨a, z, rfl, g, q⟩ := h
  obtain rfl : v = Value.ref a := rx
  have hT := dict_typeIs I g
  unfold subscriptTail
  refine wpAny_bind ?_
  rw [getitemInPython_of_ne hT.not_modules]
  refine wpAny_bind (wpAny_specialOf hT PySem.F.slot_dict_getitem.lookup ?_)
  have fin : wpAny (model X.prog X.w) X.A (subscripted slice false (Value.ref a) u) (fun r s₃ => wpAny (model X.prog X.w) X.A (letTemporaryGo value (Value.ref a) r >>= fun _ => pure r) (EP X pins σ Q) X.xe s₃) X.xe s := by
    rw [hs]
    refine wpAny_operating (d_getItem hu I g ry fun w' s3 I3 rw' => wpAny_bind (wpAny_letTemporaryGo (wpAny_pure ⟨z, H, I3, rw', q⟩)))
  first
    | exact wpAny_pure (wpAny_bind fin)
    | exact wpAny_bind (wpAny_pure (wpAny_bind fin))
    | exact wpAny_bind fin
def rSub (K : PySem.W.Frag) : R2 := fun x y H Q => (rIxL K x y H Q ∨ rIxT K x y H Q) ∨ (rIxS x y H Q ∨ rDGet x y H Q)
theorem ix_any (hu : X.A.units + 1 < cLine) : IxR X (rSub X.K) := (ix_list.or ix_tup).or (ix_str.or (ix_dict hu))
def rSli (K : PySem.W.Frag) : V → Option Int → Option Int → Hp → VK → Prop := fun x lo hi H Q => rSlL K x lo hi H Q ∨ rSlT K x lo hi H Q
theorem sl_any : SlR X (rSli X.K) := sl_list.or sl_tup
def rSet : TSet := fun o i v H Q => rSetL o i v H Q ∨ ∃ a H', o = .ref a ∧ DPut H a i v H' ∧ Q H'
theorem set_any (hu : X.A.units + 1 < cLine) : PSet X rSet := by
  intro pins s σ H o i v ov iv u Q I ro ri rv h
  rcases h with h | ⟨a, H', rfl, g, q⟩
  · exact set_list pins s σ H o i v ov iv u Q I ro ri rv h
  · obtain rfl : ov = Value.ref a := ro
    exact d_setItem hu I g ri rv fun s' I' => ⟨H', I', q⟩
/-- y in d, by values -/
def rDIn : R2 := fun y x H Q => ∃ a o, x = .ref a ∧ DGet H a y o ∧ Q (.bl o.isSome) H
def rDNotIn : R2 := fun y x H Q => ∃ a o, x = .ref a ∧ DGet H a y o ∧ Q (.bl (!o.isSome)) H
theorem op_inDict (hu : X.A.units + 1 < cLine) : OpR X (compareOp .In) rDIn := by
  intro pins s σ H x y v u Q I rx ry h
  obtain ⟨a, o, rfl, g, q⟩ := h
  obtain rfl : u = Value.ref a := ry
  exact d_in hu I g rx fun s3 I3 => ⟨.bl o.isSome, H, I3, rfl, q⟩
theorem op_notInDict (hu : X.A.units + 1 < cLine) : OpR X (compareOp .NotIn) rDNotIn := by
  intro pins s σ H x y v u Q I rx ry h
  obtain ⟨a, o, rfl, g, q⟩ := h
  obtain rfl : u = Value.ref a := ry
  exact d_notIn hu I g rx fun s3 I3 => ⟨.bl (!o.isSome), H, I3, rfl, q⟩
def rInA (K : PySem.W.Frag) : R2 := fun x y H Q => rDIn x y H Q ∨ (rIn K false x y H Q ∨ rInD K x y H Q)
def rNotInA (K : PySem.W.Frag) : R2 := fun x y H Q => rDNotIn x y H Q ∨ (rIn K true x y H Q ∨ rNotInD K x y H Q)
theorem op_inA (hu : X.A.units + 65 < cLine) : OpR X (compareOp .In) (rInA X.K) := (op_inDict (by omega)).or (op_in_seq.or (op_inD hu))
theorem op_notInA (hu : X.A.units + 65 < cLine) : OpR X (compareOp .NotIn) (rNotInA X.K) := (op_notInDict (by omega)).or (op_notIn_seq.or (op_notInD hu))
def rEqA (K : PySem.W.Frag) : R2 := fun x y H Q => rEq x y H Q ∨ rEqD K x y H Q
def rNeA (K : PySem.W.Frag) : R2 := fun x y H Q => rNe x y H Q ∨ rNeD K x y H Q
theorem op_eqA (hu : X.A.units + 64 < cLine) : OpR X (compareOp .Eq) (rEqA X.K) := op_eq.or (op_eqD hu)
theorem op_neA (hu : X.A.units + 64 < cLine) : OpR X (compareOp .NotEq) (rNeA X.K) := op_ne.or (op_neD hu)
def rLenA (K : PySem.W.Frag) : List V → Hp → VK → Prop := fun xs H Q =>
  ((∃ p ys, xs = [.ref p] ∧ (SqL K H p ys ∨ SqT K H p ys) ∧ Q (.int ys.length) H) ∨ (∃ z, xs = [.str z] ∧ z.length ≤ sizeLine ∧ Q (.int z.length) H)) ∨ ((∃ a kvs, xs = [V.ref a] ∧ H a = some (.dK kvs) ∧ Q (.int kvs.length) H) ∨ rLenT xs H Q)
theorem call_lenA : CallR X (.builtin "len") (rLenA X.K) := (call_len_seq.or call_len_str).or (call_lenD.or call_len_dT)
/-- {}: of the one kind or the other -/
def tDNew : TE := fun σ H Q => tDNewK σ H Q ∨ tDNewT σ H Q
theorem pe_dnew {pos : Pos} : PE X (.Dict [] [] pos) tDNew := ⟨fun pins s σ H Q I h => by
  rcases h with h | h
  · exact pe_dnewK.run pins s σ H Q I h
  · exact pe_dnewT.run pins s σ H Q I h⟩
end
/-! ### calls, what is raised wished for at the caller's slots -/
section
variable {X : Cx} {CX : CXT} {k : Nat} {f C : Addr} {fd : FuncData} {ps : List Str} {sp : Sp} {E : St → XK} {x m : Str} {p pos apos : Pos} {e o : Expr} {es : List Expr} {ta : TE} {t : TA}
theorem pe_call0S (F : FnOk X.prog X.w X.K X.mg X.base CX k f fd ps sp) (hr : Room k X.A) (hg : Gl X x) (hm : X.mg x = some (.ref f)) (hk : PySem.W.keepIn X.K (.ref f) = true) (hb : Binds X.K fd ps []) (hx : ∀ σ, PassesAt CX X σ (E σ))
    (hdb : (x == ("__debug__" : Str)) = false := by decide) : PE X (.Call (.Name x p) [] [] pos) (tCallS sp E tNil) := by
  refine ⟨fun pins s σ H Q I h => ?_⟩
  refine wpAny_Call_Name_kw (ld_glob I hg hm ?_ hdb)
  exact PySem.W.callWith_K0 I.kIn hk (run_fnS (us := []) F hr hb (hx σ) I .nil h)
def tMethS (C : Addr) (m : Str) (sp : Sp) (E : St → XK) (ta : TE) (t : TA) : TE := fun σ H Q => ta σ H fun x H1 => ∃ a dx fs, x = .ref a ∧ H1 a = some (.ins C dx fs) ∧ fs.lookup m = none ∧
  t σ H1 fun vs H2 => sp (x :: vs) H2 Q (E σ)
theorem pe_methS {pl : Sem Bool} (he : PE X o ta) (c : Cls X.K C) (hm : Meth X.K C m f) (F : FnOk X.prog X.w X.K X.mg X.base CX k f fd ps sp) (hr : Room k X.A) (hb : Binds X.K fd ps []) (hx : ∀ σ, PassesAt CX X σ (E σ)) (ha : PA X (e :: es) t)
    (hst : starEach (e :: es) X.env = (false, eval e X.env) :: starEach es X.env := by rfl) (hpl : (backTo pos (starEach es X.env)).any (·.1) = false := by rfl)
    (ht : eval (.Call (.Attribute o m apos) (e :: es) [] pos) X.env = (do
      let ov ← eval o X.env
      standAt apos.atName
      let (f, first) ← holding [ov] (getMethod ov m pl)
      callWith pos f first (backTo pos (starEach (e :: es) X.env)) (backToKw pos (keywordEach [] X.env))) := by rfl) :
    PE X (.Call (.Attribute o m apos) (e :: es) [] pos) (tMethS C m sp E ta t) := by
  refine ⟨fun pins s σ H Q I h => ?_⟩
  refine PySem.W.methodCall_KW (pl := pl) (thn (he.run pins s σ H _ I h) fun u s1 ⟨x, H1, I1, rx, a, dx, fs, ex, ea, l, q⟩ => ?_) ht
  subst ex
  obtain rfl : u = Value.ref a := rx
  refine getmeth_ok I1 ea c hm l ?_
  refine PySem.W.callWith_K (first := [.ref a]) (h₀ := X.base) I.ok.mod.kin hm.kp (thn (ha.run pos pins s1 σ H1 _ I1 q) fun us s2 ⟨vs, H2, I2, r, q2⟩ => ⟨I2.kIn, ?_⟩) hst hpl
  exact run_fnS (us := .ref a :: us) (vs := .ref a :: vs) F hr hb (hx σ) I2 (.cons rfl r) q2
theorem pe_meth0S {pl : Sem Bool} (he : PE X o ta) (c : Cls X.K C) (hm : Meth X.K C m f) (F : FnOk X.prog X.w X.K X.mg X.base CX k f fd ps sp) (hr : Room k X.A) (hb : Binds X.K fd ps []) (hx : ∀ σ, PassesAt CX X σ (E σ))
    (ht : eval (.Call (.Attribute o m apos) [] [] pos) X.env = (do
      let ov ← eval o X.env
      standAt apos.atName
      let (f, first) ← holding [ov] (getMethod ov m pl)
      callWith pos f first (backTo pos (starEach [] X.env)) (backToKw pos (keywordEach [] X.env))) := by rfl) :
    PE X (.Call (.Attribute o m apos) [] [] pos) (tMethS C m sp E ta tNil) := by
  refine ⟨fun pins s σ H Q I h => ?_⟩
  refine PySem.W.methodCall_KW (pl := pl) (thn (he.run pins s σ H _ I h) fun u s1 ⟨x, H1, I1, rx, a, dx, fs, ex, ea, l, q⟩ => ?_) ht
  subst ex
  obtain rfl : u = Value.ref a := rx
  refine getmeth_ok I1 ea c hm l ?_
  exact PySem.W.callWith_K0 (first := [.ref a]) I1.kIn hm.kp (run_fnS (us := [.ref a]) (vs := [.ref a]) F hr hb (hx σ) I1 (.cons rfl .nil) q)
def tMakeS (C : Addr) (sp : Sp) (E : St → XK) (t : TA) : TE := fun σ H Q => t σ H fun vs H1 => ∀ x dx, H1 x = none → H1 dx = none → dx ≠ x →
  sp (.ref x :: vs) (upd (upd H1 dx (.own x)) x (.ins C dx [])) (fun v H2 => v = .non ∧ Q (.ref x) H2) (E σ)
theorem passes_of_at {σ0 : St} (hx : ∀ σ, PassesAt CX X σ (E σ)) (pins : List (Addr × Obj)) (H : Hp) (s : Shared) (e : Value) (s' : Shared) (I : Inv X pins σ0 H s) (h : CX X.stack H s (E σ0) e s') : X.xe e s' := hx σ0 pins H s e s' I h
theorem run_makeS {pins : List (Addr × Obj)} {σ : St} {H : Hp} {s : Shared} {Q : VK} {us : List Value} {vs : List V} (M : Mk X.K C f) (F : FnOk X.prog X.w X.K X.mg X.base CX k f fd ps sp) (hr : Room (k + 1) X.A) (hb : Binds X.K fd ps [])
    (hx : PassesAt CX X σ (E σ)) (I : Inv X pins σ H s) (r : Vals vs us)
    (h : ∀ x dx, H x = none → H dx = none → dx ≠ x → sp (.ref x :: vs) (upd (upd H dx (.own x)) x (.ins C dx [])) (fun v H2 => v = .non ∧ Q (.ref x) H2) (E σ)) :
    wpAny (model X.prog X.w) X.A (call (.ref C) us) (EP X pins σ Q) X.xe s := by
  have hq := h (s.heap.objs.size + 1) s.heap.objs.size (I.hok.fresh (Nat.le_succ _)) (I.hok.fresh (Nat.le_refl _)) (Nat.ne_of_lt (Nat.lt_succ_self _))
  have I2 := Inv.made (C := C) I
  have r2 : Vals (V.ref (s.heap.objs.size + 1) :: vs) (Value.ref (s.heap.objs.size + 1) :: us) := .cons rfl r
  have hl : (Value.ref (s.heap.objs.size + 1) :: us).length = ps.length := by
    have e := r2.length
    rw [F.len _ _ _ _ hq] at e
    exact e.symm
  have b := hb _ (Value.ref (s.heap.objs.size + 1) :: us) I2.kIn (by rw [List.append_nil]; exact hl)
  rw [List.append_nil] at b
  refine wpAny_call (make_map (f := f) I.kIn M.makes M.init (beq_iff_eq.mp M.fn) (codeAny_mono (F.run _ X.stack _ _ ⟨Value.ref (s.heap.objs.size + 1) :: us, []⟩ (Value.ref (s.heap.objs.size + 1) :: us) _ _ (E σ) (hr.make C us [])
    (I2.env0.make C us []) b r2 hq) fun r s' hq' => ?_))
  cases r with
  | error e => exact hx pins _ _ e s' I2 hq'
  | ok fl =>
    cases fl with
    | ret u =>
      obtain ⟨v, H', I3, rv, ev, q3⟩ := I2.after hq'
      subst ev
      exact ⟨rv, ⟨V.ref (s.heap.objs.size + 1), H', I3, rfl, q3⟩⟩
    | next => exact False.elim hq'
    | brk => exact False.elim hq'
    | cont => exact False.elim hq'
theorem pe_makeS (M : Mk X.K C f) (F : FnOk X.prog X.w X.K X.mg X.base CX k f fd ps sp) (hr : Room (k + 1) X.A) (hg : Gl X x) (hm : X.mg x = some (.ref C)) (hb : Binds X.K fd ps []) (hx : ∀ σ, PassesAt CX X σ (E σ))
    (ha : PA X (e :: es) t) (hdb : (x == ("__debug__" : Str)) = false := by decide) (he : starEach (e :: es) X.env = (false, eval e X.env) :: starEach es X.env := by rfl) (hpl : (backTo pos (starEach es X.env)).any (·.1) = false := by rfl) :
    PE X (.Call (.Name x p) (e :: es) [] pos) (tMakeS C sp E t) := by
  refine ⟨fun pins s σ H Q I h => ?_⟩
  refine wpAny_Call_Name_kw (ld_glob I hg hm ?_ hdb)
  refine PySem.W.callWith_K (h₀ := X.base) I.ok.mod.kin M.kp (thn (ha.run pos pins s σ H _ I h) fun us s1 ⟨vs, H1, I1, r, q⟩ => ⟨I1.kIn, ?_⟩) he hpl
  exact run_makeS M F hr hb (hx σ) I1 r q
theorem pe_make0S (M : Mk X.K C f) (F : FnOk X.prog X.w X.K X.mg X.base CX k f fd ps sp) (hr : Room (k + 1) X.A) (hg : Gl X x) (hm : X.mg x = some (.ref C)) (hb : Binds X.K fd ps []) (hx : ∀ σ, PassesAt CX X σ (E σ))
    (hdb : (x == ("__debug__" : Str)) = false := by decide) : PE X (.Call (.Name x p) [] [] pos) (tMakeS C sp E tNil) := by
  refine ⟨fun pins s σ H Q I h => ?_⟩
  refine wpAny_Call_Name_kw (ld_glob I hg hm ?_ hdb)
  exact PySem.W.callWith_K0 I.kIn M.kp (run_makeS (us := []) M F hr hb (hx σ) I .nil h)
end
/-! ### what the top has written -/
def fdA (K : PySem.W.Frag) (a : Addr) : FuncData := match K.lookup a with
  | some ⟨_, _, .func fd, _⟩ => fd
  | _ => default
theorem fun_of {K : PySem.W.Frag} {x qual : PySem.Str} {st : Stmt} {f : Addr} {kws : List (PySem.Str × L2.V)} (h : ∃ fd, L2.FunD K x qual (L2.defArgs st) (L2.defBody st) (L2.defScope st) [] kws f fd) : L2.Fun K x qual st f (fdA K f) := by
  obtain ⟨fd, F⟩ := h
  obtain ⟨oc, od, dV, kV, doc, pm, an, cdv, ct, osl, e, l, c, hd, _⟩ := F.ex
  have e2 : fdA K f = fd := by
    unfold fdA
    rw [l]
  rw [e2]
  rcases hd with ⟨_, e2⟩ | ⟨e2, _⟩
  · subst e2
    exact ⟨⟨oc, od, kV, doc, pm, an, cdv, ct, osl, e, l, c⟩, F.kp⟩
  · exact absurd rfl e2
/-- a global def as its callers need it -/
structure GF (K : PySem.W.Frag) (mg : Str → Option Value) (x : Str) (ps : List Str) : Prop where
  gl : mg x = some (.ref (He.fAd K (x, none)))
  kp : PySem.W.keepIn K (.ref (He.fAd K (x, none))) = true
  bd : Binds K (fdA K (He.fAd K (x, none))) ps []
/-- a method -/
structure MF (K : PySem.W.Frag) (C m : Str) (ps : List Str) : Prop where
  me : Meth K (He.ga K C) m (He.fAd K (C, some m))
  bd : Binds K (fdA K (He.fAd K (C, some m))) ps []
/-- a class that is made -/
structure KF (K : PySem.W.Frag) (mg : Str → Option Value) (C : Str) (ps : List Str) : Prop where
  gl : mg C = some (.ref (He.ga K C))
  mker : Mk K (He.ga K C) (He.fAd K (C, some "__init__"))
  bd : Binds K (fdA K (He.fAd K (C, some "__init__"))) ps []
section
variable {P : Program} {w : World} {K : PySem.W.Frag} {mg : Str → Option Value} {base : Heap}
/-- a global def of level k keeps a promise -/
abbrev OkG (P : Program) (w : World) (K : PySem.W.Frag) (mg : Str → Option Value) (base : Heap) (k : Nat) (x : Str) (ps : List Str) (sp : Sp) : Prop := FnOk P w K mg base (L2.CX P w) k (He.fAd K (x, none)) (fdA K (He.fAd K (x, none))) ps sp
abbrev OkM (P : Program) (w : World) (K : PySem.W.Frag) (mg : Str → Option Value) (base : Heap) (k : Nat) (C m : Str) (ps : List Str) (sp : Sp) : Prop := FnOk P w K mg base (L2.CX P w) k (He.fAd K (C, some m)) (fdA K (He.fAd K (C, some m))) ps sp
end
section
variable {X : Cx} {k j : Nat} {C m x : Str} {ps : List Str} {sp : Sp} {W : WX} {p pos apos : Pos} {e o : Expr} {es : List Expr} {ta : TE} {t : TA}
/-- f(e, ..) -/
theorem pcl (G : GF X.K X.mg x ps) (F : OkG X.prog X.w X.K X.mg X.base k x ps sp) (hr : Room j X.A) (tk : Takes X W) (ha : PA X (e :: es) t) (hj : k ≤ j := by omega) (hg : Gl X x := by rfl)
    (hdb : (x == ("__debug__" : Str)) = false := by decide) (he : starEach (e :: es) X.env = (false, eval e X.env) :: starEach es X.env := by rfl) (hpl : (backTo pos (starEach es X.env)).any (·.1) = false := by rfl) :
    PE X (.Call (.Name x p) (e :: es) [] pos) (tCallS sp (WE W) t) := pe_callS F (hr.mono hj) hg G.gl G.kp G.bd (passAt tk) ha hdb he hpl
theorem pcl0 (G : GF X.K X.mg x ps) (F : OkG X.prog X.w X.K X.mg X.base k x ps sp) (hr : Room j X.A) (tk : Takes X W) (hj : k ≤ j := by omega) (hg : Gl X x := by rfl)
    (hdb : (x == ("__debug__" : Str)) = false := by decide) : PE X (.Call (.Name x p) [] [] pos) (tCallS sp (WE W) tNil) := pe_call0S F (hr.mono hj) hg G.gl G.kp G.bd (passAt tk) hdb
theorem pme {pl : Sem Bool} (G : MF X.K C m ps) (c : Cls X.K (He.ga X.K C)) (F : OkM X.prog X.w X.K X.mg X.base k C m ps sp) (hr : Room j X.A) (tk : Takes X W) (he : PE X o ta) (ha : PA X (e :: es) t) (hj : k ≤ j := by omega)
    (hst : starEach (e :: es) X.env = (false, eval e X.env) :: starEach es X.env := by rfl) (hpl : (backTo pos (starEach es X.env)).any (·.1) = false := by rfl)
    (ht : eval (.Call (.Attribute o m apos) (e :: es) [] pos) X.env = (do
      let ov ← eval o X.env
      standAt apos.atName
      let (f, first) ← holding [ov] (getMethod ov m pl)
      callWith pos f first (backTo pos (starEach (e :: es) X.env)) (backToKw pos (keywordEach [] X.env))) := by rfl) :
    PE X (.Call (.Attribute o m apos) (e :: es) [] pos) (tMethS (He.ga X.K C) m sp (WE W) ta t) := pe_methS (pl := pl) he c G.me F (hr.mono hj) G.bd (passAt tk) ha hst hpl ht
theorem pme0 {pl : Sem Bool} (G : MF X.K C m ps) (c : Cls X.K (He.ga X.K C)) (F : OkM X.prog X.w X.K X.mg X.base k C m ps sp) (hr : Room j X.A) (tk : Takes X W) (he : PE X o ta) (hj : k ≤ j := by omega)
    (ht : eval (.Call (.Attribute o m apos) [] [] pos) X.env = (do
      let ov ← eval o X.env
      standAt apos.atName
      let (f, first) ← holding [ov] (getMethod ov m pl)
      callWith pos f first (backTo pos (starEach [] X.env)) (backToKw pos (keywordEach [] X.env))) := by rfl) :
    PE X (.Call (.Attribute o m apos) [] [] pos) (tMethS (He.ga X.K C) m sp (WE W) ta tNil) := pe_meth0S (pl := pl) he c G.me F (hr.mono hj) G.bd (passAt tk) ht
theorem pmk (G : KF X.K X.mg C ps) (F : OkM X.prog X.w X.K X.mg X.base k C "__init__" ps sp) (hr : Room j X.A) (tk : Takes X W) (ha : PA X (e :: es) t) (hj : k + 1 ≤ j := by omega) (hg : Gl X C := by rfl)
    (hdb : (C == ("__debug__" : Str)) = false := by decide) (he : starEach (e :: es) X.env = (false, eval e X.env) :: starEach es X.env := by rfl) (hpl : (backTo pos (starEach es X.env)).any (·.1) = false := by rfl) :
    PE X (.Call (.Name C p) (e :: es) [] pos) (tMakeS (He.ga X.K C) sp (WE W) t) := pe_makeS G.mker F (hr.mono hj) hg G.gl G.bd (passAt tk) ha hdb he hpl
theorem pmk0 (G : KF X.K X.mg C ps) (F : OkM X.prog X.w X.K X.mg X.base k C "__init__" ps sp) (hr : Room j X.A) (tk : Takes X W) (hj : k + 1 ≤ j := by omega) (hg : Gl X C := by rfl)
    (hdb : (C == ("__debug__" : Str)) = false := by decide) : PE X (.Call (.Name C p) [] [] pos) (tMakeS (He.ga X.K C) sp (WE W) tNil) := pe_make0S G.mker F (hr.mono hj) hg G.gl G.bd (passAt tk) hdb
end
/-! ### more rules by values -/
section
variable {X : Cx}
theorem hu65_of {A : Around} {k : Nat} (hr : Room k A) : A.units + 65 < cLine := by
  have := hr.un
  omega
def rAddS : R2 := fun x y H Q => ∃ i j, x = .str i ∧ y = .str j ∧ i.length + j.length ≤ sizeLine ∧ Q (.str (i ++ j)) H
def rAddA (K : PySem.W.Frag) : R2 := fun x y H Q => rI0 (fun i j => .int (i + j)) x y H Q ∨ (rCat x y H Q ∨ (rAddS x y H Q ∨ rCatT K x y H Q))
theorem op_addA : OpR X (binaryOp .Add) (rAddA X.K) := op_add.or (op_cat.or (OpR.or (r := rAddS) op_add_str op_catT))
def rLtA (K : PySem.W.Frag) : R2 := fun x y H Q => rI0 (fun i j => .bl (decide (i < j))) x y H Q ∨ rLtT K x y H Q
theorem op_ltA (hu : X.A.units < cLine) : OpR X (compareOp .Lt) (rLtA X.K) := op_lt.or (op_ltT hu)
def rIsN1 : R2 := fun x y H Q => y = .non ∧ Q (.bl (decide (x = .non))) H
def rNotN1 : R2 := fun x y H Q => y = .non ∧ Q (.bl (!decide (x = .non))) H
theorem op_isN1 : OpR X (compareOp .Is) rIsN1 := op_isN
theorem op_notN1 : OpR X (compareOp .IsNot) rNotN1 := op_notN
def iSeq (K : PySem.W.Frag) (tl : TE) : TI := fun σ H R => tl σ H fun x H1 => ∃ a, x = .ref a ∧ (((∃ xs, SqL K H1 a xs) ∧ R (Itl K a) H1) ∨ ((∃ xs, SqT K H1 a xs) ∧ R (Itt K a) H1))
theorem pi_seq {tg l : Expr} {tl : TE} (hl : PE X l tl) : PI X tg l (iSeq X.K tl) := by
  refine ⟨fun pins s σ H R I h => ?_⟩
  refine thn (hl.run pins s σ H _ I h) fun v s1 ⟨x, H1, I1, r1, q1⟩ => ?_
  obtain ⟨a, e, q⟩ := q1
  subst e
  cases r1
  rcases q with ⟨⟨xs, hq⟩, q⟩ | ⟨⟨xs, hq⟩, q⟩
  · obtain ⟨its, rv, p, hz⟩ := I1.list hq
    refine wpAny_pyIter_list p.isList ?_
    refine ⟨s1.heap.objs.size, [s1.heap.objs.size], _, _, H1, rfl, I1.kept (t' := s1.toks) fun b o e => Heap.get?_push_of_some _ e, turn_list a _, ⟨_, Heap.get?_push_size _ rfl, rfl, rfl⟩, fun b hb => ?_, q⟩
    have e : b = s1.heap.objs.size := by simpa using hb
    subst e
    exact I1.fpOk (Nat.le_refl _) (I1.hok.fresh (Nat.le_refl _))
  · obtain ⟨its, rv, p, hz⟩ := I1.tuple hq
    refine wpAny_pyIter_tuple (show s1.heap.IsTuple a its.toArray from p) ?_
    refine ⟨s1.heap.objs.size, [s1.heap.objs.size], _, _, H1, rfl, I1.kept (t' := s1.toks) fun b o e => Heap.get?_push_of_some _ e, turn_tuple a _, ⟨_, Heap.get?_push_size _ rfl, rfl, rfl⟩, fun b hb => ?_, q⟩
    have e : b = s1.heap.objs.size := by simpa using hb
    subst e
    exact I1.fpOk (Nat.le_refl _) (I1.hok.fresh (Nat.le_refl _))
theorem call_isiA : CallR X (.builtin "isinstance") (rIsi X.K) := call_isi
end
/-- an own exception -/
structure ExF (K : PySem.W.Frag) (mg : Str → Option Value) (c : Str) : Prop where
  gl : mg c = some (.ref (He.ga K c))
  ex : PySem.W.excIn K (He.ga K c) He.veBase "ValueError.__new__" = true
  kp : PySem.W.keepIn K (.ref (He.ga K c)) = true
  sb : PySem.W.subIn K (.ref (He.ga K c)) (.type "BaseException") = some true
  ty : PySem.W.typeIn K (.ref (He.ga K c)) = some (.type "type")
/-! ### the rules, the written part named -/
section
variable {X : Cx} {K : PySem.W.Frag} {o e value a b : Expr} {es : List Expr} {f m : Str} {pos pos' tpos apos : Pos} {ta tb tv te : TE} {t : TA} {T name id : String} {r : V → List V → Hp → VK → Prop}
theorem op_addK (hK : X.K = K) : OpR X (binaryOp .Add) (rAddA K) := hK ▸ op_addA
theorem op_ltK (hK : X.K = K) (hu : X.A.units < cLine) : OpR X (compareOp .Lt) (rLtA K) := hK ▸ op_ltA hu
theorem op_eqK (hK : X.K = K) (hu : X.A.units + 64 < cLine) : OpR X (compareOp .Eq) (rEqA K) := hK ▸ op_eqA hu
theorem op_neK (hK : X.K = K) (hu : X.A.units + 64 < cLine) : OpR X (compareOp .NotEq) (rNeA K) := hK ▸ op_neA hu
theorem op_inK (hK : X.K = K) (hu : X.A.units + 65 < cLine) : OpR X (compareOp .In) (rInA K) := hK ▸ op_inA hu
theorem op_notInK (hK : X.K = K) (hu : X.A.units + 65 < cLine) : OpR X (compareOp .NotIn) (rNotInA K) := hK ▸ op_notInA hu
theorem ix_anyK (hK : X.K = K) (hu : X.A.units + 1 < cLine) : IxR X (rSub K) := hK ▸ ix_any hu
theorem sl_anyK (hK : X.K = K) : SlR X (rSli K) := hK ▸ sl_any
theorem call_lenK (hK : X.K = K) : CallR X (.builtin "len") (rLenA K) := hK ▸ call_lenA
theorem call_isiKK (hK : X.K = K) : CallR X (.builtin "isinstance") (rIsi K) := hK ▸ call_isiA
def rListOf (K : PySem.W.Frag) : List V → Hp → VK → Prop := fun xs H Q => ∃ p ys, xs = [.ref p] ∧ (SqL K H p ys ∨ SqT K H p ys) ∧ ∀ l, H l = none → Q (.ref l) (upd H l (.lst ys))
theorem call_listK (hK : X.K = K) : CallR X (.type "list") (rListOf K) := hK ▸ call_list_of
def rTupleOf (K : PySem.W.Frag) : List V → Hp → VK → Prop := fun xs H Q => ∃ p ys, xs = [.ref p] ∧ ((SqL K H p ys ∧ ∀ l, H l = none → Q (.ref l) (upd H l (.tup ys))) ∨ (SqT K H p ys ∧ Q (.ref p) H))
theorem call_tupleK (hK : X.K = K) : CallR X (.type "tuple") (rTupleOf K) := hK ▸ call_tuple_of
theorem pe_fldK (hK : X.K = K) (he : PE X e ta) (hb : attributeBase e f X.env (eval e X.env) = eval e X.env) : PE X (.Attribute e f pos) (tFld K ta f) := hK ▸ pe_fld he hb
theorem ps_fldK (hK : X.K = K) (ha : PE X o ta) (hv : PE X value tv) (hs : swapsWith value (some (.Attribute o f pos')) pos.line X.env = pure false) : PS X (.Assign [.Attribute o f pos'] value pos) (sFld K ta tv f) := hK ▸ ps_fld ha hv hs
theorem ps_fldaugK {op : Operator} {rd : V → V → Hp → VK → Prop} (hK : X.K = K) (ha : PE X o ta) (hv : PE X value tv) (hop : InOp X op rd) : PS X (.AugAssign (.Attribute o f tpos) op value pos) (sFldAug K ta tv rd f) := hK ▸ ps_fldaug ha hv hop
theorem pi_seqK {tg l : Expr} {tl : TE} (hK : X.K = K) (hl : PE X l tl) : PI X tg l (iSeq K tl) := hK ▸ pi_seq hl
theorem pg_tupK {es : List Expr} {k : Nat} {t : TGs} {n : Nat} (hK : X.K = K) (hc : X.calm = true) (h : PGs X es t) (hn : (assignEach es X.env).length = n) (hst : (assignEach es X.env).findIdx? (·.1) = none) : PG X (.Tuple es k pos) (gTup K n t) := hK ▸ pg_tup hc h hn hst
theorem pe_bm0K {cpos : Pos} (hK : X.K = K) (pa : PlainAttrs T) (slot : Slot T name id) (hty : typeOf (.builtin id) = pure (.type "method_descriptor")) (hm : MtR X id r) (ho : PE X o ta)
    (hbase : attributeBase o name X.env (eval o X.env) = eval o X.env := by rfl) (hline : (apos.endLine == cpos.line) = true := by rfl) : PE X (.Call (.Attribute o name apos) [] [] cpos) (tBM0 K T r ta) := hK ▸ pe_bm0 pa slot hty hm ho hbase hline
theorem pe_bmK {cpos : Pos} (hK : X.K = K) (pa : PlainAttrs T) (slot : Slot T name id) (hty : typeOf (.builtin id) = pure (.type "method_descriptor")) (hm : MtR X id r) (ho : PE X o ta) (ha : PA X (e :: es) t)
    (hbase : attributeBase o name X.env (eval o X.env) = eval o X.env := by rfl)
    (hfew : ((backTo cpos (starEach (e :: es) X.env)).all (fun x => !x.1) && (backToKw cpos (keywordEach [] X.env)).all (fun x => x.1.isSome)
      && decide ((e :: es).length + ([] : List Keyword).length + (if ([] : List Keyword).isEmpty then 0 else 1) < 30)) = true := by rfl)
    (hline : (apos.endLine == cpos.line) = true := by rfl) (hs : starEach (e :: es) X.env = (false, eval e X.env) :: starEach es X.env := by rfl) (hplain : (backTo cpos (starEach es X.env)).any (·.1) = false := by rfl) :
    PE X (.Call (.Attribute o name apos) (e :: es) [] cpos) (tBM K T r ta t) := hK ▸ pe_bm pa slot hty hm ho ha hbase hfew hline hs hplain
end
section
variable {X : Cx} {K : PySem.W.Frag} {k j : Nat} {C m x : Str} {ps : List Str} {sp : Sp} {W : WX} {p pos apos : Pos} {e o : Expr} {es : List Expr} {ta : TE} {t : TA}
theorem pmeK {pl : Sem Bool} (hK : X.K = K) (G : MF X.K C m ps) (c : Cls X.K (He.ga X.K C)) (F : OkM X.prog X.w X.K X.mg X.base k C m ps sp) (hr : Room j X.A) (tk : Takes X W) (he : PE X o ta) (ha : PA X (e :: es) t) (hj : k ≤ j := by omega)
    (hst : starEach (e :: es) X.env = (false, eval e X.env) :: starEach es X.env := by rfl) (hpl : (backTo pos (starEach es X.env)).any (·.1) = false := by rfl)
    (ht : eval (.Call (.Attribute o m apos) (e :: es) [] pos) X.env = (do
      let ov ← eval o X.env
      standAt apos.atName
      let (f, first) ← holding [ov] (getMethod ov m pl)
      callWith pos f first (backTo pos (starEach (e :: es) X.env)) (backToKw pos (keywordEach [] X.env))) := by rfl) :
    PE X (.Call (.Attribute o m apos) (e :: es) [] pos) (tMethS (He.ga K C) m sp (WE W) ta t) := hK ▸ pme (pl := pl) G c F hr tk he ha hj hst hpl ht
theorem pme0K {pl : Sem Bool} (hK : X.K = K) (G : MF X.K C m ps) (c : Cls X.K (He.ga X.K C)) (F : OkM X.prog X.w X.K X.mg X.base k C m ps sp) (hr : Room j X.A) (tk : Takes X W) (he : PE X o ta) (hj : k ≤ j := by omega)
    (ht : eval (.Call (.Attribute o m apos) [] [] pos) X.env = (do
      let ov ← eval o X.env
      standAt apos.atName
      let (f, first) ← holding [ov] (getMethod ov m pl)
      callWith pos f first (backTo pos (starEach [] X.env)) (backToKw pos (keywordEach [] X.env))) := by rfl) :
    PE X (.Call (.Attribute o m apos) [] [] pos) (tMethS (He.ga K C) m sp (WE W) ta tNil) := hK ▸ pme0 (pl := pl) G c F hr tk he hj ht
theorem pmkK (hK : X.K = K) (G : KF X.K X.mg C ps) (F : OkM X.prog X.w X.K X.mg X.base k C "__init__" ps sp) (hr : Room j X.A) (tk : Takes X W) (ha : PA X (e :: es) t) (hj : k + 1 ≤ j := by omega) (hg : Gl X C := by rfl)
    (hdb : (C == ("__debug__" : Str)) = false := by decide) (he : starEach (e :: es) X.env = (false, eval e X.env) :: starEach es X.env := by rfl) (hpl : (backTo pos (starEach es X.env)).any (·.1) = false := by rfl) :
    PE X (.Call (.Name C p) (e :: es) [] pos) (tMakeS (He.ga K C) sp (WE W) t) := hK ▸ pmk G F hr tk ha hj hg hdb he hpl
theorem pmk0K (hK : X.K = K) (G : KF X.K X.mg C ps) (F : OkM X.prog X.w X.K X.mg X.base k C "__init__" ps sp) (hr : Room j X.A) (tk : Takes X W) (hj : k + 1 ≤ j := by omega) (hg : Gl X C := by rfl)
    (hdb : (C == ("__debug__" : Str)) = false := by decide) : PE X (.Call (.Name C p) [] [] pos) (tMakeS (He.ga K C) sp (WE W) tNil) := hK ▸ pmk0 G F hr tk hj hg hdb
end
end Mo
namespace Mo
open PySem PySem.Spec PyProof.Rows L2
def top (i : Nat) : Stmt := PySem.Challenge.pw_momentloom_k04_formulas_of_two.main.body.getD i (.Pass ⟨0, 0, 0, 0⟩)
abbrev s_Fault_word : Stmt := inClass (top 3) 0
abbrev s_Nought_word : Stmt := inClass (top 4) 0
abbrev s_Great_word : Stmt := inClass (top 5) 0
abbrev s_kept_in : Stmt := top 8
abbrev s_of_two : Stmt := top 9
abbrev s_worth_of : Stmt := top 10
abbrev s_copied : Stmt := top 12
abbrev s_copied_machine : Stmt := top 13
abbrev s_Model_init : Stmt := inClass (top 14) 0
abbrev s_State_init : Stmt := inClass (top 15) 0
abbrev s_first_state : Stmt := top 16
abbrev s__law_whole : Stmt := top 18
abbrev s__law_mixed : Stmt := top 19
abbrev s__law_purse : Stmt := top 20
abbrev s__law_draw : Stmt := top 21
abbrev s__law_names : Stmt := top 22
abbrev s__law_worth : Stmt := top 23
abbrev s__law_two : Stmt := top 24
abbrev s__law_reckoned : Stmt := top 25
abbrev s__law_told : Stmt := top 26
abbrev s_law : Stmt := top 27
def nm_Fault_word : List Str := ["self"]
theorem sc_Fault_word : FnScope nm_Fault_word ["self"] (defScope s_Fault_word) := ⟨rfl, rfl, rfl, by decide +kernel, rfl, by decide +kernel, by decide +kernel⟩
def nm_Nought_word : List Str := ["self"]
theorem sc_Nought_word : FnScope nm_Nought_word ["self"] (defScope s_Nought_word) := ⟨rfl, rfl, rfl, by decide +kernel, rfl, by decide +kernel, by decide +kernel⟩
def nm_Great_word : List Str := ["self"]
theorem sc_Great_word : FnScope nm_Great_word ["self"] (defScope s_Great_word) := ⟨rfl, rfl, rfl, by decide +kernel, rfl, by decide +kernel, by decide +kernel⟩
def nm_kept_in : List Str := ["number"]
theorem sc_kept_in : FnScope nm_kept_in ["number"] (defScope s_kept_in) := ⟨rfl, rfl, rfl, by decide +kernel, rfl, by decide +kernel, by decide +kernel⟩
def nm_of_two : List Str := ["word", "one", "other"]
theorem sc_of_two : FnScope nm_of_two ["word", "one", "other"] (defScope s_of_two) := ⟨rfl, rfl, rfl, by decide +kernel, rfl, by decide +kernel, by decide +kernel⟩
def nm_worth_of : List Str := ["formula", "state", "now", "got", "word", "one"]
theorem sc_worth_of : FnScope nm_worth_of ["formula", "state", "now", "got"] (defScope s_worth_of) := ⟨rfl, rfl, rfl, by decide +kernel, rfl, by decide +kernel, by decide +kernel⟩
def nm_copied : List Str := ["deeds", "found", "deed"]
theorem sc_copied : FnScope nm_copied ["deeds"] (defScope s_copied) := ⟨rfl, rfl, rfl, by decide +kernel, rfl, by decide +kernel, by decide +kernel⟩
def nm_copied_machine : List Str := ["machine", "name", "boxes", "queues", "draws", "hears", "sign", "deeds"]
theorem sc_copied_machine : FnScope nm_copied_machine ["machine"] (defScope s_copied_machine) := ⟨rfl, rfl, rfl, by decide +kernel, rfl, by decide +kernel, by decide +kernel⟩
def nm_Model_init : List Str := ["self", "machines", "machine"]
theorem sc_Model_init : FnScope nm_Model_init ["self", "machines"] (defScope s_Model_init) := ⟨rfl, rfl, rfl, by decide +kernel, rfl, by decide +kernel, by decide +kernel⟩
def nm_State_init : List Str := ["self", "boxes", "queues", "drawn", "sent"]
theorem sc_State_init : FnScope nm_State_init ["self", "boxes", "queues", "drawn", "sent"] (defScope s_State_init) := ⟨rfl, rfl, rfl, by decide +kernel, rfl, by decide +kernel, by decide +kernel⟩
def nm_first_state : List Str := ["model", "at", "boxes", "name", "worth", "queues"]
theorem sc_first_state : FnScope nm_first_state ["model", "at"] (defScope s_first_state) := ⟨rfl, rfl, rfl, by decide +kernel, rfl, by decide +kernel, by decide +kernel⟩
def nm__law_whole : List Str := ["_law_found"]
theorem sc__law_whole : FnScope nm__law_whole ["_law_found"] (defScope s__law_whole) := ⟨rfl, rfl, rfl, by decide +kernel, rfl, by decide +kernel, by decide +kernel⟩
def nm__law_mixed : List Str := ["_law_cell", "_law_k", "_law_number"]
theorem sc__law_mixed : FnScope nm__law_mixed ["_law_cell", "_law_k"] (defScope s__law_mixed) := ⟨rfl, rfl, rfl, by decide +kernel, rfl, by decide +kernel, by decide +kernel⟩
def nm__law_purse : List Str := ["_law_script", "_law_cells", "_law_number", "_law_k"]
theorem sc__law_purse : FnScope nm__law_purse ["_law_script"] (defScope s__law_purse) := ⟨rfl, rfl, rfl, by decide +kernel, rfl, by decide +kernel, by decide +kernel⟩
def nm__law_draw : List Str := ["_law_purse_here", "_law_out_of", "_law_drawn"]
theorem sc__law_draw : FnScope nm__law_draw ["_law_purse_here", "_law_out_of"] (defScope s__law_draw) := ⟨rfl, rfl, rfl, by decide +kernel, rfl, by decide +kernel, by decide +kernel⟩
def nm__law_names : List Str := ["_law_purse_here", "_law_many", "_law_letters", "_law_first", "_law_names_here", "_law_k", "_law_name", "_law_j"]
theorem sc__law_names : FnScope nm__law_names ["_law_purse_here", "_law_many"] (defScope s__law_names) := ⟨rfl, rfl, rfl, by decide +kernel, rfl, by decide +kernel, by decide +kernel⟩
def nm__law_worth : List Str := ["_law_purse_here", "_law_way"]
theorem sc__law_worth : FnScope nm__law_worth ["_law_purse_here"] (defScope s__law_worth) := ⟨rfl, rfl, rfl, by decide +kernel, rfl, by decide +kernel, by decide +kernel⟩
def nm__law_two : List Str := ["_law_word", "_law_one", "_law_other", "_law_part"]
theorem sc__law_two : FnScope nm__law_two ["_law_word", "_law_one", "_law_other"] (defScope s__law_two) := ⟨rfl, rfl, rfl, by decide +kernel, rfl, by decide +kernel, by decide +kernel⟩
def nm__law_reckoned : List Str := ["_law_formula", "_law_boxes", "_law_queues", "_law_now", "_law_got", "_law_one", "_law_other", "_law_found"]
theorem sc__law_reckoned : FnScope nm__law_reckoned ["_law_formula", "_law_boxes", "_law_queues", "_law_now", "_law_got"] (defScope s__law_reckoned) := ⟨rfl, rfl, rfl, by decide +kernel, rfl, by decide +kernel, by decide +kernel⟩
def nm__law_told : List Str := ["_law_formula", "_law_state", "_law_found"]
theorem sc__law_told : FnScope nm__law_told ["_law_formula", "_law_state"] (defScope s__law_told) := ⟨rfl, rfl, rfl, by decide +kernel, rfl, by decide +kernel, by decide +kernel⟩
def nm_law : List Str := ["_law_script", "_law_purse_here", "_law_state", "_law_k", "_law_one", "_law_other", "_law_word", "_law_formula", "_law_due", "_law_found"]
theorem sc_law : FnScope nm_law ["_law_script"] (defScope s_law) := ⟨rfl, rfl, rfl, by decide +kernel, rfl, by decide +kernel, by decide +kernel⟩
def fl_Model (a0 : V) : List (Str × V) := [(("machines" : Str), a0)]
theorem lk_Model_machines {a0 : V} : (fl_Model a0).lookup ("machines" : Str) = some a0 := by kernel_rfl
theorem pt_Model_machines {a0 z : V} : putF "machines" z (fl_Model a0) = fl_Model z := by kernel_rfl
theorem in_Model_0 {a0 : V} : putF "machines" a0 ([] : List (Str × V)) = [(("machines" : Str), a0)] := by kernel_rfl
def fl_State (a0 a1 a2 a3 : V) : List (Str × V) := [(("boxes" : Str), a0), (("queues" : Str), a1), (("drawn" : Str), a2), (("sent" : Str), a3)]
theorem lk_State_boxes {a0 a1 a2 a3 : V} : (fl_State a0 a1 a2 a3).lookup ("boxes" : Str) = some a0 := by kernel_rfl
theorem pt_State_boxes {a0 a1 a2 a3 z : V} : putF "boxes" z (fl_State a0 a1 a2 a3) = fl_State z a1 a2 a3 := by kernel_rfl
theorem in_State_0 {a0 : V} : putF "boxes" a0 ([] : List (Str × V)) = [(("boxes" : Str), a0)] := by kernel_rfl
theorem lk_State_queues {a0 a1 a2 a3 : V} : (fl_State a0 a1 a2 a3).lookup ("queues" : Str) = some a1 := by kernel_rfl
theorem pt_State_queues {a0 a1 a2 a3 z : V} : putF "queues" z (fl_State a0 a1 a2 a3) = fl_State a0 z a2 a3 := by kernel_rfl
theorem in_State_1 {a0 a1 : V} : putF "queues" a1 ([(("boxes" : Str), a0)] : List (Str × V)) = [(("boxes" : Str), a0), (("queues" : Str), a1)] := by kernel_rfl
theorem lk_State_drawn {a0 a1 a2 a3 : V} : (fl_State a0 a1 a2 a3).lookup ("drawn" : Str) = some a2 := by kernel_rfl
theorem pt_State_drawn {a0 a1 a2 a3 z : V} : putF "drawn" z (fl_State a0 a1 a2 a3) = fl_State a0 a1 z a3 := by kernel_rfl
theorem in_State_2 {a0 a1 a2 : V} : putF "drawn" a2 ([(("boxes" : Str), a0), (("queues" : Str), a1)] : List (Str × V)) = [(("boxes" : Str), a0), (("queues" : Str), a1), (("drawn" : Str), a2)] := by kernel_rfl
theorem lk_State_sent {a0 a1 a2 a3 : V} : (fl_State a0 a1 a2 a3).lookup ("sent" : Str) = some a3 := by kernel_rfl
theorem pt_State_sent {a0 a1 a2 a3 z : V} : putF "sent" z (fl_State a0 a1 a2 a3) = fl_State a0 a1 a2 z := by kernel_rfl
theorem in_State_3 {a0 a1 a2 a3 : V} : putF "sent" a3 ([(("boxes" : Str), a0), (("queues" : Str), a1), (("drawn" : Str), a2)] : List (Str × V)) = [(("boxes" : Str), a0), (("queues" : Str), a1), (("drawn" : Str), a2), (("sent" : Str), a3)] := by kernel_rfl
theorem no_State_copy {a0 a1 a2 a3 : V} : (fl_State a0 a1 a2 a3).lookup ("copy" : Str) = none := by kernel_rfl
/-- what the top has written -/
structure Tx (K : PySem.W.Frag) (mg : Str → Option Value) : Prop where
  G_MomentError : mg "MomentError" = some (.ref (He.ga K "MomentError"))
  G_Fault : mg "Fault" = some (.ref (He.ga K "Fault"))
  G_Nought : mg "Nought" = some (.ref (He.ga K "Nought"))
  G_Great : mg "Great" = some (.ref (He.ga K "Great"))
  G_Model : mg "Model" = some (.ref (He.ga K "Model"))
  c_Model : Cls K (He.ga K "Model")
  n_Model_machines : NoAttr K (He.ga K "Model") "machines"
  k_Model : KF K mg "Model" ["self", "machines"]
  G_State : mg "State" = some (.ref (He.ga K "State"))
  c_State : Cls K (He.ga K "State")
  n_State_boxes : NoAttr K (He.ga K "State") "boxes"
  n_State_drawn : NoAttr K (He.ga K "State") "drawn"
  n_State_queues : NoAttr K (He.ga K "State") "queues"
  n_State_sent : NoAttr K (He.ga K "State") "sent"
  k_State : KF K mg "State" ["self", "boxes", "queues", "drawn", "sent"]
  x_Fault : ExF K mg "Fault"
  x_Great : ExF K mg "Great"
  x_MomentError : ExF K mg "MomentError"
  x_Nought : ExF K mg "Nought"
  e_Fault_Fault : PySem.W.exmOne K (.ref (He.ga K "Fault")) (.ref (He.ga K "Fault")) = some true
  e_Fault_Great : PySem.W.exmOne K (.ref (He.ga K "Fault")) (.ref (He.ga K "Great")) = some false
  e_Fault_MomentError : PySem.W.exmOne K (.ref (He.ga K "Fault")) (.ref (He.ga K "MomentError")) = some true
  e_Fault_Nought : PySem.W.exmOne K (.ref (He.ga K "Fault")) (.ref (He.ga K "Nought")) = some false
  e_Great_Fault : PySem.W.exmOne K (.ref (He.ga K "Great")) (.ref (He.ga K "Fault")) = some true
  e_Great_Great : PySem.W.exmOne K (.ref (He.ga K "Great")) (.ref (He.ga K "Great")) = some true
  e_Great_MomentError : PySem.W.exmOne K (.ref (He.ga K "Great")) (.ref (He.ga K "MomentError")) = some true
  e_Great_Nought : PySem.W.exmOne K (.ref (He.ga K "Great")) (.ref (He.ga K "Nought")) = some false
  e_MomentError_Fault : PySem.W.exmOne K (.ref (He.ga K "MomentError")) (.ref (He.ga K "Fault")) = some false
  e_MomentError_Great : PySem.W.exmOne K (.ref (He.ga K "MomentError")) (.ref (He.ga K "Great")) = some false
  e_MomentError_MomentError : PySem.W.exmOne K (.ref (He.ga K "MomentError")) (.ref (He.ga K "MomentError")) = some true
  e_MomentError_Nought : PySem.W.exmOne K (.ref (He.ga K "MomentError")) (.ref (He.ga K "Nought")) = some false
  e_Nought_Fault : PySem.W.exmOne K (.ref (He.ga K "Nought")) (.ref (He.ga K "Fault")) = some true
  e_Nought_Great : PySem.W.exmOne K (.ref (He.ga K "Nought")) (.ref (He.ga K "Great")) = some false
  e_Nought_MomentError : PySem.W.exmOne K (.ref (He.ga K "Nought")) (.ref (He.ga K "MomentError")) = some true
  e_Nought_Nought : PySem.W.exmOne K (.ref (He.ga K "Nought")) (.ref (He.ga K "Nought")) = some true
  b_abs : mg "abs" = none
  b_bool : mg "bool" = none
  b_int : mg "int" = none
  b_isinstance : mg "isinstance" = none
  b_len : mg "len" = none
  b_list : mg "list" = none
  b_max : mg "max" = none
  b_range : mg "range" = none
  b_str : mg "str" = none
  w_MOST : ∃ t, mg "MOST" = some (.int 1000000000000000 t)
  f_Fault_word : Fun K "word" "Fault.word" s_Fault_word (He.fAd K ("Fault", some "word")) (fdA K (He.fAd K ("Fault", some "word")))
  f_Nought_word : Fun K "word" "Nought.word" s_Nought_word (He.fAd K ("Nought", some "word")) (fdA K (He.fAd K ("Nought", some "word")))
  f_Great_word : Fun K "word" "Great.word" s_Great_word (He.fAd K ("Great", some "word")) (fdA K (He.fAd K ("Great", some "word")))
  f_kept_in : Fun K "kept_in" "kept_in" s_kept_in (He.fAd K ("kept_in", none)) (fdA K (He.fAd K ("kept_in", none)))
  g_kept_in : GF K mg "kept_in" ["number"]
  f_of_two : Fun K "of_two" "of_two" s_of_two (He.fAd K ("of_two", none)) (fdA K (He.fAd K ("of_two", none)))
  g_of_two : GF K mg "of_two" ["word", "one", "other"]
  f_worth_of : Fun K "worth_of" "worth_of" s_worth_of (He.fAd K ("worth_of", none)) (fdA K (He.fAd K ("worth_of", none)))
  g_worth_of : GF K mg "worth_of" ["formula", "state", "now", "got"]
  f_copied : Fun K "copied" "copied" s_copied (He.fAd K ("copied", none)) (fdA K (He.fAd K ("copied", none)))
  g_copied : GF K mg "copied" ["deeds"]
  f_copied_machine : Fun K "copied_machine" "copied_machine" s_copied_machine (He.fAd K ("copied_machine", none)) (fdA K (He.fAd K ("copied_machine", none)))
  g_copied_machine : GF K mg "copied_machine" ["machine"]
  f_Model_init : Fun K "__init__" "Model.__init__" s_Model_init (He.fAd K ("Model", some "__init__")) (fdA K (He.fAd K ("Model", some "__init__")))
  f_State_init : Fun K "__init__" "State.__init__" s_State_init (He.fAd K ("State", some "__init__")) (fdA K (He.fAd K ("State", some "__init__")))
  f_first_state : Fun K "first_state" "first_state" s_first_state (He.fAd K ("first_state", none)) (fdA K (He.fAd K ("first_state", none)))
  g_first_state : GF K mg "first_state" ["model", "at"]
  f__law_whole : Fun K "_law_whole" "_law_whole" s__law_whole (He.fAd K ("_law_whole", none)) (fdA K (He.fAd K ("_law_whole", none)))
  g__law_whole : GF K mg "_law_whole" ["_law_found"]
  f__law_mixed : Fun K "_law_mixed" "_law_mixed" s__law_mixed (He.fAd K ("_law_mixed", none)) (fdA K (He.fAd K ("_law_mixed", none)))
  g__law_mixed : GF K mg "_law_mixed" ["_law_cell", "_law_k"]
  f__law_purse : Fun K "_law_purse" "_law_purse" s__law_purse (He.fAd K ("_law_purse", none)) (fdA K (He.fAd K ("_law_purse", none)))
  g__law_purse : GF K mg "_law_purse" ["_law_script"]
  f__law_draw : Fun K "_law_draw" "_law_draw" s__law_draw (He.fAd K ("_law_draw", none)) (fdA K (He.fAd K ("_law_draw", none)))
  g__law_draw : GF K mg "_law_draw" ["_law_purse_here", "_law_out_of"]
  f__law_names : Fun K "_law_names" "_law_names" s__law_names (He.fAd K ("_law_names", none)) (fdA K (He.fAd K ("_law_names", none)))
  g__law_names : GF K mg "_law_names" ["_law_purse_here", "_law_many"]
  f__law_worth : Fun K "_law_worth" "_law_worth" s__law_worth (He.fAd K ("_law_worth", none)) (fdA K (He.fAd K ("_law_worth", none)))
  g__law_worth : GF K mg "_law_worth" ["_law_purse_here"]
  f__law_two : Fun K "_law_two" "_law_two" s__law_two (He.fAd K ("_law_two", none)) (fdA K (He.fAd K ("_law_two", none)))
  g__law_two : GF K mg "_law_two" ["_law_word", "_law_one", "_law_other"]
  f__law_reckoned : Fun K "_law_reckoned" "_law_reckoned" s__law_reckoned (He.fAd K ("_law_reckoned", none)) (fdA K (He.fAd K ("_law_reckoned", none)))
  g__law_reckoned : GF K mg "_law_reckoned" ["_law_formula", "_law_boxes", "_law_queues", "_law_now", "_law_got"]
  f__law_told : Fun K "_law_told" "_law_told" s__law_told (He.fAd K ("_law_told", none)) (fdA K (He.fAd K ("_law_told", none)))
  g__law_told : GF K mg "_law_told" ["_law_formula", "_law_state"]
  f_law : Fun K "law" "law" s_law (He.fAd K ("law", none)) (fdA K (He.fAd K ("law", none)))
  g_law : GF K mg "law" ["_law_script"]
  m_Fault_word : Meth K (He.ga K "Fault") "word" (He.fAd K ("Fault", some "word")) ∧ Fun K "word" "Fault.word" s_Fault_word (He.fAd K ("Fault", some "word")) (fdA K (He.fAd K ("Fault", some "word")))
  m_Nought_word : Meth K (He.ga K "Nought") "word" (He.fAd K ("Nought", some "word")) ∧ Fun K "word" "Nought.word" s_Nought_word (He.fAd K ("Nought", some "word")) (fdA K (He.fAd K ("Nought", some "word")))
  m_Great_word : Meth K (He.ga K "Great") "word" (He.fAd K ("Great", some "word")) ∧ Fun K "word" "Great.word" s_Great_word (He.fAd K ("Great", some "word")) (fdA K (He.fAd K ("Great", some "word")))
section
variable {X : Cx}
theorem Tx.v_MOST (T : Tx X.K X.mg) {pos : Pos} (hg : Gl X "MOST" := by rfl) : PE X (.Name "MOST" pos) (tC (.int 1000000000000000)) := let ⟨_, h⟩ := T.w_MOST; pe_glob hg h ⟨_, rfl⟩
theorem mk_Fault {K : PySem.W.Frag} {mg : Str → Option Value} (T : Tx K mg) (hK : X.K = K) (hm : X.mg = mg) {m : Str} {j : Nat} {p p2 pos : Pos} (hg : Gl X "Fault" := by rfl) (he : starEach ((.Constant (.str m) j p2 : Expr) :: []) X.env = (false, eval (.Constant (.str m) j p2) X.env) :: starEach [] X.env := by rfl) : PMk X (.Call (.Name "Fault" p) [.Constant (.str m) j p2] [] pos) (fun _ H Q => Q (.ref (He.ga K "Fault")) none H) := by
  subst hK hm
  exact pmk_own PySem.F.excBase_ValueError T.x_Fault.ex T.x_Fault.gl T.x_Fault.kp (raises_own T.x_Fault.sb T.x_Fault.ty) hg
theorem mk_Great {K : PySem.W.Frag} {mg : Str → Option Value} (T : Tx K mg) (hK : X.K = K) (hm : X.mg = mg) {m : Str} {j : Nat} {p p2 pos : Pos} (hg : Gl X "Great" := by rfl) (he : starEach ((.Constant (.str m) j p2 : Expr) :: []) X.env = (false, eval (.Constant (.str m) j p2) X.env) :: starEach [] X.env := by rfl) : PMk X (.Call (.Name "Great" p) [.Constant (.str m) j p2] [] pos) (fun _ H Q => Q (.ref (He.ga K "Great")) none H) := by
  subst hK hm
  exact pmk_own PySem.F.excBase_ValueError T.x_Great.ex T.x_Great.gl T.x_Great.kp (raises_own T.x_Great.sb T.x_Great.ty) hg
theorem mk_MomentError {K : PySem.W.Frag} {mg : Str → Option Value} (T : Tx K mg) (hK : X.K = K) (hm : X.mg = mg) {m : Str} {j : Nat} {p p2 pos : Pos} (hg : Gl X "MomentError" := by rfl) (he : starEach ((.Constant (.str m) j p2 : Expr) :: []) X.env = (false, eval (.Constant (.str m) j p2) X.env) :: starEach [] X.env := by rfl) : PMk X (.Call (.Name "MomentError" p) [.Constant (.str m) j p2] [] pos) (fun _ H Q => Q (.ref (He.ga K "MomentError")) none H) := by
  subst hK hm
  exact pmk_own PySem.F.excBase_ValueError T.x_MomentError.ex T.x_MomentError.gl T.x_MomentError.kp (raises_own T.x_MomentError.sb T.x_MomentError.ty) hg
theorem mk_Nought {K : PySem.W.Frag} {mg : Str → Option Value} (T : Tx K mg) (hK : X.K = K) (hm : X.mg = mg) {m : Str} {j : Nat} {p p2 pos : Pos} (hg : Gl X "Nought" := by rfl) (he : starEach ((.Constant (.str m) j p2 : Expr) :: []) X.env = (false, eval (.Constant (.str m) j p2) X.env) :: starEach [] X.env := by rfl) : PMk X (.Call (.Name "Nought" p) [.Constant (.str m) j p2] [] pos) (fun _ H Q => Q (.ref (He.ga K "Nought")) none H) := by
  subst hK hm
  exact pmk_own PySem.F.excBase_ValueError T.x_Nought.ex T.x_Nought.gl T.x_Nought.kp (raises_own T.x_Nought.sb T.x_Nought.ty) hg
end
end Mo
namespace Mo
open PySem PySem.Spec PyProof.Rows L2
/-! ### steps through a reading -/
section
variable {K : PySem.W.Frag} {σ σ' : St} {H : Hp} {Q : VK} {ta tb te tc : TE} {t u c : TT} {tA tB1 : TA} {D : Ends} {s1 s2 : TS} {v x y : V} {i : Nat} {r : R2} {g : TG}
theorem go_start {f : TS} (h : σ = σ') (k : f D σ' H) : f D σ H := by
  rw [h]
  exact k
theorem go_var (h : σ[i]? = some (some v)) (k : Q v H) : tVar i σ H Q := ⟨v, h, k⟩
theorem go_c (k : Q v H) : tC v σ H Q := k
theorem go_op (k : ta σ H fun x H1 => tb σ H1 fun y H2 => r x y H2 Q) : tOp r ta tb σ H Q := k
theorem go_un {r : V → Hp → VK → Prop} (k : ta σ H fun x H1 => r x H1 Q) : tUn r ta σ H Q := k
theorem go_cb {r : List V → Hp → VK → Prop} (k : tA σ H fun vs H1 => r vs H1 Q) : tCB r tA σ H Q := k
theorem go_nil {Q : List V → Hp → Prop} (k : Q [] H) : tNil σ H Q := k
theorem go_cons {Q : List V → Hp → Prop} (k : ta σ H fun x H1 => tA σ H1 fun xs H2 => Q (x :: xs) H2) : tCons ta tA σ H Q := k
theorem go_tup (k : tA σ H fun xs H1 => xs.length ≤ sizeLine ∧ ∀ p, H1 p = none → Q (.ref p) (upd H1 p (.tup xs))) : tTup tA σ H Q := k
theorem go_lst (k : tA σ H fun xs H1 => xs.length ≤ sizeLine ∧ ∀ p, H1 p = none → Q (.ref p) (upd H1 p (.lst xs))) : tLst tA σ H Q := k
theorem go_test {Q : Bool → Hp → Prop} (k : te σ H fun x H1 => ∃ b, x = .bl b ∧ Q b H1) : tTest te σ H Q := k
theorem go_tb {Q : Bool → Hp → Prop} (k : te σ H fun x H1 => ∃ b, x = .bl b ∧ Q b H1) : tB te σ H Q := k
theorem go_bl {b : Bool} {Q : Bool → Prop} (k : Q b) : ∃ d, V.bl b = V.bl d ∧ Q d := ⟨b, rfl, k⟩
theorem go_and {Q : Bool → Hp → Prop} (k : t σ H fun d H1 => if d = true then u σ H1 Q else Q false H1) : tAnd t u σ H Q := k
theorem go_or {Q : Bool → Hp → Prop} (k : t σ H fun d H1 => if d = true then Q true H1 else u σ H1 Q) : tOr t u σ H Q := k
theorem go_not {Q : Bool → Hp → Prop} (k : t σ H fun d H1 => Q (!d) H1) : tNot t σ H Q := k
theorem go_andV (k : ta σ H fun x H1 => ∃ d, x = .bl d ∧ if d = true then tb σ H1 Q else Q (.bl false) H1) : tAndV ta tb σ H Q := k
theorem go_orV (k : ta σ H fun x H1 => ∃ d, x = .bl d ∧ if d = true then Q (.bl true) H1 else tb σ H1 Q) : tOrV ta tb σ H Q := k
theorem go_notV (k : ta σ H fun x H1 => ∃ d, x = .bl d ∧ Q (.bl (!d)) H1) : tNotV ta σ H Q := k
theorem go_ifE (k : c σ H fun d H1 => if d = true then ta σ H1 Q else tb σ H1 Q) : tIf c ta tb σ H Q := k
theorem go_seq (k : s1 { D with nx := s2 D } σ H) : tSeq s1 s2 D σ H := k
theorem go_next (k : D.nx σ H) : tNext D σ H := k
theorem go_brk (k : D.bk σ H) : tBreak D σ H := k
theorem go_cont (k : D.ct σ H) : tCont D σ H := k
theorem go_ifS (k : c σ H fun d H1 => if d = true then s1 D σ H1 else s2 D σ H1) : tIfS c s1 s2 D σ H := k
theorem go_asg (k : te σ H fun x H1 => g x σ H1 D.nx) : tAsg te g D σ H := k
theorem go_gn {Q : St → Hp → Prop} (k : Q (σ.set i (some v)) H) : gName i v σ H Q := k
theorem go_gsub {st : TSet} {Q : St → Hp → Prop} (k : ta σ H fun o H1 => tb σ H1 fun j H2 => st o j v H2 fun H3 => Q σ H3) : gSub ta tb st v σ H Q := k
theorem go_gcons {tg : TG} {tgs : TGs} {vs : List V} {Q : St → Hp → Prop} (k : tg v σ H fun σ1 H1 => tgs vs σ1 H1 Q) : gCons tg tgs (v :: vs) σ H Q := ⟨v, vs, rfl, k⟩
theorem go_gnil {Q : St → Hp → Prop} (k : Q σ H) : gNil [] σ H Q := ⟨rfl, k⟩
theorem go_gtup {n : Nat} {tgs : TGs} {a : Addr} {xs : List V} {Q : St → Hp → Prop} (h : SqT K H a xs) (hn : xs.length = n) (k : tgs xs σ H Q) : gTup K n tgs (.ref a) σ H Q := ⟨a, xs, rfl, h, hn, k⟩
theorem go_ret (k : te σ H D.rt) : tRet te D σ H := k
theorem go_drop (k : te σ H fun _ H1 => D.nx σ H1) : tDrop te D σ H := k
theorem go_fld {f : Str} (k : ta σ H fun x H1 => ∃ a C dx fs v, x = .ref a ∧ H1 a = some (.ins C dx fs) ∧ Cls K C ∧ NoAttr K C f ∧ fs.lookup f = some v ∧ Q v H1) : tFld K ta f σ H Q := k
theorem go_fldL {a C dx : Addr} {fs : List (Str × V)} {f : Str} {v : V} {Q : V → Prop} (h : H a = some (.ins C dx fs)) (hc : Cls K C) (hn : NoAttr K C f) (hl : fs.lookup f = some v) (k : Q v) :
    ∃ b C' dx' fs' v', V.ref a = .ref b ∧ H b = some (.ins C' dx' fs') ∧ Cls K C' ∧ NoAttr K C' f ∧ fs'.lookup f = some v' ∧ Q v' := ⟨a, C, dx, fs, v, rfl, h, hc, hn, hl, k⟩
theorem go_sfld {f : Str} (k : tb σ H fun y H1 => ta σ H1 fun x H2 => ∃ a C dx fs, x = .ref a ∧ H2 a = some (.ins C dx fs) ∧ Cls K C ∧ NoAttr K C f ∧ fs.length < 1000 ∧ D.nx σ (upd H2 a (.ins C dx (putF f y fs)))) : sFld K ta tb f D σ H := k
theorem go_sfldL {a C dx : Addr} {fs : List (Str × V)} {f : Str} {y : V} {Q : Hp → Prop} (h : H a = some (.ins C dx fs)) (hc : Cls K C) (hn : NoAttr K C f) (hl : Nat.blt fs.length 1000 = true) (k : Q (upd H a (.ins C dx (putF f y fs)))) :
    ∃ b C' dx' fs', V.ref a = .ref b ∧ H b = some (.ins C' dx' fs') ∧ Cls K C' ∧ NoAttr K C' f ∧ fs'.length < 1000 ∧ Q (upd H b (.ins C' dx' (putF f y fs'))) := ⟨a, C, dx, fs, rfl, h, hc, hn, Nat.blt_eq.mp hl, k⟩
theorem go_call {sp : Sp} {E : St → XK} (k : tA σ H fun vs H1 => sp vs H1 Q (E σ)) : tCallS sp E tA σ H Q := k
theorem go_meth {C : Addr} {m : Str} {sp : Sp} {E : St → XK} (k : ta σ H fun x H1 => ∃ a dx fs, x = .ref a ∧ H1 a = some (.ins C dx fs) ∧ fs.lookup m = none ∧ tA σ H1 fun vs H2 => sp (x :: vs) H2 Q (E σ)) : tMethS C m sp E ta tA σ H Q := k
theorem go_methL {a C dx : Addr} {fs : List (Str × V)} {m : Str} {Q : V → Hp → Prop} (h : H a = some (.ins C dx fs)) (hl : fs.lookup m = none) (k : Q (.ref a) H) :
    ∃ b dx' fs', V.ref a = .ref b ∧ H b = some (.ins C dx' fs') ∧ fs'.lookup m = none ∧ Q (.ref a) H := ⟨a, dx, fs, rfl, h, hl, k⟩
theorem go_make {C : Addr} {sp : Sp} {E : St → XK} (k : tA σ H fun vs H1 => ∀ x dx, H1 x = none → H1 dx = none → dx ≠ x → sp (.ref x :: vs) (upd (upd H1 dx (.own x)) x (.ins C dx [])) (fun v H2 => v = .non ∧ Q (.ref x) H2) (E σ)) : tMakeS C sp E tA σ H Q := k
theorem go_bm0 {T : String} {r : V → List V → Hp → VK → Prop} (k : ta σ H fun x H1 => tyV K T x H1 ∧ r x [] H1 Q) : tBM0 K T r ta σ H Q := k
theorem go_bm {T : String} {r : V → List V → Hp → VK → Prop} (k : ta σ H fun x H1 => tyV K T x H1 ∧ tA σ H1 fun xs H2 => r x xs H2 Q) : tBM K T r ta tA σ H Q := k
theorem go_sl {r : V → Option Int → Option Int → Hp → VK → Prop} {tl th : TO} (k : te σ H fun x H1 => tl σ H1 fun l H2 => th σ H2 fun u H3 => r x l u H3 Q) : tSl r te tl th σ H Q := k
theorem go_nopart {Q : Option Int → Hp → Prop} (k : Q none H) : tNoPart σ H Q := k
theorem go_part {Q : Option Int → Hp → Prop} (k : te σ H fun x H1 => ∃ i, x = .int i ∧ Q (some i) H1) : tPart te σ H Q := k
theorem go_int {j : Int} {Q : Int → Prop} (k : Q j) : ∃ i, V.int j = .int i ∧ Q i := ⟨j, rfl, k⟩
theorem go_aug {ti : TIp} (h : σ[i]? = some (some x)) (k : te σ H fun y H1 => ti x y H1 fun z H2 => D.nx (σ.set i (some z)) H2) : tAug i te ti D σ H := ⟨x, h, k⟩
theorem go_ipI {f : Int → Int → Int} {a b : Int} (k : Q (.int (f a b)) H) : ipI f (.int a) (.int b) H Q := ⟨a, b, rfl, rfl, k⟩
/-! #### operations on values -/
theorem go_I0 {f : Int → Int → V} {a b : Int} (k : Q (f a b) H) : rI0 f (.int a) (.int b) H Q := ⟨a, b, rfl, rfl, k⟩
theorem go_I {C : Int → Int → Prop} {f : Int → Int → V} {a b : Int} (hc : C a b) (k : Q (f a b) H) : rI C f (.int a) (.int b) H Q := ⟨a, b, rfl, rfl, hc, k⟩
theorem go_rU {f : Int → V} {a : Int} (k : Q (f a) H) : rU f (.int a) H Q := ⟨a, rfl, k⟩
theorem dec_i {a b : Int} : decide (V.int a = V.int b) = decide (a = b) := by simp
theorem dec_s {a b : Str} : decide (V.str a = V.str b) = decide (a = b) := by simp
theorem dec_b {a b : Bool} : decide (V.bl a = V.bl b) = decide (a = b) := by simp
theorem go_eqi {a b : Int} (k : Q (.bl (decide (a = b))) H) : rEqA K (.int a) (.int b) H Q := .inl ⟨rfl, by rw [dec_i]; exact k⟩
theorem go_nei {a b : Int} (k : Q (.bl (!decide (a = b))) H) : rNeA K (.int a) (.int b) H Q := .inl ⟨rfl, by rw [dec_i]; exact k⟩
theorem go_eqb {a b : Bool} (k : Q (.bl (decide (a = b))) H) : rEqA K (.bl a) (.bl b) H Q := .inl ⟨rfl, by rw [dec_b]; exact k⟩
theorem go_neb {a b : Bool} (k : Q (.bl (!decide (a = b))) H) : rNeA K (.bl a) (.bl b) H Q := .inl ⟨rfl, by rw [dec_b]; exact k⟩
theorem go_eqsT {a b : Str} (h : a = b) (k : Q (.bl true) H) : rEqA K (.str a) (.str b) H Q := .inl ⟨rfl, by rw [dec_s, decide_eq_true h]; exact k⟩
theorem go_eqsF {a b : Str} (h : ¬ a = b) (k : Q (.bl false) H) : rEqA K (.str a) (.str b) H Q := .inl ⟨rfl, by rw [dec_s, decide_eq_false h]; exact k⟩
theorem go_eqs {a b : Str} (k : Q (.bl (decide (a = b))) H) : rEqA K (.str a) (.str b) H Q := .inl ⟨rfl, by rw [dec_s]; exact k⟩
theorem go_nes {a b : Str} (k : Q (.bl (!decide (a = b))) H) : rNeA K (.str a) (.str b) H Q := .inl ⟨rfl, by rw [dec_s]; exact k⟩
theorem go_eqD {a b : V} {d e : PyData} (ha : Dp K H a d) (hb : Dp K H b e) (sa : SeqAt.shaped d = true) (sb : SeqAt.shaped e = true) (k : Q (.bl (PyData.eqv d e)) H) : rEqA K a b H Q := .inr ⟨d, e, ha, hb, sa, sb, k⟩
theorem go_neD {a b : V} {d e : PyData} (ha : Dp K H a d) (hb : Dp K H b e) (sa : SeqAt.shaped d = true) (sb : SeqAt.shaped e = true) (k : Q (.bl (!PyData.eqv d e)) H) : rNeA K a b H Q := .inr ⟨d, e, ha, hb, sa, sb, k⟩
theorem go_isN (k : Q (.bl (decide (x = .non))) H) : rIsN1 x .non H Q := ⟨rfl, k⟩
theorem go_notN (k : Q (.bl (!decide (x = .non))) H) : rNotN1 x .non H Q := ⟨rfl, k⟩
theorem go_isN_t (k : Q (.bl true) H) : rIsN1 .non .non H Q := ⟨rfl, k⟩
theorem go_notN_t (k : Q (.bl false) H) : rNotN1 .non .non H Q := ⟨rfl, k⟩
theorem go_isN_r {a : Addr} (k : Q (.bl false) H) : rIsN1 (.ref a) .non H Q := ⟨rfl, k⟩
theorem go_notN_r {a : Addr} (k : Q (.bl true) H) : rNotN1 (.ref a) .non H Q := ⟨rfl, k⟩
theorem go_isN_i {a : Int} (k : Q (.bl false) H) : rIsN1 (.int a) .non H Q := ⟨rfl, k⟩
theorem go_notN_i {a : Int} (k : Q (.bl true) H) : rNotN1 (.int a) .non H Q := ⟨rfl, k⟩
theorem go_addI {a b : Int} (k : Q (.int (a + b)) H) : rAddA K (.int a) (.int b) H Q := .inl ⟨a, b, rfl, rfl, k⟩
theorem go_addS {a b : Str} (h : a.length + b.length ≤ sizeLine) (k : Q (.str (a ++ b)) H) : rAddA K (.str a) (.str b) H Q := .inr (.inr (.inl ⟨a, b, rfl, rfl, h, k⟩))
theorem go_addL {a b : Addr} {xs ys : List V} (ha : H a = some (.lst xs)) (hb : H b = some (.lst ys)) (hl : xs.length + ys.length ≤ sizeLine) (k : ∀ p, H p = none → Q (.ref p) (upd H p (.lst (xs ++ ys)))) : rAddA K (.ref a) (.ref b) H Q :=
  .inr (.inl ⟨a, b, xs, ys, rfl, rfl, ha, hb, hl, k⟩)
theorem go_ltI {a b : Int} (k : Q (.bl (decide (a < b))) H) : rLtA K (.int a) (.int b) H Q := .inl ⟨a, b, rfl, rfl, k⟩
theorem go_ltT {a b : Addr} {ns ms : List Int} (ha : SqT K H a (ns.map V.int)) (hb : SqT K H b (ms.map V.int)) (k : Q (.bl (HT.lexLt ns ms)) H) : rLtA K (.ref a) (.ref b) H Q := .inr ⟨a, b, ns, ms, rfl, rfl, ha, hb, k⟩
/-- truth of a value -/
theorem go_truB {b : Bool} {Q : Bool → Prop} (k : Q b) : ∃ d, TruV K (.bl b) H d ∧ Q d := ⟨b, rfl, k⟩
theorem go_truN {Q : Bool → Prop} (k : Q false) : ∃ d, TruV K .non H d ∧ Q d := ⟨false, rfl, k⟩
theorem go_isi {x c : V} {t u : Value} {b : Bool} (hc : ClsV c u) (ht : TyX K H x t) (hk : PySem.W.kitOne K t u = some b) (k : Q (.bl b) H) : rIsi K [x, c] H Q := ⟨x, c, t, u, b, rfl, hc, ht, hk, k⟩
theorem go_isi_ii {r1 : Int} (k : Q (.bl true) H) : rIsi K [.int r1, .ty "int"] H Q := go_isi (.ty _) (.base (.int _)) (kit_ty (by decide +kernel)) k
theorem go_isi_ib {r1 : Int} (k : Q (.bl false) H) : rIsi K [.int r1, .ty "bool"] H Q := go_isi (.ty _) (.base (.int _)) (kit_ty (by decide +kernel)) k
theorem go_isi_is {r1 : Int} (k : Q (.bl false) H) : rIsi K [.int r1, .ty "str"] H Q := go_isi (.ty _) (.base (.int _)) (kit_ty (by decide +kernel)) k
theorem go_isi_ss {z : Str} (k : Q (.bl true) H) : rIsi K [.str z, .ty "str"] H Q := go_isi (.ty _) (.base (.str _)) (kit_ty (by decide +kernel)) k
theorem go_isi_si {z : Str} (k : Q (.bl false) H) : rIsi K [.str z, .ty "int"] H Q := go_isi (.ty _) (.base (.str _)) (kit_ty (by decide +kernel)) k
theorem go_isi_bi {z : Bool} (k : Q (.bl true) H) : rIsi K [.bl z, .ty "int"] H Q := go_isi (.ty _) (.base (.bl _)) (kit_ty (by decide +kernel)) k
theorem go_isi_bb {z : Bool} (k : Q (.bl true) H) : rIsi K [.bl z, .ty "bool"] H Q := go_isi (.ty _) (.base (.bl _)) (kit_ty (by decide +kernel)) k
theorem go_isi_ni (k : Q (.bl false) H) : rIsi K [.non, .ty "int"] H Q := go_isi (.ty _) (.base .non) (kit_ty (by decide +kernel)) k
theorem go_pow15 (k : Q (.int 1000000000000000) H) : rI CPow (fun i j => .int (i ^ j.toNat)) (.int 10) (.int 15) H Q := ⟨10, 15, rfl, rfl, ⟨by decide, by decide, by decide⟩, k⟩
theorem go_pow12 (k : Q (.int 1000000000000) H) : rI CPow (fun i j => .int (i ^ j.toNat)) (.int 10) (.int 12) H Q := ⟨10, 12, rfl, rfl, ⟨by decide, by decide, by decide⟩, k⟩
theorem go_pow6 (k : Q (.int 1000000) H) : rI CPow (fun i j => .int (i ^ j.toNat)) (.int 10) (.int 6) H Q := ⟨10, 6, rfl, rfl, ⟨by decide, by decide, by decide⟩, k⟩
theorem go_abs {r1 : Int} {Q1 : Int → Prop} (k : Q1 r1) : ∃ i, [V.int r1] = [V.int i] ∧ Q1 i := ⟨r1, rfl, k⟩
theorem go_max {r1 r2 : Int} {Q1 : Int → Int → Prop} (k : Q1 r1 r2) : ∃ i j, [V.int r1, V.int r2] = [V.int i, V.int j] ∧ Q1 i j := ⟨r1, r2, rfl, k⟩
theorem go_listL {p : Addr} {xs : List V} (h : SqL K H p xs) (k : ∀ l, H l = none → Q (.ref l) (upd H l (.lst xs))) : rListOf K [.ref p] H Q := ⟨p, xs, rfl, .inl h, k⟩
theorem go_listT {p : Addr} {xs : List V} (h : SqT K H p xs) (k : ∀ l, H l = none → Q (.ref l) (upd H l (.lst xs))) : rListOf K [.ref p] H Q := ⟨p, xs, rfl, .inr h, k⟩
theorem go_intI {a : Int} {Q1 : Int → Prop} {Q2 : Bool → Prop} (k : Q1 a) : (∃ i, [V.int a] = [V.int i] ∧ Q1 i) ∨ (∃ d, [V.int a] = [V.bl d] ∧ Q2 d) := .inl ⟨a, rfl, k⟩
theorem go_intB {b : Bool} {Q1 : Int → Prop} {Q2 : Bool → Prop} (k : Q2 b) : (∃ i, [V.bl b] = [V.int i] ∧ Q1 i) ∨ (∃ d, [V.bl b] = [V.bl d] ∧ Q2 d) := .inr ⟨b, rfl, k⟩
theorem go_subL {p : Addr} {xs : List V} {j : Int} {v : V} (h : SqL K H p xs) (e : atI xs j = some v) (k : Q v H) : rSub K (.ref p) (.int j) H Q := .inl (.inl ⟨p, xs, j, v, rfl, rfl, h, e, k⟩)
theorem go_subT {p : Addr} {xs : List V} {j : Int} {v : V} (h : SqT K H p xs) (e : atI xs j = some v) (k : Q v H) : rSub K (.ref p) (.int j) H Q := .inl (.inr ⟨p, xs, j, v, rfl, rfl, h, e, k⟩)
theorem go_subS {z : Str} {j : Int} {c : Nat} (h : z.length ≤ sizeLine) (e : atI z.cps.toList j = some c) (k : Q (.str ⟨#[c]⟩) H) : rSub K (.str z) (.int j) H Q := .inr (.inl ⟨z, j, c, rfl, rfl, h, e, k⟩)
theorem go_subD {p : Addr} {v : V} (g : DGet H p y (some v)) (k : Q v H) : rSub K (.ref p) y H Q := .inr (.inr ⟨p, v, rfl, g, k⟩)
theorem go_subK {p : Addr} {kvs : List (Key × V)} {z : Str} {v : V} (h : H p = some (.dK kvs)) (e : valV kvs (Sum.inr z) = some v) (k : Q v H) : rSub K (.ref p) (.str z) H Q := go_subD (y := .str z) (by have q := DGet.k (k := Sum.inr z) h; rw [e] at q; exact q) k
/-- an item of a told tuple, of a told list -/
theorem go_subDT {ds : List PyData} {j : Int} {n : Nat} {d : PyData} (h : Dp K H x (.tuple ds)) (hj : j = (n : Int)) (e : ds[n]? = some d) (k : ∀ v, Dp K H v d → Q v H) : rSub K x (.int j) H Q := by
  obtain ⟨a, xs, rfl, h1, h2⟩ := dp_tup h
  obtain ⟨v, e1, e2⟩ := dpa_get h2 e
  subst hj
  exact go_subT h1 (atI_nat e1) (k v e2)
theorem go_subDL {ds : List PyData} {j : Int} {n : Nat} {d : PyData} (h : Dp K H x (.list ds)) (hj : j = (n : Int)) (e : ds[n]? = some d) (k : ∀ v, Dp K H v d → Q v H) : rSub K x (.int j) H Q := by
  obtain ⟨a, xs, rfl, h1, h2⟩ := dp_lst h
  obtain ⟨v, e1, e2⟩ := dpa_get h2 e
  subst hj
  exact go_subL h1 (atI_nat e1) (k v e2)
/-- the same, of data that stays (in G) -/
theorem go_gT {G : Hp} {ds : List PyData} {j : Int} {n : Nat} {d : PyData} (e : Ext G H) (h : Dp K G x (.tuple ds)) (hj : j = (n : Int)) (hd : ds[n]? = some d) (k : ∀ v, Dp K G v d → Q v H) : rSub K x (.int j) H Q := by
  obtain ⟨a, xs, rfl, h1, h2⟩ := dp_tup h
  obtain ⟨v, e1, e2⟩ := dpa_get h2 hd
  subst hj
  exact go_subT (ext_t e h1) (atI_nat e1) (k v e2)
theorem go_gL {G : Hp} {ds : List PyData} {j : Int} {n : Nat} {d : PyData} (e : Ext G H) (h : Dp K G x (.list ds)) (hj : j = (n : Int)) (hd : ds[n]? = some d) (k : ∀ v, Dp K G v d → Q v H) : rSub K x (.int j) H Q := by
  obtain ⟨a, xs, rfl, h1, h2⟩ := dp_lst h
  obtain ⟨v, e1, e2⟩ := dpa_get h2 hd
  subst hj
  exact go_subL (ext_l e h1) (atI_nat e1) (k v e2)
theorem go_setL {p : Addr} {xs : List V} {j : Int} {n : Nat} {Q : Hp → Prop} (h : H p = some (.lst xs)) (e : ixN xs.length j = some n) (k : Q (upd H p (.lst (xs.set n v)))) : rSet (.ref p) (.int j) v H Q := .inl ⟨p, xs, j, n, rfl, rfl, h, e, k⟩
theorem go_setD {p : Addr} {H' : Hp} {Q : Hp → Prop} (g : DPut H p y v H') (k : Q H') : rSet (.ref p) y v H Q := .inr ⟨p, H', rfl, g, k⟩
theorem go_setK {p : Addr} {kvs : List (Key × V)} {z : Str} {Q : Hp → Prop} (h : H p = some (.dK kvs)) (hl : kvs.length < sizeLine) (k : Q (upd H p (.dK (putK kvs (Sum.inr z) v)))) : rSet (.ref p) (.str z) v H Q := go_setD (y := .str z) (DPut.k (k := Sum.inr z) h hl) k
theorem go_lenL {p : Addr} {xs : List V} (h : SqL K H p xs) (k : Q (.int (xs.length : Int)) H) : rLenA K [.ref p] H Q := .inl (.inl ⟨p, xs, rfl, .inl h, k⟩)
theorem go_lenT {p : Addr} {xs : List V} (h : SqT K H p xs) (k : Q (.int (xs.length : Int)) H) : rLenA K [.ref p] H Q := .inl (.inl ⟨p, xs, rfl, .inr h, k⟩)
theorem go_lenS {z : Str} (h : z.length ≤ sizeLine) (k : Q (.int (z.length : Int)) H) : rLenA K [.str z] H Q := .inl (.inr ⟨z, rfl, h, k⟩)
theorem go_lenK {p : Addr} {kvs : List (Key × V)} (h : H p = some (.dK kvs)) (k : Q (.int (kvs.length : Int)) H) : rLenA K [.ref p] H Q := .inr (.inl ⟨p, kvs, rfl, h, k⟩)
theorem go_lenDT {p : Addr} {kvs : List (List Key × V)} (h : H p = some (.dT kvs)) (k : Q (.int (kvs.length : Int)) H) : rLenA K [.ref p] H Q := .inr (.inr ⟨p, kvs, rfl, h, k⟩)
theorem go_app {p : Addr} {xs : List V} (h : H p = some (.lst xs)) (hl : xs.length < sizeLine) (k : Q .non (upd H p (.lst (xs ++ [y])))) : rAppend (.ref p) [y] H Q := ⟨p, xs, y, rfl, rfl, h, hl, k⟩
theorem go_tyL {p : Addr} {xs : List V} {R : Prop} (h : SqL K H p xs) (k : R) : tyV K "list" (.ref p) H ∧ R := ⟨.inl ⟨rfl, xs, h⟩, k⟩
theorem go_dK (k : ∀ p, H p = none → Q (.ref p) (upd H p (.dK []))) : tDNew σ H Q := .inl k
theorem go_dT (k : ∀ p, H p = none → Q (.ref p) (upd H p (.dT []))) : tDNew σ H Q := .inr k
theorem go_size {n : Nat} {R : Prop} (h : n ≤ 100000) (k : R) : n ≤ sizeLine ∧ R := ⟨by rw [sizeLine_eq]; omega, k⟩
theorem go_sz {n : Nat} {R : Prop} (h : Nat.ble n 100000 = true) (k : R) : n ≤ sizeLine ∧ R := go_size (Nat.le_of_ble_eq_true h) k
theorem go_iteT {A B : Prop} (h : A) : if true = true then A else B := iteT h
theorem go_iteF {A B : Prop} (h : B) : if false = true then A else B := iteF h
theorem go_iteFn {A B : Prop} (h : A) : if (!false) = true then A else B := h
theorem go_iteTn {A B : Prop} (h : B) : if (!true) = true then A else B := h
theorem go_ite {p : Prop} [Decidable p] {A B : Prop} (h1 : p → A) (h2 : ¬ p → B) : if decide p = true then A else B := by
  by_cases h : p
  · rw [decide_eq_true h]
    exact iteT (h1 h)
  · rw [decide_eq_false h]
    exact iteF (h2 h)
theorem go_iteN {p : Prop} [Decidable p] {A B : Prop} (h1 : ¬ p → A) (h2 : p → B) : if (!decide p) = true then A else B := by
  by_cases h : p
  · rw [decide_eq_true h]
    exact iteF (h2 h)
  · rw [decide_eq_false h]
    exact iteT (h1 h)
end
theorem ixN_nat {n : Nat} {i : Int} {j : Nat} (h : i = (j : Int)) (hj : j < n) : ixN n i = some j := by
  unfold ixN
  subst h
  rw [if_pos (by omega), if_pos (by omega)]
  simp
end Mo
namespace Mo
open PySem PySem.Spec PyProof.Rows L2
/-! #### loops -/
section
variable {K : PySem.W.Frag} {σ : St} {H : Hp} {tl : TE} {tA : TA} {D : Ends} {g : TG} {tb : TS} {c : TT}
def LoopX (g : TG) (tb : TS) (D : Ends) (σ : St) (H : Hp) (J : It) : Prop := ∃ W : Nat → Nat → St → Hp → Prop, (∃ m, W 0 m σ H) ∧ ∀ i m σ H, W i m σ H →
  (J.stop i H ∧ D.nx σ H) ∨ (J.go i H ∧ ∃ N : St → Hp → Prop, (∀ σ' H', N σ' H' → ∃ m', m' < m ∧ W (i + 1) m' σ' H') ∧ ∀ x H', J.yld i H x H' → g x σ H' fun σ2 H2 => tb { D with nx := N, ct := N, bk := D.nx } σ2 H2)
theorem go_for {wi : TI} (k : wi σ H fun J H1 => LoopX g tb D σ H1 J) : tFor wi g tb D σ H := k
theorem go_iR1 {R : It → Hp → Prop} (k : tA σ H fun vs H1 => ∃ j : Int, vs = [.int j] ∧ -(2 ^ 62) ≤ j ∧ j < 2 ^ 62 ∧ R (Itr 0 j.toNat) H1) : iRng1 tA σ H R := k
theorem go_iSeq {R : It → Hp → Prop} (k : tl σ H fun x H1 => ∃ a, x = .ref a ∧ (((∃ xs, SqL K H1 a xs) ∧ R (Itl K a) H1) ∨ ((∃ xs, SqT K H1 a xs) ∧ R (Itt K a) H1))) : iSeq K tl σ H R := k
theorem go_r1 {j : Int} {R : It → Prop} (n : Nat) (hj : j = (n : Int)) (hn : (n : Int) < 2 ^ 62) (k : R (Itr 0 n)) : ∃ j' : Int, [V.int j] = [V.int j'] ∧ -(2 ^ 62) ≤ j' ∧ j' < 2 ^ 62 ∧ R (Itr 0 j'.toNat) := by
  subst hj
  exact ⟨(n : Int), rfl, by omega, hn, by rw [Int.toNat_natCast]; exact k⟩
theorem loop_r (n : Nat) (Pv : Nat → St → Hp → Prop) (h0 : Pv 0 σ H)
    (hs : ∀ (i : Nat) σ' H', i < n → Pv i σ' H' → g (.int (i : Int)) σ' H' fun σ2 H2 => tb { D with nx := Pv (i + 1), ct := Pv (i + 1), bk := D.nx } σ2 H2) (hd : ∀ σ' H', Pv n σ' H' → D.nx σ' H') : LoopX g tb D σ H (Itr 0 n) :=
  for_range (lo := 0) (n := n) Pv h0 (fun i σ' H' hi p => by
    have q := hs i σ' H' hi p
    rw [Int.zero_add]
    exact q) hd
theorem go_sqL {p : Addr} {xs : List V} {R : It → Prop} (h : SqL K H p xs) (k : R (Itl K p)) : ∃ a, V.ref p = .ref a ∧ (((∃ xs, SqL K H a xs) ∧ R (Itl K a)) ∨ ((∃ xs, SqT K H a xs) ∧ R (Itt K a))) := ⟨p, rfl, .inl ⟨⟨xs, h⟩, k⟩⟩
theorem go_sqT {p : Addr} {xs : List V} {R : It → Prop} (h : SqT K H p xs) (k : R (Itt K p)) : ∃ a, V.ref p = .ref a ∧ (((∃ xs, SqL K H a xs) ∧ R (Itl K a)) ∨ ((∃ xs, SqT K H a xs) ∧ R (Itt K a))) := ⟨p, rfl, .inr ⟨⟨xs, h⟩, k⟩⟩
theorem loop_l {p : Addr} {xs : List V} (Pv : Nat → St → Hp → Prop) (h0 : Pv 0 σ H) (hl : ∀ i σ' H', i ≤ xs.length → Pv i σ' H' → SqL K H' p xs)
    (hs : ∀ i x σ' H', xs[i]? = some x → Pv i σ' H' → g x σ' H' fun σ2 H2 => tb { D with nx := Pv (i + 1), ct := Pv (i + 1), bk := D.nx } σ2 H2) (hd : ∀ σ' H', Pv xs.length σ' H' → D.nx σ' H') : LoopX g tb D σ H (Itl K p) :=
  for_list (xs := xs) Pv h0 hl hs hd
theorem loop_t {p : Addr} {xs : List V} (Pv : Nat → St → Hp → Prop) (h0 : Pv 0 σ H) (hl : ∀ i σ' H', i ≤ xs.length → Pv i σ' H' → SqT K H' p xs)
    (hs : ∀ i x σ' H', xs[i]? = some x → Pv i σ' H' → g x σ' H' fun σ2 H2 => tb { D with nx := Pv (i + 1), ct := Pv (i + 1), bk := D.nx } σ2 H2) (hd : ∀ σ' H', Pv xs.length σ' H' → D.nx σ' H') : LoopX g tb D σ H (Itt K p) :=
  for_tup (xs := xs) Pv h0 hl hs hd
theorem go_while (W : Nat → St → Hp → Prop) (m0 : Nat) (h0 : W m0 σ H)
    (hs : ∀ m σ' H', W m σ' H' → c σ' H' fun b H1 => if b = true then ∃ N : St → Hp → Prop, (∀ σ2 H2, N σ2 H2 → ∃ m', m' < m ∧ W m' σ2 H2) ∧ tb { D with nx := N, ct := N, bk := D.nx } σ' H1 else D.nx σ' H1) : tWhile c tb D σ H := ⟨W, ⟨m0, h0⟩, hs⟩
/-! #### list comprehensions -/
def LcX (J : It) (g : TG) (tt : TT) (te : TE) (vs : List Nat) (σ : St) (Dl : Addr) (Q : VK) (H : Hp) : Prop := ∃ W : Nat → Nat → Hp → Prop, (∃ m, W 0 m (upd H Dl (.lst []))) ∧ ∀ i m H, W i m H →
  (J.stop i H ∧ Q (.ref Dl) H) ∨ (J.go i H ∧ ∃ Nx : Hp → Prop, (∀ H', Nx H' → ∃ m', m' < m ∧ W (i + 1) m' H') ∧ ∀ x H', J.yld i H x H' → g x (wipe σ vs) H' fun σ2 H2 => wipe σ2 vs = wipe σ vs ∧ tt σ2 H2 fun b H3 =>
    if b = true then te σ2 H3 fun y H4 => ∃ acc, H4 Dl = some (.lst acc) ∧ acc.length < sizeLine ∧ Nx (upd H4 Dl (.lst (acc ++ [y]))) else Nx H3)
def LcA (g : TG) (tt : TT) (te : TE) (vs : List Nat) (σ : St) (Q : VK) (H : Hp) (J : It) : Prop := ∀ Dl, H Dl = none → LcX J g tt te vs σ Dl Q H
theorem go_lcA {tt : TT} {te : TE} {vs : List Nat} {Q : VK} {J : It} (k : ∀ Dl, H Dl = none → LcX J g tt te vs σ Dl Q H) : LcA g tt te vs σ Q H J := k
theorem go_lc {wi : TI} {tt : TT} {te : TE} {vs : List Nat} {Q : VK} (k : wi σ H fun J H1 => LcA g tt te vs σ Q H1 J) : tLc wi g tt te vs σ H Q := k
theorem lcx_r (n : Nat) {tt : TT} {te : TE} {vs : List Nat} {Dl : Addr} {Q : VK} (Pv : Nat → Hp → Prop) (h0 : Pv 0 (upd H Dl (.lst [])))
    (hs : ∀ (i : Nat) H', i < n → Pv i H' → g (.int (i : Int)) (wipe σ vs) H' fun σ2 H2 => wipe σ2 vs = wipe σ vs ∧ tt σ2 H2 fun b H3 =>
      if b = true then te σ2 H3 fun y H4 => ∃ acc, H4 Dl = some (.lst acc) ∧ acc.length < sizeLine ∧ Pv (i + 1) (upd H4 Dl (.lst (acc ++ [y]))) else Pv (i + 1) H3) (hd : ∀ H', Pv n H' → Q (.ref Dl) H') : LcX (Itr 0 n) g tt te vs σ Dl Q H :=
  lc_range (lo := 0) (n := n) Pv h0 (fun i H' hi p => by
    have q := hs i H' hi p
    rw [Int.zero_add]
    exact q) hd
theorem lcx_l {p : Addr} {xs : List V} {tt : TT} {te : TE} {vs : List Nat} {Dl : Addr} {Q : VK} (Pv : Nat → Hp → Prop) (h0 : Pv 0 (upd H Dl (.lst []))) (hl : ∀ i H', i ≤ xs.length → Pv i H' → SqL K H' p xs)
    (hs : ∀ i x H', xs[i]? = some x → Pv i H' → g x (wipe σ vs) H' fun σ2 H2 => wipe σ2 vs = wipe σ vs ∧ tt σ2 H2 fun b H3 =>
      if b = true then te σ2 H3 fun y H4 => ∃ acc, H4 Dl = some (.lst acc) ∧ acc.length < sizeLine ∧ Pv (i + 1) (upd H4 Dl (.lst (acc ++ [y]))) else Pv (i + 1) H3) (hd : ∀ H', Pv xs.length H' → Q (.ref Dl) H') : LcX (Itl K p) g tt te vs σ Dl Q H :=
  lc_list (xs := xs) Pv h0 hl hs hd
theorem lcx_t {p : Addr} {xs : List V} {tt : TT} {te : TE} {vs : List Nat} {Dl : Addr} {Q : VK} (Pv : Nat → Hp → Prop) (h0 : Pv 0 (upd H Dl (.lst []))) (hl : ∀ i H', i ≤ xs.length → Pv i H' → SqT K H' p xs)
    (hs : ∀ i x H', xs[i]? = some x → Pv i H' → g x (wipe σ vs) H' fun σ2 H2 => wipe σ2 vs = wipe σ vs ∧ tt σ2 H2 fun b H3 =>
      if b = true then te σ2 H3 fun y H4 => ∃ acc, H4 Dl = some (.lst acc) ∧ acc.length < sizeLine ∧ Pv (i + 1) (upd H4 Dl (.lst (acc ++ [y]))) else Pv (i + 1) H3) (hd : ∀ H', Pv xs.length H' → Q (.ref Dl) H') : LcX (Itt K p) g tt te vs σ Dl Q H :=
  lc_tup (xs := xs) Pv h0 hl hs hd
theorem go_yes {Q : Bool → Hp → Prop} (k : Q true H) : tYes σ H Q := k
theorem go_acc {Dl : Addr} {acc : List V} {y : V} {Q : Hp → Prop} (h : H Dl = some (.lst acc)) (hl : acc.length < sizeLine) (k : Q (upd H Dl (.lst (acc ++ [y])))) : ∃ acc', H Dl = some (.lst acc') ∧ acc'.length < sizeLine ∧ Q (upd H Dl (.lst (acc' ++ [y]))) := ⟨acc, h, hl, k⟩
end
/-! #### how large a number is -/
def Bd (n : Nat) (x : Int) : Prop := x.natAbs < 2 ^ n
instance {n : Nat} {x : Int} : Decidable (Bd n x) := inferInstanceAs (Decidable (x.natAbs < 2 ^ n))
theorem Bd.mono {a b : Nat} {x : Int} (h : Bd a x) (e : a ≤ b) : Bd b x := Nat.lt_of_lt_of_le h (Nat.pow_le_pow_right (by decide) e)
theorem Bd.mul {a b : Nat} {x y : Int} (h : Bd a x) (k : Bd b y) : Bd (a + b) (x * y) := by
  unfold Bd at *
  rw [Int.natAbs_mul, Nat.pow_add]
  exact Nat.mul_lt_mul'' h k
theorem Bd.add {a : Nat} {x y : Int} (h : Bd a x) (k : Bd a y) : Bd (a + 1) (x + y) := by
  unfold Bd at *
  have e : (2 : Nat) ^ (a + 1) = 2 ^ a + 2 ^ a := by rw [Nat.pow_succ]; omega
  rw [e]
  have := Int.natAbs_add_le x y
  omega
theorem Bd.cmul {a b : Nat} {x y : Int} (h : Bd a x) (k : Bd b y) (h0 : 0 < a := by decide) (h1 : 0 < b := by decide) (e : a + b ≤ 134000000 := by decide) : CMulX x y := mulX_of a b h k h0 h1 e
theorem bd_bits {x : Int} (h : Builtin.Int.intBits x ≤ 1048576) : Bd 1048576 x := by
  unfold Builtin.Int.intBits at h
  show x.natAbs < 2 ^ 1048576
  generalize 1048576 = n at h
  by_cases e : x.natAbs = 0
  · rw [e]
    exact Nat.pow_pos (by decide)
  · refine (Nat.log2_lt e).mp ?_
    have z : (x == 0) = false := beq_eq_false_iff_ne.mpr (by omega)
    rw [z, if_neg Bool.false_ne_true] at h
    omega
theorem go_mod {H : Hp} {Q : VK} {f : Int → Int → V} {a b : Int} (hb : b ≠ 0) (k : Q (f a b) H) : rI CMod f (.int a) (.int b) H Q := go_I hb k
theorem go_div {H : Hp} {Q : VK} {f : Int → Int → V} {a b : Int} (n : Nat) (hb : b ≠ 0) (h : Bd n b) (k : Q (f a b) H) (h0 : 0 < n := by decide) (h9 : n ≤ 9000 := by decide) : rI CDivX f (.int a) (.int b) H Q := go_I ⟨hb, Nat.lt_of_lt_of_le (log2_bd h h0) h9⟩ k
theorem bd_range {n : Nat} {x m : Int} (h0 : 0 ≤ x) (h : x < m) (k : Bd n m) : Bd n x := Nat.lt_trans (by omega) k
end Mo
local macro_rules | `(tactic| walk_at "s") => `(tactic| with_reducible first
  | refine Mo.go_seq ?_
  | refine Mo.go_asg ?_
  | refine Mo.go_op ?_
  | refine Mo.go_c ?_
  | refine Mo.go_gn ?_
  | refine Mo.go_ifS ?_
  | refine Mo.go_test ?_
  | refine Mo.go_bl ?_
  | refine Mo.go_iteT ?_
  | refine Mo.go_iteF ?_
  | refine Mo.go_I0 ?_
  | refine Mo.go_cons ?_
  | refine Mo.go_nil ?_
  | refine Mo.go_call ?_
  | refine Mo.go_ret ?_
  | refine Mo.go_eqi ?_
  | refine Mo.go_addI ?_
  | refine Mo.go_ltI ?_
  | refine Mo.go_truB ?_
  | refine Mo.go_truN ?_
  | refine Mo.go_intB ?_
  | refine Mo.go_isN_t ?_
  | refine Mo.go_notN_t ?_
  | refine Mo.go_isN_r ?_
  | refine Mo.go_notN_r ?_
  | refine Mo.go_nei ?_
  | refine Mo.go_cb ?_
  | refine Mo.go_drop ?_
  | refine Mo.go_tup ?_
  | refine Mo.go_lst ?_
  | refine Mo.go_next ?_
  | refine Mo.go_fld ?_
  | refine Mo.go_sfld ?_
  | refine Mo.go_meth ?_
  | refine Mo.go_make ?_
  | refine Mo.go_bm ?_
  | refine Mo.go_bm0 ?_
  | refine Mo.go_gsub ?_
  | refine Mo.go_gcons ?_
  | refine Mo.go_gnil ?_
  | refine Mo.go_and ?_
  | refine Mo.go_or ?_
  | refine Mo.go_not ?_
  | refine Mo.go_andV ?_
  | refine Mo.go_orV ?_
  | refine Mo.go_notV ?_
  | refine Mo.go_un ?_
  | refine Mo.go_rU ?_
  | refine Mo.go_sl ?_
  | refine Mo.go_nopart ?_
  | refine Mo.go_part ?_
  | refine Mo.go_int ?_
  | refine Mo.go_ifE ?_
  | refine Mo.go_tb ?_
  | refine Mo.go_ipI ?_
  | refine Mo.go_iteFn ?_
  | refine Mo.go_iteTn ?_
  | refine Mo.go_eqb ?_
  | refine Mo.go_neb ?_
  | refine Mo.go_brk ?_
  | refine Mo.go_for ?_
  | refine Mo.go_iR1 ?_
  | refine Mo.go_iSeq ?_
  | refine Mo.go_lc ?_
  | refine Mo.go_yes ?_
  | refine Mo.go_cont ?_
  | refine Mo.go_isi_ii ?_
  | refine Mo.go_isi_ib ?_
  | refine Mo.go_isi_is ?_
  | refine Mo.go_isi_ss ?_
  | refine Mo.go_isi_si ?_
  | refine Mo.go_isi_bi ?_
  | refine Mo.go_isi_bb ?_
  | refine Mo.go_isi_ni ?_
  | refine Mo.go_pow15 ?_
  | refine Mo.go_pow12 ?_
  | refine Mo.go_pow6 ?_)
local macro_rules | `(tactic| walk_at "v") => `(tactic| ((with_reducible refine' Mo.go_var ?k1 ?_); (case k1 => exact rfl)))
local macro_rules | `(tactic| walk_at "e") => `(tactic| first
  | ((with_reducible refine Mo.go_eqsT ?k1 ?_); (case k1 => with_reducible exact rfl))
  | ((with_reducible refine Mo.go_eqsF ?k1 ?_); (case k1 => decide +kernel)))
local macro_rules | `(tactic| walk_at "w") => `(tactic| repeat (first | walk_at "v" | walk_at "s"))
local macro_rules | `(tactic| walk_at "we") => `(tactic| repeat (first | walk_at "v" | walk_at "s" | walk_at "e"))
namespace Mo
open PySem PySem.Spec PyProof.Rows L2
/-! ### formulas, faults, states: plain Lean -/
inductive Op where
  | plus | less | times | part | rest | below | same
  deriving DecidableEq
def Op.name : Op → Str
  | .plus => "plus" | .less => "less" | .times => "times" | .part => "part" | .rest => "rest" | .below => "below" | .same => "same"
inductive Fm where
  | num (n : Int) | box (x : Str) | long (q : Str) | got (j : Nat) | now | two (o : Op) (f g : Fm)
  deriving DecidableEq
def Fm.data : Fm → PyData
  | .num n => .tuple [.str "number", .int n]
  | .box x => .tuple [.str "box", .str x]
  | .long q => .tuple [.str "long", .str q]
  | .got j => .tuple [.str "got", .int (j : Int)]
  | .now => .tuple [.str "now"]
  | .two o f g => .tuple [.str o.name, f.data, g.data]
inductive Flt where
  | nought | great | full | dry | span | late
  deriving DecidableEq
def Flt.cls : Flt → Str
  | .nought => "Nought" | .great => "Great" | .full => "Full" | .dry => "Dry" | .span => "Span" | .late => "Late"
def Flt.word : Flt → Str
  | .nought => "nought" | .great => "great" | .full => "full" | .dry => "dry" | .span => "span" | .late => "late"
def Worth (n : Int) : Prop := -1000000000000000 ≤ n ∧ n ≤ 1000000000000000
theorem worth_bd {n : Int} (h : Worth n) : Bd 50 n := by
  obtain ⟨h1, h2⟩ := h
  show n.natAbs < 1125899906842624
  omega
def Op.raw (o : Op) (a b : Int) : Except Flt Int := match o with
  | .plus => .ok (a + b)
  | .less => .ok (a - b)
  | .times => .ok (a * b)
  | .below => .ok (if a < b then 1 else 0)
  | .same => .ok (if a = b then 1 else 0)
  | .part => if b = 0 then .error .nought else .ok (a.fdiv b)
  | .rest => if b = 0 then .error .nought else .ok (a.fmod b)
def keptIn (n : Int) : Except Flt Int := if n < -1000000000000000 ∨ 1000000000000000 < n then .error .great else .ok n
def Op.ev (o : Op) (a b : Int) : Except Flt Int := match o.raw a b with
  | .ok n => keptIn n
  | .error e => .error e
/-- what a formula is reckoned by -/
structure Env where
  boxes : Str → Int
  longs : Str → Nat
  now : Int
  got : Nat → Int
def Fm.ev (e : Env) : Fm → Except Flt Int
  | .num n => .ok n
  | .box x => .ok (e.boxes x)
  | .long q => .ok (e.longs q : Int)
  | .got j => .ok (e.got j)
  | .now => .ok e.now
  | .two o f g => match f.ev e with
    | .error x => .error x
    | .ok a => match g.ev e with
      | .error x => .error x
      | .ok b => o.ev a b
def Fm.depth : Fm → Nat
  | .two _ f g => max f.depth g.depth + 1
  | _ => 0
def Fm.size : Fm → Nat
  | .two _ f g => f.size + g.size + 1
  | _ => 1
theorem Fm.depth_lt_size : ∀ f : Fm, f.depth < f.size
  | .num _ => Nat.zero_lt_one
  | .box _ => Nat.zero_lt_one
  | .long _ => Nat.zero_lt_one
  | .got _ => Nat.zero_lt_one
  | .now => Nat.zero_lt_one
  | .two _ f g => by
    have h1 := depth_lt_size f
    have h2 := depth_lt_size g
    show max f.depth g.depth + 1 < f.size + g.size + 1
    omega
/-- a formula by names that are there, with worths -/
def Fm.Ok (bs qs : List Str) : Fm → Prop
  | .num n => Worth n
  | .box x => x ∈ bs
  | .long q => q ∈ qs
  | .got j => j < 2
  | .now => True
  | .two _ f g => f.Ok bs qs ∧ g.Ok bs qs
structure Env.Ok (e : Env) (bs qs : List Str) : Prop where
  boxes : ∀ x ∈ bs, Worth (e.boxes x)
  longs : ∀ q ∈ qs, e.longs q ≤ 100000
  now : Worth e.now
  got : ∀ j, j < 2 → Worth (e.got j)
theorem keptIn_ok {n m : Int} (h : keptIn n = .ok m) : Worth m := by
  unfold keptIn at h
  split at h
  · cases h
  · cases h
    unfold Worth
    omega
theorem Fm.ev_worth {e : Env} {bs qs : List Str} (he : e.Ok bs qs) : ∀ {f : Fm} {n : Int}, f.Ok bs qs → f.ev e = .ok n → Worth n
  | .num m, n, h, q => by cases q; exact h
  | .box x, n, h, q => by cases q; exact he.boxes x h
  | .long x, n, h, q => by
    cases q
    have := he.longs x h
    show -(1000000000000000 : Int) ≤ (e.longs x : Int) ∧ (e.longs x : Int) ≤ 1000000000000000
    omega
  | .got j, n, h, q => by cases q; exact he.got j h
  | .now, n, h, q => by cases q; exact he.now
  | .two o f g, n, h, q => by
    unfold Fm.ev at q
    cases h1 : f.ev e with
    | error x => rw [h1] at q; cases q
    | ok a =>
      rw [h1] at q
      cases h2 : g.ev e with
      | error x => rw [h2] at q; cases q
      | ok b =>
        rw [h2] at q
        have q' : o.ev a b = .ok n := q
        unfold Op.ev at q'
        cases h3 : o.raw a b with
        | error x => rw [h3] at q'; cases q'
        | ok c =>
          rw [h3] at q'
          exact keptIn_ok q'
/-- a machine's state -/
structure MSt where
  boxes : List (Str × Int)
  queues : List (Str × List Int)
  drawn : Int
  sent : Int
def boxesV (bs : List (Str × Int)) : List (Key × V) := bs.map fun p => (Sum.inr p.1, V.int p.2)
/-- the pairs of the dict of queues: the lists' addresses -/
def queuesV (qs : List (Str × List Int)) (as : List Addr) : List (Key × V) := (qs.zip as).map fun p => (Sum.inr p.1.1, V.ref p.2)
def lookD {α : Type} (d : α) (x : Str) : List (Str × α) → α
  | [] => d
  | p :: r => if p.1 = x then p.2 else lookD d x r
theorem val_boxes : ∀ {bs : List (Str × Int)} {x : Str}, x ∈ bs.map (·.1) → valV (boxesV bs) (Sum.inr x) = some (.int (lookD 0 x bs))
  | [], x, h => by simp at h
  | p :: r, x, h => by
    show valV ((Sum.inr p.1, V.int p.2) :: boxesV r) (Sum.inr x) = some (.int (if p.1 = x then p.2 else lookD 0 x r))
    by_cases e : p.1 = x
    · rw [if_pos e]
      exact valV_pos (by show (Sum.inr p.1 : Key) = Sum.inr x; rw [e])
    · rw [if_neg e, valV_neg (by show ¬ (Sum.inr p.1 : Key) = Sum.inr x; exact fun z => e (Sum.inr.inj z))]
      rw [List.map_cons] at h
      exact val_boxes ((List.mem_cons.mp h).resolve_left fun z => e z.symm)
theorem val_queues : ∀ {qs : List (Str × List Int)} {as : List Addr} {x : Str}, qs.length = as.length → x ∈ qs.map (·.1) → ∃ (i : Nat) (a : Addr), qs[i]? = some (x, lookD [] x qs) ∧ as[i]? = some a ∧ valV (queuesV qs as) (Sum.inr x) = some (.ref a)
  | [], _, x, _, h => by simp at h
  | p :: r, [], _, hl, _ => by simp at hl
  | p :: r, a :: as, x, hl, h => by
    have ev : queuesV (p :: r) (a :: as) = (Sum.inr p.1, V.ref a) :: queuesV r as := rfl
    by_cases e : p.1 = x
    · refine ⟨0, a, ?_, rfl, ?_⟩
      · show some p = some (x, if p.1 = x then p.2 else lookD [] x r)
        rw [if_pos e, ← e]
      · rw [ev]
        exact valV_pos (by show (Sum.inr p.1 : Key) = Sum.inr x; rw [e])
    · rw [List.map_cons] at h
      obtain ⟨i, b, h1, h2, h3⟩ := val_queues (qs := r) (as := as) (x := x) (by simpa using hl) ((List.mem_cons.mp h).resolve_left fun z => e z.symm)
      refine ⟨i + 1, b, ?_, h2, ?_⟩
      · show r[i]? = some (x, if p.1 = x then p.2 else lookD [] x r)
        rw [if_neg e]
        exact h1
      · rw [ev, valV_neg (by show ¬ (Sum.inr p.1 : Key) = Sum.inr x; exact fun z => e (Sum.inr.inj z))]
        exact h3
/-- objects that stand in a heap -/
abbrev Ck : Type := List (Addr × HO)
def InH (H : Hp) (C : Ck) : Prop := ∀ e ∈ C, H e.1 = some e.2
def vo (C : Ck) : Vo := C.map fun e => (e.1, Eq e.2)
theorem InH.ext {H H' : Hp} {C : Ck} (h : InH H C) (e : Ext H H') : InH H' C := fun x m => e _ _ (h x m)
theorem Hd.inH {G H : Hp} {L : Vo} {C : Ck} (h : Hd G H L) (s : ∀ e ∈ vo C, e ∈ L) : InH H C := fun e m => h.eq (s (e.1, Eq e.2) (List.mem_map_of_mem m))
/-- the envelope of a state, a time, two worths that came -/
def MSt.env (s : MSt) (now : Int) (g0 g1 : Int) : Env := ⟨fun x => lookD 0 x s.boxes, fun x => (lookD [] x s.queues).length, now, fun j => if j = 0 then g0 else g1⟩
def MSt.bs (s : MSt) : List Str := s.boxes.map (·.1)
def MSt.qs (s : MSt) : List Str := s.queues.map (·.1)
end Mo
namespace Mo
open PySem PySem.Spec PyProof.Rows L2
/-- a state's objects: itself, its two dicts, its queues -/
def StC (K : PySem.W.Frag) (p dx b q : Addr) (as : List Addr) (s : MSt) : Ck :=
  (p, .ins (He.ga K "State") dx (fl_State (.ref b) (.ref q) (.int s.drawn) (.int s.sent))) :: (b, .dK (boxesV s.boxes)) :: (q, .dK (queuesV s.queues as)) :: (s.queues.zip as).map fun e => (e.2, .lst (e.1.2.map V.int))
structure StAt (K : PySem.W.Frag) (H : Hp) (p : Addr) (s : MSt) : Prop where
  there : ∃ dx b q as, s.queues.length = as.length ∧ InH H (StC K p dx b q as s)
theorem StAt.ext {K : PySem.W.Frag} {H H' : Hp} {p : Addr} {s : MSt} (h : StAt K H p s) (e : Ext H H') : StAt K H' p s :=
  let ⟨dx, b, q, as, h1, h2⟩ := h.there
  ⟨dx, b, q, as, h1, h2.ext e⟩
end Mo
namespace Mo
open PySem PySem.Spec PyProof.Rows L2
/-! ### deeds, machines: plain Lean -/
inductive Dd where
  | put (b : Str) (f : Fm) | push (q : Str) (f : Fm) | pull (q b : Str) (ds : List Dd) | draw (b : Str) (f : Fm)
  | send (to : Int) (sign : Str) (span : Fm) (rank : Int) (g h : Fm) | iff (f : Fm) (ones others : List Dd) | fin
mutual
def Dd.data : Dd → PyData
  | .put b f => .tuple [.str "put", .str b, f.data]
  | .push q f => .tuple [.str "push", .str q, f.data]
  | .pull q b ds => .tuple [.str "pull", .str q, .str b, .list (Dd.datas ds)]
  | .draw b f => .tuple [.str "draw", .str b, f.data]
  | .send to sign span rank g h => .tuple [.str "send", .int to, .str sign, span.data, .int rank, g.data, h.data]
  | .iff f ones others => .tuple [.str "if", f.data, .list (Dd.datas ones), .list (Dd.datas others)]
  | .fin => .tuple [.str "end"]
def Dd.datas : List Dd → List PyData
  | [] => []
  | d :: ds => d.data :: Dd.datas ds
end
mutual
def Dd.depth : Dd → Nat
  | .pull _ _ ds => Dd.depths ds + 1
  | .iff _ ones others => max (Dd.depths ones) (Dd.depths others) + 1
  | _ => 0
def Dd.depths : List Dd → Nat
  | [] => 0
  | d :: ds => max (d.depth + 1) (Dd.depths ds)
end
mutual
/-- no list of more than a thousand deeds -/
def Dd.Sm : Dd → Prop
  | .pull _ _ ds => ds.length ≤ 1000 ∧ Dd.Sms ds
  | .iff _ a b => (a.length ≤ 1000 ∧ Dd.Sms a) ∧ (b.length ≤ 1000 ∧ Dd.Sms b)
  | _ => True
def Dd.Sms : List Dd → Prop
  | [] => True
  | d :: ds => d.Sm ∧ Dd.Sms ds
end
theorem sms_get : ∀ {ds : List Dd} {i : Nat} {d : Dd}, Dd.Sms ds → ds[i]? = some d → d.Sm
  | [], _, _, _, h => by simp at h
  | e :: ds, 0, d, k, h => by
    simp only [List.getElem?_cons_zero, Option.some.injEq] at h
    subst h
    rw [Dd.Sms] at k
    exact k.1
  | e :: ds, i + 1, d, k, h => by
    rw [List.getElem?_cons_succ] at h
    rw [Dd.Sms] at k
    exact sms_get k.2 h
theorem datas_map : ∀ ds : List Dd, Dd.datas ds = ds.map Dd.data
  | [] => by rw [Dd.datas, List.map_nil]
  | d :: ds => by rw [Dd.datas, datas_map ds, List.map_cons]
theorem datas_app (ds es : List Dd) : Dd.datas (ds ++ es) = Dd.datas ds ++ Dd.datas es := by rw [datas_map, datas_map, datas_map, List.map_append]
theorem datas_take {ds : List Dd} {i : Nat} {d : Dd} (h : ds[i]? = some d) : Dd.datas (ds.take (i + 1)) = Dd.datas (ds.take i) ++ [d.data] := by
  rw [datas_map, datas_map, List.take_add_one, h, List.map_append]
  rfl
theorem depths_get : ∀ {ds : List Dd} {i : Nat} {d : Dd}, ds[i]? = some d → d.depth < Dd.depths ds
  | [], _, _, h => by simp at h
  | e :: ds, 0, d, h => by
    simp only [List.getElem?_cons_zero, Option.some.injEq] at h
    subst h
    rw [Dd.depths]
    omega
  | e :: ds, i + 1, d, h => by
    rw [List.getElem?_cons_succ] at h
    have := depths_get h
    rw [Dd.depths]
    omega
structure Mach where
  name : Str
  boxes : List (Str × Int)
  queues : List Str
  draws : List Int
  hears : List (Str × List Dd)
def boxD (p : Str × Int) : PyData := .tuple [.str p.1, .int p.2]
def hearD (p : Str × List Dd) : PyData := .tuple [.str p.1, .list (Dd.datas p.2)]
def Mach.data (m : Mach) : PyData := .tuple [.str m.name, .list (m.boxes.map boxD), .list (m.queues.map PyData.str), .list (m.draws.map PyData.int), .list (m.hears.map hearD)]
def Mach.depth (m : Mach) : Nat := m.hears.foldr (fun p n => max (Dd.depths p.2) n) 0
theorem Mach.depth_get {hs : List (Str × List Dd)} {i : Nat} {p : Str × List Dd} (h : hs[i]? = some p) : Dd.depths p.2 ≤ hs.foldr (fun p n => max (Dd.depths p.2) n) 0 := by
  induction hs generalizing i with
  | nil => simp at h
  | cons q hs ih =>
    rw [List.foldr_cons]
    cases i with
    | zero =>
      simp only [List.getElem?_cons_zero, Option.some.injEq] at h
      subst h
      omega
    | succ i =>
      rw [List.getElem?_cons_succ] at h
      have := ih h
      omega
/-- the state in which a machine begins -/
def Mach.first (m : Mach) : MSt := ⟨m.boxes, m.queues.map fun q => (q, []), 0, 0⟩
/-! ### deeds that stand in a heap: their lists in H, what is of tuples alone in G -/
section
variable (K : PySem.W.Frag) (G H : Hp)
mutual
inductive DdIn : V → Dd → Prop
  | put {v : V} {b : Str} {f : Fm} (h : Dp K G v (Dd.data (.put b f))) : DdIn v (.put b f)
  | push {v : V} {q : Str} {f : Fm} (h : Dp K G v (Dd.data (.push q f))) : DdIn v (.push q f)
  | draw {v : V} {b : Str} {f : Fm} (h : Dp K G v (Dd.data (.draw b f))) : DdIn v (.draw b f)
  | send {v : V} {to : Int} {sign : Str} {span : Fm} {rank : Int} {g h : Fm} (q : Dp K G v (Dd.data (.send to sign span rank g h))) : DdIn v (.send to sign span rank g h)
  | fin {v : V} (h : Dp K G v (Dd.data .fin)) : DdIn v .fin
  | pull {a l : Addr} {q b : Str} {vs : List V} {ds : List Dd} (ht : SqT K H a [.str "pull", .str q, .str b, .ref l]) (hl : SqL K H l vs) (hs : DdsIn vs ds) : DdIn (.ref a) (.pull q b ds)
  | iff {a l m : Addr} {f : Fm} {v : V} {vs ws : List V} {ones others : List Dd} (ht : SqT K H a [.str "if", v, .ref l, .ref m]) (hf : Dp K G v f.data) (hl : SqL K H l vs) (hs : DdsIn vs ones) (hm : SqL K H m ws) (hr : DdsIn ws others) : DdIn (.ref a) (.iff f ones others)
inductive DdsIn : List V → List Dd → Prop
  | nil : DdsIn [] []
  | cons {v : V} {vs : List V} {d : Dd} {ds : List Dd} (h : DdIn v d) (r : DdsIn vs ds) : DdsIn (v :: vs) (d :: ds)
end
end
section
variable {K : PySem.W.Frag} {G G' H H' : Hp}
mutual
theorem ddIn_mono (e : Ext G G') (e' : Ext H H') : ∀ {v : V} {d : Dd}, DdIn K G H v d → DdIn K G' H' v d
  | _, _, .put h => .put (dp_mono e h)
  | _, _, .push h => .push (dp_mono e h)
  | _, _, .draw h => .draw (dp_mono e h)
  | _, _, .send h => .send (dp_mono e h)
  | _, _, .fin h => .fin (dp_mono e h)
  | _, _, .pull h1 h2 h3 => .pull (ext_t e' h1) (ext_l e' h2) (ddsIn_mono e e' h3)
  | _, _, .iff h1 h2 h3 h4 h5 h6 => .iff (ext_t e' h1) (dp_mono e h2) (ext_l e' h3) (ddsIn_mono e e' h4) (ext_l e' h5) (ddsIn_mono e e' h6)
theorem ddsIn_mono (e : Ext G G') (e' : Ext H H') : ∀ {vs : List V} {ds : List Dd}, DdsIn K G H vs ds → DdsIn K G' H' vs ds
  | _, _, .nil => .nil
  | _, _, .cons h r => .cons (ddIn_mono e e' h) (ddsIn_mono e e' r)
end
theorem ddsIn_len : ∀ {vs : List V} {ds : List Dd}, DdsIn K G H vs ds → vs.length = ds.length
  | _, _, .nil => rfl
  | _, _, .cons _ r => by rw [List.length_cons, List.length_cons, ddsIn_len r]
theorem ddsIn_get : ∀ {vs : List V} {ds : List Dd} {i : Nat} {v : V}, DdsIn K G H vs ds → vs[i]? = some v → ∃ d, ds[i]? = some d ∧ DdIn K G H v d
  | _, _, _, _, .nil, e => by simp at e
  | _, _, 0, _, .cons h _, e => by
    simp only [List.getElem?_cons_zero, Option.some.injEq] at e
    subst e
    exact ⟨_, rfl, h⟩
  | _, _, i + 1, _, .cons _ r, e => by
    rw [List.getElem?_cons_succ] at e
    obtain ⟨d, h1, h2⟩ := ddsIn_get r e
    exact ⟨d, by rw [List.getElem?_cons_succ]; exact h1, h2⟩
mutual
/-- what stays is also in the heap -/
theorem ddIn_of (e : Ext G H) : ∀ (d : Dd) {v : V}, Dp K G v d.data → DdIn K G H v d
  | .put b f, _, h => .put h
  | .push q f, _, h => .push h
  | .draw b f, _, h => .draw h
  | .send to sign span rank g k, _, h => .send h
  | .fin, _, h => .fin h
  | .pull q b ds, v, h => by
    rw [Dd.data] at h
    obtain ⟨a, xs, rfl, h1, h2⟩ := dp_tup h
    cases h2 with
    | cons e1 h2 => cases h2 with
      | cons e2 h2 => cases h2 with
        | cons e3 h2 => cases h2 with
          | cons e4 h2 =>
            cases h2
            obtain rfl := dp_str e1
            obtain rfl := dp_str e2
            obtain rfl := dp_str e3
            obtain ⟨l, ys, rfl, h3, h4⟩ := dp_lst e4
            exact .pull (ext_t e h1) (ext_l e h3) (ddsIn_of e ds h4)
  | .iff f ones others, v, h => by
    rw [Dd.data] at h
    obtain ⟨a, xs, rfl, h1, h2⟩ := dp_tup h
    cases h2 with
    | cons e1 h2 => cases h2 with
      | cons e2 h2 => cases h2 with
        | cons e3 h2 => cases h2 with
          | cons e4 h2 =>
            cases h2
            obtain rfl := dp_str e1
            obtain ⟨l, ys, rfl, h3, h4⟩ := dp_lst e3
            obtain ⟨m, zs, rfl, h5, h6⟩ := dp_lst e4
            exact .iff (ext_t e h1) e2 (ext_l e h3) (ddsIn_of e ones h4) (ext_l e h5) (ddsIn_of e others h6)
theorem ddsIn_of (e : Ext G H) : ∀ (ds : List Dd) {vs : List V}, DpAll K G vs (Dd.datas ds) → DdsIn K G H vs ds
  | [], _, h => by
    rw [Dd.datas] at h
    cases h
    exact .nil
  | d :: ds, _, h => by
    rw [Dd.datas] at h
    cases h with
    | cons h1 h2 => exact .cons (ddIn_of e d h1) (ddsIn_of e ds h2)
end
def Dd.tag : Dd → Str
  | .put _ _ => "put" | .push _ _ => "push" | .pull _ _ _ => "pull" | .draw _ _ => "draw" | .send _ _ _ _ _ _ => "send" | .iff _ _ _ => "if" | .fin => "end"
theorem ddIn_head (e : Ext G H) : ∀ {d : Dd} {x : V}, DdIn K G H x d → ∃ t xs, x = .ref t ∧ SqT K H t (.str d.tag :: xs) := by
  have one : ∀ {x : V} {s : Str} {ds : List PyData}, Dp K G x (.tuple (.str s :: ds)) → ∃ t xs, x = .ref t ∧ SqT K H t (.str s :: xs) := fun {x s ds} h => by
    obtain ⟨t, xs, rfl, h1, h2⟩ := dp_tup h
    cases h2 with
    | cons e1 h2 =>
      obtain rfl := dp_str e1
      exact ⟨t, _, rfl, ext_t e h1⟩
  intro d x h
  cases h with
  | put h => rw [Dd.data] at h; exact one h
  | push h => rw [Dd.data] at h; exact one h
  | draw h => rw [Dd.data] at h; exact one h
  | send h => rw [Dd.data] at h; exact one h
  | fin h => rw [Dd.data] at h; exact one h
  | pull h1 h2 h3 => exact ⟨_, _, rfl, h1⟩
  | iff h1 h2 h3 h4 h5 h6 => exact ⟨_, _, rfl, h1⟩
theorem ddIn_plain {d : Dd} {x : V} (h : DdIn K G H x d) (h1 : ¬ d.tag = "if") (h2 : ¬ d.tag = "pull") : Dp K G x d.data := by
  cases h with
  | put h => exact h
  | push h => exact h
  | draw h => exact h
  | send h => exact h
  | fin h => exact h
  | pull _ _ _ => exact absurd rfl h2
  | iff _ _ _ _ _ _ => exact absurd rfl h1
theorem ddIn_if {d : Dd} {x : V} (h : DdIn K G H x d) (ht : d.tag = "if") : ∃ f ones others a l m v vs ws, d = .iff f ones others ∧ x = .ref a ∧ SqT K H a [.str "if", v, .ref l, .ref m] ∧ Dp K G v f.data ∧ SqL K H l vs ∧ DdsIn K G H vs ones ∧ SqL K H m ws ∧ DdsIn K G H ws others := by
  cases h with
  | iff h1 h2 h3 h4 h5 h6 => exact ⟨_, _, _, _, _, _, _, _, _, rfl, rfl, h1, h2, h3, h4, h5, h6⟩
  | _ => dsimp only [Dd.tag] at ht; exact absurd ht (by decide +kernel)
theorem ddIn_pull {d : Dd} {x : V} (h : DdIn K G H x d) (ht : d.tag = "pull") : ∃ q b ds a l vs, d = .pull q b ds ∧ x = .ref a ∧ SqT K H a [.str "pull", .str q, .str b, .ref l] ∧ SqL K H l vs ∧ DdsIn K G H vs ds := by
  cases h with
  | pull h1 h2 h3 => exact ⟨_, _, _, _, _, _, rfl, rfl, h1, h2, h3⟩
  | _ => dsimp only [Dd.tag] at ht; exact absurd ht (by decide +kernel)
end
/-- a machine that stands in a heap: its lists in H -/
def MachIn (K : PySem.W.Frag) (G H : Hp) (x : V) (m : Mach) : Prop := ∃ (a lb lq ld lh : Addr), x = .ref a ∧ SqT K H a [.str m.name, .ref lb, .ref lq, .ref ld, .ref lh] ∧
  (∃ vs, SqL K H lb vs ∧ DpAll K G vs (m.boxes.map boxD)) ∧ SqL K H lq (m.queues.map V.str) ∧ SqL K H ld (m.draws.map V.int) ∧
  ∃ vs : List V, SqL K H lh vs ∧ vs.length = m.hears.length ∧ ∀ (i : Nat) (v : V), vs[i]? = some v → ∃ (t l : Addr) (ws : List V) (p : Str × List Dd), v = .ref t ∧ SqT K H t [.str p.1, .ref l] ∧ SqL K H l ws ∧ DdsIn K G H ws p.2 ∧ m.hears[i]? = some p
/-- its lists are not long -/
structure Mach.Sm (m : Mach) : Prop where
  boxes : m.boxes.length ≤ 1000
  queues : m.queues.length ≤ 1000
  draws : m.draws.length ≤ 1000
  hears : m.hears.length ≤ 1000
  deeds : ∀ p ∈ m.hears, p.2.length ≤ 1000 ∧ Dd.Sms p.2
theorem dpa_strs {K : PySem.W.Frag} {H : Hp} : ∀ ns : List Str, DpAll K H (ns.map V.str) (ns.map PyData.str)
  | [] => .nil
  | n :: ns => .cons (.str n) (dpa_strs ns)
theorem dpa_strs' {K : PySem.W.Frag} {H : Hp} : ∀ {vs : List V} {ns : List Str}, DpAll K H vs (ns.map PyData.str) → vs = ns.map V.str
  | _, [], .nil => rfl
  | _, n :: ns, .cons h r => by rw [dp_str h, dpa_strs' r]; rfl
theorem dpa_ints' {K : PySem.W.Frag} {H : Hp} : ∀ {vs : List V} {ns : List Int}, DpAll K H vs (ns.map PyData.int) → vs = ns.map V.int
  | _, [], .nil => rfl
  | _, n :: ns, .cons h r => by rw [dp_int h, dpa_ints' r]; rfl
theorem machIn_of {K : PySem.W.Frag} {G H : Hp} (e : Ext G H) {x : V} {m : Mach} (h : Dp K G x m.data) : MachIn K G H x m := by
  unfold Mach.data at h
  obtain ⟨a, xs, rfl, h1, h2⟩ := dp_tup h
  cases h2 with
  | cons e1 h2 => cases h2 with
    | cons e2 h2 => cases h2 with
      | cons e3 h2 => cases h2 with
        | cons e4 h2 => cases h2 with
          | cons e5 h2 =>
            cases h2
            obtain rfl := dp_str e1
            obtain ⟨lb, vb, rfl, b1, b2⟩ := dp_lst e2
            obtain ⟨lq, vq, rfl, q1, q2⟩ := dp_lst e3
            obtain ⟨ld, vd, rfl, d1, d2⟩ := dp_lst e4
            obtain ⟨lh, vh, rfl, g1, g2⟩ := dp_lst e5
            obtain rfl := dpa_strs' q2
            obtain rfl := dpa_ints' d2
            refine ⟨a, lb, lq, ld, lh, rfl, ext_t e h1, ⟨vb, ext_l e b1, b2⟩, ext_l e q1, ext_l e d1, vh, ext_l e g1, by rw [dpa_len g2, List.length_map], fun i v hv => ?_⟩
            obtain ⟨d, hd, hp⟩ := dpa_get' g2 hv
            rw [List.getElem?_map] at hd
            cases hq : m.hears[i]? with
            | none => rw [hq] at hd; cases hd
            | some p =>
              rw [hq] at hd
              obtain rfl := Option.some.inj hd
              unfold hearD at hp
              obtain ⟨t, ys, rfl, t1, t2⟩ := dp_tup hp
              cases t2 with
              | cons f1 t2 => cases t2 with
                | cons f2 t2 =>
                  cases t2
                  obtain rfl := dp_str f1
                  obtain ⟨l, ws, rfl, l1, l2⟩ := dp_lst f2
                  exact ⟨t, l, ws, p, rfl, ext_t e t1, ext_l e l1, ddsIn_of e _ l2, rfl⟩
theorem machIn_mono {K : PySem.W.Frag} {G G' H H' : Hp} (e : Ext G G') (e' : Ext H H') {x : V} {m : Mach} (h : MachIn K G H x m) : MachIn K G' H' x m := by
  obtain ⟨a, lb, lq, ld, lh, rfl, ht, ⟨vb, b1, b2⟩, hq, hd, vs, h1, h2, h3⟩ := h
  refine ⟨a, lb, lq, ld, lh, rfl, ext_t e' ht, ⟨vb, ext_l e' b1, dpa_mono e b2⟩, ext_l e' hq, ext_l e' hd, vs, ext_l e' h1, h2, fun i v hv => ?_⟩
  obtain ⟨t, l, ws, p, e1, t1, l1, d1, hp⟩ := h3 i v hv
  exact ⟨t, l, ws, p, e1, ext_t e' t1, ext_l e' l1, ddsIn_mono e e' d1, hp⟩
/-! ### dicts by names -/
theorem val_none : ∀ {kvs : List (Key × V)} {k : Key}, k ∉ kvs.map (·.1) → valV kvs k = none
  | [], _, _ => rfl
  | p :: r, k, h => by
    rw [List.map_cons, List.mem_cons, not_or] at h
    rw [valV_neg (fun e => h.1 e.symm)]
    exact val_none h.2
theorem boxesV_keys (bs : List (Str × Int)) : (boxesV bs).map (·.1) = bs.map fun p => Sum.inr p.1 := by
  unfold boxesV
  rw [List.map_map]
  rfl
theorem boxesV_put {bs : List (Str × Int)} {x : Str} {n : Int} (h : x ∉ bs.map (·.1)) : putK (boxesV bs) (Sum.inr x) (.int n) = boxesV (bs ++ [(x, n)]) := by
  rw [putK_new]
  · unfold boxesV
    rw [List.map_append]
    rfl
  · refine val_none fun m => h ?_
    rw [boxesV_keys] at m
    obtain ⟨p, hp, e⟩ := List.mem_map.mp m
    rw [← Sum.inr.inj e]
    exact List.mem_map_of_mem hp
theorem queuesV_put {qs : List (Str × List Int)} {as : List Addr} {x : Str} {a : Addr} {ns : List Int} (hl : qs.length = as.length) (h : x ∉ qs.map (·.1)) : putK (queuesV qs as) (Sum.inr x) (.ref a) = queuesV (qs ++ [(x, ns)]) (as ++ [a]) := by
  rw [putK_new]
  · unfold queuesV
    rw [List.zip_append hl, List.map_append]
    rfl
  · refine val_none fun m => h ?_
    obtain ⟨p, hp, e⟩ := List.mem_map.mp m
    unfold queuesV at hp
    obtain ⟨q, hq, rfl⟩ := List.mem_map.mp hp
    rw [← Sum.inr.inj e]
    exact List.mem_map_of_mem (List.of_mem_zip hq).1
theorem nodup_take {α : Type} {l : List α} {i : Nat} {x : α} (h : l.Nodup) (hi : l[i]? = some x) : x ∉ l.take i := fun m => by
  obtain ⟨j, hj, e⟩ := List.mem_iff_getElem.mp m
  rw [List.length_take] at hj
  rw [List.getElem_take] at e
  have h1 : l[j]? = some x := by rw [List.getElem?_eq_getElem (by omega), e]
  have h2 : j < l.length := by omega
  have := (List.getElem?_inj h2 h).mp (h1.trans hi.symm)
  omega
end Mo
namespace Mo
open PySem PySem.Spec PyProof.Rows L2
/-! ### model.py -/
def spCopied (n : Nat) (K : PySem.W.Frag) : Sp := fun vs H Q _ => ∃ (G : Hp) (L : Vo) (a : Addr) (xs : List V) (ds : List Dd), vs = [.ref a] ∧ Hd G H L ∧ SqL K H a xs ∧ DdsIn K G H xs ds ∧ Dd.depths ds < n ∧ ds.length ≤ 1000 ∧ Dd.Sms ds ∧
  ∀ p G' H', Ext G G' → Ext H H' → Hd G' H' L → Dp K G' (.ref p) (.list (Dd.datas ds)) → Q (.ref p) H'
section
variable {P : Program} {w : World} {K : PySem.W.Frag} {mg : Str → Option Value} {base : Heap}
theorem dp_freeze {G H : Hp} {L : Vo} {l : Addr} {xs : List V} {ds : List PyData} {φ : HO → Prop} (h : Hd G H ((l, φ) :: L)) (e : H l = some (.lst xs)) (d : DpAll K G xs ds) : Ext G (upd G l (.lst xs)) ∧ Hd (upd G l (.lst xs)) H L ∧ Dp K (upd G l (.lst xs)) (.ref l) (.list ds) := by
  have x : Ext G (upd G l (.lst xs)) := Ext.new (h.no List.mem_cons_self)
  exact ⟨x, h.freeze e, .lst (SqL.of upd_same) (dpa_mono x d)⟩
theorem dp_fix {G H : Hp} {L : Vo} {t : Addr} {xs : List V} {ds : List PyData} (h : Hd G H L) (e : H t = none) (d : DpAll K G xs ds) : Ext G (upd G t (.tup xs)) ∧ Hd (upd G t (.tup xs)) (upd H t (.tup xs)) L ∧ Dp K (upd G t (.tup xs)) (.ref t) (.tuple ds) := by
  have x : Ext G (upd G t (.tup xs)) := Ext.new (h.gno e)
  exact ⟨x, h.fix e, .tup (SqT.of upd_same) (dpa_mono x d)⟩
theorem ok_copied (T : Tx K mg) : ∀ n, OkG P w K mg base (n + 1) "copied" ["deeds"] (spCopied n K) := by
  intro n
  induction n with
  | zero =>
    refine T.f_copied.okX sc_copied (fun vs H Q E h => ?_) (fun cdv A outer s H vs Q E hr h => ?_)
    · obtain ⟨G, L, a, xs, ds, rfl, _⟩ := h
      rfl
    · obtain ⟨G, L, a, xs, ds, rfl, _, _, _, hd, _⟩ := h
      exact absurd hd (Nat.not_lt_zero _)
  | succ n G_copied =>
    refine T.f_copied.okX sc_copied (fun vs H Q E h => ?_) (fun cdv A outer s H vs Q E hr h => ?_)
    · obtain ⟨G, L, a, xs, ds, rfl, _⟩ := h
      rfl
    · have hu1 := hu_of hr; have hu0 := hr.units0; have hu64 := hr.units; have hu65 := hu65_of hr; have nd := sc_copied.nd
      obtain ⟨G, L, a, xs, ds, rfl, hH, hS, hD, hd, hl, hsm, q⟩ := h
      refine ⟨_, (pss_cons (ps_set (i := 1) nd rfl (Or.inl rfl) (pe_lst pa_nil))
      (pss_cons (ps_for (passes_of rfl) rfl (pi_seqK (K := K) rfl (pv 0)) (pg_name (i := 2) nd rfl (Or.inl rfl))
      (pss_one (ps_if (pt_cmpR (op_eqK (K := K) rfl hu64) (pe_ix (ix_anyK (K := K) rfl hu1) (pv 2) pe_int (fun _ _ => rfl)) pe_str (nomark _)) (pss_one (ps_expr (pe_bmK (K := K) rfl PySem.F.plainAttrs_list PySem.F.slot_list_append PySem.F.type_list_append mt_append (pv 1) (pa_cons (pe_tup (pa_cons pe_str (pa_cons (pe_ix (ix_anyK (K := K) rfl hu1) (pv 2) pe_int (fun _ _ => rfl)) (pa_cons (pcl T.g_copied G_copied hr (takes_of rfl rfl rfl rfl) (pa_cons (pe_ix (ix_anyK (K := K) rfl hu1) (pv 2) pe_int (fun _ _ => rfl)) pa_nil)) (pa_cons (pcl T.g_copied G_copied hr (takes_of rfl rfl rfl rfl) (pa_cons (pe_ix (ix_anyK (K := K) rfl hu1) (pv 2) pe_int (fun _ _ => rfl)) pa_nil)) pa_nil))))) pa_nil))))
      (pss_one (ps_if (pt_cmpR (op_eqK (K := K) rfl hu64) (pe_ix (ix_anyK (K := K) rfl hu1) (pv 2) pe_int (fun _ _ => rfl)) pe_str (nomark _)) (pss_one (ps_expr (pe_bmK (K := K) rfl PySem.F.plainAttrs_list PySem.F.slot_list_append PySem.F.type_list_append mt_append (pv 1) (pa_cons (pe_tup (pa_cons pe_str (pa_cons (pe_ix (ix_anyK (K := K) rfl hu1) (pv 2) pe_int (fun _ _ => rfl)) (pa_cons (pe_ix (ix_anyK (K := K) rfl hu1) (pv 2) pe_int (fun _ _ => rfl)) (pa_cons (pcl T.g_copied G_copied hr (takes_of rfl rfl rfl rfl) (pa_cons (pe_ix (ix_anyK (K := K) rfl hu1) (pv 2) pe_int (fun _ _ => rfl)) pa_nil)) pa_nil))))) pa_nil))))
      (pss_one (ps_expr (pe_bmK (K := K) rfl PySem.F.plainAttrs_list PySem.F.slot_list_append PySem.F.type_list_append mt_append (pv 1) (pa_cons (pv 2) pa_nil)))))))))
      (pss_one (ps_ret (pv 1))))), ?_⟩
      refine go_start (σ' := [some (.ref a), none, none]) rfl ?_
      have hlen := ddsIn_len hD
      walk_at "we"
      refine go_sz rfl fun l hl0 => ?_
      walk_at "we"
      refine go_sqL (ext_l (Ext.new hl0) hS) ?_
      refine loop_l (fun i σ H' => ∃ G' acc v, σ = [some (.ref a), some (.ref l), v] ∧ Ext G G' ∧ Ext H H' ∧ Hd G' H' ((l, Eq (.lst acc)) :: L) ∧ DpAll K G' acc (Dd.datas (ds.take i)))
        ⟨G, [], none, rfl, Ext.refl G, Ext.new hl0, hH.new hl0 rfl, by rw [List.take_zero, Dd.datas]; exact .nil⟩ (fun i σ' H' _ ⟨G', acc, v, _, _, eH, _⟩ => ext_l eH hS) ?_ ?_
      · rintro i x σ' H' hi ⟨G', acc, v, rfl, eG, eH, hH', hA⟩
        obtain ⟨d, hd1, hd2⟩ := ddsIn_get hD hi
        have hd3 := ddIn_mono eG eH hd2
        have hdep := depths_get hd1
        have hsm1 := sms_get hsm hd1
        have hacc : acc.length < sizeLine := by
          have e1 := dpa_len hA
          rw [datas_map, List.length_map, List.length_take] at e1
          rw [sizeLine_eq]
          omega
        have hlE : H' l = some (.lst acc) := hH'.eq List.mem_cons_self
        have htk : i + 1 ≤ ds.length → True := fun _ => True.intro
        obtain ⟨t, ts, rfl, ht⟩ := ddIn_head hH'.ex hd3
        -- the deed is put behind the others
        have fin : ∀ (G2 H2 : Hp) (y : V), Ext G' G2 → Ext H H2 → Hd G2 H2 ((l, Eq (.lst acc)) :: L) → Dp K G2 y d.data → ∃ G3 acc3 v3, [some (V.ref a), some (V.ref l), some (V.ref t)] = [some (.ref a), some (.ref l), v3] ∧ Ext G G3 ∧ Ext H (upd H2 l (.lst (acc ++ [y]))) ∧ Hd G3 (upd H2 l (.lst (acc ++ [y]))) ((l, Eq (.lst acc3)) :: L) ∧ DpAll K G3 acc3 (Dd.datas (ds.take (i + 1))) := fun G2 H2 y x1 x2 x3 x4 => by
          refine ⟨G2, acc ++ [y], _, rfl, eG.trans x1, x2.put (hl0), x3.set 0 rfl rfl, ?_⟩
          rw [datas_take hd1]
          exact dpa_app (dpa_mono x1 hA) (dpa_one x4)
        walk_at "we"
        refine go_subT ht (atI_nat (j := 0) rfl) ?_
        walk_at "we"
        refine go_eqs ?_
        walk_at "we"
        refine go_ite (fun hif => ?_) (fun nif => ?_)
        · obtain ⟨f, ones, others, a2, m1, m2, v2, vs2, ws2, rfl, e2, k1, k2, k3, k4, k5, k6⟩ := ddIn_if hd3 hif
          cases e2
          rw [Dd.depth] at hdep
          have hdep' : max (Dd.depths ones) (Dd.depths others) + 1 < n + 1 := by omega
          rw [Dd.Sm] at hsm1
          walk_at "we"
          refine go_tyL (SqL.of hlE) ?_
          walk_at "we"
          refine go_subT k1 rfl ?_
          walk_at "we"
          refine go_subT k1 rfl ?_
          walk_at "we"
          refine ⟨G', _, m1, vs2, ones, rfl, hH', k3, k4, by omega, hsm1.1.1, hsm1.1.2, fun p1 G1 H1 x1 y1 z1 w1 => ?_⟩
          walk_at "we"
          refine go_subT (ext_t y1 k1) rfl ?_
          walk_at "we"
          refine ⟨G1, _, m2, ws2, others, rfl, z1, ext_l y1 k5, ddsIn_mono x1 y1 k6, by omega, hsm1.2.1, hsm1.2.2, fun p2 G2 H2 x2 y2 z2 w2 => ?_⟩
          walk_at "we"
          refine go_sz rfl fun t2 ht2 => ?_
          obtain ⟨x3, z3, w3⟩ := dp_fix (K := K) (xs := [.str "if", v2, .ref p1, .ref p2]) (ds := [.str "if", f.data, .list (Dd.datas ones), .list (Dd.datas others)]) z2 ht2 (.cons (.str _) (.cons (dp_mono (x1.trans x2) k2) (.cons (dp_mono x2 w1) (.cons w2 .nil))))
          walk_at "we"
          refine go_app (z3.eq List.mem_cons_self) hacc ?_
          exact fin _ _ _ ((x1.trans x2).trans x3) (((eH.trans y1).trans y2).trans (Ext.new ht2)) z3 w3
        · walk_at "we"
          refine go_subT ht (atI_nat (j := 0) rfl) ?_
          walk_at "we"
          refine go_eqs ?_
          walk_at "we"
          refine go_ite (fun hpu => ?_) (fun npu => ?_)
          · obtain ⟨qq, b2, ds2, a2, m1, vs2, rfl, e2, k1, k3, k4⟩ := ddIn_pull hd3 hpu
            cases e2
            rw [Dd.depth] at hdep
            rw [Dd.Sm] at hsm1
            walk_at "we"
            refine go_tyL (SqL.of hlE) ?_
            walk_at "we"
            refine go_subT k1 rfl ?_
            walk_at "we"
            refine go_subT k1 rfl ?_
            walk_at "we"
            refine go_subT k1 rfl ?_
            walk_at "we"
            refine ⟨G', _, m1, vs2, ds2, rfl, hH', k3, k4, by omega, hsm1.1, hsm1.2, fun p1 G1 H1 x1 y1 z1 w1 => ?_⟩
            walk_at "we"
            refine go_sz rfl fun t2 ht2 => ?_
            obtain ⟨x3, z3, w3⟩ := dp_fix (K := K) (xs := [.str "pull", .str qq, .str b2, .ref p1]) (ds := [.str "pull", .str qq, .str b2, .list (Dd.datas ds2)]) z1 ht2 (.cons (.str _) (.cons (.str _) (.cons (.str _) (.cons w1 .nil))))
            walk_at "we"
            refine go_app (z3.eq List.mem_cons_self) hacc ?_
            exact fin _ _ _ (x1.trans x3) ((eH.trans y1).trans (Ext.new ht2)) z3 w3
          · walk_at "we"
            refine go_tyL (SqL.of hlE) ?_
            walk_at "we"
            refine go_app hlE hacc ?_
            exact fin _ _ _ (Ext.refl _) eH hH' (ddIn_plain hd3 nif npu)
      · rintro σ' H' ⟨G', acc, v, rfl, eG, eH, hH', hA⟩
        walk_at "we"
        rw [List.take_of_length_le (by omega)] at hA
        obtain ⟨x1, x2, x3⟩ := dp_freeze hH' (hH'.eq List.mem_cons_self) hA
        exact q l _ H' (eG.trans x1) eH x2 x3
/-! #### a machine, copied; a model made; first states -/
def spCopiedMachine (n : Nat) (K : PySem.W.Frag) : Sp := fun vs H Q _ => ∃ (G : Hp) (L : Vo) (x : V) (m : Mach), vs = [x] ∧ Hd G H L ∧ MachIn K G H x m ∧ m.depth < n ∧ m.Sm ∧
  ∀ y G' H', Ext G G' → Ext H H' → Hd G' H' L → Dp K G' y m.data → Q y H'
theorem ok_copied_machine (T : Tx K mg) (n : Nat) : OkG P w K mg base (n + 2) "copied_machine" ["machine"] (spCopiedMachine n K) := by
  have G_copied := ok_copied (P := P) (w := w) (base := base) T n
  refine T.f_copied_machine.okX sc_copied_machine (fun vs H Q E h => ?_) (fun cdv A outer s H vs Q E hr h => ?_)
  · obtain ⟨G, L, x, m, rfl, _⟩ := h
    rfl
  · have hu1 := hu_of hr; have hu0 := hr.units0; have hu64 := hr.units; have hu65 := hu65_of hr; have nd := sc_copied_machine.nd
    obtain ⟨G, L, x, m, rfl, hH, hM, hd, hsm, q⟩ := h
    refine ⟨_, (pss_cons (ps_asg (pv 0) (pg_tupK (K := K) (n := 5) rfl rfl (pgs_cons (pg_name (i := 1) nd rfl (Or.inl rfl)) (pgs_cons (pg_name (i := 2) nd rfl (Or.inl rfl)) (pgs_cons (pg_name (i := 3) nd rfl (Or.inl rfl)) (pgs_cons (pg_name (i := 4) nd rfl (Or.inl rfl)) (pgs_cons (pg_name (i := 5) nd rfl (Or.inl rfl)) pgs_nil))))) rfl rfl))
      (pss_one (ps_ret (pe_tup (pa_cons (pv 1) (pa_cons (pe_callTy (call_listK (K := K) rfl) (by rfl) T.b_list (by decide +kernel) (pa_cons (pv 2) pa_nil)) (pa_cons (pe_callTy (call_listK (K := K) rfl) (by rfl) T.b_list (by decide +kernel) (pa_cons (pv 3) pa_nil)) (pa_cons (pe_callTy (call_listK (K := K) rfl) (by rfl) T.b_list (by decide +kernel) (pa_cons (pv 4) pa_nil)) (pa_cons (pe_lc (own := [("sign", 6), ("deeds", 7)]) rfl nd (pi_seqK (K := K) rfl (pv 5)) (blkOk_by (own := [("sign", 6), ("deeds", 7)]) (N := nm_copied_machine) (sc := defScope s_copied_machine) (by decide +kernel)) (fun _ _ _ _ _ => (pg_tupK (K := K) (n := 2) rfl rfl (pgs_cons (pg_name (i := 6) nd rfl (Or.inl rfl) (Or.inr rfl)) (pgs_cons (pg_name (i := 7) nd rfl (Or.inl rfl) (Or.inr rfl)) pgs_nil)) rfl rfl)) (fun _ _ _ _ _ => pts_nil) (fun _ _ _ _ _ => (pe_tup (pa_cons (pv 6) (pa_cons (pcl T.g_copied G_copied hr takes0 (pa_cons (pv 7) pa_nil)) pa_nil))))) pa_nil))))))))), ?_⟩
    refine go_start (σ' := [some x, none, none, none, none, none, none, none]) rfl ?_
    obtain ⟨a, lb, lq, ld, lh, rfl, ht, hb, hq, hdr, vs, hh, hhs⟩ := hM
    walk_at "we"
    refine go_gtup ht rfl ?_
    walk_at "we"
    obtain ⟨vb, hb1, hb2⟩ := hb
    have hlb := dpa_len hb2
    rw [List.length_map] at hlb
    refine go_listL hb1 fun p1 hp1 => ?_
    obtain ⟨x1, z1, w1⟩ := dp_freeze (K := K) (hH.new hp1 (φ := Eq (.lst vb)) rfl) upd_same hb2
    walk_at "we"
    refine go_listL (ext_l (Ext.new hp1) hq) fun p2 hp2 => ?_
    obtain ⟨x2, z2, w2⟩ := dp_freeze (K := K) (z1.new hp2 (φ := Eq (.lst (m.queues.map V.str))) rfl) upd_same (dpa_strs _)
    walk_at "we"
    refine go_listL (ext_l ((Ext.new hp1).trans (Ext.new hp2)) hdr) fun p3 hp3 => ?_
    obtain ⟨x3, z3, w3⟩ := dp_freeze (K := K) (z2.new hp3 (φ := Eq (.lst (m.draws.map V.int))) rfl) upd_same (dpa_ints _)
    have e3 := ((Ext.new (o := .lst vb) hp1).trans (Ext.new (o := .lst (m.queues.map V.str)) hp2)).trans (Ext.new (o := .lst (m.draws.map V.int)) hp3)
    walk_at "we"
    refine go_sqL (ext_l e3 hh) (go_lcA fun Dl hD => ?_)
    obtain ⟨H3, eH3⟩ : ∃ H3, H3 = upd (upd (upd H p1 (.lst vb)) p2 (.lst (m.queues.map V.str))) p3 (.lst (m.draws.map V.int)) := ⟨_, rfl⟩
    obtain ⟨G3, eG3⟩ : ∃ G3, G3 = upd (upd (upd G p1 (.lst vb)) p2 (.lst (m.queues.map V.str))) p3 (.lst (m.draws.map V.int)) := ⟨_, rfl⟩
    rw [← eH3, ← eG3] at z3
    rw [← eG3] at x3 w3
    rw [← eH3] at e3 hD ⊢
    have xG := (x1.trans x2).trans x3
    refine lcx_l (fun i H' => ∃ G' acc, Ext G3 G' ∧ Ext H3 H' ∧ Hd G' H' ((Dl, Eq (.lst acc)) :: L) ∧ acc.length = i ∧ DpAll K G' acc ((m.hears.take i).map hearD))
      ⟨G3, [], Ext.refl _, Ext.new hD, z3.new hD rfl, rfl, .nil⟩ (fun i H' _ ⟨G', acc, _, eH, _⟩ => ext_l (e3.trans eH) hh) ?_ ?_
    · rintro i x H' hi ⟨G', acc, eG, eH, hH', hlen, hA⟩
      obtain ⟨hh2, hh3⟩ := hhs
      obtain ⟨t, l, ws, p, rfl, t1, l1, d1, hp⟩ := hh3 i x hi
      have e4 := e3.trans eH
      have hdp : Dd.depths p.2 < n := Nat.lt_of_le_of_lt (Mach.depth_get hp) hd
      have hsm2 := hsm.deeds p (List.mem_of_getElem? hp)
      have hlt : i < m.hears.length := (List.getElem?_eq_some_iff.mp hp).1
      refine go_gtup (ext_t e4 t1) rfl ?_
      walk_at "we"
      refine ⟨rfl, ?_⟩
      walk_at "we"
      refine ⟨G', _, l, ws, p.2, rfl, hH', ext_l e4 l1, ddsIn_mono (xG.trans eG) e4 d1, hdp, hsm2.1, hsm2.2, fun p4 G4 H4 x4 y4 z4 w4 => ?_⟩
      walk_at "we"
      refine go_sz rfl fun t2 ht2 => ?_
      obtain ⟨x5, z5, w5⟩ := dp_fix (K := K) (xs := [.str p.1, .ref p4]) (ds := [.str p.1, .list (Dd.datas p.2)]) z4 ht2 (.cons (.str _) (.cons w4 .nil))
      refine ⟨acc, z5.eq List.mem_cons_self, by rw [hlen, sizeLine_eq]; have := hsm.hears; omega, _, acc ++ [.ref t2], (eG.trans x4).trans x5, ((eH.trans y4).trans (Ext.new ht2)).put hD, z5.set 0 rfl rfl, by rw [List.length_append, hlen, List.length_singleton], ?_⟩
      rw [List.take_add_one, hp, List.map_append]
      exact dpa_app (dpa_mono (x4.trans x5) hA) (dpa_one w5)
    · rintro H' ⟨G', acc, eG, eH, hH', hlen, hA⟩
      rw [hhs.1, List.take_of_length_le (Nat.le_refl _)] at hA
      obtain ⟨x6, z6, w6⟩ := dp_freeze (K := K) hH' (hH'.eq List.mem_cons_self) hA
      walk_at "we"
      refine go_sz rfl fun t2 ht2 => ?_
      have y1 := (x2.trans x3).trans (eG.trans x6)
      obtain ⟨x7, z7, w7⟩ := dp_fix (K := K) (xs := [.str m.name, .ref p1, .ref p2, .ref p3, .ref Dl]) (ds := [.str m.name, .list (m.boxes.map boxD), .list (m.queues.map PyData.str), .list (m.draws.map PyData.int), .list (m.hears.map hearD)]) z6 ht2
        (.cons (.str _) (.cons (dp_mono y1 w1) (.cons (dp_mono (x3.trans (eG.trans x6)) w2) (.cons (dp_mono (eG.trans x6) w3) (.cons w6 .nil)))))
      exact q _ _ _ (((xG.trans eG).trans x6).trans x7) ((e3.trans eH).trans (Ext.new ht2)) z7 w7
/-- a model's object -/
def ModelAt (K : PySem.W.Frag) (H : Hp) (p dx l : Addr) : Prop := H p = some (.ins (He.ga K "Model") dx (fl_Model (.ref l)))
def spModelInit (n : Nat) (K : PySem.W.Frag) : Sp := fun vs H Q _ => ∃ (G : Hp) (L : Vo) (p dx a : Addr) (xs : List V) (ms : List Mach), vs = [.ref p, .ref a] ∧ Hd G H ((p, Eq (.ins (He.ga K "Model") dx [])) :: L) ∧ SqL K H a xs ∧ xs.length = ms.length ∧
  (∀ (i : Nat) (x : V) (m : Mach), xs[i]? = some x → ms[i]? = some m → MachIn K G H x m) ∧ (∀ m ∈ ms, m.depth < n ∧ m.Sm) ∧ ms.length ≤ 1000 ∧
  ∀ l G' H', Ext G G' → (∀ b o, H b = some o → b ≠ p → H' b = some o) → Hd G' H' ((p, Eq (.ins (He.ga K "Model") dx (fl_Model (.ref l)))) :: L) → Dp K G' (.ref l) (.list (ms.map Mach.data)) → Q .non H'
theorem ok_Model_init (T : Tx K mg) (n : Nat) : OkM P w K mg base (n + 3) "Model" "__init__" ["self", "machines"] (spModelInit n K) := by
  have G_copied_machine := ok_copied_machine (P := P) (w := w) (base := base) T n
  refine T.f_Model_init.okX sc_Model_init (fun vs H Q E h => ?_) (fun cdv A outer s H vs Q E hr h => ?_)
  · obtain ⟨G, L, p, dx, a, xs, ms, rfl, _⟩ := h
    rfl
  · have hu1 := hu_of hr; have hu0 := hr.units0; have hu64 := hr.units; have hu65 := hu65_of hr; have nd := sc_Model_init.nd
    obtain ⟨G, L, p, dx, a, xs, ms, rfl, hH, hS, hxl, hM, hd, hml, q⟩ := h
    refine ⟨_, (pss_one (ps_fldK (K := K) rfl (pv 0) (pe_lc (own := [("machine", 2)]) rfl nd (pi_seqK (K := K) rfl (pv 1)) (blkOk_by (own := [("machine", 2)]) (N := nm_Model_init) (sc := defScope s_Model_init) (by decide +kernel)) (fun _ _ _ _ _ => (pg_name (i := 2) nd rfl (Or.inl rfl) (Or.inr rfl))) (fun _ _ _ _ _ => pts_nil) (fun _ _ _ _ _ => (pcl T.g_copied_machine G_copied_machine hr takes0 (pa_cons (pv 2) pa_nil)))) rfl)), ?_⟩
    refine go_start (σ' := [some (.ref p), some (.ref a), none]) rfl ?_
    walk_at "we"
    refine go_sqL hS (go_lcA fun Dl hD => ?_)
    refine lcx_l (fun i H' => ∃ G' acc, Ext G G' ∧ Ext H H' ∧ Hd G' H' ((Dl, Eq (.lst acc)) :: (p, Eq (.ins (He.ga K "Model") dx [])) :: L) ∧ acc.length = i ∧ DpAll K G' acc ((ms.take i).map Mach.data))
      ⟨G, [], Ext.refl _, Ext.new hD, hH.new hD rfl, rfl, .nil⟩ (fun i H' _ ⟨G', acc, _, eH, _⟩ => ext_l eH hS) ?_ ?_
    · rintro i x H' hi ⟨G', acc, eG, eH, hH', hlen, hA⟩
      have hlt : i < ms.length := by rw [← hxl]; exact (List.getElem?_eq_some_iff.mp hi).1
      have hm : ms[i]? = some ms[i] := List.getElem?_eq_getElem hlt
      obtain ⟨h1, h2⟩ := hd _ (List.getElem_mem hlt)
      walk_at "we"
      refine ⟨rfl, ?_⟩
      walk_at "we"
      refine ⟨G', _, x, ms[i], rfl, hH', machIn_mono eG eH (hM i x _ hi hm), h1, h2, fun y G4 H4 x4 y4 z4 w4 => ?_⟩
      walk_at "we"
      refine ⟨acc, z4.eq List.mem_cons_self, by rw [hlen, sizeLine_eq]; omega, _, acc ++ [y], eG.trans x4, (eH.trans y4).put hD, z4.set 0 rfl rfl, by rw [List.length_append, hlen, List.length_singleton], ?_⟩
      rw [List.take_add_one, hm, List.map_append]
      exact dpa_app (dpa_mono x4 hA) (dpa_one w4)
    · rintro H' ⟨G', acc, eG, eH, hH', hlen, hA⟩
      rw [hxl, List.take_of_length_le (Nat.le_refl _)] at hA
      obtain ⟨x6, z6, w6⟩ := dp_freeze (K := K) hH' (hH'.eq List.mem_cons_self) hA
      walk_at "we"
      refine go_sfldL (z6.eq List.mem_cons_self) T.c_Model T.n_Model_machines rfl ?_
      refine q Dl _ _ (eG.trans x6) (fun b o hb hn => by rw [upd_ne hn]; exact eH b o hb) ?_ w6
      have z7 := z6.set (o' := .ins (He.ga K "Model") dx (putF "machines" (.ref Dl) [])) (ψ := Eq (.ins (He.ga K "Model") dx (fl_Model (.ref Dl)))) 0 rfl (by rw [in_Model_0]; rfl)
      exact z7
def spStateInit (K : PySem.W.Frag) : Sp := fun vs H Q _ => ∃ (p dx : Addr) (a b c d : V), vs = [.ref p, a, b, c, d] ∧ H p = some (.ins (He.ga K "State") dx []) ∧ Q .non (upd H p (.ins (He.ga K "State") dx (fl_State a b c d)))
theorem ok_State_init (T : Tx K mg) : OkM P w K mg base 1 "State" "__init__" ["self", "boxes", "queues", "drawn", "sent"] (spStateInit K) := by
  refine T.f_State_init.okX sc_State_init (fun vs H Q E h => ?_) (fun cdv A outer s H vs Q E hr h => ?_)
  · obtain ⟨p, dx, a, b, c, d, rfl, _⟩ := h
    rfl
  · have hu1 := hu_of hr; have hu0 := hr.units0; have hu64 := hr.units; have hu65 := hu65_of hr; have nd := sc_State_init.nd
    obtain ⟨p, dx, a, b, c, d, rfl, hp, q⟩ := h
    refine ⟨_, (pss_cons (ps_fldK (K := K) rfl (pv 0) (pv 1) rfl)
      (pss_cons (ps_fldK (K := K) rfl (pv 0) (pv 2) rfl)
      (pss_cons (ps_fldK (K := K) rfl (pv 0) (pv 3) rfl)
      (pss_one (ps_fldK (K := K) rfl (pv 0) (pv 4) rfl))))), ?_⟩
    refine go_start (σ' := [some (.ref p), some a, some b, some c, some d]) rfl ?_
    walk_at "we"
    refine go_sfldL hp T.c_State T.n_State_boxes rfl ?_
    rw [in_State_0]
    walk_at "we"
    refine go_sfldL upd_same T.c_State T.n_State_queues rfl ?_
    rw [upd_upd, in_State_1]
    walk_at "we"
    refine go_sfldL upd_same T.c_State T.n_State_drawn rfl ?_
    rw [upd_upd, in_State_2]
    walk_at "we"
    refine go_sfldL upd_same T.c_State T.n_State_sent rfl ?_
    rw [upd_upd, in_State_3]
    exact q
/-- a model that stays: its object, its machines -/
structure ModelG (K : PySem.W.Frag) (G : Hp) (p : Addr) (ms : List Mach) : Prop where
  there : ∃ dx l, G p = some (.ins (He.ga K "Model") dx (fl_Model (.ref l))) ∧ Dp K G (.ref l) (.list (ms.map Mach.data))
theorem ModelG.mono {G G' : Hp} {p : Addr} {ms : List Mach} (h : ModelG K G p ms) (e : Ext G G') : ModelG K G' p ms :=
  let ⟨dx, l, h1, h2⟩ := h.there
  ⟨dx, l, e _ _ h1, dp_mono e h2⟩
/-- its names are unlike -/
structure Mach.Nd (m : Mach) : Prop where
  boxes : (m.boxes.map (·.1)).Nodup
  queues : m.queues.Nodup
theorem perm_back {α : Type} (z c b : α) (E L : List α) : (z :: c :: b :: (E ++ L)).Perm (c :: b :: (E ++ (z :: L))) :=
  (List.perm_middle (a := z) (l₁ := c :: b :: E) (l₂ := L)).symm
def spFirst (K : PySem.W.Frag) : Sp := fun vs H Q _ => ∃ (G : Hp) (L : Vo) (pm : Addr) (ms : List Mach) (i : Nat) (m : Mach), vs = [.ref pm, .int (i : Int)] ∧ Hd G H L ∧ ModelG K G pm ms ∧ ms[i]? = some m ∧ m.Nd ∧ m.Sm ∧
  ∀ p dx b q as H', as.length = m.queues.length → Ext H H' → Hd G H' (vo (StC K p dx b q as m.first) ++ L) → Q (.ref p) H'
theorem ok_first_state (T : Tx K mg) : OkG P w K mg base 3 "first_state" ["model", "at"] (spFirst K) := by
  have G_State_init := ok_State_init (P := P) (w := w) (base := base) T
  refine T.f_first_state.okX sc_first_state (fun vs H Q E h => ?_) (fun cdv A outer s H vs Q E hr h => ?_)
  · obtain ⟨G, L, pm, ms, i, m, rfl, _⟩ := h
    rfl
  · have hu1 := hu_of hr; have hu0 := hr.units0; have hu64 := hr.units; have hu65 := hu65_of hr; have nd := sc_first_state.nd
    obtain ⟨G, L, pm, ms, i, m, rfl, hH, hM, hm, hnd, hsm, q⟩ := h
    refine ⟨_, (pss_cons (ps_set (i := 2) nd rfl (Or.inl rfl) pe_dnew)
      (pss_cons (ps_for (passes_of rfl) rfl (pi_seqK (K := K) rfl (pe_ix (ix_anyK (K := K) rfl hu1) (pe_ix (ix_anyK (K := K) rfl hu1) (pe_fldK (K := K) rfl (pv 0) rfl) (pv 1) (fun _ _ => rfl)) pe_int (fun _ _ => rfl))) (pg_tupK (K := K) (n := 2) rfl rfl (pgs_cons (pg_name (i := 3) nd rfl (Or.inl rfl)) (pgs_cons (pg_name (i := 4) nd rfl (Or.inl rfl)) pgs_nil)) rfl rfl)
      (pss_one (ps_asg (pv 4) (pg_sub (pv 2) (pv 3) (set_any hu1)))))
      (pss_cons (ps_set (i := 5) nd rfl (Or.inl rfl) pe_dnew)
      (pss_cons (ps_for (passes_of rfl) rfl (pi_seqK (K := K) rfl (pe_ix (ix_anyK (K := K) rfl hu1) (pe_ix (ix_anyK (K := K) rfl hu1) (pe_fldK (K := K) rfl (pv 0) rfl) (pv 1) (fun _ _ => rfl)) pe_int (fun _ _ => rfl))) (pg_name (i := 3) nd rfl (Or.inl rfl))
      (pss_one (ps_asg (pe_lst pa_nil) (pg_sub (pv 5) (pv 3) (set_any hu1)))))
      (pss_one (ps_ret (pmkK (K := K) rfl T.k_State G_State_init hr (takes_of rfl rfl rfl rfl) (pa_cons (pv 2) (pa_cons (pv 5) (pa_cons pe_int (pa_cons pe_int pa_nil))))))))))), ?_⟩
    refine go_start (σ' := [some (.ref pm), some (.int (i : Int)), none, none, none, none]) rfl ?_
    obtain ⟨dxm, lm, hpm, hDm⟩ := hM.there
    have eG := hH.ex
    have hmi : (ms.map Mach.data)[i]? = some m.data := by rw [List.getElem?_map, hm]; rfl
    walk_at "we"
    refine go_dK fun b hb => ?_
    have z1 := hH.new hb (φ := Eq (.dK (boxesV []))) rfl
    walk_at "we"
    refine go_fldL (z1.ex _ _ hpm) T.c_Model T.n_Model_machines lk_Model_machines ?_
    walk_at "we"
    refine go_gL z1.ex hDm (n := i) rfl hmi fun vm hvm => ?_
    unfold Mach.data at hvm
    walk_at "we"
    refine go_gT z1.ex hvm (n := 1) rfl rfl fun vb hvb => ?_
    obtain ⟨lb, bs, rfl, hlb, hbs⟩ := dp_lst hvb
    have hbl := dpa_len hbs
    rw [List.length_map] at hbl
    walk_at "we"
    refine go_sqL (ext_l z1.ex hlb) ?_
    refine loop_l (xs := bs) (fun j σ H' => ∃ v1 v2, σ = [some (.ref pm), some (.int (i : Int)), some (.ref b), v1, v2, none] ∧ Ext H H' ∧ Hd G H' ((b, Eq (.dK (boxesV (m.boxes.take j)))) :: L))
      ⟨none, none, rfl, Ext.new hb, z1⟩ ?_ ?_ ?_
    · rintro j σ' H' _ ⟨v1, v2, _, e1, e2⟩
      exact ext_l e2.ex hlb
    · rintro j x σ' H' hj ⟨v1, v2, rfl, e1, e2⟩
      obtain ⟨d, hd1, hd2⟩ := dpa_get' hbs hj
      rw [List.getElem?_map] at hd1
      cases hbx : m.boxes[j]? with
      | none => rw [hbx] at hd1; cases hd1
      | some bx =>
        rw [hbx] at hd1
        obtain rfl := Option.some.inj hd1
        unfold boxD at hd2
        obtain ⟨t, ts, rfl, ht, hts⟩ := dp_tup hd2
        cases hts with
        | cons f1 hts => cases hts with
          | cons f2 hts =>
            cases hts
            obtain rfl := dp_str f1
            obtain rfl := dp_int f2
            have hlt : j < m.boxes.length := (List.getElem?_eq_some_iff.mp hbx).1
            have hnin : bx.1 ∉ (m.boxes.take j).map (·.1) := by
              rw [List.map_take]
              exact nodup_take hnd.boxes (by rw [List.getElem?_map, hbx]; rfl)
            refine go_gtup (ext_t e2.ex ht) rfl ?_
            walk_at "we"
            refine go_setK (e2.eq List.mem_cons_self) (by unfold boxesV; rw [List.length_map, List.length_take, sizeLine_eq]; have := hsm.boxes; omega) ?_
            rw [boxesV_put hnin]
            refine ⟨_, _, rfl, e1.put hb, ?_⟩
            have et : m.boxes.take j ++ [(bx.1, bx.2)] = m.boxes.take (j + 1) := by rw [List.take_add_one, hbx]; rfl
            rw [et]
            exact e2.set 0 rfl rfl
    · rintro σ' H1 ⟨v1, v2, rfl, e1, e2⟩
      rw [hbl, List.take_of_length_le (Nat.le_refl _)] at e2
      walk_at "we"
      refine go_dK fun c hc => ?_
      have z2 := e2.new hc (φ := Eq (.dK (queuesV [] []))) rfl
      have hcH := e1.free hc
      walk_at "we"
      refine go_fldL (z2.ex _ _ hpm) T.c_Model T.n_Model_machines lk_Model_machines ?_
      walk_at "we"
      refine go_gL z2.ex hDm (n := i) rfl hmi fun vm' hvm' => ?_
      unfold Mach.data at hvm'
      walk_at "we"
      refine go_gT z2.ex hvm' (n := 2) rfl rfl fun vq hvq => ?_
      obtain ⟨lq, qs, rfl, hlq, hqs⟩ := dp_lst hvq
      obtain rfl := dpa_strs' hqs
      walk_at "we"
      refine go_sqL (ext_l z2.ex hlq) ?_
      refine loop_l (xs := m.queues.map V.str) (fun j σ H' => ∃ v1 v2 as, σ = [some (.ref pm), some (.int (i : Int)), some (.ref b), v1, v2, some (.ref c)] ∧ as.length = min j m.queues.length ∧ Ext H H' ∧
          Hd G H' ((c, Eq (.dK (queuesV ((m.queues.take j).map fun q => (q, [])) as))) :: (b, Eq (.dK (boxesV m.boxes))) :: ((((m.queues.take j).map fun q => (q, ([] : List Int))).zip as).map fun e => (e.2, Eq (HO.lst (e.1.2.map V.int)))) ++ L))
        ⟨_, _, [], rfl, by simp, e1.trans (Ext.new hc), z2⟩ ?_ ?_ ?_
      · rintro j σ' H' _ ⟨v1, v2, as, _, _, _, e4⟩
        exact ext_l e4.ex hlq
      · rintro j x σ' H' hj ⟨v1, v2, as, rfl, hal, e3, e4⟩
        rw [List.getElem?_map] at hj
        cases hqx : m.queues[j]? with
        | none => rw [hqx] at hj; cases hj
        | some qx =>
          rw [hqx] at hj
          obtain rfl := Option.some.inj hj
          have hlt : j < m.queues.length := (List.getElem?_eq_some_iff.mp hqx).1
          have htl : (m.queues.take j).length = as.length := by rw [List.length_take, hal]
          have hnin : qx ∉ ((m.queues.take j).map fun q => (q, ([] : List Int))).map (·.1) := by
            rw [List.map_map]
            have ee : ((·.1) ∘ fun q => (q, ([] : List Int))) = (id : Str → Str) := rfl
            rw [ee, List.map_id]
            exact nodup_take hnd.queues hqx
          walk_at "we"
          refine go_sz rfl fun z hz => ?_
          walk_at "we"
          have z3 := e4.new hz (φ := Eq (.lst [])) rfl
          refine go_setK (z3.eq (List.mem_cons_of_mem _ List.mem_cons_self)) (by unfold queuesV; rw [List.length_map, List.length_zip, List.length_map, List.length_take, sizeLine_eq]; have := hsm.queues; omega) ?_
          rw [queuesV_put (ns := []) (by rw [List.length_map]; exact htl) hnin]
          have et : ((m.queues.take j).map fun q => (q, ([] : List Int))) ++ [(qx, [])] = (m.queues.take (j + 1)).map fun q => (q, []) := by rw [List.take_add_one, hqx, List.map_append]; rfl
          rw [et]
          refine ⟨_, _, as ++ [z], rfl, by rw [List.length_append, hal, List.length_singleton]; omega, (e3.trans (Ext.new hz)).put hcH, ?_⟩
          have z4 := z3.set (o' := .dK (queuesV ((m.queues.take (j + 1)).map fun q => (q, [])) (as ++ [z]))) (ψ := Eq (.dK (queuesV ((m.queues.take (j + 1)).map fun q => (q, [])) (as ++ [z])))) 1 rfl rfl
          refine z4.perm ?_
          rw [← et, List.zip_append (by rw [List.length_map]; exact htl), List.map_append]
          simp only [List.cons_append, List.set_cons_succ, List.set_cons_zero, List.append_assoc]
          exact (perm_back _ _ _ _ _).symm
      · rintro σ' H2 ⟨v1, v2, as, rfl, hal, e3, e4⟩
        rw [List.length_map, List.take_of_length_le (Nat.le_refl _)] at e4
        rw [List.length_map] at hal
        walk_at "we"
        intro p dx np ndx nex
        refine ⟨p, dx, _, _, _, _, rfl, upd_same, ?_⟩
        refine ⟨rfl, ?_⟩
        rw [upd_upd]
        refine q p dx b c as _ (by omega) (e3.trans (Ext.made np ndx)) ?_
        have z5 := e4.made (φ := Eq (.ins (He.ga K "State") dx (fl_State (.ref b) (.ref c) (.int 0) (.int 0)))) np ndx nex rfl
        unfold StC vo
        simp only [List.map_cons, List.map_map, List.cons_append]
        simp only [List.cons_append] at z5
        exact z5.perm (.cons _ (.swap _ _ _))
end
end Mo
namespace Mo
open PySem PySem.Spec PyProof.Rows L2
/-! ### formulas.py -/
/-- a fault's exception -/
def fltE (K : PySem.W.Frag) (x : Flt) : Value := .ref (He.ga K x.cls)
def spKept (K : PySem.W.Frag) : Sp := fun vs H Q E => ∃ n : Int, vs = [.int n] ∧ (∀ m, keptIn n = .ok m → Q (.int m) H) ∧ (∀ x, keptIn n = .error x → E (fltE K x) none H)
def spOfTwo (K : PySem.W.Frag) : Sp := fun vs H Q E => ∃ (o : Op) (a b : Int), vs = [.str o.name, .int a, .int b] ∧ Worth a ∧ Worth b ∧ (∀ m, o.raw a b = .ok m → Q (.int m) H) ∧ (∀ x, o.raw a b = .error x → E (fltE K x) none H)
def spWorthOf (n : Nat) (K : PySem.W.Frag) : Sp := fun vs H Q E => ∃ (x : V) (f : Fm) (p g : Addr) (s : MSt) (now g0 g1 : Int), vs = [x, .ref p, .int now, .ref g] ∧ Dp K H x f.data ∧ f.depth < n ∧ StAt K H p s ∧
  SqL K H g [.int g0, .int g1] ∧ f.Ok s.bs s.qs ∧ (s.env now g0 g1).Ok s.bs s.qs ∧
  (∀ m, f.ev (s.env now g0 g1) = .ok m → Q (.int m) H) ∧ (∀ x, f.ev (s.env now g0 g1) = .error x → E (fltE K x) none H)
section
variable {P : Program} {w : World} {K : PySem.W.Frag} {mg : Str → Option Value} {base : Heap}
theorem ok_kept_in (T : Tx K mg) : OkG P w K mg base 1 "kept_in" ["number"] (spKept K) := by
  refine T.f_kept_in.okX sc_kept_in (fun vs H Q E h => ?_) (fun cdv A outer s H vs Q E hr h => ?_)
  · obtain ⟨n, rfl, _⟩ := h
    rfl
  · have hu1 := hu_of hr; have hu0 := hr.units0; have hu64 := hr.units; have hu65 := hu65_of hr; have nd := sc_kept_in.nd
    obtain ⟨n, rfl, q1, q2⟩ := h
    refine ⟨_, (pss_cons (ps_if (PW.pt (pw_or (pt_cmpR (op_ltK (K := K) rfl hu0) (pv 0) (pe_un un_neg (T.v_MOST)) (nomark _)) (pw_or1 (pt_cmpR (op_gt) (pv 0) (T.v_MOST) (nomark _))))) (pss_one (ps_raise rfl (takes_of rfl rfl rfl rfl) (mk_Great T rfl rfl)))
      pss_nil)
      (pss_one (ps_ret (pv 0)))), ?_⟩
    refine go_start (σ' := [some (.int n)]) rfl ?_
    walk_at "w"
    refine go_ite (fun h => ?_) (fun h => ?_)
    · exact q2 .great (by unfold keptIn; rw [if_pos (.inl h)])
    · walk_at "w"
      refine go_ite (fun h2 => ?_) (fun h2 => ?_)
      · exact q2 .great (by unfold keptIn; rw [if_pos (.inr h2)])
      · walk_at "w"
        exact q1 _ (by unfold keptIn; rw [if_neg (by intro z; rcases z with z | z; exact h z; exact h2 z)])
theorem ok_of_two (T : Tx K mg) : OkG P w K mg base 1 "of_two" ["word", "one", "other"] (spOfTwo K) := by
  refine T.f_of_two.okX sc_of_two (fun vs H Q E h => ?_) (fun cdv A outer s H vs Q E hr h => ?_)
  · obtain ⟨o, a, b, rfl, _⟩ := h
    rfl
  · have hu1 := hu_of hr; have hu0 := hr.units0; have hu64 := hr.units; have hu65 := hu65_of hr; have nd := sc_of_two.nd
    obtain ⟨o, a, b, rfl, wa, wb, q1, q2⟩ := h
    refine ⟨_, (pss_cons (ps_if (pt_cmpR (op_eqK (K := K) rfl hu64) (pv 0) pe_str (nomark _)) (pss_one (ps_ret (pe_op (op_addK (K := K) rfl) (pv 1) (pv 2))))
      pss_nil)
      (pss_cons (ps_if (pt_cmpR (op_eqK (K := K) rfl hu64) (pv 0) pe_str (nomark _)) (pss_one (ps_ret (pe_op op_sub (pv 1) (pv 2))))
      pss_nil)
      (pss_cons (ps_if (pt_cmpR (op_eqK (K := K) rfl hu64) (pv 0) pe_str (nomark _)) (pss_one (ps_ret (pe_op op_mulX (pv 1) (pv 2))))
      pss_nil)
      (pss_cons (ps_if (pt_cmpR (op_eqK (K := K) rfl hu64) (pv 0) pe_str (nomark _)) (pss_one (ps_ret (pe_callTy call_int1 (by rfl) T.b_int (by decide +kernel) (pa_cons (pe_cmpR (op_ltK (K := K) rfl hu0) (pv 1) (pv 2) (nomark _)) pa_nil))))
      pss_nil)
      (pss_cons (ps_if (pt_cmpR (op_eqK (K := K) rfl hu64) (pv 0) pe_str (nomark _)) (pss_one (ps_ret (pe_callTy call_int1 (by rfl) T.b_int (by decide +kernel) (pa_cons (pe_cmpR (op_eqK (K := K) rfl hu64) (pv 1) (pv 2) (nomark _)) pa_nil))))
      pss_nil)
      (pss_cons (ps_if (pt_cmpR (op_eqK (K := K) rfl hu64) (pv 2) pe_int (nomark _)) (pss_one (ps_raise rfl (takes_of rfl rfl rfl rfl) (mk_Nought T rfl rfl)))
      pss_nil)
      (pss_cons (ps_if (pt_cmpR (op_eqK (K := K) rfl hu64) (pv 0) pe_str (nomark _)) (pss_one (ps_ret (pe_op op_fdivX (pv 1) (pv 2))))
      pss_nil)
      (pss_one (ps_ret (pe_op op_modX (pv 1) (pv 2))))))))))), ?_⟩
    refine go_start (σ' := [some (.str o.name), some (.int a), some (.int b)]) rfl ?_
    have ei : ∀ (p : Prop) [Decidable p], (if decide p = true then (1 : Int) else 0) = if p then 1 else 0 := fun p _ => by by_cases h : p <;> simp [h]
    cases o <;> dsimp only [Op.name] <;> walk_at "we"
    · exact q1 _ rfl
    · exact q1 _ rfl
    · exact go_I ((worth_bd wa).cmul (worth_bd wb)) (q1 _ rfl)
    · refine go_ite (fun h => ?_) (fun h => ?_)
      · exact q2 .nought (if_pos h)
      · walk_at "we"
        exact go_div 50 h (worth_bd wb) (q1 _ (if_neg h))
    · refine go_ite (fun h => ?_) (fun h => ?_)
      · exact q2 .nought (if_pos h)
      · walk_at "we"
        exact go_mod h (q1 _ (if_neg h))
    · rw [ei]
      exact q1 _ rfl
    · rw [ei]
      exact q1 _ rfl
theorem stAt_env {H : Hp} {p : Addr} {s : MSt} (h : StAt K H p s) : ∃ dx b q, H p = some (.ins (He.ga K "State") dx (fl_State (.ref b) (.ref q) (.int s.drawn) (.int s.sent))) ∧ H b = some (.dK (boxesV s.boxes)) ∧
    ∃ as, H q = some (.dK (queuesV s.queues as)) ∧ ∀ x ∈ s.qs, ∃ a, valV (queuesV s.queues as) (Sum.inr x) = some (.ref a) ∧ H a = some (.lst ((lookD [] x s.queues).map V.int)) := by
  obtain ⟨dx, b, q, as, hl, hi⟩ := h.there
  refine ⟨dx, b, q, hi _ (List.mem_cons_self), hi _ (List.mem_cons_of_mem _ List.mem_cons_self), as, hi _ (List.mem_cons_of_mem _ (List.mem_cons_of_mem _ List.mem_cons_self)), fun x hx => ?_⟩
  obtain ⟨i, a, h1, h2, h3⟩ := val_queues hl hx
  refine ⟨a, h3, hi (a, _) (List.mem_cons_of_mem _ (List.mem_cons_of_mem _ (List.mem_cons_of_mem _ ?_)))⟩
  refine List.mem_map.mpr ⟨((x, lookD [] x s.queues), a), ?_, rfl⟩
  have e : (s.queues.zip as)[i]? = some ((x, lookD [] x s.queues), a) := by rw [List.getElem?_zip_eq_some]; exact ⟨h1, h2⟩
  exact List.mem_of_getElem? e
theorem ok_worth_of (T : Tx K mg) : ∀ n, OkG P w K mg base (n + 2) "worth_of" ["formula", "state", "now", "got"] (spWorthOf n K) := by
  have G_kept_in := ok_kept_in (P := P) (w := w) (base := base) T
  have G_of_two := ok_of_two (P := P) (w := w) (base := base) T
  intro n
  induction n with
  | zero =>
    refine T.f_worth_of.okX sc_worth_of (fun vs H Q E h => ?_) (fun cdv A outer s H vs Q E hr h => ?_)
    · obtain ⟨x, f, p, g, s, now, g0, g1, rfl, _⟩ := h
      rfl
    · obtain ⟨x, f, p, g, s, now, g0, g1, rfl, hx, hd, _⟩ := h
      exact absurd hd (Nat.not_lt_zero _)
  | succ n G_worth_of =>
    refine T.f_worth_of.okX sc_worth_of (fun vs H Q E h => ?_) (fun cdv A outer s H vs Q E hr h => ?_)
    · obtain ⟨x, f, p, g, s, now, g0, g1, rfl, _⟩ := h
      rfl
    · have hu1 := hu_of hr; have hu0 := hr.units0; have hu64 := hr.units; have hu65 := hu65_of hr; have nd := sc_worth_of.nd
      obtain ⟨x, f, p, g, s, now, g0, g1, rfl, hx, hd, hs, hg, hf, he, q1, q2⟩ := h
      refine ⟨_, (pss_cons (ps_set (i := 4) nd rfl (Or.inl rfl) (pe_ix (ix_anyK (K := K) rfl hu1) (pv 0) pe_int (fun _ _ => rfl)))
      (pss_cons (ps_if (pt_cmpR (op_eqK (K := K) rfl hu64) (pv 4) pe_str (nomark _)) (pss_one (ps_ret (pe_ix (ix_anyK (K := K) rfl hu1) (pv 0) pe_int (fun _ _ => rfl))))
      pss_nil)
      (pss_cons (ps_if (pt_cmpR (op_eqK (K := K) rfl hu64) (pv 4) pe_str (nomark _)) (pss_one (ps_ret (pe_ix (ix_anyK (K := K) rfl hu1) (pe_fldK (K := K) rfl (pv 1) rfl) (pe_ix (ix_anyK (K := K) rfl hu1) (pv 0) pe_int (fun _ _ => rfl)) (fun _ _ => rfl))))
      pss_nil)
      (pss_cons (ps_if (pt_cmpR (op_eqK (K := K) rfl hu64) (pv 4) pe_str (nomark _)) (pss_one (ps_ret (pe_callB (call_lenK (K := K) rfl) (by rfl) T.b_len (by decide +kernel) (pa_cons (pe_ix (ix_anyK (K := K) rfl hu1) (pe_fldK (K := K) rfl (pv 1) rfl) (pe_ix (ix_anyK (K := K) rfl hu1) (pv 0) pe_int (fun _ _ => rfl)) (fun _ _ => rfl)) pa_nil))))
      pss_nil)
      (pss_cons (ps_if (pt_cmpR (op_eqK (K := K) rfl hu64) (pv 4) pe_str (nomark _)) (pss_one (ps_ret (pe_ix (ix_anyK (K := K) rfl hu1) (pv 3) (pe_ix (ix_anyK (K := K) rfl hu1) (pv 0) pe_int (fun _ _ => rfl)) (fun _ _ => rfl))))
      pss_nil)
      (pss_cons (ps_if (pt_cmpR (op_eqK (K := K) rfl hu64) (pv 4) pe_str (nomark _)) (pss_one (ps_ret (pv 2)))
      pss_nil)
      (pss_cons (ps_set (i := 5) nd rfl (Or.inl rfl) (pcl T.g_worth_of G_worth_of hr (takes_of rfl rfl rfl rfl) (pa_cons (pe_ix (ix_anyK (K := K) rfl hu1) (pv 0) pe_int (fun _ _ => rfl)) (pa_cons (pv 1) (pa_cons (pv 2) (pa_cons (pv 3) pa_nil))))))
      (pss_one (ps_ret (pcl T.g_kept_in G_kept_in hr (takes_of rfl rfl rfl rfl) (pa_cons (pcl T.g_of_two G_of_two hr (takes_of rfl rfl rfl rfl) (pa_cons (pv 4) (pa_cons (pv 5) (pa_cons (pcl T.g_worth_of G_worth_of hr (takes_of rfl rfl rfl rfl) (pa_cons (pe_ix (ix_anyK (K := K) rfl hu1) (pv 0) pe_int (fun _ _ => rfl)) (pa_cons (pv 1) (pa_cons (pv 2) (pa_cons (pv 3) pa_nil))))) pa_nil)))) pa_nil))))))))))), ?_⟩
      refine go_start (σ' := [some x, some (.ref p), some (.int now), some (.ref g), none, none]) rfl ?_
      obtain ⟨dx, b, q, hp, hb, as, hq, hqs⟩ := stAt_env hs
      cases f with
      | num m =>
        walk_at "we"
        refine go_subDT hx (n := 0) rfl rfl fun v hv => ?_
        obtain rfl := dp_str hv
        walk_at "we"
        refine go_subDT hx (n := 1) rfl rfl fun v hv => ?_
        obtain rfl := dp_int hv
        walk_at "we"
        exact q1 _ rfl
      | box y =>
        walk_at "we"
        refine go_subDT hx (n := 0) rfl rfl fun v hv => ?_
        obtain rfl := dp_str hv
        walk_at "we"
        refine go_fldL hp T.c_State T.n_State_boxes lk_State_boxes ?_
        walk_at "we"
        refine go_subDT hx (n := 1) rfl rfl fun v hv => ?_
        obtain rfl := dp_str hv
        walk_at "we"
        refine go_subK hb (val_boxes hf) ?_
        exact q1 _ rfl
      | long y =>
        walk_at "we"
        refine go_subDT hx (n := 0) rfl rfl fun v hv => ?_
        obtain rfl := dp_str hv
        walk_at "we"
        refine go_fldL hp T.c_State T.n_State_queues lk_State_queues ?_
        walk_at "we"
        refine go_subDT hx (n := 1) rfl rfl fun v hv => ?_
        obtain rfl := dp_str hv
        walk_at "we"
        obtain ⟨a, h1, h2⟩ := hqs y hf
        refine go_subK hq h1 ?_
        walk_at "we"
        refine go_lenL (SqL.of h2) ?_
        rw [List.length_map]
        exact q1 _ rfl
      | got j =>
        walk_at "we"
        refine go_subDT hx (n := 0) rfl rfl fun v hv => ?_
        obtain rfl := dp_str hv
        walk_at "we"
        refine go_subDT hx (n := 1) rfl rfl fun v hv => ?_
        obtain rfl := dp_int hv
        walk_at "we"
        have hj : j < 2 := hf
        refine go_subL hg (v := .int ((s.env now g0 g1).got j)) (atI_nat ?_) ?_
        · match j, hj with
          | 0, _ => rfl
          | 1, _ => rfl
        · exact q1 _ rfl
      | now =>
        walk_at "we"
        refine go_subDT hx (n := 0) rfl rfl fun v hv => ?_
        obtain rfl := dp_str hv
        walk_at "we"
        exact q1 _ rfl
      | two o f1 f2 =>
        have hd2 : max f1.depth f2.depth + 1 < n + 1 := hd
        have hf1 : f1.Ok s.bs s.qs := hf.1
        have hf2 : f2.Ok s.bs s.qs := hf.2
        have eE : ∀ r, (Fm.two o f1 f2).ev (s.env now g0 g1) = r ↔ (match f1.ev (s.env now g0 g1) with
          | .error x => .error x
          | .ok a => match f2.ev (s.env now g0 g1) with
            | .error x => .error x
            | .ok b => o.ev a b) = r := fun r => Iff.rfl
        have on : ∀ z ∈ (["number", "box", "long", "got", "now"] : List Str), o.name ≠ z := by cases o <;> decide +kernel
        walk_at "we"
        refine go_subDT hx (n := 0) rfl rfl fun v hv => ?_
        obtain rfl := dp_str hv
        walk_at "we"
        refine go_eqsF (on _ (by simp)) ?_
        walk_at "we"
        refine go_eqsF (on _ (by simp)) ?_
        walk_at "we"
        refine go_eqsF (on _ (by simp)) ?_
        walk_at "we"
        refine go_eqsF (on _ (by simp)) ?_
        walk_at "we"
        refine go_eqsF (on _ (by simp)) ?_
        walk_at "we"
        refine go_subDT hx (n := 1) rfl rfl fun v1 hv1 => ?_
        walk_at "we"
        refine ⟨v1, f1, p, g, s, now, g0, g1, rfl, hv1, by omega, hs, hg, hf1, he, fun a e1 => ?_, fun x e1 => ?_⟩
        · walk_at "we"
          refine go_subDT hx (n := 2) rfl rfl fun v2 hv2 => ?_
          walk_at "we"
          refine ⟨v2, f2, p, g, s, now, g0, g1, rfl, hv2, by omega, hs, hg, hf2, he, fun b e2 => ?_, fun x e2 => ?_⟩
          · walk_at "we"
            refine ⟨o, a, b, rfl, Fm.ev_worth he hf1 e1, Fm.ev_worth he hf2 e2, fun c e3 => ?_, fun x e3 => ?_⟩
            · walk_at "we"
              have eo : o.ev a b = keptIn c := by unfold Op.ev; rw [e3]
              refine ⟨c, rfl, fun d e4 => ?_, fun x e4 => ?_⟩
              · exact q1 _ ((eE _).mpr (by rw [e1, e2]; exact eo.trans e4))
              · exact q2 _ ((eE _).mpr (by rw [e1, e2]; exact eo.trans e4))
            · exact q2 _ ((eE _).mpr (by rw [e1, e2]; show o.ev a b = _; unfold Op.ev; rw [e3]))
          · exact q2 _ ((eE _).mpr (by rw [e1, e2]))
        · exact q2 _ ((eE _).mpr (by rw [e1]))
end
end Mo
namespace Mo
open PySem PySem.Spec PyProof.Rows L2
/-! ### what the law reckons of a formula -/
/-- what is told: a worth, or a fault's word -/
def rv : Except Flt Int → V
  | .ok n => .int n
  | .error x => .str x.word
def Op.all : List Op := [.plus, .less, .times, .part, .rest, .below, .same]
theorem Fm.ev_err {e : Env} : ∀ {f : Fm} {x : Flt}, f.ev e = .error x → x = .nought ∨ x = .great
  | .num m, n, q => by cases q
  | .box x, n, q => by cases q
  | .long x, n, q => by cases q
  | .got j, n, q => by cases q
  | .now, n, q => by cases q
  | .two o f g, n, q => by
    unfold Fm.ev at q
    cases h1 : f.ev e with
    | error x => rw [h1] at q; cases q; exact ev_err h1
    | ok a =>
      rw [h1] at q
      cases h2 : g.ev e with
      | error x => rw [h2] at q; cases q; exact ev_err h2
      | ok b =>
        rw [h2] at q
        have q' : o.ev a b = .error n := q
        unfold Op.ev at q'
        cases h3 : o.raw a b with
        | error x =>
          rw [h3] at q'
          cases q'
          unfold Op.raw at h3
          split at h3 <;> try cases h3
          all_goals
            split at h3
            · cases h3
              exact .inl rfl
            · cases h3
        | ok c =>
          rw [h3] at q'
          have q2 : keptIn c = .error n := q'
          unfold keptIn at q2
          split at q2
          · cases q2
            exact .inr rfl
          · cases q2
def spTwo : Sp := fun vs H Q _ => ∃ (o : Op) (a b : Int), vs = [.str o.name, .int a, .int b] ∧ Worth a ∧ Worth b ∧ ∀ H', Ext H H' → Q (rv (o.raw a b)) H'
def spReckoned (n : Nat) (K : PySem.W.Frag) : Sp := fun vs H Q _ => ∃ (x : V) (f : Fm) (b qd g : Addr) (as : List Addr) (s : MSt) (now g0 g1 : Int), vs = [x, .ref b, .ref qd, .int now, .ref g] ∧ Dp K H x f.data ∧ f.depth < n ∧
  H b = some (.dK (boxesV s.boxes)) ∧ H qd = some (.dK (queuesV s.queues as)) ∧ (∀ x ∈ s.qs, ∃ a, valV (queuesV s.queues as) (Sum.inr x) = some (.ref a) ∧ H a = some (.lst ((lookD [] x s.queues).map V.int))) ∧
  SqL K H g [.int g0, .int g1] ∧ f.Ok s.bs s.qs ∧ (s.env now g0 g1).Ok s.bs s.qs ∧ ∀ H', Ext H H' → Q (rv (f.ev (s.env now g0 g1))) H'
section
variable {P : Program} {w : World} {K : PySem.W.Frag} {mg : Str → Option Value} {base : Heap}
theorem ok__law_two (T : Tx K mg) : OkG P w K mg base 1 "_law_two" ["_law_word", "_law_one", "_law_other"] spTwo := by
  refine T.f__law_two.okX sc__law_two (fun vs H Q E h => ?_) (fun cdv A outer s H vs Q E hr h => ?_)
  · obtain ⟨o, a, b, rfl, _⟩ := h
    rfl
  · have hu1 := hu_of hr; have hu0 := hr.units0; have hu64 := hr.units; have hu65 := hu65_of hr; have nd := sc__law_two.nd
    obtain ⟨o, a, b, rfl, wa, wb, q⟩ := h
    refine ⟨_, (pss_cons (ps_if (pt_cmpR (op_eqK (K := K) rfl hu64) (pv 0) pe_str (nomark _)) (pss_one (ps_ret (pe_op (op_addK (K := K) rfl) (pv 1) (pv 2))))
      pss_nil)
      (pss_cons (ps_if (pt_cmpR (op_eqK (K := K) rfl hu64) (pv 0) pe_str (nomark _)) (pss_one (ps_ret (pe_op op_sub (pv 1) (pv 2))))
      pss_nil)
      (pss_cons (ps_if (pt_cmpR (op_eqK (K := K) rfl hu64) (pv 0) pe_str (nomark _)) (pss_one (ps_ret (pe_op op_mulX (pv 1) (pv 2))))
      pss_nil)
      (pss_cons (ps_if (pt_cmpR (op_eqK (K := K) rfl hu64) (pv 0) pe_str (nomark _)) (pss_one (ps_ret (pe_callTy call_int1 (by rfl) T.b_int (by decide +kernel) (pa_cons (pe_cmpR (op_ltK (K := K) rfl hu0) (pv 1) (pv 2) (nomark _)) pa_nil))))
      pss_nil)
      (pss_cons (ps_if (pt_cmpR (op_eqK (K := K) rfl hu64) (pv 0) pe_str (nomark _)) (pss_one (ps_ret (pe_callTy call_int1 (by rfl) T.b_int (by decide +kernel) (pa_cons (pe_cmpR (op_eqK (K := K) rfl hu64) (pv 1) (pv 2) (nomark _)) pa_nil))))
      pss_nil)
      (pss_cons (ps_if (pt_cmpR (op_eqK (K := K) rfl hu64) (pv 2) pe_int (nomark _)) (pss_one (ps_ret pe_str))
      pss_nil)
      (pss_cons (ps_set (i := 3) nd rfl (Or.inl rfl) (pe_op op_fdivX (pv 1) (pv 2)))
      (pss_one (ps_ret (pe_ix (ix_anyK (K := K) rfl hu1) (pe_lst (pa_cons (pv 3) (pa_cons (pe_op op_sub (pv 1) (pe_op op_mulX (pv 2) (pv 3))) pa_nil))) (pe_callTy call_int1 (by rfl) T.b_int (by decide +kernel) (pa_cons (pe_cmpR (op_eqK (K := K) rfl hu64) (pv 0) pe_str (nomark _)) pa_nil)) (fun _ _ => rfl))))))))))), ?_⟩
    refine go_start (σ' := [some (.str o.name), some (.int a), some (.int b), none]) rfl ?_
    have ei : ∀ (p : Prop) [Decidable p], (if decide p = true then (1 : Int) else 0) = if p then 1 else 0 := fun p _ => by by_cases h : p <;> simp [h]
    have hlt : ∀ z : Int, z.natAbs ≤ a.natAbs → Bd 50 z := fun z hz => Nat.lt_of_le_of_lt hz (worth_bd wa)
    cases o <;> dsimp only [Op.name] <;> walk_at "we"
    · exact q H (Ext.refl H)
    · exact q H (Ext.refl H)
    · exact go_I ((worth_bd wa).cmul (worth_bd wb)) (q H (Ext.refl H))
    · refine go_ite (fun h => ?_) (fun h => ?_)
      · have e : Op.part.raw a b = .error .nought := if_pos h
        rw [e] at q
        exact q H (Ext.refl H)
      · have e : Op.part.raw a b = .ok (a.fdiv b) := if_neg h
        rw [e] at q
        walk_at "we"
        refine go_div 50 h (worth_bd wb) ?_
        walk_at "we"
        refine go_I ((worth_bd wb).cmul (hlt _ (Int.natAbs_fdiv_le_natAbs a b))) ?_
        walk_at "we"
        refine go_sz rfl fun p hp => ?_
        walk_at "we"
        refine go_subL (SqL.of upd_same) (by exact rfl) ?_
        exact q _ (Ext.new hp)
    · refine go_ite (fun h => ?_) (fun h => ?_)
      · have e : Op.rest.raw a b = .error .nought := if_pos h
        rw [e] at q
        exact q H (Ext.refl H)
      · have e : Op.rest.raw a b = .ok (a.fmod b) := if_neg h
        rw [e] at q
        walk_at "we"
        refine go_div 50 h (worth_bd wb) ?_
        walk_at "we"
        refine go_I ((worth_bd wb).cmul (hlt _ (Int.natAbs_fdiv_le_natAbs a b))) ?_
        walk_at "we"
        refine go_sz rfl fun p hp => ?_
        walk_at "we"
        refine go_subL (SqL.of upd_same) (by exact rfl) ?_
        have e2 : a - b * a.fdiv b = a.fmod b := (Int.fmod_def a b).symm
        rw [e2]
        exact q _ (Ext.new hp)
    · rw [ei]
      exact q H (Ext.refl H)
    · rw [ei]
      exact q H (Ext.refl H)
theorem abs_gt (n : Int) : 1000000000000000 < (if n < 0 then -n else n) ↔ (n < -1000000000000000 ∨ 1000000000000000 < n) := by
  split <;> omega
theorem ok__law_reckoned (T : Tx K mg) : ∀ n, OkG P w K mg base (n + 2) "_law_reckoned" ["_law_formula", "_law_boxes", "_law_queues", "_law_now", "_law_got"] (spReckoned n K) := by
  have G__law_two := ok__law_two (P := P) (w := w) (base := base) T
  intro n
  induction n with
  | zero =>
    refine T.f__law_reckoned.okX sc__law_reckoned (fun vs H Q E h => ?_) (fun cdv A outer s H vs Q E hr h => ?_)
    · obtain ⟨x, f, b, qd, g, as, s, now, g0, g1, rfl, _⟩ := h
      rfl
    · obtain ⟨x, f, b, qd, g, as, s, now, g0, g1, rfl, hx, hd, _⟩ := h
      exact absurd hd (Nat.not_lt_zero _)
  | succ n G__law_reckoned =>
    refine T.f__law_reckoned.okX sc__law_reckoned (fun vs H Q E h => ?_) (fun cdv A outer s H vs Q E hr h => ?_)
    · obtain ⟨x, f, b, qd, g, as, s, now, g0, g1, rfl, _⟩ := h
      rfl
    · have hu1 := hu_of hr; have hu0 := hr.units0; have hu64 := hr.units; have hu65 := hu65_of hr; have nd := sc__law_reckoned.nd
      obtain ⟨x, f, b, qd, g, as, s, now, g0, g1, rfl, hx, hd, hb, hq, hqs, hg, hf, he, q⟩ := h
      refine ⟨_, (pss_cons (ps_if (pt_cmpR (op_eqK (K := K) rfl hu64) (pe_ix (ix_anyK (K := K) rfl hu1) (pv 0) pe_int (fun _ _ => rfl)) pe_str (nomark _)) (pss_one (ps_ret (pe_ix (ix_anyK (K := K) rfl hu1) (pv 0) pe_int (fun _ _ => rfl))))
      pss_nil)
      (pss_cons (ps_if (pt_cmpR (op_eqK (K := K) rfl hu64) (pe_ix (ix_anyK (K := K) rfl hu1) (pv 0) pe_int (fun _ _ => rfl)) pe_str (nomark _)) (pss_one (ps_ret (pe_ix (ix_anyK (K := K) rfl hu1) (pv 1) (pe_ix (ix_anyK (K := K) rfl hu1) (pv 0) pe_int (fun _ _ => rfl)) (fun _ _ => rfl))))
      pss_nil)
      (pss_cons (ps_if (pt_cmpR (op_eqK (K := K) rfl hu64) (pe_ix (ix_anyK (K := K) rfl hu1) (pv 0) pe_int (fun _ _ => rfl)) pe_str (nomark _)) (pss_one (ps_ret (pe_callB (call_lenK (K := K) rfl) (by rfl) T.b_len (by decide +kernel) (pa_cons (pe_ix (ix_anyK (K := K) rfl hu1) (pv 2) (pe_ix (ix_anyK (K := K) rfl hu1) (pv 0) pe_int (fun _ _ => rfl)) (fun _ _ => rfl)) pa_nil))))
      pss_nil)
      (pss_cons (ps_if (pt_cmpR (op_eqK (K := K) rfl hu64) (pe_ix (ix_anyK (K := K) rfl hu1) (pv 0) pe_int (fun _ _ => rfl)) pe_str (nomark _)) (pss_one (ps_ret (pe_ix (ix_anyK (K := K) rfl hu1) (pv 4) (pe_ix (ix_anyK (K := K) rfl hu1) (pv 0) pe_int (fun _ _ => rfl)) (fun _ _ => rfl))))
      pss_nil)
      (pss_cons (ps_if (pt_cmpR (op_eqK (K := K) rfl hu64) (pe_ix (ix_anyK (K := K) rfl hu1) (pv 0) pe_int (fun _ _ => rfl)) pe_str (nomark _)) (pss_one (ps_ret (pv 3)))
      pss_nil)
      (pss_cons (ps_set (i := 5) nd rfl (Or.inl rfl) (pcl T.g__law_reckoned G__law_reckoned hr (takes_of rfl rfl rfl rfl) (pa_cons (pe_ix (ix_anyK (K := K) rfl hu1) (pv 0) pe_int (fun _ _ => rfl)) (pa_cons (pv 1) (pa_cons (pv 2) (pa_cons (pv 3) (pa_cons (pv 4) pa_nil)))))))
      (pss_cons (ps_if (pt_truth (pe_callB (call_isiKK (K := K) rfl) (by rfl) T.b_isinstance (by decide +kernel) (pa_cons (pv 5) (pa_cons (pe_bltn (v := .ty "str") (by rfl) T.b_str (by decide +kernel) rfl) pa_nil))) (by intro _; rfl)) (pss_one (ps_ret (pv 5)))
      pss_nil)
      (pss_cons (ps_set (i := 6) nd rfl (Or.inl rfl) (pcl T.g__law_reckoned G__law_reckoned hr (takes_of rfl rfl rfl rfl) (pa_cons (pe_ix (ix_anyK (K := K) rfl hu1) (pv 0) pe_int (fun _ _ => rfl)) (pa_cons (pv 1) (pa_cons (pv 2) (pa_cons (pv 3) (pa_cons (pv 4) pa_nil)))))))
      (pss_cons (ps_if (pt_truth (pe_callB (call_isiKK (K := K) rfl) (by rfl) T.b_isinstance (by decide +kernel) (pa_cons (pv 6) (pa_cons (pe_bltn (v := .ty "str") (by rfl) T.b_str (by decide +kernel) rfl) pa_nil))) (by intro _; rfl)) (pss_one (ps_ret (pv 6)))
      pss_nil)
      (pss_cons (ps_set (i := 7) nd rfl (Or.inl rfl) (pcl T.g__law_two G__law_two hr (takes_of rfl rfl rfl rfl) (pa_cons (pe_ix (ix_anyK (K := K) rfl hu1) (pv 0) pe_int (fun _ _ => rfl)) (pa_cons (pv 5) (pa_cons (pv 6) pa_nil)))))
      (pss_cons (ps_if (PW.pt (pw_and (pt_not (pt_truth (pe_callB (call_isiKK (K := K) rfl) (by rfl) T.b_isinstance (by decide +kernel) (pa_cons (pv 7) (pa_cons (pe_bltn (v := .ty "str") (by rfl) T.b_str (by decide +kernel) rfl) pa_nil))) (by intro _; rfl))) (pw_and1 (pt_cmpR (op_gt) (pe_callB call_abs (by rfl) T.b_abs (by decide +kernel) (pa_cons (pv 7) pa_nil)) (pe_op op_pow pe_int pe_int) (nomark _))))) (pss_one (ps_ret pe_str))
      pss_nil)
      (pss_one (ps_ret (pv 7)))))))))))))), ?_⟩
      refine go_start (σ' := [some x, some (.ref b), some (.ref qd), some (.int now), some (.ref g), none, none, none]) rfl ?_
      cases f with
      | num m =>
        walk_at "we"
        refine go_subDT hx (n := 0) rfl rfl fun v hv => ?_
        obtain rfl := dp_str hv
        walk_at "we"
        refine go_subDT hx (n := 1) rfl rfl fun v hv => ?_
        obtain rfl := dp_int hv
        walk_at "we"
        exact q H (Ext.refl H)
      | box y =>
        walk_at "we"
        refine go_subDT hx (n := 0) rfl rfl fun v hv => ?_
        obtain rfl := dp_str hv
        walk_at "we"
        refine go_subDT hx (n := 0) rfl rfl fun v hv => ?_
        obtain rfl := dp_str hv
        walk_at "we"
        refine go_subDT hx (n := 1) rfl rfl fun v hv => ?_
        obtain rfl := dp_str hv
        walk_at "we"
        refine go_subK hb (val_boxes hf) ?_
        exact q H (Ext.refl H)
      | long y =>
        walk_at "we"
        refine go_subDT hx (n := 0) rfl rfl fun v hv => ?_
        obtain rfl := dp_str hv
        walk_at "we"
        refine go_subDT hx (n := 0) rfl rfl fun v hv => ?_
        obtain rfl := dp_str hv
        walk_at "we"
        refine go_subDT hx (n := 0) rfl rfl fun v hv => ?_
        obtain rfl := dp_str hv
        walk_at "we"
        refine go_subDT hx (n := 1) rfl rfl fun v hv => ?_
        obtain rfl := dp_str hv
        walk_at "we"
        obtain ⟨a, h1, h2⟩ := hqs y hf
        refine go_subK hq h1 ?_
        walk_at "we"
        refine go_lenL (SqL.of h2) ?_
        rw [List.length_map]
        exact q H (Ext.refl H)
      | got j =>
        walk_at "we"
        refine go_subDT hx (n := 0) rfl rfl fun v hv => ?_
        obtain rfl := dp_str hv
        walk_at "we"
        refine go_subDT hx (n := 0) rfl rfl fun v hv => ?_
        obtain rfl := dp_str hv
        walk_at "we"
        refine go_subDT hx (n := 0) rfl rfl fun v hv => ?_
        obtain rfl := dp_str hv
        walk_at "we"
        refine go_subDT hx (n := 0) rfl rfl fun v hv => ?_
        obtain rfl := dp_str hv
        walk_at "we"
        refine go_subDT hx (n := 1) rfl rfl fun v hv => ?_
        obtain rfl := dp_int hv
        walk_at "we"
        have hj : j < 2 := hf
        refine go_subL hg (v := .int ((s.env now g0 g1).got j)) (atI_nat ?_) ?_
        · match j, hj with
          | 0, _ => rfl
          | 1, _ => rfl
        · exact q H (Ext.refl H)
      | now =>
        walk_at "we"
        refine go_subDT hx (n := 0) rfl rfl fun v hv => ?_
        obtain rfl := dp_str hv
        walk_at "we"
        refine go_subDT hx (n := 0) rfl rfl fun v hv => ?_
        obtain rfl := dp_str hv
        walk_at "we"
        refine go_subDT hx (n := 0) rfl rfl fun v hv => ?_
        obtain rfl := dp_str hv
        walk_at "we"
        refine go_subDT hx (n := 0) rfl rfl fun v hv => ?_
        obtain rfl := dp_str hv
        walk_at "we"
        refine go_subDT hx (n := 0) rfl rfl fun v hv => ?_
        obtain rfl := dp_str hv
        walk_at "we"
        exact q H (Ext.refl H)
      | two o f1 f2 =>
        have hd2 : max f1.depth f2.depth + 1 < n + 1 := hd
        have hf1 : f1.Ok s.bs s.qs := hf.1
        have hf2 : f2.Ok s.bs s.qs := hf.2
        have eE : ∀ r, (Fm.two o f1 f2).ev (s.env now g0 g1) = r ↔ (match f1.ev (s.env now g0 g1) with
          | .error x => .error x
          | .ok a => match f2.ev (s.env now g0 g1) with
            | .error x => .error x
            | .ok b => o.ev a b) = r := fun r => Iff.rfl
        have on : ∀ z ∈ (["number", "box", "long", "got", "now"] : List Str), o.name ≠ z := by cases o <;> decide +kernel
        walk_at "we"
        refine go_subDT hx (n := 0) rfl rfl fun v hv => ?_
        obtain rfl := dp_str hv
        walk_at "we"
        refine go_eqsF (on _ (by simp)) ?_
        walk_at "we"
        refine go_subDT hx (n := 0) rfl rfl fun v hv => ?_
        obtain rfl := dp_str hv
        walk_at "we"
        refine go_eqsF (on _ (by simp)) ?_
        walk_at "we"
        refine go_subDT hx (n := 0) rfl rfl fun v hv => ?_
        obtain rfl := dp_str hv
        walk_at "we"
        refine go_eqsF (on _ (by simp)) ?_
        walk_at "we"
        refine go_subDT hx (n := 0) rfl rfl fun v hv => ?_
        obtain rfl := dp_str hv
        walk_at "we"
        refine go_eqsF (on _ (by simp)) ?_
        walk_at "we"
        refine go_subDT hx (n := 0) rfl rfl fun v hv => ?_
        obtain rfl := dp_str hv
        walk_at "we"
        refine go_eqsF (on _ (by simp)) ?_
        walk_at "we"
        refine go_subDT hx (n := 1) rfl rfl fun v1 hv1 => ?_
        walk_at "we"
        refine ⟨v1, f1, b, qd, g, as, s, now, g0, g1, rfl, hv1, by omega, hb, hq, hqs, hg, hf1, he, fun H1 e1 => ?_⟩
        cases h1 : f1.ev (s.env now g0 g1) with
        | error x1 =>
          have hr : (Fm.two o f1 f2).ev (s.env now g0 g1) = .error x1 := (eE _).mpr (by rw [h1])
          rw [hr] at q
          dsimp only [rv]
          walk_at "we"
          exact q H1 e1
        | ok n1 =>
          dsimp only [rv]
          walk_at "we"
          refine go_subDT (dp_mono e1 hx) (n := 2) rfl rfl fun v2 hv2 => ?_
          walk_at "we"
          have hqs1 : ∀ x ∈ s.qs, ∃ a, valV (queuesV s.queues as) (Sum.inr x) = some (.ref a) ∧ H1 a = some (.lst ((lookD [] x s.queues).map V.int)) := fun x hx => let ⟨a, k1, k2⟩ := hqs x hx; ⟨a, k1, e1 _ _ k2⟩
          refine ⟨v2, f2, b, qd, g, as, s, now, g0, g1, rfl, hv2, by omega, e1 _ _ hb, e1 _ _ hq, hqs1, ext_l e1 hg, hf2, he, fun H2 e2 => ?_⟩
          cases h2 : f2.ev (s.env now g0 g1) with
          | error x2 =>
            have hr : (Fm.two o f1 f2).ev (s.env now g0 g1) = .error x2 := (eE _).mpr (by rw [h1, h2])
            rw [hr] at q
            dsimp only [rv]
            walk_at "we"
            exact q H2 (e1.trans e2)
          | ok n2 =>
            dsimp only [rv]
            have hr : (Fm.two o f1 f2).ev (s.env now g0 g1) = o.ev n1 n2 := (eE _).mpr (by rw [h1, h2])
            rw [hr] at q
            walk_at "we"
            refine go_subDT (dp_mono (e1.trans e2) hx) (n := 0) rfl rfl fun v hv => ?_
            obtain rfl := dp_str hv
            walk_at "we"
            refine ⟨o, n1, n2, rfl, Fm.ev_worth he hf1 h1, Fm.ev_worth he hf2 h2, fun H3 e3 => ?_⟩
            have qq := q H3 ((e1.trans e2).trans e3)
            unfold Op.ev at qq
            cases h3 : o.raw n1 n2 with
            | error x3 =>
              rw [h3] at qq
              dsimp only [rv]
              walk_at "we"
              exact qq
            | ok n3 =>
              rw [h3] at qq
              dsimp only [rv]
              walk_at "we"
              refine go_abs ?_
              walk_at "we"
              refine go_ite (fun h4 => ?_) (fun h4 => ?_)
              · have e5 : keptIn n3 = .error .great := by unfold keptIn; exact if_pos ((abs_gt n3).mp h4)
                dsimp only at qq
                rw [e5] at qq
                walk_at "we"
                exact qq
              · have e5 : keptIn n3 = .ok n3 := by unfold keptIn; exact if_neg fun z => h4 ((abs_gt n3).mpr z)
                dsimp only at qq
                rw [e5] at qq
                walk_at "we"
                exact qq
end
end Mo
namespace Mo
open PySem PySem.Spec PyProof.Rows L2
/-! ### the purse: numbers drawn, whatever they are -/
/-- a list of two numbers -/
def Purse (o : HO) : Prop := ∃ a b : Int, o = .lst [.int a, .int b]
def spMixed : Sp := fun vs H Q _ => ∃ c k : Int, vs = [.int c, .int k] ∧ Bd 1048576 c ∧ Bd 8 k ∧ ∀ r : Int, Bd 31 r → Q (.int r) H
def spPurse (K : PySem.W.Frag) : Sp := fun vs H Q _ => ∃ (a : Addr) (ns : List Int), vs = [.ref a] ∧ SqL K H a (ns.map V.int) ∧ ns.length ≤ 63 ∧ (∀ z ∈ ns, Bd 1048576 z) ∧
  ∀ p H', Hd H H' [(p, Purse)] → Q (.ref p) H'
def spDraw : Sp := fun vs H Q _ => ∃ (G : Hp) (L : Vo) (p : Addr) (n : Int), vs = [.ref p, .int n] ∧ Hd G H L ∧ (p, Purse) ∈ L ∧ 0 < n ∧ Bd 8000 n ∧
  ∀ d H', 0 ≤ d → d < n → Hd G H' L → Q (.int d) H'
section
variable {P : Program} {w : World} {K : PySem.W.Frag} {mg : Str → Option Value} {base : Heap}
theorem fmod_range {a n : Int} (h : 0 < n) : 0 ≤ a.fmod n ∧ a.fmod n < n := ⟨Int.fmod_nonneg_of_pos a h, Int.fmod_lt_of_pos a h⟩
theorem ok__law_mixed (T : Tx K mg) : OkG P w K mg base 1 "_law_mixed" ["_law_cell", "_law_k"] spMixed := by
  refine T.f__law_mixed.okX sc__law_mixed (fun vs H Q E h => ?_) (fun cdv A outer s H vs Q E hr h => ?_)
  · obtain ⟨c, k, rfl, _⟩ := h
    rfl
  · have hu1 := hu_of hr; have hu0 := hr.units0; have hu64 := hr.units; have hu65 := hu65_of hr; have nd := sc__law_mixed.nd
    obtain ⟨c, k, rfl, hc, hk, q⟩ := h
    refine ⟨_, (pss_cons (ps_set (i := 2) nd rfl (Or.inl rfl) (pe_op op_modX (pe_op op_mulX (pe_op (op_addK (K := K) rfl) (pe_op (op_addK (K := K) rfl) (pe_op (op_addK (K := K) rfl) (pe_op op_mulX (pv 0) (pv 0)) (pe_op op_mulX pe_int (pv 0))) (pe_op op_mulX pe_int (pv 1))) pe_int) pe_int) pe_int))
      (pss_one (ps_ret (pe_op op_modX (pe_op (op_addK (K := K) rfl) (pe_op op_mulX (pv 2) (pv 2)) pe_int) pe_int)))), ?_⟩
    refine go_start (σ' := [some (.int c), some (.int k), none]) rfl ?_
    have b1 : Bd (1048576 + 1048576) (c * c) := hc.mul hc
    have b2 : Bd (2 + 1048576) (3 * c) := Bd.mul (by decide) hc
    have b3 : Bd (13 + 8) (7919 * k) := Bd.mul (by decide) hk
    have b4 : Bd 2097155 (c * c + 3 * c + 7919 * k + 1) := (((b1.add (b2.mono (by decide))).add (b3.mono (by decide))).add (Bd.mono (a := 1) (by decide) (by decide)))
    walk_at "w"
    refine go_I (hc.cmul hc) ?_
    walk_at "w"
    refine go_I (Bd.cmul (a := 2) (by decide) hc) ?_
    walk_at "w"
    refine go_I (Bd.cmul (a := 13) (by decide) hk) ?_
    walk_at "w"
    refine go_I (Bd.cmul (b := 16) b4 (by decide)) ?_
    walk_at "w"
    refine go_mod (by decide) ?_
    generalize hz : Int.fmod _ _ = z
    have hz2 := fmod_range (a := (c * c + 3 * c + 7919 * k + 1) * 48271) (n := 2147483629) (by decide)
    rw [hz] at hz2
    have b5 : Bd 31 z := bd_range hz2.1 hz2.2 (by decide)
    walk_at "w"
    refine go_I (b5.cmul b5) ?_
    walk_at "w"
    refine go_mod (by decide) ?_
    walk_at "w"
    have hy := fmod_range (a := z * z + 7) (n := 2147483587) (by decide)
    exact q _ (bd_range hy.1 hy.2 (by decide))
theorem ok__law_purse (T : Tx K mg) : OkG P w K mg base 2 "_law_purse" ["_law_script"] (spPurse K) := by
  have G__law_mixed := ok__law_mixed (P := P) (w := w) (base := base) T
  refine T.f__law_purse.okX sc__law_purse (fun vs H Q E h => ?_) (fun cdv A outer s H vs Q E hr h => ?_)
  · obtain ⟨a, ns, rfl, _⟩ := h
    rfl
  · have hu1 := hu_of hr; have hu0 := hr.units0; have hu64 := hr.units; have hu65 := hu65_of hr; have nd := sc__law_purse.nd
    obtain ⟨a, ns, rfl, hS, hl, hb, q⟩ := h
    refine ⟨_, (pss_cons (ps_set (i := 1) nd rfl (Or.inl rfl) (pe_op (op_addK (K := K) rfl) (pe_slice (sl_anyK (K := K) rfl) (pv 0) po_none (po_some pe_int)) (pe_lst (pa_cons pe_int pa_nil))))
      (pss_cons (ps_set (i := 2) nd rfl (Or.inl rfl) pe_int)
      (pss_cons (ps_for (passes_of rfl) rfl (pi_range1 rfl T.b_range (pa_cons pe_int pa_nil)) (pg_name (i := 3) nd rfl (Or.inl rfl))
      (pss_one (ps_set (i := 2) nd rfl (Or.inl rfl) (pe_op (op_addK (K := K) rfl) (pe_op op_mulX (pv 2) pe_int) (pcl T.g__law_mixed G__law_mixed hr (takes_of rfl rfl rfl rfl) (pa_cons (pe_ix (ix_anyK (K := K) rfl hu1) (pv 1) (pe_op op_modX (pv 3) (pe_callB (call_lenK (K := K) rfl) (by rfl) T.b_len (by decide +kernel) (pa_cons (pv 1) pa_nil))) (fun _ _ => rfl)) (pa_cons (pv 3) pa_nil)))))))
      (pss_cons (ps_if (pt_cmpR (op_eqK (K := K) rfl hu64) (pe_op op_modX (pe_ix (ix_anyK (K := K) rfl hu1) (pv 1) pe_int (fun _ _ => rfl)) pe_int) pe_int (nomark _)) (pss_one (ps_ret (pe_lst (pa_cons (pe_callB (call_max2 rfl) (by rfl) T.b_max (by decide +kernel) (pa_cons (pe_op op_fdivX (pe_ix (ix_anyK (K := K) rfl hu1) (pv 1) pe_int (fun _ _ => rfl)) pe_int) (pa_cons (pe_op op_sub (pe_un un_neg pe_int) (pe_op op_fdivX (pe_ix (ix_anyK (K := K) rfl hu1) (pv 1) pe_int (fun _ _ => rfl)) pe_int)) pa_nil))) (pa_cons (pv 2) pa_nil)))))
      pss_nil)
      (pss_one (ps_ret (pe_lst (pa_cons (pv 2) (pa_cons (pv 2) pa_nil))))))))), ?_⟩
    refine go_start (σ' := [some (.ref a), none, none, none]) rfl ?_
    walk_at "w"
    refine .inl ⟨a, _, rfl, hS, fun c hc => ?_⟩
    have ec : cutV (ns.map V.int) none (some 63) = ns.map V.int := by
      unfold cutV
      have e1 : HT.sIx (ns.map V.int).length 0 none = 0 := rfl
      have e2 : HT.sIx (ns.map V.int).length (ns.map V.int).length (some 63) = ns.length := by
        have := HT.sIx_nat (ns.map V.int).length (ns.map V.int).length 63
        rw [List.length_map] at this
        rw [List.length_map]
        rw [show (some (63 : Int)) = some ((63 : Nat) : Int) from rfl, this]
        omega
      rw [e1, e2, List.drop_zero, Nat.sub_zero, List.take_of_length_le (by rw [List.length_map]; exact Nat.le_refl _)]
    rw [ec]
    walk_at "w"
    refine go_size (by decide) fun z hz => ?_
    have ncz : c ≠ z := ne_of_none upd_same hz
    refine go_addL (by rw [upd_ne ncz]; exact upd_same) upd_same (by rw [List.length_map, sizeLine_eq]; simp only [List.length_cons, List.length_nil]; omega) fun d hd => ?_
    have eH : Hd H (upd (upd (upd H c (.lst (ns.map V.int))) z (.lst [.int 0])) d (.lst (ns.map V.int ++ [.int 0]))) [] := Hd.nil (((Ext.new hc).trans (Ext.new hz)).trans (Ext.new hd))
    have hcs : (upd (upd (upd H c (.lst (ns.map V.int))) z (.lst [.int 0])) d (.lst (ns.map V.int ++ [.int 0]))) d = some (.lst ((ns ++ [0]).map V.int)) := by
      rw [upd_same, List.map_append]
      rfl
    revert hcs eH
    generalize (upd (upd (upd H c (.lst (ns.map V.int))) z (.lst [.int 0])) d (.lst (ns.map V.int ++ [.int 0]))) = H1
    intro eH hcs
    have hb' : ∀ y ∈ ns ++ [0], Bd 1048576 y := fun y hy => by
      rcases List.mem_append.mp hy with hy | hy
      · exact hb y hy
      · rw [List.mem_singleton.mp hy]
        exact Nat.pow_pos (by decide)
    have hpos : 0 < (ns ++ [0]).length := by rw [List.length_append, List.length_singleton]; omega
    have hlen : (ns ++ [0]).length ≤ 64 := by rw [List.length_append, List.length_singleton]; omega
    revert hcs hb' hpos hlen
    generalize ns ++ [0] = cs
    intro hcs hb' hpos hlen
    walk_at "w"
    refine go_r1 (j := 150) 150 rfl (by decide) ?_
    refine loop_r 150 (fun i σ H' => H' = H1 ∧ ∃ x v, Bd (33 * i + 1) x ∧ σ = [some (.ref a), some (.ref d), some (.int x), v]) ⟨rfl, 1, none, by decide, rfl⟩ ?_ ?_
    · rintro i σ H' hi ⟨rfl, x, v, hx, rfl⟩
      walk_at "w"
      refine go_I (Bd.cmul (b := 31) hx (by decide) (by omega) (by decide) (by omega)) ?_
      walk_at "w"
      refine go_lenL (SqL.of hcs) ?_
      rw [List.length_map]
      refine go_mod (by omega) ?_
      have hm := fmod_range (a := (i : Int)) (n := (cs.length : Int)) (by omega)
      obtain ⟨j, hj⟩ : ∃ j : Nat, (i : Int).fmod (cs.length : Int) = (j : Int) := ⟨_, (Int.toNat_of_nonneg hm.1).symm⟩
      rw [hj]
      have hjl : j < cs.length := by omega
      refine go_subL (SqL.of hcs) (atI_nat (v := .int cs[j]) (by rw [List.getElem?_map, List.getElem?_eq_getElem hjl]; rfl)) ?_
      walk_at "w"
      refine ⟨_, _, rfl, hb' _ (List.getElem_mem hjl), ?_, fun r hr => ?_⟩
      · show (i : Int).natAbs < 2 ^ 8
        rw [Int.natAbs_natCast]
        omega
      · walk_at "w"
        refine ⟨rfl, _, _, ?_, rfl⟩
        have h1 : Bd (33 * i + 1 + 31) (x * 2147483587) := hx.mul (by decide)
        exact Bd.mono (Bd.add h1 (hr.mono (by omega))) (by omega)
    · rintro σ H' ⟨rfl, x, v, hx, rfl⟩
      have e0 : cs[0]? = some cs[0] := List.getElem?_eq_getElem hpos
      have es : atI (cs.map V.int) 0 = some (.int cs[0]) := atI_nat (j := 0) (by rw [List.getElem?_map, e0]; rfl)
      walk_at "w"
      refine go_subL (SqL.of hcs) es ?_
      walk_at "w"
      refine go_mod (by decide) ?_
      walk_at "w"
      refine go_ite (fun _ => ?_) (fun _ => ?_)
      · walk_at "w"
        refine go_subL (SqL.of hcs) es ?_
        walk_at "w"
        refine go_div 2 (by decide) (by decide) ?_
        walk_at "w"
        refine go_subL (SqL.of hcs) es ?_
        walk_at "w"
        refine go_div 2 (by decide) (by decide) ?_
        walk_at "w"
        refine ⟨_, _, rfl, ?_⟩
        walk_at "w"
        refine go_sz rfl fun p hp => ?_
        exact q p _ (eH.new hp ⟨_, _, rfl⟩)
      · walk_at "w"
        refine go_sz rfl fun p hp => ?_
        exact q p _ (eH.new hp ⟨_, _, rfl⟩)
theorem ok__law_draw (T : Tx K mg) : OkG P w K mg base 1 "_law_draw" ["_law_purse_here", "_law_out_of"] spDraw := by
  refine T.f__law_draw.okX sc__law_draw (fun vs H Q E h => ?_) (fun cdv A outer s H vs Q E hr h => ?_)
  · obtain ⟨G, L, p, n, rfl, _⟩ := h
    rfl
  · have hu1 := hu_of hr; have hu0 := hr.units0; have hu64 := hr.units; have hu65 := hu65_of hr; have nd := sc__law_draw.nd
    obtain ⟨G, L, p, n, rfl, hH, hm, hn, hb, q⟩ := h
    refine ⟨_, (pss_cons (ps_if (pt_cmpR (op_eqK (K := K) rfl hu64) (pe_ix (ix_anyK (K := K) rfl hu1) (pv 0) pe_int (fun _ _ => rfl)) pe_int (nomark _)) (pss_one (ps_asg (pe_ix (ix_anyK (K := K) rfl hu1) (pv 0) pe_int (fun _ _ => rfl)) (pg_sub (pv 0) pe_int (set_any hu1))))
      pss_nil)
      (pss_cons (ps_set (i := 2) nd rfl (Or.inl rfl) (pe_op op_modX (pe_ix (ix_anyK (K := K) rfl hu1) (pv 0) pe_int (fun _ _ => rfl)) (pv 1)))
      (pss_cons (ps_asg (pe_op op_fdivX (pe_ix (ix_anyK (K := K) rfl hu1) (pv 0) pe_int (fun _ _ => rfl)) (pv 1)) (pg_sub (pv 0) pe_int (set_any hu1)))
      (pss_one (ps_ret (pv 2)))))), ?_⟩
    refine go_start (σ' := [some (.ref p), some (.int n), none]) rfl ?_
    obtain ⟨o, hp, x, y, rfl⟩ := hH.get hm
    walk_at "w"
    refine go_subL (SqL.of hp) rfl ?_
    walk_at "w"
    have fin : ∀ (H1 : Hp) (x y : Int), Hd G H1 L → H1 p = some (.lst [.int x, .int y]) → tSeq (tAsg (tOp (rI CMod fun i j => .int (i.fmod j)) (tOp (rSub K) (tVar 0) (tC (.int 0))) (tVar 1)) (gName 2))
        (tSeq (tAsg (tOp (rI CDivX fun i j => .int (i.fdiv j)) (tOp (rSub K) (tVar 0) (tC (.int 0))) (tVar 1)) (gSub (tVar 0) (tC (.int 0)) rSet)) (tRet (tVar 2))) { nx := fun _ H' => Q .non H', rt := Q } [some (.ref p), some (.int n), none] H1 := by
      intro H1 x y hH1 hp1
      walk_at "w"
      refine go_subL (SqL.of hp1) rfl ?_
      walk_at "w"
      refine go_mod (by omega) ?_
      walk_at "w"
      refine go_subL (SqL.of hp1) rfl ?_
      walk_at "w"
      refine go_div 8000 (by omega) hb ?_
      walk_at "w"
      refine go_setL hp1 rfl ?_
      walk_at "w"
      have hr := fmod_range (a := x) hn
      exact q _ _ hr.1 hr.2 (hH1.put hm ⟨_, _, rfl⟩)
    refine go_ite (fun _ => ?_) (fun _ => ?_)
    · walk_at "w"
      refine go_subL (SqL.of hp) rfl ?_
      walk_at "w"
      refine go_setL hp rfl ?_
      exact fin _ _ _ (hH.put hm ⟨_, _, rfl⟩) upd_same
    · exact fin _ _ _ hH hp
end
end Mo
namespace Mo
open PySem PySem.Spec PyProof.Rows L2
/-! ### the law's own worths -/
def spWorth : Sp := fun vs H Q _ => ∃ (G : Hp) (L : Vo) (p : Addr), vs = [.ref p] ∧ Hd G H L ∧ (p, Purse) ∈ L ∧ ∀ d H', Worth d → Hd G H' L → Q (.int d) H'
def spWhole : Sp := fun vs H Q _ => ∃ (n : Int), vs = [.int n] ∧ Q (.bl true) H
section
variable {P : Program} {w : World} {K : PySem.W.Frag} {mg : Str → Option Value} {base : Heap}
theorem ok__law_whole (T : Tx K mg) : OkG P w K mg base 1 "_law_whole" ["_law_found"] spWhole := by
  refine T.f__law_whole.okX sc__law_whole (fun vs H Q E h => ?_) (fun cdv A outer s H vs Q E hr h => ?_)
  · obtain ⟨n, rfl, _⟩ := h
    rfl
  · have hu1 := hu_of hr; have hu0 := hr.units0; have hu64 := hr.units; have hu65 := hu65_of hr; have nd := sc__law_whole.nd
    obtain ⟨n, rfl, q⟩ := h
    refine ⟨_, (pss_one (ps_ret (pe_and (pe_callB (call_isiKK (K := K) rfl) (by rfl) T.b_isinstance (by decide +kernel) (pa_cons (pv 0) (pa_cons (pe_bltn (v := .ty "int") (by rfl) T.b_int (by decide +kernel) rfl) pa_nil))) (pe_one (pe_not (pe_callB (call_isiKK (K := K) rfl) (by rfl) T.b_isinstance (by decide +kernel) (pa_cons (pv 0) (pa_cons (pe_bltn (v := .ty "bool") (by rfl) T.b_bool (by decide +kernel) rfl) pa_nil)))))))), ?_⟩
    refine go_start (σ' := [some (.int n)]) rfl ?_
    walk_at "we"
    exact q
theorem ok__law_worth (T : Tx K mg) : OkG P w K mg base 2 "_law_worth" ["_law_purse_here"] spWorth := by
  have G__law_draw := ok__law_draw (P := P) (w := w) (base := base) T
  refine T.f__law_worth.okX sc__law_worth (fun vs H Q E h => ?_) (fun cdv A outer s H vs Q E hr h => ?_)
  · obtain ⟨G, L, p, rfl, _⟩ := h
    rfl
  · have hu1 := hu_of hr; have hu0 := hr.units0; have hu64 := hr.units; have hu65 := hu65_of hr; have nd := sc__law_worth.nd
    obtain ⟨G, L, p, rfl, hH, hm, q⟩ := h
    refine ⟨_, (pss_cons (ps_set (i := 1) nd rfl (Or.inl rfl) (pcl T.g__law_draw G__law_draw hr (takes_of rfl rfl rfl rfl) (pa_cons (pv 0) (pa_cons pe_int pa_nil))))
      (pss_cons (ps_if (pt_cmpR (op_eqK (K := K) rfl hu64) (pv 1) pe_int (nomark _)) (pss_one (ps_ret (pe_op op_mulX (pe_op op_sub (pe_op op_pow pe_int pe_int) (pcl T.g__law_draw G__law_draw hr (takes_of rfl rfl rfl rfl) (pa_cons (pv 0) (pa_cons pe_int pa_nil)))) (pe_op op_sub pe_int (pe_op op_mulX pe_int (pcl T.g__law_draw G__law_draw hr (takes_of rfl rfl rfl rfl) (pa_cons (pv 0) (pa_cons pe_int pa_nil))))))))
      pss_nil)
      (pss_cons (ps_if (pt_cmpR (op_eqK (K := K) rfl hu64) (pv 1) pe_int (nomark _)) (pss_one (ps_ret (pe_op op_sub (pcl T.g__law_draw G__law_draw hr (takes_of rfl rfl rfl rfl) (pa_cons (pv 0) (pa_cons (pe_op (op_addK (K := K) rfl) (pe_op op_mulX pe_int (pe_op op_pow pe_int pe_int)) pe_int) pa_nil))) (pe_op op_pow pe_int pe_int))))
      pss_nil)
      (pss_one (ps_ret (pe_op op_sub (pcl T.g__law_draw G__law_draw hr (takes_of rfl rfl rfl rfl) (pa_cons (pv 0) (pa_cons pe_int pa_nil))) pe_int)))))), ?_⟩
    refine go_start (σ' := [some (.ref p), none]) rfl ?_
    walk_at "we"
    refine ⟨G, L, p, 6, rfl, hH, hm, by decide, by decide, fun d H1 _ _ hH1 => ?_⟩
    walk_at "we"
    refine go_ite (fun _ => ?_) (fun _ => ?_)
    · walk_at "we"
      refine ⟨G, L, p, 3, rfl, hH1, hm, by decide, by decide, fun a H2 a0 a1 hH2 => ?_⟩
      walk_at "we"
      refine ⟨G, L, p, 2, rfl, hH2, hm, by decide, by decide, fun b H3 b0 b1 hH3 => ?_⟩
      walk_at "we"
      refine go_I (Bd.cmul (a := 3) (b := 3) (by decide) (by show Int.natAbs _ < 8; omega)) ?_
      walk_at "we"
      have w1 : Worth (1000000000000000 - a) := ⟨by omega, by omega⟩
      refine go_I ((worth_bd w1).cmul (b := 3) (by show Int.natAbs _ < 8; omega)) ?_
      refine q _ _ ?_ hH3
      have hb : b = 0 ∨ b = 1 := by omega
      rcases hb with rfl | rfl
      · exact ⟨by omega, by omega⟩
      · exact ⟨by omega, by omega⟩
    · walk_at "we"
      refine go_ite (fun _ => ?_) (fun _ => ?_)
      · walk_at "we"
        refine go_I (Bd.cmul (a := 3) (b := 50) (by decide) (by decide)) ?_
        walk_at "we"
        refine ⟨G, L, p, _, rfl, hH1, hm, by decide, by decide, fun a H2 a0 a1 hH2 => ?_⟩
        walk_at "we"
        exact q _ _ ⟨by omega, by omega⟩ hH2
      · walk_at "we"
        refine ⟨G, L, p, 13, rfl, hH1, hm, by decide, by decide, fun a H2 a0 a1 hH2 => ?_⟩
        walk_at "we"
        exact q _ _ ⟨by omega, by omega⟩ hH2
end
end Mo
namespace Mo
open PySem PySem.Spec PyProof.Rows L2
/-! ### the head: facts by names, and any others that are decided -/
abbrev AlM : Type := He.AlD × Bool
def SaysM (fa : List He.Fa) (fn : List He.DefD) (exs : List (PySem.W.Frag → Bool)) (K : PySem.W.Frag) : Prop := He.SaysD fa fn K ∧ (exs.all fun b => b K) = true
def obsM (n : Nat) (fa : List He.Fa) (fn : List He.DefD) (exs : List (PySem.W.Frag → Bool)) (g : Addr → Option Obj) : AlM := (He.obsD fa fn (He.frG g (He.asD g n)), exs.all fun b => b (He.frG g (He.asD g n)))
def hookM (n : Nat) (fa : List He.Fa) (fn : List He.DefD) (exs : List (PySem.W.Frag → Bool)) : PySem.W.Hook where
  α := AlM
  obs := fun s => obsM n fa fn exs s.heap.get?
  val := fun _ => (He.valD fn, true)
  says := fun _ h => ∃ K : PySem.W.Frag, K.In h ∧ SaysM fa fn exs K
  of := fun _ _ e => ⟨_, He.frG_in, congrArg (fun z : AlM => z.1) e, congrArg (fun z : AlM => z.2) e⟩
  keeps := fun _ _ _ ⟨K, hK, c⟩ k => ⟨K, PySem.W.Frag.In.keeps hK k, c⟩
theorem obsM_eq {n : Nat} {fa : List He.Fa} {fn : List He.DefD} {exs : List (PySem.W.Frag → Bool)} {g : Addr → Option Obj} {s : Shared} (h : ∀ a, g a = s.heap.get? a) : obsM n fa fn exs g = (hookM n fa fn exs).obs s := by
  have e : g = s.heap.get? := funext h
  rw [e] <;> rfl
section
variable {fa : List He.Fa} {fn : List He.DefD} {exs : List (PySem.W.Frag → Bool)} {K : PySem.W.Frag}
theorem SaysM.fact (c : SaysM fa fn exs K) (i : Nat) {f : He.Fa} (h : fa[i]? = some f := by rfl) : f.ok K = true := c.1.fact i h
theorem SaysM.fn_ (c : SaysM fa fn exs K) (i : Nat) {d : He.DefD} (h : fn[i]? = some d := by rfl) : ∃ fd, FunD K d.name d.qual d.params d.body d.scope (d.dvs K) (d.kws K) (He.fAd K d.at_) fd := c.1.def_ i h
theorem SaysM.ex (c : SaysM fa fn exs K) (i : Nat) {b : PySem.W.Frag → Bool} (h : exs[i]? = some b := by rfl) : b K = true := List.all_eq_true.mp c.2 b (List.mem_of_getElem? h)
end
/-- a law's end, the script's bits told -/
theorem walk_ofEB {l : PySem.W.OpenLaw} {n k : Nat} {q : Program} {loose : List Str} {XP : (Str → Option Value) → Heap → Prop} {YP : World → Heap → Prop} {d : DefRec} {CX : World → CXT} {x : Str}
    (hn : l.most = some n) (hn2 : n ≤ sizeLine) (hdf : d.params.defaults = []) (hr : Room k callerA)
    (F : ∀ (w : World) (mg : Str → Option Value) (fa : Addr) (h : Heap), YP w h → h.Ns mainGlobals mg → mg d.name = some (.ref fa) →
      ∃ (K : PySem.W.Frag) (fd : FuncData) (sp : Sp), K.In h ∧ (∀ (s : Shared) (u : Value), BindsTo s fd ⟨[u], []⟩ [(x, u)]) ∧
        (∀ (H : Hp) (a : Addr) (ns : List Int), ns.length ≤ n → (∀ z ∈ ns, Builtin.Int.intBits z ≤ 1048576) → Only H → SqL K H a (ns.map V.int) → sp [.ref a] H (fun v _ => v = .bl true) fun _ _ _ => False) ∧
        ∀ base : Heap, K.In base → base.Ns mainGlobals mg → FnOk l.prog w K mg base (CX w) k fa fd [x] sp)
    (hCX : ∀ (w : World) (H : Hp) (s : Shared) (e : Value) (s' : Shared), CX w [] H s (fun _ _ _ => False) e s' → False) :
    PySem.W.WalkO q loose XP YP l.row.toRowW d [] (fun f vs => PySem.call f vs) := by
  refine Att.attach_callB hn hdf fun w s₀ s₁ mg mb fa o pm cd doc a vs ns G Y ho hd hcd hmg hobj hints hlen hbits hg => ?_
  obtain ⟨K, fd, sp, KX, hb, hsp, hF⟩ := F w mg fa _ Y G.T.g hmg
  exact law_call KX G.T.g G.T.b G.T.builtins G.T.nolimit hg hobj hints (Nat.le_trans hlen hn2) hr hF hb (fun H hO hS => hsp H a ns hlen hbits hO hS) fun H e s' => hCX w H s₁ e s'
theorem fun_bindsTo {K : PySem.W.Frag} {x qual : Str} {st : Stmt} {f : Addr} {fd : FuncData} (F : L2.Fun K x qual st f fd) {ps : List Str}
    (h : ∀ (kV doc pm : Value) (an : Option Addr) (cdv ct : Value) (us : List Value), us.length = ps.length → bindArgs (PySem.W.fnOf x qual (defArgs st) (defBody st) (defScope st) .none kV doc pm an cdv ct) ⟨us, []⟩ = pure (ps.zip us)) (s : Shared) (us : List Value) (hl : us.length = ps.length) : BindsTo s fd ⟨us, []⟩ (ps.zip us) := by
  obtain ⟨oc, od, kV, doc, pm, an, cdv, ct, osl, rfl, lk, hcd⟩ := F.ex
  exact .of_eq (h kV doc pm an cdv ct us hl)
theorem cx_false {P : Program} {w : World} {H : Hp} {s : Shared} {e : Value} {s' : Shared} (h : L2.CX P w [] H s (fun _ _ _ => False) e s') : False := by
  obtain ⟨_, _, _, _, _, _, _, _, _, _, _, _, z⟩ := h
  exact z
/-- what a law promises -/
def spLaw (K : PySem.W.Frag) : Sp := fun vs H Q _ => ∃ (a : Addr) (ns : List Int), vs = [.ref a] ∧ Only H ∧ SqL K H a (ns.map V.int) ∧ ns.length ≤ 63 ∧ (∀ z ∈ ns, Builtin.Int.intBits z ≤ 1048576) ∧ ∀ H', Q (.bl true) H'
end Mo
namespace Mo
open PySem PySem.Spec PyProof.Rows L2
def d_Fault_word : He.DefD := ⟨("Fault", some "word"), "word", "Fault.word", defArgs s_Fault_word, defBody s_Fault_word, defScope s_Fault_word, [], []⟩
def d_Nought_word : He.DefD := ⟨("Nought", some "word"), "word", "Nought.word", defArgs s_Nought_word, defBody s_Nought_word, defScope s_Nought_word, [], []⟩
def d_Great_word : He.DefD := ⟨("Great", some "word"), "word", "Great.word", defArgs s_Great_word, defBody s_Great_word, defScope s_Great_word, [], []⟩
def d_kept_in : He.DefD := ⟨("kept_in", none), "kept_in", "kept_in", defArgs s_kept_in, defBody s_kept_in, defScope s_kept_in, [], []⟩
def d_of_two : He.DefD := ⟨("of_two", none), "of_two", "of_two", defArgs s_of_two, defBody s_of_two, defScope s_of_two, [], []⟩
def d_worth_of : He.DefD := ⟨("worth_of", none), "worth_of", "worth_of", defArgs s_worth_of, defBody s_worth_of, defScope s_worth_of, [], []⟩
def d_copied : He.DefD := ⟨("copied", none), "copied", "copied", defArgs s_copied, defBody s_copied, defScope s_copied, [], []⟩
def d_copied_machine : He.DefD := ⟨("copied_machine", none), "copied_machine", "copied_machine", defArgs s_copied_machine, defBody s_copied_machine, defScope s_copied_machine, [], []⟩
def d_Model_init : He.DefD := ⟨("Model", some "__init__"), "__init__", "Model.__init__", defArgs s_Model_init, defBody s_Model_init, defScope s_Model_init, [], []⟩
def d_State_init : He.DefD := ⟨("State", some "__init__"), "__init__", "State.__init__", defArgs s_State_init, defBody s_State_init, defScope s_State_init, [], []⟩
def d_first_state : He.DefD := ⟨("first_state", none), "first_state", "first_state", defArgs s_first_state, defBody s_first_state, defScope s_first_state, [], []⟩
def d__law_whole : He.DefD := ⟨("_law_whole", none), "_law_whole", "_law_whole", defArgs s__law_whole, defBody s__law_whole, defScope s__law_whole, [], []⟩
def d__law_mixed : He.DefD := ⟨("_law_mixed", none), "_law_mixed", "_law_mixed", defArgs s__law_mixed, defBody s__law_mixed, defScope s__law_mixed, [], []⟩
def d__law_purse : He.DefD := ⟨("_law_purse", none), "_law_purse", "_law_purse", defArgs s__law_purse, defBody s__law_purse, defScope s__law_purse, [], []⟩
def d__law_draw : He.DefD := ⟨("_law_draw", none), "_law_draw", "_law_draw", defArgs s__law_draw, defBody s__law_draw, defScope s__law_draw, [], []⟩
def d__law_names : He.DefD := ⟨("_law_names", none), "_law_names", "_law_names", defArgs s__law_names, defBody s__law_names, defScope s__law_names, [], []⟩
def d__law_worth : He.DefD := ⟨("_law_worth", none), "_law_worth", "_law_worth", defArgs s__law_worth, defBody s__law_worth, defScope s__law_worth, [], []⟩
def d__law_two : He.DefD := ⟨("_law_two", none), "_law_two", "_law_two", defArgs s__law_two, defBody s__law_two, defScope s__law_two, [], []⟩
def d__law_reckoned : He.DefD := ⟨("_law_reckoned", none), "_law_reckoned", "_law_reckoned", defArgs s__law_reckoned, defBody s__law_reckoned, defScope s__law_reckoned, [], []⟩
def d__law_told : He.DefD := ⟨("_law_told", none), "_law_told", "_law_told", defArgs s__law_told, defBody s__law_told, defScope s__law_told, [], []⟩
def d_law : He.DefD := ⟨("law", none), "law", "law", defArgs s_law, defBody s_law, defScope s_law, [], []⟩
def fn0 : List He.DefD := [d_Fault_word, d_Nought_word, d_Great_word, d_kept_in, d_of_two, d_worth_of, d_copied, d_copied_machine, d_Model_init, d_State_init, d_first_state, d__law_whole, d__law_mixed, d__law_purse, d__law_draw, d__law_names, d__law_worth, d__law_two, d__law_reckoned, d__law_told, d_law]
def fn : List He.DefD := fn0
def fa0 : List He.Fa := [.glo "MomentError", .glo "Fault", .glo "Nought", .glo "Great", .glo "Model", .cls "Model", .noat "Model" "machines", .mkr "Model", .glo "Model", .glo "State", .cls "State", .noat "State" "boxes", .noat "State" "drawn", .noat "State" "queues", .noat "State" "sent", .mkr "State", .glo "State", .exc "Fault", .glo "Fault", .exc "Great", .glo "Great", .exc "MomentError", .glo "MomentError", .exc "Nought", .glo "Nought", .exm "Fault" "Fault" true, .exm "Fault" "Great" false, .exm "Fault" "MomentError" true, .exm "Fault" "Nought" false, .exm "Great" "Fault" true]
def fa1 : List He.Fa := [.exm "Great" "Great" true, .exm "Great" "MomentError" true, .exm "Great" "Nought" false, .exm "MomentError" "Fault" false, .exm "MomentError" "Great" false, .exm "MomentError" "MomentError" true, .exm "MomentError" "Nought" false, .exm "Nought" "Fault" true, .exm "Nought" "Great" false, .exm "Nought" "MomentError" true, .exm "Nought" "Nought" true, .free "abs", .free "bool", .free "int", .free "isinstance", .free "len", .free "list", .free "max", .free "range", .free "str", .int "MOST" 1000000000000000, .glo "kept_in", .glo "of_two", .glo "worth_of", .glo "copied", .glo "copied_machine", .glo "first_state", .glo "_law_whole", .glo "_law_mixed", .glo "_law_purse"]
def fa2 : List He.Fa := [.glo "_law_draw", .glo "_law_names", .glo "_law_worth", .glo "_law_two", .glo "_law_reckoned", .glo "_law_told", .glo "law", .meth "Fault" "word", .meth "Nought" "word", .meth "Great" "word"]
def fa : List He.Fa := fa0 ++ fa1 ++ fa2
def exs : List (PySem.W.Frag → Bool) := []
def lo0 : List PySem.Str := ["_wall", "__name__", "MomentError", "Fault", "Nought", "Great", "MOST", "kept_in", "of_two", "worth_of", "copied", "copied_machine", "Model", "State", "first_state", "_law_whole", "_law_mixed", "_law_purse", "_law_draw", "_law_names", "_law_worth", "_law_two", "_law_reckoned", "_law_told"]
def loose : List PySem.Str := lo0
abbrev Rr : PySem.W.OpenRow := PySem.W.OpenLaw.row PySem.Challenge.rw_momentloom_k04_formulas_of_two
abbrev hk : PySem.W.Hook := hookM 6 fa fn exs
def ob (s : PySem.W.SharedT) : AlM := obsM 6 fa fn exs (HandSHeadRun.getT s)
theorem ob_eq (s : PySem.W.SharedT) : ob s = hk.obs s.abs := obsM_eq (HandSHeadRun.getT_eq s)
theorem run (w : World) : HandSHeadRun.RunEq Rr (PySem.W.view Rr.prog [27]) hk ob 20000 loose w := by
  intro os
  kernel_rfl
theorem tx_of {K : PySem.W.Frag} {h : Heap} {mg : Str → Option Value} (X : K.In h) (G : h.Ns mainGlobals mg) (c : SaysM fa fn exs K) : Tx K mg := by
  have F_Fault_word : Fun K "word" "Fault.word" s_Fault_word (He.fAd K ("Fault", some "word")) (fdA K (He.fAd K ("Fault", some "word"))) := fun_of (c.fn_ 0 (d := d_Fault_word) rfl)
  have b_Fault_word : Binds K (fdA K (He.fAd K ("Fault", some "word"))) ["self"] [] := F_Fault_word.binds (ps := ["self"]) fun _ _ _ _ _ _ us hl => match us, hl with | [_], _ => rfl
  have W_Fault_word := F_Fault_word
  have F_Nought_word : Fun K "word" "Nought.word" s_Nought_word (He.fAd K ("Nought", some "word")) (fdA K (He.fAd K ("Nought", some "word"))) := fun_of (c.fn_ 1 (d := d_Nought_word) rfl)
  have b_Nought_word : Binds K (fdA K (He.fAd K ("Nought", some "word"))) ["self"] [] := F_Nought_word.binds (ps := ["self"]) fun _ _ _ _ _ _ us hl => match us, hl with | [_], _ => rfl
  have W_Nought_word := F_Nought_word
  have F_Great_word : Fun K "word" "Great.word" s_Great_word (He.fAd K ("Great", some "word")) (fdA K (He.fAd K ("Great", some "word"))) := fun_of (c.fn_ 2 (d := d_Great_word) rfl)
  have b_Great_word : Binds K (fdA K (He.fAd K ("Great", some "word"))) ["self"] [] := F_Great_word.binds (ps := ["self"]) fun _ _ _ _ _ _ us hl => match us, hl with | [_], _ => rfl
  have W_Great_word := F_Great_word
  have F_kept_in : Fun K "kept_in" "kept_in" s_kept_in (He.fAd K ("kept_in", none)) (fdA K (He.fAd K ("kept_in", none))) := fun_of (c.fn_ 3 (d := d_kept_in) rfl)
  have b_kept_in : Binds K (fdA K (He.fAd K ("kept_in", none))) ["number"] [] := F_kept_in.binds (ps := ["number"]) fun _ _ _ _ _ _ us hl => match us, hl with | [_], _ => rfl
  have F_of_two : Fun K "of_two" "of_two" s_of_two (He.fAd K ("of_two", none)) (fdA K (He.fAd K ("of_two", none))) := fun_of (c.fn_ 4 (d := d_of_two) rfl)
  have b_of_two : Binds K (fdA K (He.fAd K ("of_two", none))) ["word", "one", "other"] [] := F_of_two.binds (ps := ["word", "one", "other"]) fun _ _ _ _ _ _ us hl => match us, hl with | [_, _, _], _ => rfl
  have F_worth_of : Fun K "worth_of" "worth_of" s_worth_of (He.fAd K ("worth_of", none)) (fdA K (He.fAd K ("worth_of", none))) := fun_of (c.fn_ 5 (d := d_worth_of) rfl)
  have b_worth_of : Binds K (fdA K (He.fAd K ("worth_of", none))) ["formula", "state", "now", "got"] [] := F_worth_of.binds (ps := ["formula", "state", "now", "got"]) fun _ _ _ _ _ _ us hl => match us, hl with | [_, _, _, _], _ => rfl
  have F_copied : Fun K "copied" "copied" s_copied (He.fAd K ("copied", none)) (fdA K (He.fAd K ("copied", none))) := fun_of (c.fn_ 6 (d := d_copied) rfl)
  have b_copied : Binds K (fdA K (He.fAd K ("copied", none))) ["deeds"] [] := F_copied.binds (ps := ["deeds"]) fun _ _ _ _ _ _ us hl => match us, hl with | [_], _ => rfl
  have F_copied_machine : Fun K "copied_machine" "copied_machine" s_copied_machine (He.fAd K ("copied_machine", none)) (fdA K (He.fAd K ("copied_machine", none))) := fun_of (c.fn_ 7 (d := d_copied_machine) rfl)
  have b_copied_machine : Binds K (fdA K (He.fAd K ("copied_machine", none))) ["machine"] [] := F_copied_machine.binds (ps := ["machine"]) fun _ _ _ _ _ _ us hl => match us, hl with | [_], _ => rfl
  have F_Model_init : Fun K "__init__" "Model.__init__" s_Model_init (He.fAd K ("Model", some "__init__")) (fdA K (He.fAd K ("Model", some "__init__"))) := fun_of (c.fn_ 8 (d := d_Model_init) rfl)
  have b_Model_init : Binds K (fdA K (He.fAd K ("Model", some "__init__"))) ["self", "machines"] [] := F_Model_init.binds (ps := ["self", "machines"]) fun _ _ _ _ _ _ us hl => match us, hl with | [_, _], _ => rfl
  have F_State_init : Fun K "__init__" "State.__init__" s_State_init (He.fAd K ("State", some "__init__")) (fdA K (He.fAd K ("State", some "__init__"))) := fun_of (c.fn_ 9 (d := d_State_init) rfl)
  have b_State_init : Binds K (fdA K (He.fAd K ("State", some "__init__"))) ["self", "boxes", "queues", "drawn", "sent"] [] := F_State_init.binds (ps := ["self", "boxes", "queues", "drawn", "sent"]) fun _ _ _ _ _ _ us hl => match us, hl with | [_, _, _, _, _], _ => rfl
  have F_first_state : Fun K "first_state" "first_state" s_first_state (He.fAd K ("first_state", none)) (fdA K (He.fAd K ("first_state", none))) := fun_of (c.fn_ 10 (d := d_first_state) rfl)
  have b_first_state : Binds K (fdA K (He.fAd K ("first_state", none))) ["model", "at"] [] := F_first_state.binds (ps := ["model", "at"]) fun _ _ _ _ _ _ us hl => match us, hl with | [_, _], _ => rfl
  have F__law_whole : Fun K "_law_whole" "_law_whole" s__law_whole (He.fAd K ("_law_whole", none)) (fdA K (He.fAd K ("_law_whole", none))) := fun_of (c.fn_ 11 (d := d__law_whole) rfl)
  have b__law_whole : Binds K (fdA K (He.fAd K ("_law_whole", none))) ["_law_found"] [] := F__law_whole.binds (ps := ["_law_found"]) fun _ _ _ _ _ _ us hl => match us, hl with | [_], _ => rfl
  have F__law_mixed : Fun K "_law_mixed" "_law_mixed" s__law_mixed (He.fAd K ("_law_mixed", none)) (fdA K (He.fAd K ("_law_mixed", none))) := fun_of (c.fn_ 12 (d := d__law_mixed) rfl)
  have b__law_mixed : Binds K (fdA K (He.fAd K ("_law_mixed", none))) ["_law_cell", "_law_k"] [] := F__law_mixed.binds (ps := ["_law_cell", "_law_k"]) fun _ _ _ _ _ _ us hl => match us, hl with | [_, _], _ => rfl
  have F__law_purse : Fun K "_law_purse" "_law_purse" s__law_purse (He.fAd K ("_law_purse", none)) (fdA K (He.fAd K ("_law_purse", none))) := fun_of (c.fn_ 13 (d := d__law_purse) rfl)
  have b__law_purse : Binds K (fdA K (He.fAd K ("_law_purse", none))) ["_law_script"] [] := F__law_purse.binds (ps := ["_law_script"]) fun _ _ _ _ _ _ us hl => match us, hl with | [_], _ => rfl
  have F__law_draw : Fun K "_law_draw" "_law_draw" s__law_draw (He.fAd K ("_law_draw", none)) (fdA K (He.fAd K ("_law_draw", none))) := fun_of (c.fn_ 14 (d := d__law_draw) rfl)
  have b__law_draw : Binds K (fdA K (He.fAd K ("_law_draw", none))) ["_law_purse_here", "_law_out_of"] [] := F__law_draw.binds (ps := ["_law_purse_here", "_law_out_of"]) fun _ _ _ _ _ _ us hl => match us, hl with | [_, _], _ => rfl
  have F__law_names : Fun K "_law_names" "_law_names" s__law_names (He.fAd K ("_law_names", none)) (fdA K (He.fAd K ("_law_names", none))) := fun_of (c.fn_ 15 (d := d__law_names) rfl)
  have b__law_names : Binds K (fdA K (He.fAd K ("_law_names", none))) ["_law_purse_here", "_law_many"] [] := F__law_names.binds (ps := ["_law_purse_here", "_law_many"]) fun _ _ _ _ _ _ us hl => match us, hl with | [_, _], _ => rfl
  have F__law_worth : Fun K "_law_worth" "_law_worth" s__law_worth (He.fAd K ("_law_worth", none)) (fdA K (He.fAd K ("_law_worth", none))) := fun_of (c.fn_ 16 (d := d__law_worth) rfl)
  have b__law_worth : Binds K (fdA K (He.fAd K ("_law_worth", none))) ["_law_purse_here"] [] := F__law_worth.binds (ps := ["_law_purse_here"]) fun _ _ _ _ _ _ us hl => match us, hl with | [_], _ => rfl
  have F__law_two : Fun K "_law_two" "_law_two" s__law_two (He.fAd K ("_law_two", none)) (fdA K (He.fAd K ("_law_two", none))) := fun_of (c.fn_ 17 (d := d__law_two) rfl)
  have b__law_two : Binds K (fdA K (He.fAd K ("_law_two", none))) ["_law_word", "_law_one", "_law_other"] [] := F__law_two.binds (ps := ["_law_word", "_law_one", "_law_other"]) fun _ _ _ _ _ _ us hl => match us, hl with | [_, _, _], _ => rfl
  have F__law_reckoned : Fun K "_law_reckoned" "_law_reckoned" s__law_reckoned (He.fAd K ("_law_reckoned", none)) (fdA K (He.fAd K ("_law_reckoned", none))) := fun_of (c.fn_ 18 (d := d__law_reckoned) rfl)
  have b__law_reckoned : Binds K (fdA K (He.fAd K ("_law_reckoned", none))) ["_law_formula", "_law_boxes", "_law_queues", "_law_now", "_law_got"] [] := F__law_reckoned.binds (ps := ["_law_formula", "_law_boxes", "_law_queues", "_law_now", "_law_got"]) fun _ _ _ _ _ _ us hl => match us, hl with | [_, _, _, _, _], _ => rfl
  have F__law_told : Fun K "_law_told" "_law_told" s__law_told (He.fAd K ("_law_told", none)) (fdA K (He.fAd K ("_law_told", none))) := fun_of (c.fn_ 19 (d := d__law_told) rfl)
  have b__law_told : Binds K (fdA K (He.fAd K ("_law_told", none))) ["_law_formula", "_law_state"] [] := F__law_told.binds (ps := ["_law_formula", "_law_state"]) fun _ _ _ _ _ _ us hl => match us, hl with | [_, _], _ => rfl
  have F_law : Fun K "law" "law" s_law (He.fAd K ("law", none)) (fdA K (He.fAd K ("law", none))) := fun_of (c.fn_ 20 (d := d_law) rfl)
  have b_law : Binds K (fdA K (He.fAd K ("law", none))) ["_law_script"] [] := F_law.binds (ps := ["_law_script"]) fun _ _ _ _ _ _ us hl => match us, hl with | [_], _ => rfl
  exact ⟨He.glo_ok X G (c.fact 0),
    He.glo_ok X G (c.fact 1),
    He.glo_ok X G (c.fact 2),
    He.glo_ok X G (c.fact 3),
    He.glo_ok X G (c.fact 4),
    He.cls_ok (c.fact 5),
    He.noat_ok (c.fact 6),
    ⟨He.glo_ok X G (c.fact 8), He.mkr_ok (c.fact 7), b_Model_init⟩,
    He.glo_ok X G (c.fact 9),
    He.cls_ok (c.fact 10),
    He.noat_ok (c.fact 11),
    He.noat_ok (c.fact 12),
    He.noat_ok (c.fact 13),
    He.noat_ok (c.fact 14),
    ⟨He.glo_ok X G (c.fact 16), He.mkr_ok (c.fact 15), b_State_init⟩,
    ⟨He.glo_ok X G (c.fact 18), (He.exc_ok (c.fact 17)).1, (He.exc_ok (c.fact 17)).2.1, (He.exc_ok (c.fact 17)).2.2.1, (He.exc_ok (c.fact 17)).2.2.2⟩,
    ⟨He.glo_ok X G (c.fact 20), (He.exc_ok (c.fact 19)).1, (He.exc_ok (c.fact 19)).2.1, (He.exc_ok (c.fact 19)).2.2.1, (He.exc_ok (c.fact 19)).2.2.2⟩,
    ⟨He.glo_ok X G (c.fact 22), (He.exc_ok (c.fact 21)).1, (He.exc_ok (c.fact 21)).2.1, (He.exc_ok (c.fact 21)).2.2.1, (He.exc_ok (c.fact 21)).2.2.2⟩,
    ⟨He.glo_ok X G (c.fact 24), (He.exc_ok (c.fact 23)).1, (He.exc_ok (c.fact 23)).2.1, (He.exc_ok (c.fact 23)).2.2.1, (He.exc_ok (c.fact 23)).2.2.2⟩,
    He.exm_ok (c.fact 25),
    He.exm_ok (c.fact 26),
    He.exm_ok (c.fact 27),
    He.exm_ok (c.fact 28),
    He.exm_ok (c.fact 29),
    He.exm_ok (c.fact 30),
    He.exm_ok (c.fact 31),
    He.exm_ok (c.fact 32),
    He.exm_ok (c.fact 33),
    He.exm_ok (c.fact 34),
    He.exm_ok (c.fact 35),
    He.exm_ok (c.fact 36),
    He.exm_ok (c.fact 37),
    He.exm_ok (c.fact 38),
    He.exm_ok (c.fact 39),
    He.exm_ok (c.fact 40),
    He.free_ok X G (c.fact 41),
    He.free_ok X G (c.fact 42),
    He.free_ok X G (c.fact 43),
    He.free_ok X G (c.fact 44),
    He.free_ok X G (c.fact 45),
    He.free_ok X G (c.fact 46),
    He.free_ok X G (c.fact 47),
    He.free_ok X G (c.fact 48),
    He.free_ok X G (c.fact 49),
    He.int_ok X G (c.fact 50),
    F_Fault_word,
    F_Nought_word,
    F_Great_word,
    F_kept_in,
    ⟨He.glo_ok X G (c.fact 51), F_kept_in.kp, b_kept_in⟩,
    F_of_two,
    ⟨He.glo_ok X G (c.fact 52), F_of_two.kp, b_of_two⟩,
    F_worth_of,
    ⟨He.glo_ok X G (c.fact 53), F_worth_of.kp, b_worth_of⟩,
    F_copied,
    ⟨He.glo_ok X G (c.fact 54), F_copied.kp, b_copied⟩,
    F_copied_machine,
    ⟨He.glo_ok X G (c.fact 55), F_copied_machine.kp, b_copied_machine⟩,
    F_Model_init,
    F_State_init,
    F_first_state,
    ⟨He.glo_ok X G (c.fact 56), F_first_state.kp, b_first_state⟩,
    F__law_whole,
    ⟨He.glo_ok X G (c.fact 57), F__law_whole.kp, b__law_whole⟩,
    F__law_mixed,
    ⟨He.glo_ok X G (c.fact 58), F__law_mixed.kp, b__law_mixed⟩,
    F__law_purse,
    ⟨He.glo_ok X G (c.fact 59), F__law_purse.kp, b__law_purse⟩,
    F__law_draw,
    ⟨He.glo_ok X G (c.fact 60), F__law_draw.kp, b__law_draw⟩,
    F__law_names,
    ⟨He.glo_ok X G (c.fact 61), F__law_names.kp, b__law_names⟩,
    F__law_worth,
    ⟨He.glo_ok X G (c.fact 62), F__law_worth.kp, b__law_worth⟩,
    F__law_two,
    ⟨He.glo_ok X G (c.fact 63), F__law_two.kp, b__law_two⟩,
    F__law_reckoned,
    ⟨He.glo_ok X G (c.fact 64), F__law_reckoned.kp, b__law_reckoned⟩,
    F__law_told,
    ⟨He.glo_ok X G (c.fact 65), F__law_told.kp, b__law_told⟩,
    F_law,
    ⟨He.glo_ok X G (c.fact 66), F_law.kp, b_law⟩,
    ⟨He.meth_ok (c.fact 67), W_Fault_word⟩,
    ⟨He.meth_ok (c.fact 68), W_Nought_word⟩,
    ⟨He.meth_ok (c.fact 69), W_Great_word⟩⟩
end Mo
namespace Mo
open PySem PySem.Spec PyProof.Rows L2
/-! ### law_k04 -/
def spTold (n : Nat) (K : PySem.W.Frag) : Sp := fun vs H Q _ => ∃ (x : V) (f : Fm) (p : Addr) (s : MSt), vs = [x, .ref p] ∧ Dp K H x f.data ∧ f.depth < n ∧ StAt K H p s ∧ f.Ok s.bs s.qs ∧ (s.env 0 0 0).Ok s.bs s.qs ∧
  ∀ H', Ext H H' → Q (rv (f.ev (s.env 0 0 0))) H'
def oneM : Mach := ⟨"one", [], [], [], []⟩
theorem oneM_sm : oneM.Sm := ⟨by decide, by decide, by decide, by decide, fun _ h => (nomatch h)⟩
theorem oneM_nd : oneM.Nd := ⟨List.nodup_nil, List.nodup_nil⟩
theorem one_env : (oneM.first.env 0 0 0).Ok oneM.first.bs oneM.first.qs := ⟨fun _ h => (nomatch h), fun _ h => (nomatch h), ⟨by decide, by decide⟩, fun j hj => by
  show Worth (if j = 0 then 0 else 0)
  split <;> exact ⟨by decide, by decide⟩⟩
theorem rv_same {a b : Except Flt Int} (h : a = b) : rv a = rv b := by rw [h]
section
variable {P : Program} {w : World} {K : PySem.W.Frag} {mg : Str → Option Value} {base : Heap}
theorem ok__law_told (T : Tx K mg) (n : Nat) : OkG P w K mg base (n + 3) "_law_told" ["_law_formula", "_law_state"] (spTold n K) := by
  have G_worth_of := ok_worth_of (P := P) (w := w) (base := base) T n
  refine T.f__law_told.okX sc__law_told (fun vs H Q E h => ?_) (fun cdv A outer s H vs Q E hr h => ?_)
  · obtain ⟨x, f, p, s, rfl, _⟩ := h
    rfl
  · have hu1 := hu_of hr; have hu0 := hr.units0; have hu64 := hr.units; have hu65 := hu65_of hr; have nd := sc__law_told.nd
    obtain ⟨x, f, p, s, rfl, hx, hd, hs, hf, he, q⟩ := h
    refine ⟨_, (pss_cons (ps_set (i := 2) nd rfl (Or.inl rfl) pe_non)
      (pss_cons (ps_try_many rfl rfl (takes_of rfl rfl rfl rfl) (fun W2 pn2 xe2 tk2 ho2 => (pss_one (ps_set (i := 2) nd rfl (Or.inl rfl) (pcl T.g_worth_of G_worth_of hr tk2 (pa_cons (pv 0) (pa_cons (pv 1) (pa_cons pe_int (pa_cons (pe_lst (pa_cons pe_int (pa_cons pe_int pa_nil))) pa_nil))))))))
      (.cons ⟨rfl, by decide, .inl T.G_Nought⟩ (fun ea eo ecls ed epn ez ef => (pss_one (ps_set (i := 2) nd rfl (Or.inl rfl) pe_str))) (.cons ⟨rfl, by decide, .inl T.G_Great⟩ (fun ea eo ecls ed epn ez ef => (pss_one (ps_set (i := 2) nd rfl (Or.inl rfl) pe_str))) .nil)))
      (pss_one (ps_ret (pv 2))))), ?_⟩
    refine go_start (σ' := [some x, some (.ref p), none]) rfl ?_
    walk_at "we"
    refine go_sz rfl fun g hg => ?_
    have eg := Ext.new (o := .lst [V.int 0, V.int 0]) hg
    refine ⟨x, f, p, g, s, 0, 0, 0, rfl, dp_mono eg hx, hd, hs.ext eg, SqL.of upd_same, hf, he, fun m h1 => ?_, fun e h1 => ?_⟩
    · rw [h1] at q
      walk_at "we"
      exact q _ eg
    · rw [h1] at q
      rcases Fm.ev_err h1 with rfl | rfl
      · refine ⟨true, T.e_Nought_Nought, fun _ a _ => ?_, fun z => (nomatch z)⟩
        walk_at "we"
        exact q _ eg
      · refine ⟨false, T.e_Great_Nought, fun z => (nomatch z), fun _ => ?_⟩
        refine ⟨true, T.e_Great_Great, fun _ a _ => ?_, fun z => (nomatch z)⟩
        walk_at "we"
        exact q _ eg
theorem opn_all : ∀ (j : Nat) (v : V), (Op.all.map fun o => V.str o.name)[j]? = some v → ∃ o : Op, v = .str o.name := by
  intro j v h
  rw [List.getElem?_map] at h
  cases e : Op.all[j]? with
  | none => rw [e] at h; cases h
  | some o => rw [e] at h; cases h; exact ⟨o, rfl⟩
theorem ok_law (T : Tx K mg) : OkG P w K mg base 7 "law" ["_law_script"] (spLaw K) := by
  have G__law_whole := ok__law_whole (P := P) (w := w) (base := base) T
  have G__law_told := ok__law_told (P := P) (w := w) (base := base) T 2
  have G__law_reckoned := ok__law_reckoned (P := P) (w := w) (base := base) T 2
  have G__law_draw := ok__law_draw (P := P) (w := w) (base := base) T
  have G__law_worth := ok__law_worth (P := P) (w := w) (base := base) T
  have G_first_state := ok_first_state (P := P) (w := w) (base := base) T
  have G_Model_init := ok_Model_init (P := P) (w := w) (base := base) T 1
  have G__law_purse := ok__law_purse (P := P) (w := w) (base := base) T
  refine T.f_law.okX sc_law (fun vs H Q E h => ?_) (fun cdv A outer s H vs Q E hr h => ?_)
  · obtain ⟨a, ns, rfl, _⟩ := h
    rfl
  · have hu1 := hu_of hr; have hu0 := hr.units0; have hu64 := hr.units; have hu65 := hu65_of hr; have nd := sc_law.nd
    obtain ⟨a, ns, rfl, _, hS, hl, hb, q⟩ := h
    refine ⟨_, (pss_cons (ps_set (i := 1) nd rfl (Or.inl rfl) (pcl T.g__law_purse G__law_purse hr (takes_of rfl rfl rfl rfl) (pa_cons (pv 0) pa_nil)))
      (pss_cons (ps_set (i := 2) nd rfl (Or.inl rfl) (pcl T.g_first_state G_first_state hr (takes_of rfl rfl rfl rfl) (pa_cons (pmkK (K := K) rfl T.k_Model G_Model_init hr (takes_of rfl rfl rfl rfl) (pa_cons (pe_lst (pa_cons (pe_tup (pa_cons pe_str (pa_cons (pe_lst pa_nil) (pa_cons (pe_lst pa_nil) (pa_cons (pe_lst pa_nil) (pa_cons (pe_lst pa_nil) pa_nil)))))) pa_nil)) pa_nil)) (pa_cons pe_int pa_nil))))
      (pss_cons (ps_for (passes_of rfl) rfl (pi_range1 rfl T.b_range (pa_cons pe_int pa_nil)) (pg_name (i := 3) nd rfl (Or.inl rfl))
      (pss_cons (ps_set (i := 4) nd rfl (Or.inl rfl) (pcl T.g__law_worth G__law_worth hr (takes_of rfl rfl rfl rfl) (pa_cons (pv 1) pa_nil)))
      (pss_cons (ps_set (i := 5) nd rfl (Or.inl rfl) (pe_ix (ix_anyK (K := K) rfl hu1) (pe_lst (pa_cons (pcl T.g__law_worth G__law_worth hr (takes_of rfl rfl rfl rfl) (pa_cons (pv 1) pa_nil)) (pa_cons pe_int (pa_cons (pv 4) (pa_cons (pe_callB (call_max2 rfl) (by rfl) T.b_max (by decide +kernel) (pa_cons (pe_un un_neg (pe_op op_pow pe_int pe_int)) (pa_cons (pe_op op_sub (pv 4) pe_int) pa_nil))) (pa_cons (pe_op op_sub (pcl T.g__law_draw G__law_draw hr (takes_of rfl rfl rfl rfl) (pa_cons (pv 1) (pa_cons pe_int pa_nil))) pe_int) pa_nil)))))) (pcl T.g__law_draw G__law_draw hr (takes_of rfl rfl rfl rfl) (pa_cons (pv 1) (pa_cons pe_int pa_nil))) (fun _ _ => rfl)))
      (pss_one (ps_for (passes_of rfl) rfl (pi_seqK (K := K) rfl (pe_lst (pa_cons pe_str (pa_cons pe_str (pa_cons pe_str (pa_cons pe_str (pa_cons pe_str (pa_cons pe_str (pa_cons pe_str pa_nil))))))))) (pg_name (i := 6) nd rfl (Or.inl rfl))
      (pss_cons (ps_set (i := 7) nd rfl (Or.inl rfl) (pe_tup (pa_cons (pv 6) (pa_cons (pe_tup (pa_cons pe_str (pa_cons (pv 4) pa_nil))) (pa_cons (pe_tup (pa_cons pe_str (pa_cons (pv 5) pa_nil))) pa_nil)))))
      (pss_cons (ps_set (i := 8) nd rfl (Or.inl rfl) (pcl T.g__law_reckoned G__law_reckoned hr (takes_of rfl rfl rfl rfl) (pa_cons (pv 7) (pa_cons pe_dnew (pa_cons pe_dnew (pa_cons pe_int (pa_cons (pe_lst (pa_cons pe_int (pa_cons pe_int pa_nil))) pa_nil)))))))
      (pss_cons (ps_set (i := 9) nd rfl (Or.inl rfl) (pcl T.g__law_told G__law_told hr (takes_of rfl rfl rfl rfl) (pa_cons (pv 7) (pa_cons (pv 2) pa_nil))))
      (pss_cons (ps_if (PW.pt (pw_or (pt_cmpR (op_neK (K := K) rfl hu64) (pe_callB (call_isiKK (K := K) rfl) (by rfl) T.b_isinstance (by decide +kernel) (pa_cons (pv 8) (pa_cons (pe_bltn (v := .ty "str") (by rfl) T.b_str (by decide +kernel) rfl) pa_nil))) (pe_callB (call_isiKK (K := K) rfl) (by rfl) T.b_isinstance (by decide +kernel) (pa_cons (pv 9) (pa_cons (pe_bltn (v := .ty "str") (by rfl) T.b_str (by decide +kernel) rfl) pa_nil))) (nomark _)) (pw_or1 (pt_cmpR (op_neK (K := K) rfl hu64) (pv 9) (pv 8) (nomark _))))) (pss_one (ps_ret pe_bl))
      pss_nil)
      (pss_one (ps_if (PW.pt (pw_and (pt_not (pt_truth (pe_callB (call_isiKK (K := K) rfl) (by rfl) T.b_isinstance (by decide +kernel) (pa_cons (pv 8) (pa_cons (pe_bltn (v := .ty "str") (by rfl) T.b_str (by decide +kernel) rfl) pa_nil))) (by intro _; rfl))) (pw_and1 (pt_not (pt_truth (pcl T.g__law_whole G__law_whole hr (takes_of rfl rfl rfl rfl) (pa_cons (pv 9) pa_nil)) (by intro _; rfl)))))) (pss_one (ps_ret pe_bl))
      pss_nil)))))))))))
      (pss_one (ps_ret pe_bl))))), ?_⟩
    refine go_start (σ' := [some (.ref a), none, none, none, none, none, none, none, none, none]) rfl ?_
    walk_at "we"
    refine ⟨a, ns, rfl, hS, hl, fun z hz => bd_bits (hb z hz), fun pu H1 z1 => ?_⟩
    walk_at "we"
    refine go_sz rfl fun a1 h1 => ?_
    generalize g1 : upd H1 a1 _ = H2
    have x1 : Ext H1 H2 := g1 ▸ Ext.new h1
    have y1 : H2 a1 = some (.lst []) := g1 ▸ upd_same
    walk_at "we"
    refine go_sz rfl fun a2 h2 => ?_
    generalize g2 : upd H2 a2 _ = H3
    have x2 : Ext H2 H3 := g2 ▸ Ext.new h2
    have y2 : H3 a2 = some (.lst []) := g2 ▸ upd_same
    walk_at "we"
    refine go_sz rfl fun a3 h3 => ?_
    generalize g3 : upd H3 a3 _ = H4
    have x3 : Ext H3 H4 := g3 ▸ Ext.new h3
    have y3 : H4 a3 = some (.lst []) := g3 ▸ upd_same
    walk_at "we"
    refine go_sz rfl fun a4 h4 => ?_
    generalize g4 : upd H4 a4 _ = H5
    have x4 : Ext H4 H5 := g4 ▸ Ext.new h4
    have y4 : H5 a4 = some (.lst []) := g4 ▸ upd_same
    walk_at "we"
    refine go_sz rfl fun a5 h5 => ?_
    generalize g5 : upd H5 a5 _ = H6
    have x5 : Ext H5 H6 := g5 ▸ Ext.new h5
    have y5 : H6 a5 = some (.tup [.str "one", .ref a1, .ref a2, .ref a3, .ref a4]) := g5 ▸ upd_same
    walk_at "we"
    refine go_sz rfl fun a6 h6 => ?_
    generalize g6 : upd H6 a6 _ = H7
    have x6 : Ext H6 H7 := g6 ▸ Ext.new h6
    have y6 : H7 a6 = some (.lst [.ref a5]) := g6 ▸ upd_same
    walk_at "we"
    intro p dx np nd2 ne
    have x7 : Ext H7 (upd (upd H7 dx (.own p)) p (.ins (He.ga K "Model") dx [])) := Ext.made np nd2
    have x27 := ((((x2.trans x3).trans x4).trans x5).trans x6).trans x7
    have z2 := (z1.grow (x1.trans (((((x2.trans x3).trans x4).trans x5).trans x6)))).made (φ := Eq (.ins (He.ga K "Model") dx [])) np nd2 ne rfl
    refine ⟨H, _, p, dx, a6, [.ref a5], [oneM], rfl, z2, ext_l x7 (SqL.of y6), rfl, ?_, ?_, by decide, fun lm G8 H8 u1 u2 z3 w3 => ⟨rfl, ?_⟩⟩
    · intro i x m h1 h2
      match i, h1, h2 with
      | 0, h1, h2 =>
        cases h1
        cases h2
        exact ⟨a5, a1, a2, a3, a4, rfl, ext_t (x6.trans x7) (SqT.of y5), ⟨[], ext_l x27 (SqL.of y1), .nil⟩, ext_l (((x3.trans x4).trans (x5.trans x6)).trans x7) (SqL.of y2), ext_l ((x4.trans (x5.trans x6)).trans x7) (SqL.of y3), [],
          ext_l ((x5.trans x6).trans x7) (SqL.of y4), rfl, fun i x h => (nomatch h)⟩
      | i + 1, h1, h2 => cases h1
    · intro m hm
      cases List.mem_singleton.mp hm
      exact ⟨by decide, oneM_sm⟩
    -- the model stays
    have z4 := z3.freeze (z3.eq List.mem_cons_self)
    have e8 : Ext G8 (upd G8 p (.ins (He.ga K "Model") dx (fl_Model (.ref lm)))) := Ext.new (z3.no List.mem_cons_self)
    have hMG : ModelG K (upd G8 p (.ins (He.ga K "Model") dx (fl_Model (.ref lm)))) p [oneM] := ⟨dx, lm, upd_same, dp_mono e8 w3⟩
    walk_at "we"
    refine ⟨_, _, p, [oneM], 0, oneM, rfl, z4, hMG, rfl, oneM_nd, oneM_sm, fun st dx2 b c as H9 hal _ z5 => ?_⟩
    generalize upd G8 p _ = G at z5
    have hpm : (pu, Purse) ∈ vo (StC K st dx2 b c as oneM.first) ++ [(pu, Purse)] := List.mem_append_right _ List.mem_cons_self
    have hin : ∀ {H : Hp}, Hd G H (vo (StC K st dx2 b c as oneM.first) ++ [(pu, Purse)]) → StAt K H st oneM.first := fun h => ⟨dx2, b, c, as, by rw [hal]; rfl, h.inH fun e he => List.mem_append_left _ he⟩
    generalize vo (StC K st dx2 b c as oneM.first) ++ [(pu, Purse)] = L at z5 hpm hin
    walk_at "we"
    refine go_r1 6 rfl (by decide) ?_
    refine loop_r 6 (fun _ σ H => ∃ u3 u4 u5 u6 u7 u8 u9, σ = [some (.ref a), some (.ref pu), some (.ref st), u3, u4, u5, u6, u7, u8, u9] ∧ Hd G H L) ⟨_, _, _, _, _, _, _, rfl, z5⟩ ?_ ?_
    · rintro k σ1 H1 _ ⟨u3, u4, u5, u6, u7, u8, u9, rfl, z6⟩
      walk_at "we"
      refine ⟨G, L, pu, rfl, z6, hpm, fun one H2 w1 z7 => ?_⟩
      walk_at "we"
      refine ⟨G, L, pu, rfl, z7, hpm, fun oth H3 w2 z8 => ?_⟩
      walk_at "we"
      refine go_max ?_
      walk_at "we"
      refine ⟨G, L, pu, 9, rfl, z8, hpm, by decide, by decide, fun d H4 d0 d1 z9 => ?_⟩
      walk_at "we"
      refine go_sz rfl fun lw hlw => ?_
      have z10 := z9.new hlw (φ := Eq (.lst [.int oth, .int 0, .int one, .int (if one - 1 > -1000000000000000 then one - 1 else -1000000000000000), .int (d - 4)])) rfl
      walk_at "we"
      refine ⟨G, _, pu, 5, rfl, z10, List.mem_cons_of_mem _ hpm, by decide, by decide, fun j H5 j0 j1 z11 => ?_⟩
      have ho : ∃ o, Worth o ∧ atI [V.int oth, .int 0, .int one, .int (if one - 1 > -1000000000000000 then one - 1 else -1000000000000000), .int (d - 4)] j = some (.int o) := by
        have hj : j = 0 ∨ j = 1 ∨ j = 2 ∨ j = 3 ∨ j = 4 := by omega
        obtain ⟨wa, wb⟩ := w1
        rcases hj with rfl | rfl | rfl | rfl | rfl
        · exact ⟨oth, w2, rfl⟩
        · exact ⟨0, ⟨by decide, by decide⟩, rfl⟩
        · exact ⟨one, ⟨wa, wb⟩, rfl⟩
        · refine ⟨_, ?_, rfl⟩
          unfold Worth
          split <;> omega
        · exact ⟨d - 4, ⟨by omega, by omega⟩, rfl⟩
      obtain ⟨o2, w3, e3⟩ := ho
      refine go_subL (SqL.of (z11.eq List.mem_cons_self)) e3 ?_
      have z12 := z11.drop
      walk_at "we"
      refine go_sz rfl fun lo hlo => ?_
      generalize g1 : upd H5 lo _ = H6
      have y1 : H6 lo = some (.lst (Op.all.map fun o => V.str o.name)) := g1 ▸ upd_same
      have z13 := z12.grow (H' := H6) (g1 ▸ Ext.new hlo)
      refine go_sqL (SqL.of y1) ?_
      refine loop_l (xs := Op.all.map fun o => V.str o.name) (fun _ σ H => ∃ u6 u7 u8 u9, σ = [some (.ref a), some (.ref pu), some (.ref st), some (.int (k : Int)), some (.int one), some (.int o2), u6, u7, u8, u9] ∧ Ext H6 H)
        ⟨_, _, _, _, rfl, Ext.refl _⟩ (fun i σ' H' _ ⟨_, _, _, _, _, e⟩ => ext_l e (SqL.of y1)) ?_ ?_
      · rintro i x σ2 H7 hx ⟨v6, v7, v8, v9, rfl, x7⟩
        obtain ⟨o, rfl⟩ := opn_all i x hx
        walk_at "we"
        refine go_sz rfl fun t1 ht1 => ?_
        generalize g2 : upd H7 t1 _ = H8
        have x8 : Ext H7 H8 := g2 ▸ Ext.new ht1
        have y2 : H8 t1 = some (.tup [.str "number", .int one]) := g2 ▸ upd_same
        walk_at "we"
        refine go_sz rfl fun t2 ht2 => ?_
        generalize g3 : upd H8 t2 _ = H9
        have x9 : Ext H8 H9 := g3 ▸ Ext.new ht2
        have y3 : H9 t2 = some (.tup [.str "number", .int o2]) := g3 ▸ upd_same
        walk_at "we"
        refine go_sz rfl fun t3 ht3 => ?_
        generalize g4 : upd H9 t3 _ = H10
        have x10 : Ext H9 H10 := g4 ▸ Ext.new ht3
        have y4 : H10 t3 = some (.tup [.str o.name, .ref t1, .ref t2]) := g4 ▸ upd_same
        have hf : Dp K H10 (.ref t3) (Fm.two o (.num one) (.num o2)).data := .tup (SqT.of y4) (.cons (.str _) (.cons (.tup (ext_t (x9.trans x10) (SqT.of y2)) (.cons (.str _) (.cons (.int _) .nil))) (.cons (.tup (ext_t x10 (SqT.of y3)) (.cons (.str _) (.cons (.int _) .nil))) .nil)))
        have hok : (Fm.two o (.num one) (.num o2)).Ok oneM.first.bs oneM.first.qs := ⟨w1, w3⟩
        walk_at "we"
        refine go_dK fun d1 hd1 => ?_
        generalize g5 : upd H10 d1 _ = H11
        have x11 : Ext H10 H11 := g5 ▸ Ext.new hd1
        have y5 : H11 d1 = some (.dK (boxesV oneM.first.boxes)) := g5 ▸ upd_same
        walk_at "we"
        refine go_dK fun d2 hd2 => ?_
        generalize g6 : upd H11 d2 _ = H12
        have x12 : Ext H11 H12 := g6 ▸ Ext.new hd2
        have y6 : H12 d2 = some (.dK (queuesV oneM.first.queues [])) := g6 ▸ upd_same
        walk_at "we"
        refine go_sz rfl fun gl hgl => ?_
        generalize g7 : upd H12 gl _ = H13
        have x13 : Ext H12 H13 := g7 ▸ Ext.new hgl
        have y7 : H13 gl = some (.lst [.int 0, .int 0]) := g7 ▸ upd_same
        walk_at "we"
        refine ⟨_, Fm.two o (.num one) (.num o2), d1, d2, gl, [], oneM.first, 0, 0, 0, rfl, dp_mono ((x11.trans x12).trans x13) hf, Nat.lt_succ_self 1, (x12.trans x13) _ _ y5, x13 _ _ y6, fun _ h => (nomatch h), SqL.of y7, hok, one_env, fun H14 x14 => ?_⟩
        walk_at "we"
        have x4 := ((x11.trans x12).trans x13).trans x14
        have z14 := z13.grow ((x7.trans ((x8.trans x9).trans x10)).trans x4)
        refine ⟨_, Fm.two o (.num one) (.num o2), st, oneM.first, rfl, dp_mono x4 hf, Nat.lt_succ_self 1, hin z14, hok, one_env, fun H15 x15 => ?_⟩
        have x16 : Ext H6 H15 := ((x7.trans ((x8.trans x9).trans x10)).trans x4).trans x15
        cases (Fm.two o (.num one) (.num o2)).ev (oneM.first.env 0 0 0) with
        | ok n =>
          dsimp only [rv]
          walk_at "we"
          refine go_iteN (fun h => absurd rfl h) fun _ => ?_
          walk_at "we"
          refine go_iteN (fun h => absurd rfl h) fun _ => ?_
          walk_at "we"
          refine ⟨n, rfl, ?_⟩
          walk_at "we"
          exact ⟨_, _, _, _, rfl, x16⟩
        | error e =>
          dsimp only [rv]
          walk_at "we"
          refine go_iteN (fun h => absurd rfl h) fun _ => ?_
          walk_at "we"
          refine Mo.go_nes ?_
          walk_at "we"
          refine go_iteN (fun h => absurd rfl h) fun _ => ?_
          walk_at "we"
          exact ⟨_, _, _, _, rfl, x16⟩
      · rintro σ2 H7 ⟨v6, v7, v8, v9, rfl, x7⟩
        walk_at "we"
        exact ⟨_, _, _, _, _, _, _, rfl, z13.grow x7⟩
    · rintro σ1 H1 ⟨u3, u4, u5, u6, u7, u8, u9, rfl, z6⟩
      walk_at "we"
      exact q _
end
end Mo
open PySem PySem.W PySem.Calls PyProof.Rows
theorem PySem.Challenge.cw_momentloom_k04_formulas_of_two_holds : PySem.Challenge.rw_momentloom_k04_formulas_of_two.Holds := by
  w_on; o_law
  refine HandSHeadRun.head_any (r := Mo.Rr) (q := view Mo.Rr.prog [27]) (H := Mo.hk) (ob := Mo.ob) (M := 20000) (loose := Mo.loose) (d := HandSHeadRun.topDef Mo.Rr.prog 27) (kwd := []) Mo.ob_eq
    (by kernel_rfl) (fun s => by kernel_rfl) Mo.run (by kernel_rfl) (by kernel_rfl) (by kernel_rfl) (by rfl) (by first | assumption | decide +kernel) (by decide +kernel) ⟨rfl, rfl, rfl, rfl, rfl, by decide +kernel⟩ ?hw ?hc
  case hw => w_witness2
  case hc =>
    refine Mo.walk_ofEB (l := PySem.Challenge.rw_momentloom_k04_formulas_of_two) (n := 63) (k := 7) (x := "_law_script") (CX := fun w => L2.CX PySem.Challenge.rw_momentloom_k04_formulas_of_two.prog w) rfl (by decide) (by kernel_rfl) ⟨rfl, by decide, by decide⟩ ?F (fun _ _ _ _ _ z => Mo.cx_false z)
    intro w mg fa h Y G hmg0
    obtain ⟨K, KX, c⟩ := Y
    have hmg : mg ("law" : PySem.Str) = some (.ref fa) := by
      have e : (HandSHeadRun.topDef Mo.Rr.prog 27).name = ("law" : PySem.Str) := by kernel_rfl
      rw [← e]
      exact hmg0
    have T := Mo.tx_of KX G c
    have e := hmg.symm.trans T.g_law.gl
    cases e
    exact ⟨K, _, Mo.spLaw K, KX, fun s u => Mo.fun_bindsTo T.f_law (ps := ["_law_script"]) (fun _ _ _ _ _ _ us hl => match us, hl with | [_], _ => rfl) s [u] rfl, fun H a ns hl hb hO hS => ⟨a, ns, rfl, hO, hS, hl, hb, fun _ => rfl⟩, fun base _ _ => Mo.ok_law T⟩
