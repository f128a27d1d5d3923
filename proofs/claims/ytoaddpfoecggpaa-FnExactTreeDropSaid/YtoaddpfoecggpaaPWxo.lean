-- Written for this claim by the session's program pp.py, out of the kit's print and the seat's translation.
import Derived.Test.YtoaddpfoecggpaaPWx0
import Derived.WalkKit
import Derived.ProofKit
import Derived.OpenShut
import Derived.ChangeOld
import Derived.ChangeArms
import Derived.ChangeSlices
import Derived.DataReads
import Derived.WideShapes
import Derived.Deep.Slices
import Derived.KernelRfl
namespace Go.Proofs.Ytoaddpfoecggpaa.PW
open Go.RowKit Go.ChangeShapes Go.WideShapes Go.Proofs.YtoaddpfoecggpaaW.PrintWords Go.Proofs.YtoaddpfoecggpaaW.PrintLast Go.Proofs.YtoaddpfoecggpaaW.PrintMore
set_option linter.unusedVariables false
set_option maxRecDepth 100000
/-- What is read of type t (by 'fuel' steps) is told by the kind d, and meets ok. -/
def OpensF {α : Type} (P : Program) (n : Nat) (t : TypeId) (d : Kd α) (ok : α → Prop) : Prop :=
 ∀ (H : Type) (enc : TypeId × Value → H) (w : World) (base : Nat) (spare : Nat → Bool) (held : Bool) (cs : List Value) (y : DataW H × List MemPlace),
  DataW.trod enc P w base spare held n t cs = some y → ∃ x, d.K w x cs ∧ ok x
theorem opens_int {P : Program} {t : TypeId} {k : IntKind} (ht : P.underlying t = some (.int k)) (n : Nat) : OpensF P n t (Kd.int k) (fun x => (Lit.int k x).wf = true) := by
 intro H enc w base spare held cs y h
 obtain ⟨m, rfl, rfl, hw⟩ := DataW.trod_int ht h
 exact ⟨m, rfl, hw⟩
theorem opens_bool {P : Program} {t : TypeId} (ht : P.underlying t = some .bool) (n : Nat) : OpensF P n t Kd.bool (fun _ => True) := by
 intro H enc w base spare held cs y h
 obtain ⟨b, rfl, rfl⟩ := DataW.trod_bool ht h
 exact ⟨b, rfl, trivial⟩
theorem opens_slice {α : Type} [Inhabited α] {P : Program} {t e : TypeId} {d : Kd α} {ok : α → Prop} (ht : P.underlying t = some (.slice e)) (hc : P.cellsOf e = d.sz) (n : Nat) (h : ∀ m, m < n → OpensF P m e d ok) :
  OpensF P n t (Kd.slice e d) (fun xs => xs.length ≤ maxLen ∧ ∀ x ∈ xs, ok x) := by
 intro H enc w base spare held cs y hy
 rcases DataW.trod_slice ht hy with ⟨rfl, _⟩ | ⟨a, len, cap, elems, rest, m, rfl, rfl, _, hb, hl, hm, hlen, hel, _, _⟩
 ·exact ⟨[], ⟨none, 0, rfl, Nat.le_refl _, Kd.C_nil d w⟩, Nat.zero_le _, fun x hx => by cases hx⟩
 ·have each : ∀ i, i < len → ∃ x, (∃ c, c.length = d.sz ∧ d.K w x c ∧ ∀ j u, c[j]? = some u → w.cell? (a.add (i * d.sz + j)) = some u) ∧ ok x := by
   intro i hi
   have he := hel i hi
   rw [List.getElem?_eq_getElem (by omega)] at he
   obtain ⟨cs', h1, h2⟩ := Option.bind_eq_some_iff.1 he
   obtain ⟨x, hk, hx⟩ := h m (Nat.lt_succ_self m) H enc w base spare held cs' _ h2
   obtain ⟨_, hcl, hcell⟩ := World.cells?_some h1
   rw [hc] at hcl hcell
   refine ⟨x, ⟨cs', hcl, hk, fun j u hu => ?_⟩, hx⟩
   have hj : j < d.sz := by
    rw [← hcl]
    exact (List.getElem?_eq_some_iff.1 hu).1
   rw [← hu, ← hcell j hj]
   congr 1
   unfold Addr.add
   by_cases h3 : i * d.sz = 0 <;> by_cases h4 : j = 0 <;> simp [h3, h4, Nat.add_assoc]
  obtain ⟨V, hV⟩ := Go.Deep.choose_lt each
  refine ⟨(List.range len).map V, ⟨some a, cap, by rw [List.length_map, List.length_range], by rw [List.length_map, List.length_range]; exact hl, ?_⟩, by rw [List.length_map, List.length_range]; omega, fun x hx => ?_⟩
  ·refine ⟨rfl, by rw [List.length_map, List.length_range]; unfold maxLen at hm; omega, fun _ => ⟨a, rfl, fun j p hj => ?_⟩⟩
   rw [List.getElem?_map] at hj
   obtain ⟨j', hj', rfl⟩ := Option.map_eq_some_iff.1 hj
   obtain ⟨hj1, hj2⟩ := List.getElem?_eq_some_iff.1 hj'
   rw [List.getElem_range] at hj2
   subst hj2
   rw [List.length_range] at hj1
   exact (hV j hj1).1
  ·obtain ⟨i, hi, rfl⟩ := List.mem_map.1 hx
   exact (hV i (List.mem_range.1 hi)).2
theorem split_cons {α : Type} {n : Nat} {cs : List α} (h : cs.length = n + 1) : ∃ c r, cs = c :: r ∧ r.length = n := by
 cases cs with
 | nil => cases h
 | cons c r => exact ⟨c, r, rfl, by simpa using h⟩
theorem split_nil {α : Type} {cs : List α} (h : cs.length = 0) : cs = [] := List.eq_nil_of_length_eq_zero h
theorem okWide_agg {P : Program} {W : World} {r : Reach} {base : Nat} {t : TypeId} {v : Value} {fs : Array Field} (ht : P.underlying t = some (.struct fs)) (h : Value.okWide P W r base t v) : ∃ cs : Array Value, v = .agg cs := by
 unfold Value.okWide at h
 rw [ht] at h
 obtain ⟨cs, e, _⟩ := h
 exact ⟨cs, e⟩
instance : Inhabited S25 := ⟨z25⟩
theorem opensS25 : ∀ n : Nat, OpensF Try.prog n 25 k25 okS25 := by
 intro n
 induction n using Nat.strongRecOn with
 | _ n ih =>
 intro H enc w base spare held cs y h
 obtain ⟨xs, m, rfl, _, hl, hxl, hf⟩ := DataW.trod_struct Try.underlying25 h
 replace hl : cs.length = 4 := hl.trans (by kernel_rfl)
 replace hxl : xs.length = 4 := hxl
 obtain ⟨c0, cs0, rfl, hl0⟩ := split_cons hl
 obtain ⟨c1, cs1, rfl, hl1⟩ := split_cons hl0
 obtain ⟨c2, cs2, rfl, hl2⟩ := split_cons hl1
 obtain ⟨c3, cs3, rfl, hl3⟩ := split_cons hl2
 obtain rfl := split_nil hl3
 have z0 := hf 0 _ rfl
 change DataW.trod enc Try.prog w base spare held m 22 (List.take (Try.prog.cellsOf 22) (List.drop 0 [c0, c1, c2, c3])) = xs[0]? at z0
 rw [show Try.prog.cellsOf 22 = 1 from by kernel_rfl, List.getElem?_eq_getElem (by omega)] at z0
 have z1 := hf 1 _ rfl
 change DataW.trod enc Try.prog w base spare held m 4 (List.take (Try.prog.cellsOf 4) (List.drop 1 [c0, c1, c2, c3])) = xs[1]? at z1
 rw [show Try.prog.cellsOf 4 = 1 from by kernel_rfl, List.getElem?_eq_getElem (by omega)] at z1
 have z2 := hf 2 _ rfl
 change DataW.trod enc Try.prog w base spare held m 3 (List.take (Try.prog.cellsOf 3) (List.drop 2 [c0, c1, c2, c3])) = xs[2]? at z2
 rw [show Try.prog.cellsOf 3 = 1 from by kernel_rfl, List.getElem?_eq_getElem (by omega)] at z2
 have z3 := hf 3 _ rfl
 change DataW.trod enc Try.prog w base spare held m 23 (List.take (Try.prog.cellsOf 23) (List.drop 3 [c0, c1, c2, c3])) = xs[3]? at z3
 rw [show Try.prog.cellsOf 23 = 1 from by kernel_rfl, List.getElem?_eq_getElem (by omega)] at z3
 obtain ⟨x0, k0_, ok0⟩ := ((fun n_ => opens_slice Try.underlying22 (by kernel_rfl) n_ (fun m_ _ => (fun n_ => opens_int Try.underlying5 n_) m_)) m) _ enc w base spare held [c0] _ z0
 obtain ⟨A0, b0, e0, l0, g0⟩ := k0_
 obtain rfl := (List.cons.inj e0).1
 obtain ⟨x1, k1_, ok1⟩ := ((fun n_ => opens_bool Try.underlying4 n_) m) _ enc w base spare held [c1] _ z1
 obtain rfl := (List.cons.inj k1_).1
 obtain ⟨x2, k2_, ok2⟩ := ((fun n_ => opens_int Try.underlying3 n_) m) _ enc w base spare held [c2] _ z2
 obtain rfl := (List.cons.inj k2_).1
 obtain ⟨x3, k3_, ok3⟩ := (opens_slice Try.underlying23 (by kernel_rfl) m (fun m_ hm_ => ih m_ (by omega))) _ enc w base spare held [c3] _ z3
 obtain ⟨A3, b3, e3, l3, g3⟩ := k3_
 obtain rfl := (List.cons.inj e3).1
 exact ⟨(⟨x0, x1, x2, x3⟩ : S25), k25_mk w _ l0 g0 l3 g3, okS25.mk _ ok0 ok1 ok2 ok3.1 ok3.2⟩

end Go.Proofs.Ytoaddpfoecggpaa.PW
