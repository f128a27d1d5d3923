-- Written for this claim by the session's program pp.py, out of the kit's print and the seat's translation.
import Derived.Test.YtdgegnakiljfjaaPMx0
import Derived.WalkKit
import Derived.ProofKit
import Derived.OpenShut
import Derived.ChangeOld
import Derived.ChangeArms
import Derived.ChangeSlices
import Derived.DataReads
import Derived.WideShapes
import Derived.Deep.Slices
import Derived.KernelRfl
namespace Go.Proofs.Ytdgegnakiljfjaa.PM
open Go.RowKit Go.ChangeShapes Go.WideShapes Go.Proofs.YtdgegnakiljfjaaW.PrintWords Go.Proofs.YtdgegnakiljfjaaW.PrintLast Go.Proofs.YtdgegnakiljfjaaW.PrintMore
set_option linter.unusedVariables false
set_option maxRecDepth 100000
/-- What is read of type t (by 'fuel' steps) is told by the kind d, and meets ok. -/
def OpensF {α : Type} (P : Program) (n : Nat) (t : TypeId) (d : Kd α) (ok : α → Prop) : Prop :=
 ∀ (H : Type) (enc : TypeId × Value → H) (w : World) (base : Nat) (spare : Nat → Bool) (held : Bool) (cs : List Value) (y : DataW H × List MemPlace),
  DataW.trod enc P w base spare held n t cs = some y → ∃ x, d.K w x cs ∧ ok x
theorem opens_int {P : Program} {t : TypeId} {k : IntKind} (ht : P.underlying t = some (.int k)) (n : Nat) : OpensF P n t (Kd.int k) (fun x => (Lit.int k x).wf = true) := by
 intro H enc w base spare held cs y h
 obtain ⟨m, rfl, rfl, hw⟩ := DataW.trod_int ht h
 exact ⟨m, rfl, hw⟩
theorem opens_bool {P : Program} {t : TypeId} (ht : P.underlying t = some .bool) (n : Nat) : OpensF P n t Kd.bool (fun _ => True) := by
 intro H enc w base spare held cs y h
 obtain ⟨b, rfl, rfl⟩ := DataW.trod_bool ht h
 exact ⟨b, rfl, trivial⟩
theorem opens_slice {α : Type} [Inhabited α] {P : Program} {t e : TypeId} {d : Kd α} {ok : α → Prop} (ht : P.underlying t = some (.slice e)) (hc : P.cellsOf e = d.sz) (n : Nat) (h : ∀ m, m < n → OpensF P m e d ok) :
  OpensF P n t (Kd.slice e d) (fun xs => xs.length ≤ maxLen ∧ ∀ x ∈ xs, ok x) := by
 intro H enc w base spare held cs y hy
 rcases DataW.trod_slice ht hy with ⟨rfl, _⟩ | ⟨a, len, cap, elems, rest, m, rfl, rfl, _, hb, hl, hm, hlen, hel, _, _⟩
 ·exact ⟨[], ⟨none, 0, rfl, Nat.le_refl _, Kd.C_nil d w⟩, Nat.zero_le _, fun x hx => by cases hx⟩
 ·have each : ∀ i, i < len → ∃ x, (∃ c, c.length = d.sz ∧ d.K w x c ∧ ∀ j u, c[j]? = some u → w.cell? (a.add (i * d.sz + j)) = some u) ∧ ok x := by
   intro i hi
   have he := hel i hi
   rw [List.getElem?_eq_getElem (by omega)] at he
   obtain ⟨cs', h1, h2⟩ := Option.bind_eq_some_iff.1 he
   obtain ⟨x, hk, hx⟩ := h m (Nat.lt_succ_self m) H enc w base spare held cs' _ h2
   obtain ⟨_, hcl, hcell⟩ := World.cells?_some h1
   rw [hc] at hcl hcell
   refine ⟨x, ⟨cs', hcl, hk, fun j u hu => ?_⟩, hx⟩
   have hj : j < d.sz := by
    rw [← hcl]
    exact (List.getElem?_eq_some_iff.1 hu).1
   rw [← hu, ← hcell j hj]
   congr 1
   unfold Addr.add
   by_cases h3 : i * d.sz = 0 <;> by_cases h4 : j = 0 <;> simp [h3, h4, Nat.add_assoc]
  obtain ⟨V, hV⟩ := Go.Deep.choose_lt each
  refine ⟨(List.range len).map V, ⟨some a, cap, by rw [List.length_map, List.length_range], by rw [List.length_map, List.length_range]; exact hl, ?_⟩, by rw [List.length_map, List.length_range]; omega, fun x hx => ?_⟩
  ·refine ⟨rfl, by rw [List.length_map, List.length_range]; unfold maxLen at hm; omega, fun _ => ⟨a, rfl, fun j p hj => ?_⟩⟩
   rw [List.getElem?_map] at hj
   obtain ⟨j', hj', rfl⟩ := Option.map_eq_some_iff.1 hj
   obtain ⟨hj1, hj2⟩ := List.getElem?_eq_some_iff.1 hj'
   rw [List.getElem_range] at hj2
   subst hj2
   rw [List.length_range] at hj1
   exact (hV j hj1).1
  ·obtain ⟨i, hi, rfl⟩ := List.mem_map.1 hx
   exact (hV i (List.mem_range.1 hi)).2
theorem split_cons {α : Type} {n : Nat} {cs : List α} (h : cs.length = n + 1) : ∃ c r, cs = c :: r ∧ r.length = n := by
 cases cs with
 | nil => cases h
 | cons c r => exact ⟨c, r, rfl, by simpa using h⟩
theorem split_nil {α : Type} {cs : List α} (h : cs.length = 0) : cs = [] := List.eq_nil_of_length_eq_zero h
theorem okWide_agg {P : Program} {W : World} {r : Reach} {base : Nat} {t : TypeId} {v : Value} {fs : Array Field} (ht : P.underlying t = some (.struct fs)) (h : Value.okWide P W r base t v) : ∃ cs : Array Value, v = .agg cs := by
 unfold Value.okWide at h
 rw [ht] at h
 obtain ⟨cs, e, _⟩ := h
 exact ⟨cs, e⟩
instance : Inhabited S195 := ⟨z195⟩
theorem opensS195 : ∀ n : Nat, OpensF Try.prog n 195 k195 okS195 := by
 intro n
 induction n using Nat.strongRecOn with
 | _ n ih =>
 intro H enc w base spare held cs y h
 obtain ⟨xs, m, rfl, _, hl, hxl, hf⟩ := DataW.trod_struct Try.underlying195 h
 replace hl : cs.length = 4 := hl.trans (by kernel_rfl)
 replace hxl : xs.length = 4 := hxl
 obtain ⟨c0, cs0, rfl, hl0⟩ := split_cons hl
 obtain ⟨c1, cs1, rfl, hl1⟩ := split_cons hl0
 obtain ⟨c2, cs2, rfl, hl2⟩ := split_cons hl1
 obtain ⟨c3, cs3, rfl, hl3⟩ := split_cons hl2
 obtain rfl := split_nil hl3
 have z0 := hf 0 _ rfl
 change DataW.trod enc Try.prog w base spare held m 3 (List.take (Try.prog.cellsOf 3) (List.drop 0 [c0, c1, c2, c3])) = xs[0]? at z0
 rw [show Try.prog.cellsOf 3 = 1 from by kernel_rfl, List.getElem?_eq_getElem (by omega)] at z0
 have z1 := hf 1 _ rfl
 change DataW.trod enc Try.prog w base spare held m 52 (List.take (Try.prog.cellsOf 52) (List.drop 1 [c0, c1, c2, c3])) = xs[1]? at z1
 rw [show Try.prog.cellsOf 52 = 1 from by kernel_rfl, List.getElem?_eq_getElem (by omega)] at z1
 have z2 := hf 2 _ rfl
 change DataW.trod enc Try.prog w base spare held m 52 (List.take (Try.prog.cellsOf 52) (List.drop 2 [c0, c1, c2, c3])) = xs[2]? at z2
 rw [show Try.prog.cellsOf 52 = 1 from by kernel_rfl, List.getElem?_eq_getElem (by omega)] at z2
 have z3 := hf 3 _ rfl
 change DataW.trod enc Try.prog w base spare held m 3 (List.take (Try.prog.cellsOf 3) (List.drop 3 [c0, c1, c2, c3])) = xs[3]? at z3
 rw [show Try.prog.cellsOf 3 = 1 from by kernel_rfl, List.getElem?_eq_getElem (by omega)] at z3
 obtain ⟨x0, k0_, ok0⟩ := ((fun n_ => opens_int Try.underlying3 n_) m) _ enc w base spare held [c0] _ z0
 obtain rfl := (List.cons.inj k0_).1
 obtain ⟨x1, k1_, ok1⟩ := ((fun n_ => opens_slice Try.underlying52 (by kernel_rfl) n_ (fun m_ _ => (fun n_ => opens_int Try.underlying5 n_) m_)) m) _ enc w base spare held [c1] _ z1
 obtain ⟨A1, b1, e1, l1, g1⟩ := k1_
 obtain rfl := (List.cons.inj e1).1
 obtain ⟨x2, k2_, ok2⟩ := ((fun n_ => opens_slice Try.underlying52 (by kernel_rfl) n_ (fun m_ _ => (fun n_ => opens_int Try.underlying5 n_) m_)) m) _ enc w base spare held [c2] _ z2
 obtain ⟨A2, b2, e2, l2, g2⟩ := k2_
 obtain rfl := (List.cons.inj e2).1
 obtain ⟨x3, k3_, ok3⟩ := ((fun n_ => opens_int Try.underlying3 n_) m) _ enc w base spare held [c3] _ z3
 obtain rfl := (List.cons.inj k3_).1
 exact ⟨(⟨x0, x1, x2, x3⟩ : S195), k195_mk w _ l1 g1 l2 g2, ⟨ok0, ok1, ok2, ok3⟩⟩
instance : Inhabited S197 := ⟨z197⟩
theorem opensS197 : ∀ n : Nat, OpensF Try.prog n 197 k197 okS197 := by
 intro n
 induction n using Nat.strongRecOn with
 | _ n ih =>
 intro H enc w base spare held cs y h
 obtain ⟨xs, m, rfl, _, hl, hxl, hf⟩ := DataW.trod_struct Try.underlying197 h
 replace hl : cs.length = 6 := hl.trans (by kernel_rfl)
 replace hxl : xs.length = 3 := hxl
 obtain ⟨c0, cs0, rfl, hl0⟩ := split_cons hl
 obtain ⟨c1, cs1, rfl, hl1⟩ := split_cons hl0
 obtain ⟨c2, cs2, rfl, hl2⟩ := split_cons hl1
 obtain ⟨c3, cs3, rfl, hl3⟩ := split_cons hl2
 obtain ⟨c4, cs4, rfl, hl4⟩ := split_cons hl3
 obtain ⟨c5, cs5, rfl, hl5⟩ := split_cons hl4
 obtain rfl := split_nil hl5
 have z0 := hf 0 _ rfl
 change DataW.trod enc Try.prog w base spare held m 3 (List.take (Try.prog.cellsOf 3) (List.drop 0 [c0, c1, c2, c3, c4, c5])) = xs[0]? at z0
 rw [show Try.prog.cellsOf 3 = 1 from by kernel_rfl, List.getElem?_eq_getElem (by omega)] at z0
 have z1 := hf 1 _ rfl
 change DataW.trod enc Try.prog w base spare held m 3 (List.take (Try.prog.cellsOf 3) (List.drop 1 [c0, c1, c2, c3, c4, c5])) = xs[1]? at z1
 rw [show Try.prog.cellsOf 3 = 1 from by kernel_rfl, List.getElem?_eq_getElem (by omega)] at z1
 have z2 := hf 2 _ rfl
 change DataW.trod enc Try.prog w base spare held m 195 (List.take (Try.prog.cellsOf 195) (List.drop 2 [c0, c1, c2, c3, c4, c5])) = xs[2]? at z2
 rw [show Try.prog.cellsOf 195 = 4 from by kernel_rfl, List.getElem?_eq_getElem (by omega)] at z2
 obtain ⟨x0, k0_, ok0⟩ := ((fun n_ => opens_int Try.underlying3 n_) m) _ enc w base spare held [c0] _ z0
 obtain rfl := (List.cons.inj k0_).1
 obtain ⟨x1, k1_, ok1⟩ := ((fun n_ => opens_int Try.underlying3 n_) m) _ enc w base spare held [c1] _ z1
 obtain rfl := (List.cons.inj k1_).1
 obtain ⟨x2, k2_, ok2⟩ := (opensS195 m) _ enc w base spare held [c2, c3, c4, c5] _ z2
 obtain ⟨A3, b3, A4, b4, e2, l3, g3, l4, g4⟩ := k195_open k2_
 simp only [List.cons.injEq, and_true] at e2
 obtain ⟨rfl, rfl, rfl, rfl⟩ := e2
 exact ⟨(⟨x0, x1, x2⟩ : S197), k197_mk w _ l3 g3 l4 g4, ⟨ok0, ok1, ok2⟩⟩
instance : Inhabited S199 := ⟨z199⟩
theorem opensS199 : ∀ n : Nat, OpensF Try.prog n 199 k199 okS199 := by
 intro n
 induction n using Nat.strongRecOn with
 | _ n ih =>
 intro H enc w base spare held cs y h
 obtain ⟨xs, m, rfl, _, hl, hxl, hf⟩ := DataW.trod_struct Try.underlying199 h
 replace hl : cs.length = 7 := hl.trans (by kernel_rfl)
 replace hxl : xs.length = 2 := hxl
 obtain ⟨c0, cs0, rfl, hl0⟩ := split_cons hl
 obtain ⟨c1, cs1, rfl, hl1⟩ := split_cons hl0
 obtain ⟨c2, cs2, rfl, hl2⟩ := split_cons hl1
 obtain ⟨c3, cs3, rfl, hl3⟩ := split_cons hl2
 obtain ⟨c4, cs4, rfl, hl4⟩ := split_cons hl3
 obtain ⟨c5, cs5, rfl, hl5⟩ := split_cons hl4
 obtain ⟨c6, cs6, rfl, hl6⟩ := split_cons hl5
 obtain rfl := split_nil hl6
 have z0 := hf 0 _ rfl
 change DataW.trod enc Try.prog w base spare held m 3 (List.take (Try.prog.cellsOf 3) (List.drop 0 [c0, c1, c2, c3, c4, c5, c6])) = xs[0]? at z0
 rw [show Try.prog.cellsOf 3 = 1 from by kernel_rfl, List.getElem?_eq_getElem (by omega)] at z0
 have z1 := hf 1 _ rfl
 change DataW.trod enc Try.prog w base spare held m 197 (List.take (Try.prog.cellsOf 197) (List.drop 1 [c0, c1, c2, c3, c4, c5, c6])) = xs[1]? at z1
 rw [show Try.prog.cellsOf 197 = 6 from by kernel_rfl, List.getElem?_eq_getElem (by omega)] at z1
 obtain ⟨x0, k0_, ok0⟩ := ((fun n_ => opens_int Try.underlying3 n_) m) _ enc w base spare held [c0] _ z0
 obtain rfl := (List.cons.inj k0_).1
 obtain ⟨x1, k1_, ok1⟩ := (opensS197 m) _ enc w base spare held [c1, c2, c3, c4, c5, c6] _ z1
 obtain ⟨A4, b4, A5, b5, e1, l4, g4, l5, g5⟩ := k197_open k1_
 simp only [List.cons.injEq, and_true] at e1
 obtain ⟨rfl, rfl, rfl, rfl, rfl, rfl⟩ := e1
 exact ⟨(⟨x0, x1⟩ : S199), k199_mk w _ l4 g4 l5 g5, ⟨ok0, ok1⟩⟩
instance : Inhabited S65 := ⟨z65⟩
theorem opensS65 : ∀ n : Nat, OpensF Try.prog n 65 k65 okS65 := by
 intro n
 induction n using Nat.strongRecOn with
 | _ n ih =>
 intro H enc w base spare held cs y h
 obtain ⟨xs, m, rfl, _, hl, hxl, hf⟩ := DataW.trod_struct Try.underlying65 h
 replace hl : cs.length = 9 := hl.trans (by kernel_rfl)
 replace hxl : xs.length = 9 := hxl
 obtain ⟨c0, cs0, rfl, hl0⟩ := split_cons hl
 obtain ⟨c1, cs1, rfl, hl1⟩ := split_cons hl0
 obtain ⟨c2, cs2, rfl, hl2⟩ := split_cons hl1
 obtain ⟨c3, cs3, rfl, hl3⟩ := split_cons hl2
 obtain ⟨c4, cs4, rfl, hl4⟩ := split_cons hl3
 obtain ⟨c5, cs5, rfl, hl5⟩ := split_cons hl4
 obtain ⟨c6, cs6, rfl, hl6⟩ := split_cons hl5
 obtain ⟨c7, cs7, rfl, hl7⟩ := split_cons hl6
 obtain ⟨c8, cs8, rfl, hl8⟩ := split_cons hl7
 obtain rfl := split_nil hl8
 have z0 := hf 0 _ rfl
 change DataW.trod enc Try.prog w base spare held m 3 (List.take (Try.prog.cellsOf 3) (List.drop 0 [c0, c1, c2, c3, c4, c5, c6, c7, c8])) = xs[0]? at z0
 rw [show Try.prog.cellsOf 3 = 1 from by kernel_rfl, List.getElem?_eq_getElem (by omega)] at z0
 have z1 := hf 1 _ rfl
 change DataW.trod enc Try.prog w base spare held m 3 (List.take (Try.prog.cellsOf 3) (List.drop 1 [c0, c1, c2, c3, c4, c5, c6, c7, c8])) = xs[1]? at z1
 rw [show Try.prog.cellsOf 3 = 1 from by kernel_rfl, List.getElem?_eq_getElem (by omega)] at z1
 have z2 := hf 2 _ rfl
 change DataW.trod enc Try.prog w base spare held m 3 (List.take (Try.prog.cellsOf 3) (List.drop 2 [c0, c1, c2, c3, c4, c5, c6, c7, c8])) = xs[2]? at z2
 rw [show Try.prog.cellsOf 3 = 1 from by kernel_rfl, List.getElem?_eq_getElem (by omega)] at z2
 have z3 := hf 3 _ rfl
 change DataW.trod enc Try.prog w base spare held m 3 (List.take (Try.prog.cellsOf 3) (List.drop 3 [c0, c1, c2, c3, c4, c5, c6, c7, c8])) = xs[3]? at z3
 rw [show Try.prog.cellsOf 3 = 1 from by kernel_rfl, List.getElem?_eq_getElem (by omega)] at z3
 have z4 := hf 4 _ rfl
 change DataW.trod enc Try.prog w base spare held m 3 (List.take (Try.prog.cellsOf 3) (List.drop 4 [c0, c1, c2, c3, c4, c5, c6, c7, c8])) = xs[4]? at z4
 rw [show Try.prog.cellsOf 3 = 1 from by kernel_rfl, List.getElem?_eq_getElem (by omega)] at z4
 have z5 := hf 5 _ rfl
 change DataW.trod enc Try.prog w base spare held m 3 (List.take (Try.prog.cellsOf 3) (List.drop 5 [c0, c1, c2, c3, c4, c5, c6, c7, c8])) = xs[5]? at z5
 rw [show Try.prog.cellsOf 3 = 1 from by kernel_rfl, List.getElem?_eq_getElem (by omega)] at z5
 have z6 := hf 6 _ rfl
 change DataW.trod enc Try.prog w base spare held m 39 (List.take (Try.prog.cellsOf 39) (List.drop 6 [c0, c1, c2, c3, c4, c5, c6, c7, c8])) = xs[6]? at z6
 rw [show Try.prog.cellsOf 39 = 1 from by kernel_rfl, List.getElem?_eq_getElem (by omega)] at z6
 have z7 := hf 7 _ rfl
 change DataW.trod enc Try.prog w base spare held m 3 (List.take (Try.prog.cellsOf 3) (List.drop 7 [c0, c1, c2, c3, c4, c5, c6, c7, c8])) = xs[7]? at z7
 rw [show Try.prog.cellsOf 3 = 1 from by kernel_rfl, List.getElem?_eq_getElem (by omega)] at z7
 have z8 := hf 8 _ rfl
 change DataW.trod enc Try.prog w base spare held m 4 (List.take (Try.prog.cellsOf 4) (List.drop 8 [c0, c1, c2, c3, c4, c5, c6, c7, c8])) = xs[8]? at z8
 rw [show Try.prog.cellsOf 4 = 1 from by kernel_rfl, List.getElem?_eq_getElem (by omega)] at z8
 obtain ⟨x0, k0_, ok0⟩ := ((fun n_ => opens_int Try.underlying3 n_) m) _ enc w base spare held [c0] _ z0
 obtain rfl := (List.cons.inj k0_).1
 obtain ⟨x1, k1_, ok1⟩ := ((fun n_ => opens_int Try.underlying3 n_) m) _ enc w base spare held [c1] _ z1
 obtain rfl := (List.cons.inj k1_).1
 obtain ⟨x2, k2_, ok2⟩ := ((fun n_ => opens_int Try.underlying3 n_) m) _ enc w base spare held [c2] _ z2
 obtain rfl := (List.cons.inj k2_).1
 obtain ⟨x3, k3_, ok3⟩ := ((fun n_ => opens_int Try.underlying3 n_) m) _ enc w base spare held [c3] _ z3
 obtain rfl := (List.cons.inj k3_).1
 obtain ⟨x4, k4_, ok4⟩ := ((fun n_ => opens_int Try.underlying3 n_) m) _ enc w base spare held [c4] _ z4
 obtain rfl := (List.cons.inj k4_).1
 obtain ⟨x5, k5_, ok5⟩ := ((fun n_ => opens_int Try.underlying3 n_) m) _ enc w base spare held [c5] _ z5
 obtain rfl := (List.cons.inj k5_).1
 obtain ⟨x6, k6_, ok6⟩ := ((fun n_ => opens_slice Try.underlying39 (by kernel_rfl) n_ (fun m_ _ => opensS199 m_)) m) _ enc w base spare held [c6] _ z6
 obtain ⟨A6, b6, e6, l6, g6⟩ := k6_
 obtain rfl := (List.cons.inj e6).1
 obtain ⟨x7, k7_, ok7⟩ := ((fun n_ => opens_int Try.underlying3 n_) m) _ enc w base spare held [c7] _ z7
 obtain rfl := (List.cons.inj k7_).1
 obtain ⟨x8, k8_, ok8⟩ := ((fun n_ => opens_bool Try.underlying4 n_) m) _ enc w base spare held [c8] _ z8
 obtain rfl := (List.cons.inj k8_).1
 exact ⟨(⟨x0, x1, x2, x3, x4, x5, x6, x7, x8⟩ : S65), k65_mk w _ l6 g6, ⟨ok0, ok1, ok2, ok3, ok4, ok5, ok6, ok7, ok8⟩⟩

end Go.Proofs.Ytdgegnakiljfjaa.PM
