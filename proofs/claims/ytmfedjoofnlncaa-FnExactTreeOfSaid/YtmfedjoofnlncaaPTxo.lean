-- Written for this claim by the session's program pp.py, out of the kit's print and the seat's translation.
import Derived.Test.YtmfedjoofnlncaaPTx0
import Derived.WalkKit
import Derived.ProofKit
import Derived.OpenShut
import Derived.ChangeOld
import Derived.ChangeArms
import Derived.ChangeSlices
import Derived.DataReads
import Derived.WideShapes
import Derived.Deep.Slices
import Derived.KernelRfl
namespace Go.Proofs.Ytmfedjoofnlncaa.PT
open Go.RowKit Go.ChangeShapes Go.WideShapes Go.Proofs.YtmfedjoofnlncaaW.PrintWords Go.Proofs.YtmfedjoofnlncaaW.PrintLast Go.Proofs.YtmfedjoofnlncaaW.PrintMore
set_option linter.unusedVariables false
set_option maxRecDepth 100000
def zN {α : Type} (P : Program) (n : Nat) (t : TypeId) (d : Kd α) (ok : α → Prop) : Prop :=
 ∀ (H : Type) (enc : TypeId × Value → H) (w : World) (base : Nat) (spare : Nat → Bool) (held : Bool) (cs : List Value) (y : DataW H × List MemPlace),
  DataW.trod enc P w base spare held n t cs = some y → ∃ x, d.K w x cs ∧ ok x
theorem nP {P : Program} {t : TypeId} {k : IntKind} (ht : P.underlying t = some (.int k)) (n : Nat) : zN P n t (Kd.int k) (fun x => (Lit.int k x).wf = true) := by
 intro H enc w base spare held cs y h
 obtain ⟨m, rfl, rfl, hw⟩ := DataW.trod_int ht h
 exact ⟨m, rfl, hw⟩
theorem aaD {P : Program} {t : TypeId} (ht : P.underlying t = some .bool) (n : Nat) : zN P n t Kd.bool (fun _ => True) := by
 intro H enc w base spare held cs y h
 obtain ⟨b, rfl, rfl⟩ := DataW.trod_bool ht h
 exact ⟨b, rfl, trivial⟩
theorem rF {α : Type} [Inhabited α] {P : Program} {t e : TypeId} {d : Kd α} {ok : α → Prop} (ht : P.underlying t = some (.slice e)) (hc : P.cellsOf e = d.sz) (n : Nat) (h : ∀ m, m < n → zN P m e d ok) :
  zN P n t (Kd.slice e d) (fun xs => xs.length ≤ maxLen ∧ ∀ x ∈ xs, ok x) := by
 intro H enc w base spare held cs y hy
 rcases DataW.trod_slice ht hy with ⟨rfl, _⟩ | ⟨a, len, cap, elems, rest, m, rfl, rfl, _, hb, hl, hm, hlen, hel, _, _⟩
 ·exact ⟨[], ⟨none, 0, rfl, Nat.le_refl _, Kd.anu d w⟩, Nat.zero_le _, fun x hx => by cases hx⟩
 ·have each : ∀ i, i < len → ∃ x, (∃ c, c.length = d.sz ∧ d.K w x c ∧ ∀ j u, c[j]? = some u → w.cell? (a.add (i * d.sz + j)) = some u) ∧ ok x := by
   intro i hi
   have he := hel i hi
   rw [List.getElem?_eq_getElem (by omega)] at he
   obtain ⟨cs', h1, h2⟩ := Option.bind_eq_some_iff.1 he
   obtain ⟨x, hk, hx⟩ := h m (Nat.lt_succ_self m) H enc w base spare held cs' _ h2
   obtain ⟨_, hcl, hcell⟩ := World.cells?_some h1
   rw [hc] at hcl hcell
   refine ⟨x, ⟨cs', hcl, hk, fun j u hu => ?_⟩, hx⟩
   have hj : j < d.sz := by
    rw [← hcl]
    exact (List.getElem?_eq_some_iff.1 hu).1
   rw [← hu, ← hcell j hj]
   congr 1
   unfold Addr.add
   by_cases h3 : i * d.sz = 0 <;> by_cases h4 : j = 0 <;> simp [h3, h4, Nat.add_assoc]
  obtain ⟨V, hV⟩ := Go.Deep.choose_lt each
  refine ⟨(List.range len).map V, ⟨some a, cap, by rw [List.length_map, List.length_range], by rw [List.length_map, List.length_range]; exact hl, ?_⟩, by rw [List.length_map, List.length_range]; omega, fun x hx => ?_⟩
  ·refine ⟨rfl, by rw [List.length_map, List.length_range]; unfold maxLen at hm; omega, fun _ => ⟨a, rfl, fun j p hj => ?_⟩⟩
   rw [List.getElem?_map] at hj
   obtain ⟨j', hj', rfl⟩ := Option.map_eq_some_iff.1 hj
   obtain ⟨hj1, hj2⟩ := List.getElem?_eq_some_iff.1 hj'
   rw [List.getElem_range] at hj2
   subst hj2
   rw [List.length_range] at hj1
   exact (hV j hj1).1
  ·obtain ⟨i, hi, rfl⟩ := List.mem_map.1 hx
   exact (hV i (List.mem_range.1 hi)).2
theorem iL {α : Type} {n : Nat} {cs : List α} (h : cs.length = n + 1) : ∃ c r, cs = c :: r ∧ r.length = n := by
 cases cs with
 | nil => cases h
 | cons c r => exact ⟨c, r, rfl, by simpa using h⟩
theorem yl {α : Type} {cs : List α} (h : cs.length = 0) : cs = [] := List.eq_nil_of_length_eq_zero h
theorem XA {P : Program} {W : World} {r : Reach} {base : Nat} {t : TypeId} {v : Value} {fs : Array Field} (ht : P.underlying t = some (.struct fs)) (h : Value.okWide P W r base t v) : ∃ cs : Array Value, v = .agg cs := by
 unfold Value.okWide at h
 rw [ht] at h
 obtain ⟨cs, e, _⟩ := h
 exact ⟨cs, e⟩
instance : Inhabited BV := ⟨z79⟩
theorem ajp : ∀ n : Nat, zN Try.prog n 79 k79 af_ := by
 intro n
 induction n using Nat.strongRecOn with
 | _ n ih =>
 intro H enc w base spare held cs y h
 obtain ⟨xs, m, rfl, _, hl, hxl, hf⟩ := DataW.trod_struct Try.underlying79 h
 replace hl : cs.length = 4 := hl.trans (by kernel_rfl)
 replace hxl : xs.length = 4 := hxl
 obtain ⟨c0, cs0, rfl, hl0⟩ := iL hl
 obtain ⟨c1, cs1, rfl, hl1⟩ := iL hl0
 obtain ⟨c2, cs2, rfl, hl2⟩ := iL hl1
 obtain ⟨c3, cs3, rfl, hl3⟩ := iL hl2
 obtain rfl := yl hl3
 have z0 := hf 0 _ rfl
 change DataW.trod enc Try.prog w base spare held m 29 (List.take (Try.prog.cellsOf 29) (List.drop 0 [c0, c1, c2, c3])) = xs[0]? at z0
 rw [show Try.prog.cellsOf 29 = 1 from by kernel_rfl, List.getElem?_eq_getElem (by omega)] at z0
 have z1 := hf 1 _ rfl
 change DataW.trod enc Try.prog w base spare held m 29 (List.take (Try.prog.cellsOf 29) (List.drop 1 [c0, c1, c2, c3])) = xs[1]? at z1
 rw [show Try.prog.cellsOf 29 = 1 from by kernel_rfl, List.getElem?_eq_getElem (by omega)] at z1
 have z2 := hf 2 _ rfl
 change DataW.trod enc Try.prog w base spare held m 3 (List.take (Try.prog.cellsOf 3) (List.drop 2 [c0, c1, c2, c3])) = xs[2]? at z2
 rw [show Try.prog.cellsOf 3 = 1 from by kernel_rfl, List.getElem?_eq_getElem (by omega)] at z2
 have z3 := hf 3 _ rfl
 change DataW.trod enc Try.prog w base spare held m 3 (List.take (Try.prog.cellsOf 3) (List.drop 3 [c0, c1, c2, c3])) = xs[3]? at z3
 rw [show Try.prog.cellsOf 3 = 1 from by kernel_rfl, List.getElem?_eq_getElem (by omega)] at z3
 obtain ⟨x0, k0_, ok0⟩ := ((fun n_ => rF Try.underlying29 (by kernel_rfl) n_ (fun m_ _ => (fun n_ => nP Try.underlying5 n_) m_)) m) _ enc w base spare held [c0] _ z0
 obtain ⟨A0, b0, e0, l0, g0⟩ := k0_
 obtain rfl := (List.cons.inj e0).1
 obtain ⟨x1, k1_, ok1⟩ := ((fun n_ => rF Try.underlying29 (by kernel_rfl) n_ (fun m_ _ => (fun n_ => nP Try.underlying5 n_) m_)) m) _ enc w base spare held [c1] _ z1
 obtain ⟨A1, b1, e1, l1, g1⟩ := k1_
 obtain rfl := (List.cons.inj e1).1
 obtain ⟨x2, k2_, ok2⟩ := ((fun n_ => nP Try.underlying3 n_) m) _ enc w base spare held [c2] _ z2
 obtain rfl := (List.cons.inj k2_).1
 obtain ⟨x3, k3_, ok3⟩ := ((fun n_ => nP Try.underlying3 n_) m) _ enc w base spare held [c3] _ z3
 obtain rfl := (List.cons.inj k3_).1
 exact ⟨(⟨x0, x1, x2, x3⟩ : BV), apT w _ l0 g0 l1 g1, ⟨ok0, ok1, ok2, ok3⟩⟩
instance : Inhabited BX := ⟨z82⟩
theorem ajs : ∀ n : Nat, zN Try.prog n 82 k82 af' := by
 intro n
 induction n using Nat.strongRecOn with
 | _ n ih =>
 intro H enc w base spare held cs y h
 obtain ⟨xs, m, rfl, _, hl, hxl, hf⟩ := DataW.trod_struct Try.underlying82 h
 replace hl : cs.length = 2 := hl.trans (by kernel_rfl)
 replace hxl : xs.length = 2 := hxl
 obtain ⟨c0, cs0, rfl, hl0⟩ := iL hl
 obtain ⟨c1, cs1, rfl, hl1⟩ := iL hl0
 obtain rfl := yl hl1
 have z0 := hf 0 _ rfl
 change DataW.trod enc Try.prog w base spare held m 29 (List.take (Try.prog.cellsOf 29) (List.drop 0 [c0, c1])) = xs[0]? at z0
 rw [show Try.prog.cellsOf 29 = 1 from by kernel_rfl, List.getElem?_eq_getElem (by omega)] at z0
 have z1 := hf 1 _ rfl
 change DataW.trod enc Try.prog w base spare held m 3 (List.take (Try.prog.cellsOf 3) (List.drop 1 [c0, c1])) = xs[1]? at z1
 rw [show Try.prog.cellsOf 3 = 1 from by kernel_rfl, List.getElem?_eq_getElem (by omega)] at z1
 obtain ⟨x0, k0_, ok0⟩ := ((fun n_ => rF Try.underlying29 (by kernel_rfl) n_ (fun m_ _ => (fun n_ => nP Try.underlying5 n_) m_)) m) _ enc w base spare held [c0] _ z0
 obtain ⟨A0, b0, e0, l0, g0⟩ := k0_
 obtain rfl := (List.cons.inj e0).1
 obtain ⟨x1, k1_, ok1⟩ := ((fun n_ => nP Try.underlying3 n_) m) _ enc w base spare held [c1] _ z1
 obtain rfl := (List.cons.inj k1_).1
 exact ⟨(⟨x0, x1⟩ : BX), apU w _ l0 g0, ⟨ok0, ok1⟩⟩
instance : Inhabited Jm := ⟨z99⟩
theorem ajt : ∀ n : Nat, zN Try.prog n 99 k99 ann := by
 intro n
 induction n using Nat.strongRecOn with
 | _ n ih =>
 intro H enc w base spare held cs y h
 obtain ⟨xs, m, rfl, _, hl, hxl, hf⟩ := DataW.trod_struct Try.underlying99 h
 replace hl : cs.length = 2 := hl.trans (by kernel_rfl)
 replace hxl : xs.length = 2 := hxl
 obtain ⟨c0, cs0, rfl, hl0⟩ := iL hl
 obtain ⟨c1, cs1, rfl, hl1⟩ := iL hl0
 obtain rfl := yl hl1
 have z0 := hf 0 _ rfl
 change DataW.trod enc Try.prog w base spare held m 3 (List.take (Try.prog.cellsOf 3) (List.drop 0 [c0, c1])) = xs[0]? at z0
 rw [show Try.prog.cellsOf 3 = 1 from by kernel_rfl, List.getElem?_eq_getElem (by omega)] at z0
 have z1 := hf 1 _ rfl
 change DataW.trod enc Try.prog w base spare held m 4 (List.take (Try.prog.cellsOf 4) (List.drop 1 [c0, c1])) = xs[1]? at z1
 rw [show Try.prog.cellsOf 4 = 1 from by kernel_rfl, List.getElem?_eq_getElem (by omega)] at z1
 obtain ⟨x0, k0_, ok0⟩ := ((fun n_ => nP Try.underlying3 n_) m) _ enc w base spare held [c0] _ z0
 obtain rfl := (List.cons.inj k0_).1
 obtain ⟨x1, k1_, ok1⟩ := ((fun n_ => aaD Try.underlying4 n_) m) _ enc w base spare held [c1] _ z1
 obtain rfl := (List.cons.inj k1_).1
 exact ⟨(⟨x0, x1⟩ : Jm), apV w _ , ⟨ok0, ok1⟩⟩
instance : Inhabited QQ := ⟨avM⟩
theorem afD : ∀ n : Nat, zN Try.prog n 101 ajR aga := by
 intro n
 induction n using Nat.strongRecOn with
 | _ n ih =>
 intro H enc w base spare held cs y h
 obtain ⟨xs, m, rfl, _, hl, hxl, hf⟩ := DataW.trod_struct Try.underlying101 h
 replace hl : cs.length = 2 := hl.trans (by kernel_rfl)
 replace hxl : xs.length = 2 := hxl
 obtain ⟨c0, cs0, rfl, hl0⟩ := iL hl
 obtain ⟨c1, cs1, rfl, hl1⟩ := iL hl0
 obtain rfl := yl hl1
 have z0 := hf 0 _ rfl
 change DataW.trod enc Try.prog w base spare held m 3 (List.take (Try.prog.cellsOf 3) (List.drop 0 [c0, c1])) = xs[0]? at z0
 rw [show Try.prog.cellsOf 3 = 1 from by kernel_rfl, List.getElem?_eq_getElem (by omega)] at z0
 have z1 := hf 1 _ rfl
 change DataW.trod enc Try.prog w base spare held m 3 (List.take (Try.prog.cellsOf 3) (List.drop 1 [c0, c1])) = xs[1]? at z1
 rw [show Try.prog.cellsOf 3 = 1 from by kernel_rfl, List.getElem?_eq_getElem (by omega)] at z1
 obtain ⟨x0, k0_, ok0⟩ := ((fun n_ => nP Try.underlying3 n_) m) _ enc w base spare held [c0] _ z0
 obtain rfl := (List.cons.inj k0_).1
 obtain ⟨x1, k1_, ok1⟩ := ((fun n_ => nP Try.underlying3 n_) m) _ enc w base spare held [c1] _ z1
 obtain rfl := (List.cons.inj k1_).1
 exact ⟨(⟨x0, x1⟩ : QQ), aaG w _ , ⟨ok0, ok1⟩⟩
instance : Inhabited uR := ⟨apX⟩
theorem afE : ∀ n : Nat, zN Try.prog n 103 KS agb := by
 intro n
 induction n using Nat.strongRecOn with
 | _ n ih =>
 intro H enc w base spare held cs y h
 obtain ⟨xs, m, rfl, _, hl, hxl, hf⟩ := DataW.trod_struct Try.underlying103 h
 replace hl : cs.length = 4 := hl.trans (by kernel_rfl)
 replace hxl : xs.length = 3 := hxl
 obtain ⟨c0, cs0, rfl, hl0⟩ := iL hl
 obtain ⟨c1, cs1, rfl, hl1⟩ := iL hl0
 obtain ⟨c2, cs2, rfl, hl2⟩ := iL hl1
 obtain ⟨c3, cs3, rfl, hl3⟩ := iL hl2
 obtain rfl := yl hl3
 have z0 := hf 0 _ rfl
 change DataW.trod enc Try.prog w base spare held m 3 (List.take (Try.prog.cellsOf 3) (List.drop 0 [c0, c1, c2, c3])) = xs[0]? at z0
 rw [show Try.prog.cellsOf 3 = 1 from by kernel_rfl, List.getElem?_eq_getElem (by omega)] at z0
 have z1 := hf 1 _ rfl
 change DataW.trod enc Try.prog w base spare held m 3 (List.take (Try.prog.cellsOf 3) (List.drop 1 [c0, c1, c2, c3])) = xs[1]? at z1
 rw [show Try.prog.cellsOf 3 = 1 from by kernel_rfl, List.getElem?_eq_getElem (by omega)] at z1
 have z2 := hf 2 _ rfl
 change DataW.trod enc Try.prog w base spare held m 101 (List.take (Try.prog.cellsOf 101) (List.drop 2 [c0, c1, c2, c3])) = xs[2]? at z2
 rw [show Try.prog.cellsOf 101 = 2 from by kernel_rfl, List.getElem?_eq_getElem (by omega)] at z2
 obtain ⟨x0, k0_, ok0⟩ := ((fun n_ => nP Try.underlying3 n_) m) _ enc w base spare held [c0] _ z0
 obtain rfl := (List.cons.inj k0_).1
 obtain ⟨x1, k1_, ok1⟩ := ((fun n_ => nP Try.underlying3 n_) m) _ enc w base spare held [c1] _ z1
 obtain rfl := (List.cons.inj k1_).1
 obtain ⟨x2, k2_, ok2⟩ := (afD m) _ enc w base spare held [c2, c3] _ z2
 have e2 := PE k2_
 simp only [List.cons.injEq, and_true] at e2
 obtain ⟨rfl, rfl⟩ := e2
 exact ⟨(⟨x0, x1, x2⟩ : uR), ajS w _ , ⟨ok0, ok1, ok2⟩⟩
instance : Inhabited U6 := ⟨z27⟩
theorem afQ : ∀ n : Nat, zN Try.prog n 27 k27 Mw := by
 intro n
 induction n using Nat.strongRecOn with
 | _ n ih =>
 intro H enc w base spare held cs y h
 obtain ⟨xs, m, rfl, _, hl, hxl, hf⟩ := DataW.trod_struct Try.underlying27 h
 replace hl : cs.length = 6 := hl.trans (by kernel_rfl)
 replace hxl : xs.length = 6 := hxl
 obtain ⟨c0, cs0, rfl, hl0⟩ := iL hl
 obtain ⟨c1, cs1, rfl, hl1⟩ := iL hl0
 obtain ⟨c2, cs2, rfl, hl2⟩ := iL hl1
 obtain ⟨c3, cs3, rfl, hl3⟩ := iL hl2
 obtain ⟨c4, cs4, rfl, hl4⟩ := iL hl3
 obtain ⟨c5, cs5, rfl, hl5⟩ := iL hl4
 obtain rfl := yl hl5
 have z0 := hf 0 _ rfl
 change DataW.trod enc Try.prog w base spare held m 3 (List.take (Try.prog.cellsOf 3) (List.drop 0 [c0, c1, c2, c3, c4, c5])) = xs[0]? at z0
 rw [show Try.prog.cellsOf 3 = 1 from by kernel_rfl, List.getElem?_eq_getElem (by omega)] at z0
 have z1 := hf 1 _ rfl
 change DataW.trod enc Try.prog w base spare held m 22 (List.take (Try.prog.cellsOf 22) (List.drop 1 [c0, c1, c2, c3, c4, c5])) = xs[1]? at z1
 rw [show Try.prog.cellsOf 22 = 1 from by kernel_rfl, List.getElem?_eq_getElem (by omega)] at z1
 have z2 := hf 2 _ rfl
 change DataW.trod enc Try.prog w base spare held m 23 (List.take (Try.prog.cellsOf 23) (List.drop 2 [c0, c1, c2, c3, c4, c5])) = xs[2]? at z2
 rw [show Try.prog.cellsOf 23 = 1 from by kernel_rfl, List.getElem?_eq_getElem (by omega)] at z2
 have z3 := hf 3 _ rfl
 change DataW.trod enc Try.prog w base spare held m 3 (List.take (Try.prog.cellsOf 3) (List.drop 3 [c0, c1, c2, c3, c4, c5])) = xs[3]? at z3
 rw [show Try.prog.cellsOf 3 = 1 from by kernel_rfl, List.getElem?_eq_getElem (by omega)] at z3
 have z4 := hf 4 _ rfl
 change DataW.trod enc Try.prog w base spare held m 24 (List.take (Try.prog.cellsOf 24) (List.drop 4 [c0, c1, c2, c3, c4, c5])) = xs[4]? at z4
 rw [show Try.prog.cellsOf 24 = 1 from by kernel_rfl, List.getElem?_eq_getElem (by omega)] at z4
 have z5 := hf 5 _ rfl
 change DataW.trod enc Try.prog w base spare held m 25 (List.take (Try.prog.cellsOf 25) (List.drop 5 [c0, c1, c2, c3, c4, c5])) = xs[5]? at z5
 rw [show Try.prog.cellsOf 25 = 1 from by kernel_rfl, List.getElem?_eq_getElem (by omega)] at z5
 obtain ⟨x0, k0_, ok0⟩ := ((fun n_ => nP Try.underlying3 n_) m) _ enc w base spare held [c0] _ z0
 obtain rfl := (List.cons.inj k0_).1
 obtain ⟨x1, k1_, ok1⟩ := ((fun n_ => rF Try.underlying22 (by kernel_rfl) n_ (fun m_ _ => ajp m_)) m) _ enc w base spare held [c1] _ z1
 obtain ⟨A1, b1, e1, l1, g1⟩ := k1_
 obtain rfl := (List.cons.inj e1).1
 obtain ⟨x2, k2_, ok2⟩ := ((fun n_ => rF Try.underlying23 (by kernel_rfl) n_ (fun m_ _ => ajs m_)) m) _ enc w base spare held [c2] _ z2
 obtain ⟨A2, b2, e2, l2, g2⟩ := k2_
 obtain rfl := (List.cons.inj e2).1
 obtain ⟨x3, k3_, ok3⟩ := ((fun n_ => nP Try.underlying3 n_) m) _ enc w base spare held [c3] _ z3
 obtain rfl := (List.cons.inj k3_).1
 obtain ⟨x4, k4_, ok4⟩ := ((fun n_ => rF Try.underlying24 (by kernel_rfl) n_ (fun m_ _ => ajt m_)) m) _ enc w base spare held [c4] _ z4
 obtain ⟨A4, b4, e4, l4, g4⟩ := k4_
 obtain rfl := (List.cons.inj e4).1
 obtain ⟨x5, k5_, ok5⟩ := ((fun n_ => rF Try.underlying25 (by kernel_rfl) n_ (fun m_ _ => afE m_)) m) _ enc w base spare held [c5] _ z5
 obtain ⟨A5, b5, e5, l5, g5⟩ := k5_
 obtain rfl := (List.cons.inj e5).1
 exact ⟨(⟨x0, x1, x2, x3, x4, x5⟩ : U6), ap5 w _ l1 g1 l2 g2 l4 g4 l5 g5, ⟨ok0, ok1, ok2, ok3, ok4, ok5⟩⟩
end Go.Proofs.Ytmfedjoofnlncaa.PT
