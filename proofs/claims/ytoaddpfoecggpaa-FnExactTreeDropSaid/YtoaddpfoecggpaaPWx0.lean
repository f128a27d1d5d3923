-- Written for this claim by the session's program pp.py, out of the kit's print and the seat's translation.
import Derived.Test.YtoaddpfoecggpaaProg
import Derived.Below
import Derived.Deep.Draws
import Derived.Deep.AppendLies
import Derived.Maps.AppendAt
import Derived.OwnWalk
import Derived.Laws.BytesArg
import Derived.Laws.MakeOwn
import Derived.Laws.OwnMore
import Derived.Deep.OwnRows
import Derived.Tactics
import Derived.Lib.ConvBytes
import Derived.Laws.Slices
import Derived.WalkKit
import Derived.KernelRfl
import Derived.RowKit3
import Derived.Deep.LoopGhost
import Derived.Deep.QuietTactic
import Derived.BigQuiet
import Derived.WideLaws
import Derived.Deep.DeepCutAuto
import Derived.Deep.CutBlock
import Derived.Deep.RegionHeld3
import Derived.Laws.Rows
import Derived.Lib.AppendStr
import Derived.ArgAppend
import Derived.Laws.IdiomCopy
import Derived.OrdersHeld
import Derived.Laws.BitsLemmas
import Derived.RowKit
import Derived.Lib.SliceRun
import Derived.Lib.Bytealg
import Derived.Laws.Cover1
import Derived.Test.YtoaddpfoecggpaaSWWords
import Derived.Test.YtoaddpfoecggpaaSWLast
import Derived.Test.YtoaddpfoecggpaaSWTab
import Derived.Test.YtoaddpfoecggpaaSWFour
import Derived.Test.YtoaddpfoecggpaaSWQPut
import Derived.Test.YtoaddpfoecggpaaSWApart
import Derived.Test.YtoaddpfoecggpaaSWArr
import Derived.Test.YtoaddpfoecggpaaSWZeros
import Derived.Test.YtoaddpfoecggpaaSWFoot
import Derived.Test.YtoaddpfoecggpaaSWKept
import Derived.Test.YtoaddpfoecggpaaSWShare
import Derived.Test.YtoaddpfoecggpaaSWN
import Derived.Test.YtoaddpfoecggpaaSWFootNe
import Derived.Test.YtoaddpfoecggpaaSWAt
import Derived.Test.YtoaddpfoecggpaaSWEqStruct
import Derived.Test.YtoaddpfoecggpaaSWRepsOne
import Derived.Test.YtoaddpfoecggpaaSWInv
import Derived.Test.YtoaddpfoecggpaaSWInvWords
import Derived.Test.YtoaddpfoecggpaaSWGuard
import Derived.Test.YtoaddpfoecggpaaSWNEv
import Derived.Test.YtoaddpfoecggpaaSWMore
namespace Go.Proofs.Ytoaddpfoecggpaa.PW
open Go.RowKit Go.Proofs.YtoaddpfoecggpaaW.PrintWords Go.Proofs.YtoaddpfoecggpaaW.PrintLast Go.Proofs.YtoaddpfoecggpaaW.PrintMore
attribute [local go_sem] max2_int min2_int max_two min_two max_three min_three max_four min_four   -- for this text's walks alone
set_option linter.unusedVariables false
set_option linter.unusedSimpArgs false



def errW : Option Int → Value
 | none => .nilIface
 | some c => .iface 0 (.int .i64 c)
theorem errW_none : errW none = .nilIface := rfl
theorem errW_some (c : Int) : errW (some c) = .iface 0 (.int .i64 c) := rfl

theorem info5 : (Try.prog.info? 5).map (fun i => (i.zero, i.size, i.bytes)) = some (some (.int .u8 0), 1, 1) := by kernel_rfl
theorem info30 : (Try.prog.info? 30).map (fun i => (i.zero, i.size, i.bytes)) = some (some (.agg #[(.slice none 0 0), (.bool false), (.int .i64 0), (.slice none 0 0)]), 4, 64) := by kernel_rfl
theorem info84 : (Try.prog.info? 84).map (fun i => (i.zero, i.size, i.bytes)) = some (some (.agg #[(.slice none 0 0), (.int .i64 0)]), 2, 32) := by kernel_rfl
-- the values' own types
def rd_L1 (xs : List (List Int)) (i : Int) : (List Int) := xs.getD i.toNat ([] : List Int)
theorem at_L1 {w : World} {A : Option Addr} {n : Nat} {xs : List (List Int)} (h : Kd.C (Kd.slice 5 (Kd.int .u8)) w A n xs) (i : Int) (h0 : 0 ≤ i) (h1 : i < n) : ∃ ad A0 c0, A = some ad ∧ w.cell? (ad.add i.toNat) = some (.slice A0 (rd_L1 xs i).length c0) ∧ (rd_L1 xs i).length ≤ c0 ∧ (Kd.int .u8).C w A0 (rd_L1 xs i).length (rd_L1 xs i) := by
 obtain ⟨ad, c, e, _, hK, hc0⟩ := Kd.C_get h ([] : List Int) i h0 h1
 have hc : ∀ j u, c[j]? = some u → w.cell? (ad.add (i.toNat * 1 + j)) = some u := hc0
 obtain ⟨A0, c0, rfl, l0, g0⟩ := hK
 exact ⟨ad, A0, c0, e, by have hq := hc 0 _ rfl; rwa [Nat.mul_one, Nat.add_zero] at hq, l0, g0⟩

/-! #### struct type 25, nested in itself -/
structure S25 where
 f0 : (List Int)
 f1 : Bool
 f2 : Int
 f3 : (List S25)
def z25 : S25 := ⟨([] : List Int), false, (0 : Int), ([] : List S25)⟩
def F25 (d : Kd S25) : Kd S25 := Kd.iso (Kd.pair (Kd.slice 5 (Kd.int .u8)) (Kd.pair Kd.bool (Kd.pair (Kd.int .i64) (Kd.slice 25 d)))) (fun x : S25 => (x.f0, x.f1, x.f2, x.f3))
theorem mono25 : Kd.Mono F25 := Kd.mono_iso _ (Kd.mono_pair (Kd.mono_const _) (Kd.mono_pair (Kd.mono_const _) (Kd.mono_pair (Kd.mono_const _) (Kd.mono_slice 25 Kd.mono_id))))
theorem sub25 : Kd.Sub F25 [5, 25] := Kd.sub_iso _ (Kd.sub_pair (Kd.sub_const _ (by decide)) (Kd.sub_pair (Kd.sub_const _ (by decide)) (Kd.sub_pair (Kd.sub_const _ (by decide)) (Kd.sub_slice 25 (by decide) Kd.sub_id))))
theorem sz25 : ∀ n, (Kd.upto F25 4 [5, 25] n).sz = 4 := Kd.upto_sz (fun _ => rfl)
def k25 : Kd S25 := Kd.fix F25 4 [5, 25] sz25 (Kd.upto_E sub25)
theorem k25_heap : Kd.Heap k25 := Kd.heap_fix (fun _ h_ => Kd.heap_iso _ (Kd.heap_pair (Kd.heap_slice 5 (Kd.heap_int .u8)) (Kd.heap_pair Kd.heap_bool (Kd.heap_pair (Kd.heap_int .i64) (Kd.heap_slice 25 h_)))))
theorem k25_open {w : World} {x : S25} {cs : List Value} (h : k25.K w x cs) : ∃ A0 c0 A3 c3, cs = [.slice A0 x.f0.length c0, .bool x.f1, .int .i64 x.f2, .slice A3 x.f3.length c3] ∧ x.f0.length ≤ c0 ∧ (Kd.int .u8).C w A0 x.f0.length x.f0 ∧ x.f3.length ≤ c3 ∧ k25.C w A3 x.f3.length x.f3 := by
 obtain ⟨n, h⟩ := h
 cases n with
 | zero => exact h.elim
 | succ n =>
  obtain ⟨_, _, rfl, ⟨A0, c0, rfl, l0, g0⟩, ⟨_, _, rfl, rfl, ⟨_, _, rfl, rfl, ⟨A3, c3, rfl, l3, g3⟩⟩⟩⟩ := h
  exact ⟨A0, c0, A3, c3, rfl, l0, g0, l3, Kd.fix_C g3⟩
theorem k25_openM {w : World} {base : Nat} {ok : Nat → Prop} {x : S25} {cs : List Value} (h : k25.M w base ok x cs) : ∃ v0 v3, cs = [v0, .bool x.f1, .int .i64 x.f2, v3] ∧ (Kd.int .u8).R 5 w base ok v0 x.f0 ∧ k25.R 25 w base ok v3 x.f3 := by
 obtain ⟨n, h⟩ := h
 cases n with
 | zero => exact h.elim
 | succ n =>
  obtain ⟨_, _, rfl, ⟨v0, rfl, g0⟩, ⟨_, _, rfl, rfl, ⟨_, _, rfl, rfl, ⟨v3, rfl, g3⟩⟩⟩⟩ := h
  exact ⟨v0, v3, rfl, g0, Kd.fix_R g3⟩
theorem k25_mk (w : World) (x : S25) {A0 : Option Addr} {c0 : Nat} (l0 : x.f0.length ≤ c0) (g0 : (Kd.int .u8).C w A0 x.f0.length x.f0) {A3 : Option Addr} {c3 : Nat} (l3 : x.f3.length ≤ c3) (g3 : k25.C w A3 x.f3.length x.f3) : k25.K w x [.slice A0 x.f0.length c0, .bool x.f1, .int .i64 x.f2, .slice A3 x.f3.length c3] := by
 obtain ⟨n3, q3⟩ := Kd.fix_C_back mono25 g3
 have r3 := Kd.upto_C_le mono25 sz25 (show n3 ≤ n3 by omega) q3
 exact ⟨n3 + 1, ⟨[.slice A0 x.f0.length c0], [.bool x.f1, .int .i64 x.f2, .slice A3 x.f3.length c3], rfl, ⟨A0, c0, rfl, l0, g0⟩, ⟨[.bool x.f1], [.int .i64 x.f2, .slice A3 x.f3.length c3], rfl, rfl, ⟨[.int .i64 x.f2], [.slice A3 x.f3.length c3], rfl, rfl, ⟨A3, c3, rfl, l3, r3⟩⟩⟩⟩⟩
theorem k25_mkM (w : World) (base : Nat) (ok : Nat → Prop) (x : S25) {v0 : Value} (g0 : (Kd.int .u8).R 5 w base ok v0 x.f0) {v3 : Value} (g3 : k25.R 25 w base ok v3 x.f3) : k25.M w base ok x [v0, .bool x.f1, .int .i64 x.f2, v3] := by
 obtain ⟨n3, q3⟩ := Kd.fix_R_back mono25 g3
 have r3 := Kd.upto_R_le mono25 sz25 (show n3 ≤ n3 by omega) q3
 exact ⟨n3 + 1, ⟨[v0], [.bool x.f1, .int .i64 x.f2, v3], rfl, ⟨v0, rfl, g0⟩, ⟨[.bool x.f1], [.int .i64 x.f2, v3], rfl, rfl, ⟨[.int .i64 x.f2], [v3], rfl, rfl, ⟨v3, rfl, r3⟩⟩⟩⟩⟩
theorem k25_openF {W : World} {ok : Nat → Prop} {x : S25} {cs : List Value} (h : Kd.FK k25 W ok x cs) : ∃ A0 c0 A3 c3, cs = [.slice A0 x.f0.length c0, .bool x.f1, .int .i64 x.f2, .slice A3 x.f3.length c3] ∧ x.f0.length ≤ c0 ∧ Kd.F (Kd.int .u8) W ok A0 x.f0.length x.f0 ∧ x.f3.length ≤ c3 ∧ Kd.F k25 W ok A3 x.f3.length x.f3 := by
 obtain ⟨A0, c0, A3, c3, rfl, l0, _, l3, _⟩ := k25_open (Kd.FK_now h)
 exact ⟨A0, c0, A3, c3, rfl, l0, (fun W' hW => by obtain ⟨A0_, c0_, A3_, c3_, he, l0_, g0_, l3_, g3_⟩ := k25_open (h W' hW); injection (Option.some.inj (show some (Value.slice A0 x.f0.length c0) = some (Value.slice A0_ x.f0.length c0_) from congrArg (fun l => l[0]?) he)) with ha_ _ _; rw [ha_]; exact g0_), l3, (fun W' hW => by obtain ⟨A0_, c0_, A3_, c3_, he, l0_, g0_, l3_, g3_⟩ := k25_open (h W' hW); injection (Option.some.inj (show some (Value.slice A3 x.f3.length c3) = some (Value.slice A3_ x.f3.length c3_) from congrArg (fun l => l[3]?) he)) with ha_ _ _; rw [ha_]; exact g3_)⟩
theorem k25_mkF (W : World) (ok : Nat → Prop) (x : S25) {A0 : Option Addr} {c0 : Nat} (l0 : x.f0.length ≤ c0) (g0 : Kd.F (Kd.int .u8) W ok A0 x.f0.length x.f0) {A3 : Option Addr} {c3 : Nat} (l3 : x.f3.length ≤ c3) (g3 : Kd.F k25 W ok A3 x.f3.length x.f3) : Kd.FK k25 W ok x [.slice A0 x.f0.length c0, .bool x.f1, .int .i64 x.f2, .slice A3 x.f3.length c3] := fun W2 hW => k25_mk W2 x l0 (g0 W2 hW) l3 (g3 W2 hW)
def rd_T25 (xs : List S25) (i : Int) : S25 := xs.getD i.toNat z25
theorem at_T25 {w : World} {A : Option Addr} {n : Nat} {xs : List S25} (h : Kd.C k25 w A n xs) (i : Int) (h0 : 0 ≤ i) (h1 : i < n) : ∃ ad A0 c0 A3 c3, A = some ad ∧ w.cell? (ad.add (i.toNat * 4)) = some (.slice A0 (rd_T25 xs i).f0.length c0) ∧ w.cell? ⟨(ad.add (i.toNat * 4)).block, (ad.add (i.toNat * 4)).off + 1, none⟩ = some (.bool (rd_T25 xs i).f1) ∧ w.cell? ⟨(ad.add (i.toNat * 4)).block, (ad.add (i.toNat * 4)).off + 2, none⟩ = some (.int .i64 (rd_T25 xs i).f2) ∧ w.cell? ⟨(ad.add (i.toNat * 4)).block, (ad.add (i.toNat * 4)).off + 3, none⟩ = some (.slice A3 (rd_T25 xs i).f3.length c3) ∧ (rd_T25 xs i).f0.length ≤ c0 ∧ (Kd.int .u8).C w A0 (rd_T25 xs i).f0.length (rd_T25 xs i).f0 ∧ (rd_T25 xs i).f3.length ≤ c3 ∧ k25.C w A3 (rd_T25 xs i).f3.length (rd_T25 xs i).f3 := by
 obtain ⟨ad, c, e, _, hK, hc0⟩ := Kd.C_get h z25 i h0 h1
 have hc : ∀ j u, c[j]? = some u → w.cell? (ad.add (i.toNat * 4 + j)) = some u := hc0
 obtain ⟨A0, c0, A3, c3, rfl, l0, g0, l3, g3⟩ := k25_open hK
 exact ⟨ad, A0, c0, A3, c3, e, hc 0 _ rfl, by rw [← add_field _ _ 1 (by omega)]; exact hc 1 _ rfl, by rw [← add_field _ _ 2 (by omega)]; exact hc 2 _ rfl, by rw [← add_field _ _ 3 (by omega)]; exact hc 3 _ rfl, l0, g0, l3, g3⟩

/-! #### struct type 30, nested in itself -/
structure S30 where
 f0 : (List Int)
 f1 : Bool
 f2 : Int
 f3 : (List S30)
def z30 : S30 := ⟨([] : List Int), false, (0 : Int), ([] : List S30)⟩
def F30 (d : Kd S30) : Kd S30 := Kd.iso (Kd.pair (Kd.slice 5 (Kd.int .u8)) (Kd.pair Kd.bool (Kd.pair (Kd.int .i64) (Kd.slice 30 d)))) (fun x : S30 => (x.f0, x.f1, x.f2, x.f3))
theorem mono30 : Kd.Mono F30 := Kd.mono_iso _ (Kd.mono_pair (Kd.mono_const _) (Kd.mono_pair (Kd.mono_const _) (Kd.mono_pair (Kd.mono_const _) (Kd.mono_slice 30 Kd.mono_id))))
theorem sub30 : Kd.Sub F30 [5, 30] := Kd.sub_iso _ (Kd.sub_pair (Kd.sub_const _ (by decide)) (Kd.sub_pair (Kd.sub_const _ (by decide)) (Kd.sub_pair (Kd.sub_const _ (by decide)) (Kd.sub_slice 30 (by decide) Kd.sub_id))))
theorem sz30 : ∀ n, (Kd.upto F30 4 [5, 30] n).sz = 4 := Kd.upto_sz (fun _ => rfl)
def k30 : Kd S30 := Kd.fix F30 4 [5, 30] sz30 (Kd.upto_E sub30)
theorem k30_heap : Kd.Heap k30 := Kd.heap_fix (fun _ h_ => Kd.heap_iso _ (Kd.heap_pair (Kd.heap_slice 5 (Kd.heap_int .u8)) (Kd.heap_pair Kd.heap_bool (Kd.heap_pair (Kd.heap_int .i64) (Kd.heap_slice 30 h_)))))
theorem k30_open {w : World} {x : S30} {cs : List Value} (h : k30.K w x cs) : ∃ A0 c0 A3 c3, cs = [.slice A0 x.f0.length c0, .bool x.f1, .int .i64 x.f2, .slice A3 x.f3.length c3] ∧ x.f0.length ≤ c0 ∧ (Kd.int .u8).C w A0 x.f0.length x.f0 ∧ x.f3.length ≤ c3 ∧ k30.C w A3 x.f3.length x.f3 := by
 obtain ⟨n, h⟩ := h
 cases n with
 | zero => exact h.elim
 | succ n =>
  obtain ⟨_, _, rfl, ⟨A0, c0, rfl, l0, g0⟩, ⟨_, _, rfl, rfl, ⟨_, _, rfl, rfl, ⟨A3, c3, rfl, l3, g3⟩⟩⟩⟩ := h
  exact ⟨A0, c0, A3, c3, rfl, l0, g0, l3, Kd.fix_C g3⟩
theorem k30_openM {w : World} {base : Nat} {ok : Nat → Prop} {x : S30} {cs : List Value} (h : k30.M w base ok x cs) : ∃ v0 v3, cs = [v0, .bool x.f1, .int .i64 x.f2, v3] ∧ (Kd.int .u8).R 5 w base ok v0 x.f0 ∧ k30.R 30 w base ok v3 x.f3 := by
 obtain ⟨n, h⟩ := h
 cases n with
 | zero => exact h.elim
 | succ n =>
  obtain ⟨_, _, rfl, ⟨v0, rfl, g0⟩, ⟨_, _, rfl, rfl, ⟨_, _, rfl, rfl, ⟨v3, rfl, g3⟩⟩⟩⟩ := h
  exact ⟨v0, v3, rfl, g0, Kd.fix_R g3⟩
theorem k30_mk (w : World) (x : S30) {A0 : Option Addr} {c0 : Nat} (l0 : x.f0.length ≤ c0) (g0 : (Kd.int .u8).C w A0 x.f0.length x.f0) {A3 : Option Addr} {c3 : Nat} (l3 : x.f3.length ≤ c3) (g3 : k30.C w A3 x.f3.length x.f3) : k30.K w x [.slice A0 x.f0.length c0, .bool x.f1, .int .i64 x.f2, .slice A3 x.f3.length c3] := by
 obtain ⟨n3, q3⟩ := Kd.fix_C_back mono30 g3
 have r3 := Kd.upto_C_le mono30 sz30 (show n3 ≤ n3 by omega) q3
 exact ⟨n3 + 1, ⟨[.slice A0 x.f0.length c0], [.bool x.f1, .int .i64 x.f2, .slice A3 x.f3.length c3], rfl, ⟨A0, c0, rfl, l0, g0⟩, ⟨[.bool x.f1], [.int .i64 x.f2, .slice A3 x.f3.length c3], rfl, rfl, ⟨[.int .i64 x.f2], [.slice A3 x.f3.length c3], rfl, rfl, ⟨A3, c3, rfl, l3, r3⟩⟩⟩⟩⟩
theorem k30_mkM (w : World) (base : Nat) (ok : Nat → Prop) (x : S30) {v0 : Value} (g0 : (Kd.int .u8).R 5 w base ok v0 x.f0) {v3 : Value} (g3 : k30.R 30 w base ok v3 x.f3) : k30.M w base ok x [v0, .bool x.f1, .int .i64 x.f2, v3] := by
 obtain ⟨n3, q3⟩ := Kd.fix_R_back mono30 g3
 have r3 := Kd.upto_R_le mono30 sz30 (show n3 ≤ n3 by omega) q3
 exact ⟨n3 + 1, ⟨[v0], [.bool x.f1, .int .i64 x.f2, v3], rfl, ⟨v0, rfl, g0⟩, ⟨[.bool x.f1], [.int .i64 x.f2, v3], rfl, rfl, ⟨[.int .i64 x.f2], [v3], rfl, rfl, ⟨v3, rfl, r3⟩⟩⟩⟩⟩
theorem k30_openF {W : World} {ok : Nat → Prop} {x : S30} {cs : List Value} (h : Kd.FK k30 W ok x cs) : ∃ A0 c0 A3 c3, cs = [.slice A0 x.f0.length c0, .bool x.f1, .int .i64 x.f2, .slice A3 x.f3.length c3] ∧ x.f0.length ≤ c0 ∧ Kd.F (Kd.int .u8) W ok A0 x.f0.length x.f0 ∧ x.f3.length ≤ c3 ∧ Kd.F k30 W ok A3 x.f3.length x.f3 := by
 obtain ⟨A0, c0, A3, c3, rfl, l0, _, l3, _⟩ := k30_open (Kd.FK_now h)
 exact ⟨A0, c0, A3, c3, rfl, l0, (fun W' hW => by obtain ⟨A0_, c0_, A3_, c3_, he, l0_, g0_, l3_, g3_⟩ := k30_open (h W' hW); injection (Option.some.inj (show some (Value.slice A0 x.f0.length c0) = some (Value.slice A0_ x.f0.length c0_) from congrArg (fun l => l[0]?) he)) with ha_ _ _; rw [ha_]; exact g0_), l3, (fun W' hW => by obtain ⟨A0_, c0_, A3_, c3_, he, l0_, g0_, l3_, g3_⟩ := k30_open (h W' hW); injection (Option.some.inj (show some (Value.slice A3 x.f3.length c3) = some (Value.slice A3_ x.f3.length c3_) from congrArg (fun l => l[3]?) he)) with ha_ _ _; rw [ha_]; exact g3_)⟩
theorem k30_mkF (W : World) (ok : Nat → Prop) (x : S30) {A0 : Option Addr} {c0 : Nat} (l0 : x.f0.length ≤ c0) (g0 : Kd.F (Kd.int .u8) W ok A0 x.f0.length x.f0) {A3 : Option Addr} {c3 : Nat} (l3 : x.f3.length ≤ c3) (g3 : Kd.F k30 W ok A3 x.f3.length x.f3) : Kd.FK k30 W ok x [.slice A0 x.f0.length c0, .bool x.f1, .int .i64 x.f2, .slice A3 x.f3.length c3] := fun W2 hW => k30_mk W2 x l0 (g0 W2 hW) l3 (g3 W2 hW)
def rd_T30 (xs : List S30) (i : Int) : S30 := xs.getD i.toNat z30
theorem at_T30 {w : World} {A : Option Addr} {n : Nat} {xs : List S30} (h : Kd.C k30 w A n xs) (i : Int) (h0 : 0 ≤ i) (h1 : i < n) : ∃ ad A0 c0 A3 c3, A = some ad ∧ w.cell? (ad.add (i.toNat * 4)) = some (.slice A0 (rd_T30 xs i).f0.length c0) ∧ w.cell? ⟨(ad.add (i.toNat * 4)).block, (ad.add (i.toNat * 4)).off + 1, none⟩ = some (.bool (rd_T30 xs i).f1) ∧ w.cell? ⟨(ad.add (i.toNat * 4)).block, (ad.add (i.toNat * 4)).off + 2, none⟩ = some (.int .i64 (rd_T30 xs i).f2) ∧ w.cell? ⟨(ad.add (i.toNat * 4)).block, (ad.add (i.toNat * 4)).off + 3, none⟩ = some (.slice A3 (rd_T30 xs i).f3.length c3) ∧ (rd_T30 xs i).f0.length ≤ c0 ∧ (Kd.int .u8).C w A0 (rd_T30 xs i).f0.length (rd_T30 xs i).f0 ∧ (rd_T30 xs i).f3.length ≤ c3 ∧ k30.C w A3 (rd_T30 xs i).f3.length (rd_T30 xs i).f3 := by
 obtain ⟨ad, c, e, _, hK, hc0⟩ := Kd.C_get h z30 i h0 h1
 have hc : ∀ j u, c[j]? = some u → w.cell? (ad.add (i.toNat * 4 + j)) = some u := hc0
 obtain ⟨A0, c0, A3, c3, rfl, l0, g0, l3, g3⟩ := k30_open hK
 exact ⟨ad, A0, c0, A3, c3, e, hc 0 _ rfl, by rw [← add_field _ _ 1 (by omega)]; exact hc 1 _ rfl, by rw [← add_field _ _ 2 (by omega)]; exact hc 2 _ rfl, by rw [← add_field _ _ 3 (by omega)]; exact hc 3 _ rfl, l0, g0, l3, g3⟩

/-! #### struct type 84 -/
structure S84 where
 f0 : (List Int)
 f1 : Int
def z84 : S84 := ⟨([] : List Int), (0 : Int)⟩
def k84 : Kd S84 := Kd.iso (Kd.pair (Kd.slice 5 (Kd.int .u8)) (Kd.int .i64)) (fun x : S84 => (x.f0, x.f1))
theorem k84_heap : Kd.Heap k84 := Kd.heap_iso _ (Kd.heap_pair (Kd.heap_slice 5 (Kd.heap_int .u8)) (Kd.heap_int .i64))
theorem k84_open {w : World} {x : S84} {cs : List Value} (h : k84.K w x cs) : ∃ A0 c0, cs = [.slice A0 x.f0.length c0, .int .i64 x.f1] ∧ x.f0.length ≤ c0 ∧ (Kd.int .u8).C w A0 x.f0.length x.f0 := by
 obtain ⟨_, _, rfl, ⟨A0, c0, rfl, l0, g0⟩, rfl⟩ := h
 exact ⟨A0, c0, rfl, l0, g0⟩
theorem k84_openM {w : World} {base : Nat} {ok : Nat → Prop} {x : S84} {cs : List Value} (h : k84.M w base ok x cs) : ∃ v0, cs = [v0, .int .i64 x.f1] ∧ (Kd.int .u8).R 5 w base ok v0 x.f0 := by
 obtain ⟨_, _, rfl, ⟨v0, rfl, g0⟩, rfl⟩ := h
 exact ⟨v0, rfl, g0⟩
theorem k84_mk (w : World) (x : S84) {A0 : Option Addr} {c0 : Nat} (l0 : x.f0.length ≤ c0) (g0 : (Kd.int .u8).C w A0 x.f0.length x.f0) : k84.K w x [.slice A0 x.f0.length c0, .int .i64 x.f1] := ⟨[.slice A0 x.f0.length c0], [.int .i64 x.f1], rfl, ⟨A0, c0, rfl, l0, g0⟩, rfl⟩
theorem k84_mkM (w : World) (base : Nat) (ok : Nat → Prop) (x : S84) {v0 : Value} (g0 : (Kd.int .u8).R 5 w base ok v0 x.f0) : k84.M w base ok x [v0, .int .i64 x.f1] := ⟨[v0], [.int .i64 x.f1], rfl, ⟨v0, rfl, g0⟩, rfl⟩
theorem k84_openF {W : World} {ok : Nat → Prop} {x : S84} {cs : List Value} (h : Kd.FK k84 W ok x cs) : ∃ A0 c0, cs = [.slice A0 x.f0.length c0, .int .i64 x.f1] ∧ x.f0.length ≤ c0 ∧ Kd.F (Kd.int .u8) W ok A0 x.f0.length x.f0 := by
 obtain ⟨A0, c0, rfl, l0, _⟩ := k84_open (Kd.FK_now h)
 exact ⟨A0, c0, rfl, l0, (fun W' hW => by obtain ⟨A0_, c0_, he, l0_, g0_⟩ := k84_open (h W' hW); injection (Option.some.inj (show some (Value.slice A0 x.f0.length c0) = some (Value.slice A0_ x.f0.length c0_) from congrArg (fun l => l[0]?) he)) with ha_ _ _; rw [ha_]; exact g0_)⟩
theorem k84_mkF (W : World) (ok : Nat → Prop) (x : S84) {A0 : Option Addr} {c0 : Nat} (l0 : x.f0.length ≤ c0) (g0 : Kd.F (Kd.int .u8) W ok A0 x.f0.length x.f0) : Kd.FK k84 W ok x [.slice A0 x.f0.length c0, .int .i64 x.f1] := fun W2 hW => k84_mk W2 x l0 (g0 W2 hW)
def rd_T84 (xs : List S84) (i : Int) : S84 := xs.getD i.toNat z84
theorem at_T84 {w : World} {A : Option Addr} {n : Nat} {xs : List S84} (h : Kd.C k84 w A n xs) (i : Int) (h0 : 0 ≤ i) (h1 : i < n) : ∃ ad A0 c0, A = some ad ∧ w.cell? (ad.add (i.toNat * 2)) = some (.slice A0 (rd_T84 xs i).f0.length c0) ∧ w.cell? ⟨(ad.add (i.toNat * 2)).block, (ad.add (i.toNat * 2)).off + 1, none⟩ = some (.int .i64 (rd_T84 xs i).f1) ∧ (rd_T84 xs i).f0.length ≤ c0 ∧ (Kd.int .u8).C w A0 (rd_T84 xs i).f0.length (rd_T84 xs i).f0 := by
 obtain ⟨ad, c, e, _, hK, hc0⟩ := Kd.C_get h z84 i h0 h1
 have hc : ∀ j u, c[j]? = some u → w.cell? (ad.add (i.toNat * 2 + j)) = some u := hc0
 obtain ⟨A0, c0, rfl, l0, g0⟩ := k84_open hK
 exact ⟨ad, A0, c0, e, hc 0 _ rfl, by rw [← add_field _ _ 1 (by omega)]; exact hc 1 _ rfl, l0, g0⟩

theorem foot_far {α : Type} {d : Kd α} {w : World} {g : Nat} {A : Option Addr} {n : Nat} {xs : List α} (h : ∀ W', KeepBut w W' g none → d.C W' A n xs) (hs : 0 < d.sz) : ∀ ad, A = some ad → 0 < n → ad.block ≠ g := by
 rintro ad rfl hn
 exact Kd.foot_ne h hn hs
theorem atF_T30 {w W : World} {g : Nat} {A : Option Addr} {n : Nat} {xs : List S30} (hk : KeepBut w W g none) (h : ∀ W', KeepBut w W' g none → Kd.C k30 W' A n xs) (i : Int) (h0 : 0 ≤ i) (h1 : i < n) : ∃ ad A0 c0 A3 c3, A = some ad ∧ W.cell? (ad.add (i.toNat * 4)) = some (.slice A0 (rd_T30 xs i).f0.length c0) ∧ W.cell? ⟨(ad.add (i.toNat * 4)).block, (ad.add (i.toNat * 4)).off + 1, none⟩ = some (.bool ((rd_T30 xs i).f1)) ∧ W.cell? ⟨(ad.add (i.toNat * 4)).block, (ad.add (i.toNat * 4)).off + 2, none⟩ = some (.int .i64 ((rd_T30 xs i).f2)) ∧ W.cell? ⟨(ad.add (i.toNat * 4)).block, (ad.add (i.toNat * 4)).off + 3, none⟩ = some (.slice A3 (rd_T30 xs i).f3.length c3) ∧ (rd_T30 xs i).f0.length ≤ c0 ∧ (∀ W', KeepBut w W' g none → (Kd.int .u8).C W' A0 (rd_T30 xs i).f0.length (rd_T30 xs i).f0) ∧ (rd_T30 xs i).f3.length ≤ c3 ∧ (∀ W', KeepBut w W' g none → k30.C W' A3 (rd_T30 xs i).f3.length (rd_T30 xs i).f3) := by
 obtain ⟨ad, A0, c0, A3, c3, e, x0, x1, x2, x3, l0, g0, l3, g3⟩ := at_T30 (h w (KeepBut.refl w g none)) i h0 h1
 subst e
 have ne : ad.block ≠ g := Kd.foot_ne h (by omega) (by decide)
 have nf : (ad.add (i.toNat * 4)).block ≠ g := by rw [add_block]; exact ne
 refine ⟨ad, A0, c0, A3, c3, rfl, keep_cell hk x0 nf, keep_cell hk x1 nf, keep_cell hk x2 nf, keep_cell hk x3 nf, l0, ?_, l3, ?_⟩
 ·intro W' hk'
  obtain ⟨ad', B0, d0, B3, d3, e', y0, y1, y2, y3, m0, n0, m3, n3⟩ := at_T30 (h W' hk') i h0 h1
  obtain rfl := Option.some.inj e'
  have z := (keep_cell hk' x0 nf).symm.trans y0
  injection z with z
  injection z with z
  subst z
  exact n0
 ·intro W' hk'
  obtain ⟨ad', B0, d0, B3, d3, e', y0, y1, y2, y3, m0, n0, m3, n3⟩ := at_T30 (h W' hk') i h0 h1
  obtain rfl := Option.some.inj e'
  have z := (keep_cell hk' x3 nf).symm.trans y3
  injection z with z
  injection z with z
  subst z
  exact n3
inductive okS25 : S25 → Prop
 | mk (x : S25) (h0 : (fun l_ => l_.length ≤ maxLen ∧ ∀ y_ ∈ l_, (fun x_ => (Lit.int .u8 x_).wf = true) y_) x.f0) (h1 : (fun _ => True) x.f1) (h2 : (fun x_ => (Lit.int .i64 x_).wf = true) x.f2) (h3 : x.f3.length ≤ maxLen) (g3 : ∀ y_ ∈ x.f3, okS25 y_) : okS25 x
def tf (a b : Nat) : Array Bool := (List.replicate a true ++ List.replicate b false).toArray
-- shorter words for what the print writes over and over
def tb (n m : Nat) : Array Bool := ((List.range n).map (fun i => m.testBit i)).toArray
theorem od {p : Prop} [Decidable p] (h : decide p = true := by first | (with_reducible assumption) | assumption) : p := of_decide_eq_true h
section
variable {P : Program} {ops : Array Oper} {Q : Exit → Act → World → Prop} {md : Region.Mode} {S : World → Prop} {ds : List Nat} {T : Bool × List (List Nat × List Nat)}
theorem pv_ (HT : Aside0 (rtab md ops = T)) (i : Nat) (N : Option Tmp) (l' : Array Bool) {oi : Oper} {v : Value} {fuel : Nat} {l : Array Bool} {a : Act} {w : World}
  (hi : ops[i]? = some oi := by exact rfl) (hN : oi.dst = N := by exact rfl) (hc : anyT T l.toList l'.toList i = true := by kernel_rfl)
  (hQ : ∀ c a w, Q (.panic c) (a.put oi.dst v) w → Q (.panic c) a w := by exact fun _ _ _ h => h) (hg : Region.wanted oi (yielded ops a.tmps) = true := by rfl)
  (hv : ∀ w, (execOp a.eval oi).run P w = .ok (.value v) w := by (intro w'; go_simp; with_reducible rfl)) {a' : Act}
  (ha : a.put N v = a' := by (simp only [Act.put, List.setIfInBounds_toArray, List.set_cons_zero, List.set_cons_succ, i64_w, i32_w]; rfl))
  (h : wpAnyLast P md ops Q S ds fuel l' a' w) : wpAnyLast P md ops Q S ds (fuel + 1) l a w := pure_ l' hi hN (any_of HT.out hc) hQ (Or.inl ⟨hg, hv⟩) ha h
theorem pu_ (HT : Aside0 (rtab md ops = T)) (i : Nat) (N : Option Tmp) (l' : Array Bool) {oi : Oper} {fuel : Nat} {l : Array Bool} {a : Act} {w : World}
  (hi : ops[i]? = some oi := by exact rfl) (hN : oi.dst = N := by exact rfl) (hc : anyT T l.toList l'.toList i = true := by kernel_rfl)
  (hQ : ∀ c a w, Q (.panic c) (a.put oi.dst undef) w → Q (.panic c) a w := by exact fun _ _ _ h => h) (hg : Region.wanted oi (yielded ops a.tmps) = false := by rfl) {a' : Act}
  (ha : a.put N undef = a' := by (simp only [Act.put, List.setIfInBounds_toArray, List.set_cons_zero, List.set_cons_succ, i64_w, i32_w]; rfl))
  (h : wpAnyLast P md ops Q S ds fuel l' a' w) : wpAnyLast P md ops Q S ds (fuel + 1) l a w := pure_ l' hi hN (any_of HT.out hc) hQ (Or.inr ⟨hg, rfl⟩) ha h
theorem tv_ {B : List Nat} (HT : Aside0 (rtab md ops = T)) (HB : Aside0 (waitsOk T.2 B = true)) {w : World} (hS : S w) (i : Nat) (N : Option Tmp) (l' : Array Bool) {oi : Oper} {v : Value} {fuel : Nat} {l : Array Bool} {a : Act}
  (hi : ops[i]? = some oi := by exact rfl) (hN : oi.dst = N := by exact rfl) (hc : takeW T B ds l.toList l'.toList i = true := by kernel_rfl)
  (hQ : ∀ c a w, Q (.panic c) (a.put oi.dst v) w → Q (.panic c) a w := by exact fun _ _ _ h => h) (hg : Region.wanted oi (yielded ops a.tmps) = true := by rfl)
  (hv : ∀ w, S w → (execOp a.eval oi).run P w = .ok (.value v) w := by (intro w'; (try simp only [and_imp]); intros; go_simp; with_reducible rfl)) {a' : Act}
  (ha : a.put N v = a' := by (simp only [Act.put, List.setIfInBounds_toArray, List.set_cons_zero, List.set_cons_succ, i64_w, i32_w]; rfl))
  (h : wpAnyLast P md ops Q S ds fuel l' a' w) : wpAnyLast P md ops Q S ds (fuel + 1) l a w := take_ l' hi hN (take_ofW HT.out HB.out hc) hQ (Or.inl ⟨hg, hv⟩) hS ha h
end
theorem bel {w w1 w2 : World} (h : Below w.heap.size w1 w2 := by repeat (first | (with_reducible first | exact Aside0.out (by assumption) | apply below_alloc | apply pw_below_drewN | apply below_drew1 | refine below_set ?_ (Aside0.out (by assumption))) | exact Aside0.out (by assumption))) : Below w.heap.size w1 w2 := h
theorem bst {w w1 w2 : World} (hb : Below w1.heap.size w1 w2) (h : Below w.heap.size w w1 := by repeat (first | (with_reducible first | exact Aside0.out (by assumption) | apply below_alloc | apply pw_below_drewN | apply below_drew1 | refine below_set ?_ (Aside0.out (by assumption))) | exact Aside0.out (by assumption))) : Aside0 (Below w.heap.size w w2) := ⟨below_step h hb⟩
theorem bk {w : World} {g : Nat} {o : Obj} (h : w.heap[g]? = some o := by ((with_reducible repeat (first | refine blk_drewN ?_ _ | refine blk_drew ?_ | refine blk_alloc ?_ _)); exact Aside0.out (by assumption))) : w.heap[g]? = some o := h
theorem kcb {α : Type} {d : Kd α} {w : World} {A : Option Addr} {n : Nat} {xs : List α} (h : d.C w A n xs := by repeat (first | exact Kd.C_below (Aside0.out (by assumption)) bel | (with_reducible refine Kd.C_alloc ?_ _) | (with_reducible refine Kd.C_drewN ?_ _) | (with_reducible refine Kd.C_drew ?_))) : d.C w A n xs := h
section
variable {P : Program} {ops : Array Oper} {Q : Exit → Act → World → Prop}
theorem gl_ {rest : List Oper} {oi : Oper} {a : Act} {w : World} (N : Option Tmp) {f : FuncId} {fn : Func} (hf : P.funcs[f]? = some fn) (args : Array Value) {ar : Array Operand} {ts : Array TypeId} (hd : oi.dst = N := by exact rfl) (hg : oi.guard = none := by exact rfl) (hname : (fn.name == "runtime.NumGoroutine") = false := by kernel_rfl) (hb : fn.body.isSome = true := by exact rfl)
  (hop : oi.op = .call { callee := .value (.func f), args := ar, argTypes := ts } := by exact rfl) (hargs : ar.map a.eval = args := by ((try simp only [List.map_toArray, List.map_cons, List.map_nil]); first | done | rfl | (simp only [List.length_drop, List.length_take]; rfl)))
  (h : Calls P f args w fun e w' => ∃ v, e = .returned v ∧ wpList P ops Q rest (a.put N v) w') : wpList P ops Q (oi :: rest) a w := goesL_ N hd hg hf hname hb args hop hargs h
theorem gs_ {oi : Oper} {N : Option Tmp} {a : Act} {w : World} {K : Act → World → Prop} {f : FuncId} {fn : Func} (hf : P.funcs[f]? = some fn) (args : Array Value) {ar : Array Operand} {ts : Array TypeId} (hname : (fn.name == "runtime.NumGoroutine") = false := by kernel_rfl) (hb : fn.body.isSome = true := by exact rfl)
  (hw : Region.wanted oi (yielded ops a.tmps) = true := by rfl) (hN : oi.dst = N := by exact rfl) (hop : oi.op = .call { callee := .value (.func f), args := ar, argTypes := ts } := by exact rfl) (hargs : ar.map a.eval = args := by ((try simp only [List.map_toArray, List.map_cons, List.map_nil]); first | done | rfl | (simp only [List.length_drop, List.length_take]; rfl)))
  (h : Calls P f args w fun e w' => ∃ v, e = .returned v ∧ K (a.put N v) w') : if Region.wanted oi (yielded ops a.tmps) = true then Oper.wp P oi a w K Q else K (a.put N undef) w := goes_ hf hname hb args hw hN hop hargs h
theorem glv_ {rest : List Oper} {oi : Oper} {a : Act} {w : World} (N : Option Tmp) {f : FuncId} {fn : Func} (hf : P.funcs[f]? = some fn) (args : Array Value) {q : Tmp} {ar : Array Operand} {ts : Array TypeId} (hd : oi.dst = N := by exact rfl) (hg : oi.guard = none := by exact rfl) (hname : (fn.name == "runtime.NumGoroutine") = false := by kernel_rfl) (hb : fn.body.isSome = true := by exact rfl)
 (hop : oi.op = .call { callee := .value (.tmp q), args := ar, argTypes := ts } := by exact rfl) (hv : a.eval (.tmp q) = .func (.func f) #[] #[] := by rfl) (hargs : ar.map a.eval = args := by ((try simp only [List.map_toArray, List.map_cons, List.map_nil]); first | done | rfl | (simp only [List.length_drop, List.length_take]; rfl)))
 (h : Calls P f args w fun e w' => ∃ v, e = .returned v ∧ wpList P ops Q rest (a.put N v) w') : wpList P ops Q (oi :: rest) a w := by
 refine wpList_plain hg fun K hK => ?_
 have he := enters_ hf hname hb args w
 have hrun : (execOp a.eval oi).run P w = .ok (.enter f args) w := by
  unfold execOp
  simp [hop, resolve, Deferred.ofValue, invoke, hv, hargs, he]
 unfold Oper.wp
 rw [hrun, Oper.upon_enter]
 refine h.mono fun e w'' hh => ?_
 obtain ⟨v, rfl, hk⟩ := hh
 subst hd
 exact hK _ _ hk
theorem gsv_ {oi : Oper} {N : Option Tmp} {a : Act} {w : World} {K : Act → World → Prop} {f : FuncId} {fn : Func} (hf : P.funcs[f]? = some fn) (args : Array Value) {q : Tmp} {ar : Array Operand} {ts : Array TypeId} (hname : (fn.name == "runtime.NumGoroutine") = false := by kernel_rfl) (hb : fn.body.isSome = true := by exact rfl)
 (hw : Region.wanted oi (yielded ops a.tmps) = true := by rfl) (hN : oi.dst = N := by exact rfl) (hop : oi.op = .call { callee := .value (.tmp q), args := ar, argTypes := ts } := by exact rfl) (hv : a.eval (.tmp q) = .func (.func f) #[] #[] := by rfl) (hargs : ar.map a.eval = args := by ((try simp only [List.map_toArray, List.map_cons, List.map_nil]); first | done | rfl | (simp only [List.length_drop, List.length_take]; rfl)))
 (h : Calls P f args w fun e w' => ∃ v, e = .returned v ∧ K (a.put N v) w') : if Region.wanted oi (yielded ops a.tmps) = true then Oper.wp P oi a w K Q else K (a.put N undef) w := by
 refine call_ f args hw hN ?_ h
 have he := enters_ hf hname hb args w
 unfold execOp
 simp [hop, resolve, Deferred.ofValue, invoke, hv, hargs, he]
theorem bx_ {rest : List Oper} {o : Oper} {a : Act} {W : World} (N : Tmp) (cs : Array Value) (t : TypeId) (hd : o.dst = some N := by exact rfl) (hg : o.guard = none := by exact rfl)
  (hr : (execOp a.eval o).run P W = .ok (.value (.pointer (some ⟨W.heap.size, 0, none⟩))) (W.alloc (.cells cs t (0, 0))) := by first | (go_simp; done) | (go_simp; rfl))
  (h : ∀ g, g = W.heap.size → ∀ w1, w1.heap[g]? = some (.cells cs t (0, 0)) → Below W.heap.size W w1 → wpList P ops Q rest (a.put o.dst (.pointer (some ⟨g, 0, none⟩))) w1) : wpList P ops Q (o :: rest) a W := box_event hg hd hr h
end
theorem blb {w0 w w1 : World} {g : Nat} {o : Obj} (_h : Aside0 (w0.heap[g]? = some o)) (hb : Below w.heap.size w w1) (f : w.heap[g]? = some o := by ((with_reducible repeat (first | refine blk_drewN ?_ _ | refine blk_drew ?_ | refine blk_alloc ?_ _)); exact Aside0.out (by assumption))) : w1.heap[g]? = some o := blk_below f hb
theorem blt {w0 w : World} {g : Nat} {o : Obj} (_h : Aside0 (w0.heap[g]? = some o)) (f : w.heap[g]? = some o := by ((with_reducible repeat (first | refine blk_drewN ?_ _ | refine blk_drew ?_ | refine blk_alloc ?_ _)); exact Aside0.out (by assumption))) : g < w.heap.size := blk_lt f
theorem hxb {w W : World} {a : Addr} {v : Value} (HB : Aside0 (Below w.heap.size w W)) (h : w.cell? a = some v) : W.cell? a = some v := (HB.out.cell (World.block_lt_of_cell? w _ h)).trans h
theorem cells_3 {w : World} {g : Nat} {t : TypeId} {v0 v1 v2 : Value} (h : w.heap[g]? = some (.cells #[v0, v1, v2] t (0, 0))) {R : Prop} (r : R) : w.cell? ⟨g, 0, none⟩ = some v0 ∧ w.cell? ⟨g, 1, none⟩ = some v1 ∧ w.cell? ⟨g, 2, none⟩ = some v2 ∧ R := ⟨(blk_cell h 0).trans rfl, (blk_cell h 1).trans rfl, (blk_cell h 2).trans rfl, r⟩
theorem cells_4 {w : World} {g : Nat} {t : TypeId} {v0 v1 v2 v3 : Value} (h : w.heap[g]? = some (.cells #[v0, v1, v2, v3] t (0, 0))) {R : Prop} (r : R) : w.cell? ⟨g, 0, none⟩ = some v0 ∧ w.cell? ⟨g, 1, none⟩ = some v1 ∧ w.cell? ⟨g, 2, none⟩ = some v2 ∧ w.cell? ⟨g, 3, none⟩ = some v3 ∧ R := ⟨(blk_cell h 0).trans rfl, (blk_cell h 1).trans rfl, (blk_cell h 2).trans rfl, (blk_cell h 3).trans rfl, r⟩
theorem cellz_4 {w : World} {g : Nat} {t : TypeId} {v0 v1 v2 v3 : Value} (h : w.heap[g]? = some (.cells #[v0, v1, v2, v3] t (0, 0))) : w.cell? ⟨g, 0, none⟩ = some v0 ∧ w.cell? ⟨g, 1, none⟩ = some v1 ∧ w.cell? ⟨g, 2, none⟩ = some v2 ∧ w.cell? ⟨g, 3, none⟩ = some v3 := ⟨(blk_cell h 0).trans rfl, (blk_cell h 1).trans rfl, (blk_cell h 2).trans rfl, (blk_cell h 3).trans rfl⟩
theorem frz_4 {w : World} {g : Nat} {t : TypeId} {v0 v1 v2 v3 : Value} (h : w.heap[g]? = some (.cells #[v0, v1, v2, v3] t (0, 0))) : w.frozen? ⟨g, 0, none⟩ = false ∧ w.frozen? ⟨g, 1, none⟩ = false ∧ w.frozen? ⟨g, 2, none⟩ = false ∧ w.frozen? ⟨g, 3, none⟩ = false ∧ True := ⟨blk_frozen h 0, blk_frozen h 1, blk_frozen h 2, blk_frozen h 3, trivial⟩
theorem rbl {α : Type} {d : Kd α} {e base : Nat} {ok : Nat → Prop} {v : Value} {xs : List α} {W0 W W1 : World} (_h : Aside0 (d.R e W0 base ok v xs)) (hb : Below W.heap.size W W1) (f : d.R e W base ok v xs := by ((with_reducible repeat (first | apply Kd.R_alloc | apply Kd.R_drewN | apply Kd.R_drew)); exact Aside0.out (by assumption))) : d.R e W1 base ok v xs := Kd.R_below f hb
-- rows of rows of the call's own that go behind others (own, not read)
theorem bkp {w0 w : World} {g : Nat} {o : Obj} (_h : Aside0 (w0.heap[g]? = some o)) (f : w.heap[g]? = some o := by ((with_reducible repeat (first | refine blk_drewN ?_ _ | refine blk_drew ?_ | refine blk_alloc ?_ _)); exact Aside0.out (by assumption))) : w.heap[g]? = some o := f
theorem rkp {α : Type} {d : Kd α} {e base : Nat} {ok : Nat → Prop} {v : Value} {xs : List α} {W0 W : World} (_h : Aside0 (d.R e W0 base ok v xs)) (f : d.R e W base ok v xs := by ((with_reducible repeat (first | apply Kd.R_alloc | apply Kd.R_drewN | apply Kd.R_drew)); exact Aside0.out (by assumption))) : d.R e W base ok v xs := f
theorem skp {α : Type} {d : Kd α} {e base : Nat} {ok : Nat → Prop} {v : Value} {xs : List α} {W0 W : World} (_h : Aside0 (Kd.S d e W0 base ok v xs)) (f : Kd.S d e W base ok v xs := by ((with_reducible repeat (first | apply Kd.S_alloc | apply Kd.S_drewN | apply Kd.S_drew)); exact Aside0.out (by assumption))) : Kd.S d e W base ok v xs := f
theorem Kd.R_F {α : Type} {d : Kd α} {e : Nat} {w : World} {base : Nat} {ok : Nat → Prop} {v : Value} {xs : List α} (h : d.R e w base ok v xs) : d.R e w base ok v xs := h
theorem Kd.R_rowsM {α : Type} {d : Kd α} {e : Nat} {w : World} {base : Nat} {ok : Nat → Prop} {A : Option Addr} {n c : Nat} {xs : List α} (h : d.R e w base ok (.slice A n c) xs) : ReadsRow (d.M w base ok) d.sz w A n xs := by
 obtain ⟨A', c', he, hl, hr⟩ := OwnRow.reads h.2
 injection he with h1 h2 h3
 subst h1
 subst h2
 exact hr.imp_ (Below.refl _ _) (fun _ _ hp => d.M_mono (fun _ hk => hk.1) hp)
theorem Kd.R_append_rowsO {α : Type} (d : Kd α) {P : Program} {ops : Array Oper} {Q : Exit → Act → World → Prop} {rest : List Oper} {o : Oper} {a : Act} {w0 W : World} (base : Nat) (hgd : o.guard = none) (s x : Operand) (t e : TypeId) (z : Value) (bytes : Nat)
  (ho : o.op = .call { callee := .builtin .append, args := #[s, x], argTypes := #[t, t] })
  (ht : P.underlying t = some (.slice e)) (hinfo : (P.info? e).map (fun i => (i.zero, i.size, i.bytes)) = some (some z, d.sz, bytes)) (hz : z.cells.size = d.sz) (hs0 : 0 < d.sz) (hb0 : 0 < bytes)
  (v : Value) (xs ys : List α) (A : Option Addr) (m c : Nat) (ok okp : Nat → Prop) (hs : a.eval s = v) (hx : a.eval x = .slice A m c)
  (HO : d.R e W base ok v xs) (HR : d.R e W base okp (.slice A m c) ys) (hokp : ∀ k, okp k → ok k ∧ some k ≠ v.ownBlock) (hfresh : ∀ k, W.heap.size ≤ k → ok k)
  (HB : Below base w0 W) (hbase : base ≤ W.heap.size) (hl : (xs.length + m) * bytes ≤ 140737488355328)
  (h : ∀ v1 w1, d.R e w1 base ok v1 (xs ++ ys) → Below base w0 w1 → W.grownBy w1 v.ownBlock → (v1.ownBlock = v.ownBlock ∨ ∃ b, v1.ownBlock = some b ∧ W.heap.size ≤ b) → wpList P ops Q rest (a.put o.dst v1) w1) :
  wpList P ops Q (o :: rest) a W := Kd.R_append_rows d base hgd s x t e z bytes ho ht hinfo hz hs0 hb0 v xs ys A m c ok okp hs hx HO (Kd.R_rowsM HR) (fun _ _ h => h) hokp hfresh HB hbase hl h
theorem Kd.M_slice_open {α : Type} {d : Kd α} {e : Nat} {w : World} {base : Nat} {ok : Nat → Prop} {l : List α} {cs : List Value} (h : (Kd.slice e d).M w base ok l cs) : ∃ A c, cs = [.slice A l.length c] ∧ l.length ≤ c ∧ d.R e w base ok (.slice A l.length c) l := by
 obtain ⟨v, rfl, h⟩ := h
 obtain ⟨A, c, rfl, hl, _⟩ := Kd.R_reads h
 exact ⟨A, c, rfl, hl, h⟩
theorem Kd.R_mk {α : Type} {d : Kd α} {e : Nat} {w : World} {base : Nat} {ok : Nat → Prop} {A : Option Addr} {c : Nat} {l : List α} (_ : l.length ≤ c) (h : d.R e w base ok (.slice A l.length c) l) : d.R e w base ok (.slice A l.length c) l := h
theorem Kd.M_slice_mk {α : Type} {d : Kd α} {e : Nat} {w : World} {base : Nat} {ok : Nat → Prop} {A : Option Addr} {c : Nat} {l : List α} (_ : l.length ≤ c) (h : d.R e w base ok (.slice A l.length c) l) : (Kd.slice e d).M w base ok l [.slice A l.length c] := ⟨_, rfl, h⟩
section
variable {P : Program} {ops : Array Oper} {Q : Exit → Act → World → Prop} {md : Region.Mode} {S : World → Prop} {ds : List Nat} {T : Bool × List (List Nat × List Nat)}
theorem pvn_ (HT : Aside0 (rtab md ops = T)) {i m : Nat} {N : Option Tmp} {oi : Oper} {v : Value} {fuel : Nat} {a : Act} {w : World}
  (hi : ops[i]? = some oi := by exact rfl) (hN : oi.dst = N := by first | exact (rfl : _ = some _) | exact (rfl : _ = none) | exact rfl) (hc : anyT T (tf i (m + 1)).toList (tf (i + 1) m).toList i = true := by kernel_rfl)
  (hQ : ∀ c a w, Q (.panic c) (a.put oi.dst v) w → Q (.panic c) a w := by exact fun _ _ _ h => h) (hg : Region.wanted oi (yielded ops a.tmps) = true := by rfl)
  (hv : ∀ w, (execOp a.eval oi).run P w = .ok (.value v) w := by (intro w'; go_simp; with_reducible rfl)) {a' : Act}
  (ha : a.put N v = a' := by (simp only [Act.put, List.setIfInBounds_toArray, List.set_cons_zero, List.set_cons_succ, i64_w, i32_w]; rfl))
  (h : wpAnyLast P md ops Q S ds fuel (tf (i + 1) m) a' w) : wpAnyLast P md ops Q S ds (fuel + 1) (tf i (m + 1)) a w := pv_ HT i N (tf (i + 1) m) hi hN hc hQ hg hv ha h
theorem pun_ (HT : Aside0 (rtab md ops = T)) {i m : Nat} {N : Option Tmp} {oi : Oper} {fuel : Nat} {a : Act} {w : World}
  (hi : ops[i]? = some oi := by exact rfl) (hN : oi.dst = N := by first | exact (rfl : _ = some _) | exact (rfl : _ = none) | exact rfl) (hc : anyT T (tf i (m + 1)).toList (tf (i + 1) m).toList i = true := by kernel_rfl)
  (hQ : ∀ c a w, Q (.panic c) (a.put oi.dst undef) w → Q (.panic c) a w := by exact fun _ _ _ h => h) (hg : Region.wanted oi (yielded ops a.tmps) = false := by rfl) {a' : Act}
  (ha : a.put N undef = a' := by (simp only [Act.put, List.setIfInBounds_toArray, List.set_cons_zero, List.set_cons_succ, i64_w, i32_w]; rfl))
  (h : wpAnyLast P md ops Q S ds fuel (tf (i + 1) m) a' w) : wpAnyLast P md ops Q S ds (fuel + 1) (tf i (m + 1)) a w := pu_ HT i N (tf (i + 1) m) hi hN hc hQ hg ha h
theorem tvn_ {B : List Nat} (HT : Aside0 (rtab md ops = T)) (HB : Aside0 (waitsOk T.2 B = true)) {w : World} (hS : S w) {i m : Nat} {N : Option Tmp} {oi : Oper} {v : Value} {fuel : Nat} {a : Act}
  (hi : ops[i]? = some oi := by exact rfl) (hN : oi.dst = N := by first | exact (rfl : _ = some _) | exact (rfl : _ = none) | exact rfl) (hc : takeW T B ds (tf i (m + 1)).toList (tf (i + 1) m).toList i = true := by kernel_rfl)
  (hQ : ∀ c a w, Q (.panic c) (a.put oi.dst v) w → Q (.panic c) a w := by exact fun _ _ _ h => h) (hg : Region.wanted oi (yielded ops a.tmps) = true := by rfl)
  (hv : ∀ w, S w → (execOp a.eval oi).run P w = .ok (.value v) w := by (intro w'; (try simp only [and_imp]); intros; go_simp; with_reducible rfl)) {a' : Act}
  (ha : a.put N v = a' := by (simp only [Act.put, List.setIfInBounds_toArray, List.set_cons_zero, List.set_cons_succ, i64_w, i32_w]; rfl))
  (h : wpAnyLast P md ops Q S ds fuel (tf (i + 1) m) a' w) : wpAnyLast P md ops Q S ds (fuel + 1) (tf i (m + 1)) a w := tv_ HT HB hS i N (tf (i + 1) m) hi hN hc hQ hg hv ha h
end
theorem puts_step {w : World} {g t j : Nat} {cs : Array Value} {u : Value} (hb : w.heap[g]? = some (.cells cs t (0, 0))) (hj : j < cs.size) :
  (w.setCell ⟨g, j, none⟩ u).heap[g]? = some (.cells (cs.set j u hj) t (0, 0)) ∧ (∀ g', g' ≠ g → (w.setCell ⟨g, j, none⟩ u).heap[g']? = w.heap[g']?) ∧ ∀ w0 : World, Below w0.heap.size w0 w → w0.heap.size ≤ g → Below w0.heap.size w0 (w.setCell ⟨g, j, none⟩ u) := by
 refine ⟨?_, fun g' h => Below.heap_setCell w ⟨g, j, none⟩ u g' h, fun w0 h hg => below_set h hg⟩
 have e := blk_put (cs := cs) hb j u rfl
 rw [e]
 simp [Array.setIfInBounds, hj]
theorem put2_ {P : Program} {C : Code} {K : Exit → Act → World → Prop} {a : Act} {w : World} {g t : Nat} {z0 z1 u0 u1 : Value} (hb : w.heap[g]? = some (.cells #[z0, z1] t (0, 0)))
  (h : ∀ w', w'.heap[g]? = some (.cells #[u0, u1] t (0, 0)) → (∀ g', g' ≠ g → w'.heap[g']? = w.heap[g']?) → (∀ w0 : World, Below w0.heap.size w0 w → w0.heap.size ≤ g → Below w0.heap.size w0 w') → Code.wp P C K a w') :
  Code.wp P C K a ((w.setCell ⟨g, 0, none⟩ u0).setCell ⟨g, 1, none⟩ u1) := by
 obtain ⟨a0, b0, c0⟩ := puts_step (j := 0) (u := u0) hb (by simp)
 obtain ⟨a1, b1, c1⟩ := puts_step (j := 1) (u := u1) a0 (by simp)
 exact h _ a1 (fun g' n => (b1 g' n).trans (b0 g' n)) (fun w0 x y => c1 w0 (c0 w0 x y) y)
theorem put4_ {P : Program} {C : Code} {K : Exit → Act → World → Prop} {a : Act} {w : World} {g t : Nat} {z0 z1 z2 z3 u0 u1 u2 u3 : Value} (hb : w.heap[g]? = some (.cells #[z0, z1, z2, z3] t (0, 0)))
  (h : ∀ w', w'.heap[g]? = some (.cells #[u0, u1, u2, u3] t (0, 0)) → (∀ g', g' ≠ g → w'.heap[g']? = w.heap[g']?) → (∀ w0 : World, Below w0.heap.size w0 w → w0.heap.size ≤ g → Below w0.heap.size w0 w') → Code.wp P C K a w') :
  Code.wp P C K a ((((w.setCell ⟨g, 0, none⟩ u0).setCell ⟨g, 1, none⟩ u1).setCell ⟨g, 2, none⟩ u2).setCell ⟨g, 3, none⟩ u3) := by
 obtain ⟨a0, b0, c0⟩ := puts_step (j := 0) (u := u0) hb (by simp)
 obtain ⟨a1, b1, c1⟩ := puts_step (j := 1) (u := u1) a0 (by simp)
 obtain ⟨a2, b2, c2⟩ := puts_step (j := 2) (u := u2) a1 (by simp)
 obtain ⟨a3, b3, c3⟩ := puts_step (j := 3) (u := u3) a2 (by simp)
 exact h _ a3 (fun g' n => (b3 g' n).trans ((b2 g' n).trans ((b1 g' n).trans (b0 g' n)))) (fun w0 x y => c3 w0 (c2 w0 (c1 w0 (c0 w0 x y) y) y) y)
theorem nrm_ {P : Program} {ops : Array Oper} {Q : Exit → Act → World → Prop} {md : Region.Mode} {S : World → Prop} {ds : List Nat} (N : Option Tmp) {v : Value} {fuel : Nat} {l : Array Bool} {a a' : Act} {w : World}
  (ha : Act.put a N v = a' := by (simp only [Act.put, List.setIfInBounds_toArray, List.set_cons_zero, List.set_cons_succ, i64_w, i32_w]; rfl)) (h : wpAnyLast P md ops Q S ds fuel l a' w) : wpAnyLast P md ops Q S ds fuel l (Act.put a N v) w := norm_ ha h
theorem rz_ {p : Prop} (h : p := by first | rfl | (simp [errW_none, errW_some] <;> rfl) | (simp [*, errW_none, errW_some] <;> rfl)) : p := h
theorem rs_ {p : Prop} (h : p := by first | rfl | (simp; done) | (simp [*]; done)) : p := h
theorem typ_ne_ {w : World} {k e : Nat} {E : List Nat} {v : Value} (ht : ∀ k, v.ownBlock = some k → ∃ cells, w.heap[k]? = some (.cells cells e (0, 0))) (hp : ∃ q, q ∈ E ∧ ∃ cells, w.heap[k]? = some (.cells cells q (0, 0))) (hn : ∀ q, q ∈ E → q ≠ e) (hv : some k = v.ownBlock) : False := by
 obtain ⟨q, hq, c, hc⟩ := hp
 obtain ⟨c', hc'⟩ := ht k hv.symm
 rw [hc'] at hc
 injection hc with hc
 injection hc with _ hc
 exact hn q hq hc.symm
theorem widen_ {P : Program} {ops : Array Oper} {Q : Exit → Act → World → Prop} {md : Region.Mode} {S S' : World → Prop} {fuel : Nat} {l : Array Bool} {a : Act} {w : World}
  (hs : ∀ w, S' w → S w) (h0 : S' w) (h : S' w → wpAnyLast P md ops Q S' [] fuel l a w) : wpAnyLast P md ops Q S [] fuel l a w := by
 have key : ∀ (fuel : Nat) (l : Array Bool) (a : Act) (w : World), S' w → wpAnyLast P md ops Q S' [] fuel l a w → wpAnyLast P md ops Q S [] fuel l a w := by
  intro fuel
  induction fuel with
  | zero => exact fun _ _ _ _ h => h
  | succ n ih => exact fun l a w h0 h => ⟨h.1, fun i hi => wpOp_mono (fun a' w' h' => ⟨fun _ _ => hs _ (h'.1 (by simp) h0), ih _ _ _ (h'.1 (by simp) h0) h'.2⟩) (h.2 i hi)⟩
 exact key fuel l a w h0 (h h0)
def putsD : List (Option Tmp) → Act → Act
 | [], a => a
 | d :: ds, a => putsD ds (a.put d undef)
def unw (ops : Array Oper) : Nat → Nat → Act → Bool
 | 0, _, _ => true
 | n + 1, i, a => match ops[i]? with
  | some o => !Region.wanted o (yielded ops a.tmps) && unw ops n (i + 1) (a.put o.dst undef)
  | none => false
def anyTs (T : Bool × List (List Nat × List Nat)) : Nat → Nat → Nat → Bool
 | 0, _, _ => true
 | n + 1, i, m => anyT T (tf i (m + n + 1)).toList (tf (i + 1) (m + n)).toList i && anyTs T n (i + 1) m
def dstsOf (ops : Array Oper) : Nat → Nat → List (Option Tmp)
 | 0, _ => []
 | n + 1, i => (match ops[i]? with | some o => o.dst | none => none) :: dstsOf ops n (i + 1)
def unwA (ops : Array Oper) (a : Act) : Nat → Nat → List (Option Tmp) → Bool
 | 0, _, _ => true
 | n + 1, i, D => match ops[i]? with
  | some o => (match o.guard with
   | some (j, want) => D.any (fun x => x == (ops[j]?).bind (·.dst)) || !(yielded ops a.tmps j == some want)
   | none => false) && unwA ops a n (i + 1) (o.dst :: D)
  | none => false
theorem unw_of (ops : Array Oper) (a : Act) (n : Nat) : ∀ (i : Nat) (D : List (Option Tmp)) (a' : Act),
  (∀ d : Nat, (some d ∈ D → ∀ b, a'.tmps[d]? ≠ some (.bool b)) ∧ (some d ∉ D → a'.tmps[d]? = a.tmps[d]?)) → unwA ops a n i D = true → unw ops n i a' = true := by
 induction n with
 | zero => intro i D a' _ _; rfl
 | succ n ih =>
  intro i D a' hA h
  rw [unwA] at h
  rw [unw]
  cases ho : ops[i]? with
  | none => rw [ho] at h; cases h
  | some o =>
   rw [ho] at h
   simp only [Bool.and_eq_true] at h
   simp only [Bool.and_eq_true, Bool.not_eq_true']
   refine ⟨?_, ih (i + 1) (o.dst :: D) _ (fun d => ?_) h.2⟩
   ·unfold Region.wanted
    cases hg : o.guard with
    | none => rw [hg] at h; exact absurd h.1 (by simp)
    | some p =>
     obtain ⟨j, want⟩ := p
     rw [hg] at h
     simp only [Bool.or_eq_true, Bool.not_eq_true'] at h
     simp only
     cases hd : (ops[j]?).bind (·.dst) with
     | none => unfold yielded; rw [hd]; rfl
     | some d =>
      have h1 := h.1
      unfold yielded at h1 ⊢
      rw [hd] at h1 ⊢
      by_cases hm : some d ∈ D
      ·have := (hA d).1 hm
       simp only [Option.bind_some]
       cases hv : a'.tmps[d]? with
       | none => rfl
       | some v =>
        cases v <;> first | rfl | exact absurd hv (this _)
      ·rw [Option.bind_some, (hA d).2 hm]
       rcases h1 with h1 | h1
       ·rw [List.any_eq_true] at h1
        obtain ⟨x, hx, e⟩ := h1
        exact absurd (by rw [beq_iff_eq] at e; rw [← e]; exact hx) hm
       ·rw [Option.bind_some] at h1
        exact h1
   ·cases hd : o.dst with
    | none =>
     refine ⟨fun hm => (hA d).1 ?_, fun hm => (hA d).2 ?_⟩
     ·simpa using hm
     ·simpa using hm
    | some q =>
     show (_ → ∀ b, (a'.tmps.setIfInBounds q undef)[d]? ≠ some (.bool b)) ∧ (_ → (a'.tmps.setIfInBounds q undef)[d]? = a.tmps[d]?)
     rw [Array.getElem?_setIfInBounds]
     by_cases e : q = d
     ·subst e
      refine ⟨fun _ b => ?_, fun hm => absurd (List.mem_cons_self ..) hm⟩
      rw [if_pos rfl]
      split
      ·intro hc; cases hc
      ·intro hc; cases hc
     ·rw [if_neg e]
      refine ⟨fun hm => (hA d).1 ?_, fun hm => (hA d).2 ?_⟩
      ·simpa [Ne.symm e] using hm
      ·simpa [Ne.symm e] using hm
section
variable {P : Program} {ops : Array Oper} {Q : Exit → Act → World → Prop} {md : Region.Mode} {S : World → Prop} {ds : List Nat} {T : Bool × List (List Nat × List Nat)}
/-- A run of operations that are not wanted. -/
theorem puns_ (HT : Aside0 (rtab md ops = T)) (n : Nat) (D : List (Option Tmp)) {i m : Nat} {fuel : Nat} {a : Act} {w : World}
  (hd : dstsOf ops n i = D := by exact rfl)
  (hQ : ∀ d c a w, Q (.panic c) (a.put (some d) undef) w → Q (.panic c) a w := by exact fun _ _ _ _ h => h)
  (hc : anyTs T n i m = true := by kernel_rfl) (hg : unwA ops a n i [] = true := by kernel_rfl) {a' : Act}
  (ha : putsD D a = a' := by (simp only [putsD, Act.put, List.setIfInBounds_toArray, List.set_cons_zero, List.set_cons_succ]; rfl))
  (h : wpAnyLast P md ops Q S ds fuel (tf (i + n) m) a' w) : wpAnyLast P md ops Q S ds (fuel + n) (tf i (m + n)) a w := by
 subst hd
 replace hg := unw_of ops a n i [] a (fun d => ⟨fun h => absurd h (by simp), fun _ => rfl⟩) hg
 induction n generalizing i a fuel a' with
 | zero => subst ha; exact h
 | succ n ih =>
  rw [unw] at hg
  cases ho : ops[i]? with
  | none => rw [ho] at hg; cases hg
  | some o =>
   rw [ho] at hg
   simp only [Bool.and_eq_true, Bool.not_eq_true'] at hg
   rw [anyTs, Bool.and_eq_true] at hc
   have hd1 : dstsOf ops (n + 1) i = o.dst :: dstsOf ops n (i + 1) := by rw [dstsOf, ho]
   rw [hd1] at ha
   have h2 := ih (i := i + 1) (fuel := fuel) (a := a.put o.dst undef) (a' := a') (hc := hc.2) (hg := hg.2) (ha := ha) (h := by rw [show i + 1 + n = i + (n + 1) by omega]; exact h)
   have hQ2 : ∀ c a w, Q (.panic c) (a.put o.dst undef) w → Q (.panic c) a w := by
    cases o.dst with
    | none => exact fun _ _ _ h => h
    | some d => exact hQ d
   exact pu_ HT i o.dst (tf (i + 1) (m + n)) ho rfl hc.1 hQ2 hg.1 rfl h2
end

/-! marks: a value's scalars are written, its rows stay where they are -/
def Samey (u u' : Value) : Prop := u = u' ∨ (∃ k a b, u = .int k a ∧ u' = .int k b) ∨ (∃ a b, u = .bool a ∧ u' = .bool b)
theorem Samey.trans {a b c : Value} (h : Samey a b) (k : Samey b c) : Samey a c := by
 rcases h with rfl | ⟨q, x, y, rfl, rfl⟩ | ⟨x, y, rfl, rfl⟩
 ·exact k
 ·rcases k with rfl | ⟨q', x', y', e, rfl⟩ | ⟨x', y', e, rfl⟩
  ·exact .inr (.inl ⟨q, x, y, rfl, rfl⟩)
  ·injection e with e1 e2
   subst e1
   exact .inr (.inl ⟨q, x, y', rfl, rfl⟩)
  ·cases e
 ·rcases k with rfl | ⟨q', x', y', e, rfl⟩ | ⟨x', y', e, rfl⟩
  ·exact .inr (.inr ⟨x, y, rfl, rfl⟩)
  ·cases e
  ·exact .inr (.inr ⟨x, y', rfl, rfl⟩)
structure Mk (w W : World) (P : Nat → Prop) : Prop where
 os : W.os = w.os
 tape : W.tape = w.tape
 output : W.output = w.output
 kept : Kept w W P
 same : ∀ b, b < w.heap.size → P b → ∀ cells e fz, w.heap[b]? = some (.cells cells e fz) → ∃ cells', W.heap[b]? = some (.cells cells' e fz) ∧ cells'.size = cells.size ∧ ∀ (i : Nat) (u : Value), cells[i]? = some u → ∃ u' : Value, cells'[i]? = some u' ∧ Samey u u'
theorem Mk.refl (w : World) (P : Nat → Prop) : Mk w w P := ⟨rfl, rfl, rfl, Kept.refl w P, fun _ _ _ cells _ _ h => ⟨cells, h, rfl, fun _ u hu => ⟨u, hu, .inl rfl⟩⟩⟩
theorem Mk.trans {w W W2 : World} {P : Nat → Prop} (h : Mk w W P) (k : Mk W W2 P) : Mk w W2 P := by
 refine ⟨k.os.trans h.os, k.tape.trans h.tape, k.output.trans h.output, h.kept.then_ k.kept (fun _ hk => .inl hk), fun b hb hP cells e fz hc => ?_⟩
 obtain ⟨c1, h1, s1, e1⟩ := h.same b hb hP cells e fz hc
 obtain ⟨c2, h2, s2, e2⟩ := k.same b (Nat.lt_of_lt_of_le hb h.kept.1) hP c1 e fz h1
 refine ⟨c2, h2, s2.trans s1, fun i u hu => ?_⟩
 obtain ⟨u1, hu1, q1⟩ := e1 i u hu
 obtain ⟨u2, hu2, q2⟩ := e2 i u1 hu1
 exact ⟨u2, hu2, q1.trans q2⟩
theorem Mk.mono {w W : World} {P P' : Nat → Prop} (h : Mk w W P) (hp : ∀ k, P k → P' k) : Mk w W P' := by
 refine ⟨h.os, h.tape, h.output, h.kept.mono hp, fun b hb _ cells e fz hc => ?_⟩
 by_cases hP : P b
 ·exact h.same b hb hP cells e fz hc
 ·exact ⟨cells, (h.kept.2 b hb hP).trans hc, rfl, fun _ u hu => ⟨u, hu, .inl rfl⟩⟩
theorem Mk.drewN {w W : World} {P : Nat → Prop} (h : Mk w W P) (m : Nat) : Mk w (W.drewN m) P := ⟨h.os, h.tape, h.output, h.kept, h.same⟩
theorem Mk.drew {w W : World} {P : Nat → Prop} (h : Mk w W P) : Mk w W.drew P := ⟨h.os, h.tape, h.output, h.kept, h.same⟩
theorem Mk.set {w W : World} {P : Nat → Prop} (h : Mk w W P) {g j : Nat} (hP : P g) {u u' : Value} (hc : W.cell? ⟨g, j, none⟩ = some u) (hs : Samey u u') : Mk w (W.setCell ⟨g, j, none⟩ u') P := by
 refine ⟨h.os, h.tape, h.output, h.kept.setCell (p := ⟨g, j, none⟩) (.inl hP) u', fun b hb hPb cells e fz hcb => ?_⟩
 obtain ⟨c1, h1, s1, e1⟩ := h.same b hb hPb cells e fz hcb
 by_cases hbg : b = g
 ·subst hbg
  refine ⟨c1.setIfInBounds j u', ?_, by rw [Array.size_setIfInBounds, s1], fun i v hv => ?_⟩
  ·simp [World.setCell, Array.getElem?_modify, h1]
  ·obtain ⟨v1, hv1, q1⟩ := e1 i v hv
   by_cases hij : j = i
   ·subst hij
    have hlt := (Array.getElem?_eq_some_iff.1 hv1).1
    have : v1 = u := by
     simp only [World.cell?, h1] at hc
     have hc' : c1[j]? = some u := by simpa using hc
     rw [hv1] at hc'
     exact Option.some.inj hc'
    subst this
    exact ⟨u', by simp [hlt], q1.trans hs⟩
   ·exact ⟨v1, by rw [Array.getElem?_setIfInBounds_ne hij]; exact hv1, q1⟩
 ·exact ⟨c1, (Below.heap_setCell W ⟨g, j, none⟩ u' b hbg).trans h1, s1, e1⟩
theorem Mk.below {w0 w W : World} {P : Nat → Prop} (h : Mk w W P) (hb : Below w0.heap.size w0 w) (hP : ∀ k, P k → w0.heap.size ≤ k) : Below w0.heap.size w0 W :=
 ⟨h.os.trans hb.os, h.tape.trans hb.tape, h.output.trans hb.output, Nat.le_trans hb.size h.kept.1, fun k hk => (h.kept.2 k (Nat.lt_of_lt_of_le hk hb.size) (fun hp => by have := hP k hp; omega)).trans (hb.block k hk)⟩
theorem Mk.own {w W : World} {P : Nat → Prop} (h : Mk w W P) {base e sz n : Nat} {v : Value} {xs : List Value} (ho : w.ownsRow base e sz v n xs) (hP : ∀ k, v.ownBlock = some k → P k) :
  ∃ xs', W.ownsRow base e sz v n xs' ∧ xs'.length = xs.length ∧ ∀ (i : Nat) (u : Value), xs[i]? = some u → ∃ u' : Value, xs'[i]? = some u' ∧ Samey u u' := by
 obtain ⟨hl, ho⟩ := ho
 rcases ho with ⟨rfl, rfl⟩ | ⟨g, cap, cur, rfl, hg, hh, hn, hcap, hsz, ht⟩
 ·exact ⟨xs, ⟨hl, .inl ⟨rfl, rfl⟩⟩, rfl, fun _ u hu => ⟨u, hu, .inl rfl⟩⟩
 ·obtain ⟨c1, h1, s1, e1⟩ := h.same g (Array.getElem?_eq_some_iff.1 hh).1 (hP g rfl) cur e (0, 0) hh
  have hle : n * sz ≤ cur.size := by rw [hsz]; exact Nat.mul_le_mul_right _ hn
  have hlen : (c1.toList.take (n * sz)).length = xs.length := by
   rw [List.length_take, Array.length_toList, s1, hl]
   omega
  refine ⟨c1.toList.take (n * sz), ⟨hlen.trans hl, .inr ⟨g, cap, c1, rfl, hg, h1, hn, hcap, s1.trans hsz, rfl⟩⟩, hlen, fun i u hu => ?_⟩
  have hi := (List.getElem?_eq_some_iff.1 hu).1
  rw [← ht, List.getElem?_take, if_pos (by omega), Array.getElem?_toList] at hu
  obtain ⟨u', hu', q⟩ := e1 i u hu
  exact ⟨u', by rw [List.getElem?_take, if_pos (by omega), Array.getElem?_toList]; exact hu', q⟩
theorem exists_list {α : Type} (Q : Nat → α → Prop) : ∀ n, (∀ j, j < n → ∃ p, Q j p) → ∃ l : List α, l.length = n ∧ ∀ j p, l[j]? = some p → Q j p
 | 0, _ => ⟨[], rfl, fun j p h => by simp at h⟩
 | n + 1, h => by
  obtain ⟨l, hl, hq⟩ := exists_list Q n (fun j hj => h j (by omega))
  obtain ⟨p, hp⟩ := h n (by omega)
  refine ⟨l ++ [p], by simp [hl], fun j q hj => ?_⟩
  rcases Nat.lt_or_ge j n with hjn | hjn
  ·rw [List.getElem?_append_left (by omega)] at hj
   exact hq j q hj
  ·have : j = n := by
    have := (List.getElem?_eq_some_iff.1 hj).1
    simp [hl] at this
    omega
   subst this
   rw [List.getElem?_append_right (by omega)] at hj
   simp [hl] at hj
   subst hj
   exact hp
def Sm (cs cs' : List Value) : Prop := cs'.length = cs.length ∧ ∀ (i : Nat) (u : Value), cs[i]? = some u → ∃ u' : Value, cs'[i]? = some u' ∧ Samey u u'
theorem Mk.R {α : Type} {d : Kd α} {s : α → α → Prop} {w W : World} {P ok : Nat → Prop} {base e : Nat} {v : Value} {xs : List α} (h : Mk w W P) (hok : ∀ k, ok k → P k) (hr : d.R e w base ok v xs)
  (hs : ∀ x, x ∈ xs → ∀ ok' : Nat → Prop, (∀ k, ok' k → P k) → ∀ cs cs', d.M w base ok' x cs → Sm cs cs' → ∃ x', s x x' ∧ d.M W base ok' x' cs') :
  ∃ xs', xs'.length = xs.length ∧ (∀ (j : Nat) (x x' : α), xs[j]? = some x → xs'[j]? = some x' → s x x') ∧ d.R e W base ok v xs' := by
 obtain ⟨h0, inner, ho, hi⟩ := hr
 obtain ⟨inner', ho', hl', he'⟩ := h.own ho (fun k hk => hok k (h0 k hk))
 have step : ∀ j, j < xs.length → ∃ x', (∀ x, xs[j]? = some x → s x x') ∧ d.M W base (fun k => ok k ∧ some k ≠ v.ownBlock) x' ((inner'.drop (j * d.sz)).take d.sz) := by
  intro j hj
  have hm := hi.2 j _ (List.getElem?_eq_getElem hj)
  obtain ⟨x', hx', hM⟩ := hs xs[j] (List.getElem_mem hj) (fun k => ok k ∧ some k ≠ v.ownBlock) (fun k hk => hok k hk.1) _ ((inner'.drop (j * d.sz)).take d.sz) hm ⟨by simp [hl'], fun i u hu => by
   rw [List.getElem?_take] at hu
   split at hu
   case isFalse => cases hu
   case isTrue hlt =>
    rw [List.getElem?_drop] at hu
    obtain ⟨u', hu', q⟩ := he' _ u hu
    exact ⟨u', by rw [List.getElem?_take, if_pos hlt, List.getElem?_drop]; exact hu', q⟩⟩
  exact ⟨x', fun x hx => by rw [List.getElem?_eq_getElem hj] at hx; cases hx; exact hx', hM⟩
 obtain ⟨xs', hl, hq⟩ := exists_list (fun j x' => (∀ x, xs[j]? = some x → s x x') ∧ d.M W base (fun k => ok k ∧ some k ≠ v.ownBlock) x' ((inner'.drop (j * d.sz)).take d.sz)) xs.length step
 refine ⟨xs', hl, fun j x x' hx hx' => (hq j x' hx').1 x hx, h0, inner', ?_, ?_⟩
 ·rw [hl]; exact ho'
 ·exact ⟨by rw [hl', hi.1, hl], fun j p hj => (hq j p hj).2⟩
theorem Mk.R_int {w W : World} {P ok : Nat → Prop} {kd : IntKind} {base e : Nat} {v : Value} {xs : List Int} (h : Mk w W P) (hok : ∀ k, ok k → P k) (hr : (Kd.int kd).R e w base ok v xs) :
  ∃ xs', xs'.length = xs.length ∧ (Kd.int kd).R e W base ok v xs' := by
 obtain ⟨xs', hl, _, h2⟩ := Mk.R (s := fun _ _ => True) h hok hr (fun x _ ok' _ cs cs' hm hsm => by
  have hm' : cs = [.int kd x] := hm
  subst hm'
  obtain ⟨hl, he⟩ := hsm
  obtain ⟨u', hu', q⟩ := he 0 _ rfl
  have : cs' = [u'] := by
   match cs', hl, hu' with
   | [z], _, hz => simp at hz; rw [hz]
  subst this
  rcases q with q | ⟨k, a, b, e1, e2⟩ | ⟨a, b, e1, _⟩
  ·exact ⟨x, trivial, by rw [← q]; exact hm⟩
  ·injection e1 with e3 e4
   subst e3
   exact ⟨b, trivial, by rw [e2]; rfl⟩
  ·cases e1)
 exact ⟨xs', hl, h2⟩
theorem w64m {x : Int} (h0 : -9223372036854775808 ≤ x) (h1 : x ≤ 9223372036854775807) : wrap64 x = x := by
 unfold wrap64
 omega
theorem Samey.slice {A : Option Addr} {n c : Nat} {u : Value} (h : Samey (.slice A n c) u) : u = .slice A n c := by
 rcases h with h | ⟨k, a, b, e1, _⟩ | ⟨a, b, e1, _⟩
 ·exact h.symm
 ·cases e1
 ·cases e1
theorem Samey.bool {x : Bool} {u : Value} (h : Samey (.bool x) u) : ∃ y, u = .bool y := by
 rcases h with h | ⟨k, a, b, e1, _⟩ | ⟨a, b, e1, e2⟩
 ·exact ⟨x, h.symm⟩
 ·cases e1
 ·exact ⟨b, e2⟩
theorem Samey.int {q : IntKind} {x : Int} {u : Value} (h : Samey (.int q x) u) : ∃ y, u = .int q y := by
 rcases h with h | ⟨k, a, b, e1, e2⟩ | ⟨a, b, e1, _⟩
 ·exact ⟨x, h.symm⟩
 ·injection e1 with e3 e4
  subst e3
  exact ⟨b, e2⟩
 ·cases e1
theorem Mk.cell {w W : World} {P : Nat → Prop} (h : Mk w W P) {g j : Nat} {u : Value} (hc : w.cell? ⟨g, j, none⟩ = some u) : ∃ u', W.cell? ⟨g, j, none⟩ = some u' ∧ Samey u u' := by
 have hlt := World.block_lt_of_cell? w _ hc
 by_cases hP : P g
 ·have hc0 := hc
  unfold World.cell? at hc
  split at hc
  case h_1 c e fz hh =>
   simp at hc
   obtain ⟨c', h1, _, he⟩ := h.same g hlt hP _ _ _ hh
   obtain ⟨u', hu', q⟩ := he j u hc
   exact ⟨u', by simp [World.cell?, h1, hu'], q⟩
  case h_2 => cases hc
 ·exact ⟨u, cell_kept hc h.kept hP, .inl rfl⟩
theorem Mk.frz {w W : World} {P : Nat → Prop} (h : Mk w W P) {g j : Nat} {u : Value} (hc : w.cell? ⟨g, j, none⟩ = some u) (hf : w.frozen? ⟨g, j, none⟩ = false) : W.frozen? ⟨g, j, none⟩ = false := by
 have hlt := World.block_lt_of_cell? w _ hc
 by_cases hP : P g
 ·unfold World.cell? at hc
  split at hc
  case h_1 c e fz hh =>
   obtain ⟨c', h1, _, _⟩ := h.same g hlt hP _ _ _ hh
   simp only [World.frozen?, hh] at hf
   simp only [World.frozen?, h1]
   exact hf
  case h_2 => cases hc
 ·have := h.kept.2 g hlt hP
  simp only [World.frozen?] at hf ⊢
  rw [this]
  exact hf
theorem Mk.newer {w0 w W : World} {P : Nat → Prop} (hb : Below w0.heap.size w0 w) (h : Mk w W P) (hP : ∀ k, P k → k < w0.heap.size) : Mk w0 W P := by
 refine ⟨h.os.trans hb.os, h.tape.trans hb.tape, h.output.trans hb.output, ⟨Nat.le_trans hb.size h.kept.1, fun i hi hn => (h.kept.2 i (Nat.lt_of_lt_of_le hi hb.size) hn).trans (hb.block i hi)⟩, fun b hbl hp cells e fz hc => h.same b (Nat.lt_of_lt_of_le hbl hb.size) hp cells e fz ((hb.block b hbl).trans hc)⟩
theorem mk_map_eq {α β : Type} {xs ys : List α} (f : α → β) (hl : ys.length = xs.length) (h : ∀ (j : Nat) (x y : α), xs[j]? = some x → ys[j]? = some y → f x = f y) : xs.map f = ys.map f := by
 apply List.ext_getElem?
 intro j
 rw [List.getElem?_map, List.getElem?_map]
 rcases Nat.lt_or_ge j xs.length with hj | hj
 ·have hj' : j < ys.length := by omega
  rw [List.getElem?_eq_getElem hj, List.getElem?_eq_getElem hj', Option.map_some, Option.map_some, h j _ _ (List.getElem?_eq_getElem hj) (List.getElem?_eq_getElem hj')]
 ·rw [List.getElem?_eq_none hj, List.getElem?_eq_none (by omega)]
theorem mk_sum_take {α : Type} (f : α → Nat) : ∀ (l : List α) (n : Nat), ((l.take n).map f).sum ≤ (l.map f).sum
 | [], n => by simp
 | x :: xs, 0 => by simp
 | x :: xs, n + 1 => by
  have := mk_sum_take f xs n
  simp only [List.take_succ_cons, List.map_cons, List.sum_cons]
  omega
theorem mk_sum_step {α : Type} (f : α → Nat) (l : List α) (n : Nat) (h : n < l.length) : ((l.take (n + 1)).map f).sum = ((l.take n).map f).sum + f l[n] := by
 rw [List.take_succ_eq_append_getElem h, List.map_append, List.sum_append]
 simp

/-! #### a tree no two parts of which lead to one block -/
theorem Kd.R_tightA {α : Type} {d : Kd α} {e base : Nat} {ok : Nat → Prop} {w : World} {v : Value} {xs : List α} (hE : d.E = []) (h : d.R e w base ok v xs) : d.R e w base (fun k => ok k ∧ some k = v.ownBlock) v xs :=
  Kd.R_mono (Kd.R_tight hE h) (fun k hk => ⟨h.1 k hk.symm, hk⟩)
def Kd.sliceS {α : Type} (e : Nat) (d : Kd α) : Kd (List α) where
  sz := 1
  E := e :: d.E
  K := (Kd.slice e d).K
  M := fun w base ok xs cs => ∃ v, cs = [v] ∧ Kd.S d e w base ok v xs
  K_len := (Kd.slice e d).K_len
  K_one := (Kd.slice e d).K_one
  K_below := (Kd.slice e d).K_below
  K_of_M := by
    rintro w base ok x cs ⟨v, rfl, h⟩
    exact (Kd.slice e d).K_of_M ⟨v, rfl, Kd.S_R h⟩
  M_mono := by
    rintro w base ok ok' x cs hok ⟨v, rfl, h⟩
    exact ⟨v, rfl, Kd.S_mono h hok⟩
  M_bound := by
    rintro w base ok x cs ⟨v, rfl, h⟩
    exact ⟨v, rfl, Kd.S_bound h⟩
  M_move := by
    rintro w w1 base ok x cs hm ⟨v, rfl, h⟩
    exact ⟨v, rfl, Kd.S_move h hm⟩
  M_lower := by
    rintro w base base' ok x cs hb ⟨v, rfl, h⟩
    exact ⟨v, rfl, Kd.S_lower h hb⟩
def Kd.pairA {α β : Type} (a : Kd α) (b : Kd β) : Kd (α × β) where
  sz := a.sz + b.sz
  E := a.E ++ b.E
  K := (Kd.pair a b).K
  M := fun w base ok x cs => ∃ (oka : Nat → Prop) (c0 c1 : List Value), cs = c0 ++ c1 ∧ a.M w base (fun k => ok k ∧ oka k) x.1 c0 ∧ b.M w base (fun k => ok k ∧ ¬ oka k) x.2 c1
  K_len := (Kd.pair a b).K_len
  K_one := (Kd.pair a b).K_one
  K_below := (Kd.pair a b).K_below
  K_of_M := by
    rintro w base ok x cs ⟨oka, c0, c1, rfl, h0, h1⟩
    exact ⟨c0, c1, rfl, a.K_of_M h0, b.K_of_M h1⟩
  M_mono := by
    rintro w base ok ok' x cs hok ⟨oka, c0, c1, rfl, h0, h1⟩
    exact ⟨oka, c0, c1, rfl, a.M_mono (fun k hk => ⟨hok k hk.1, hk.2⟩) h0, b.M_mono (fun k hk => ⟨hok k hk.1, hk.2⟩) h1⟩
  M_bound := by
    rintro w base ok x cs ⟨oka, c0, c1, rfl, h0, h1⟩
    refine ⟨oka, c0, c1, rfl, a.M_mono ?_ (a.M_bound h0), b.M_mono ?_ (b.M_bound h1)⟩
    · rintro k ⟨h2, h3, h4, q, hq, hc⟩
      exact ⟨⟨h2.1, h3, h4, q, List.mem_append_left _ hq, hc⟩, h2.2⟩
    · rintro k ⟨h2, h3, h4, q, hq, hc⟩
      exact ⟨⟨h2.1, h3, h4, q, List.mem_append_right _ hq, hc⟩, h2.2⟩
  M_move := by
    rintro w w1 base ok x cs hm ⟨oka, c0, c1, rfl, h0, h1⟩
    exact ⟨oka, c0, c1, rfl, a.M_move (fun k hk => hm k hk.1) h0, b.M_move (fun k hk => hm k hk.1) h1⟩
  M_lower := by
    rintro w base base' ok x cs hb ⟨oka, c0, c1, rfl, h0, h1⟩
    exact ⟨oka, c0, c1, rfl, a.M_lower hb h0, b.M_lower hb h1⟩
theorem Kd.S_imp {α : Type} {d d' : Kd α} (hs : d.sz = d'.sz) (h : ∀ w base ok x cs, d.M w base ok x cs → d'.M w base ok x cs) {e : Nat} {w : World} {base : Nat} {ok : Nat → Prop} {v : Value} {xs : List α} (hr : Kd.S d e w base ok v xs) : Kd.S d' e w base ok v xs := by
  obtain ⟨f, hr⟩ := hr
  exact ⟨f, Kd.R_imp (d := Kd.tag f d) (d' := Kd.tag f d') hs (fun w base ok x cs hp => h _ _ _ _ _ hp) hr⟩
theorem Kd.mono_sliceS {α β : Type} (e : Nat) {G : Kd α → Kd β} (hG : Kd.Mono G) : Kd.Mono (fun d => Kd.sliceS e (G d)) := by
  refine ⟨fun _ _ _ => rfl, ?_, ?_⟩
  · rintro d d' hs h w x cs ⟨A, c, rfl, hl, hr⟩
    exact ⟨A, c, rfl, hl, Kd.C_imp (hG.sz d d' hs) (hG.K d d' hs h) hr⟩
  · rintro d d' hs h w base ok x cs ⟨v, rfl, hr⟩
    exact ⟨v, rfl, Kd.S_imp (hG.sz d d' hs) (hG.M d d' hs h) hr⟩
theorem Kd.mono_pairA {α β γ : Type} {G : Kd α → Kd β} {H : Kd α → Kd γ} (hG : Kd.Mono G) (hH : Kd.Mono H) : Kd.Mono (fun d => Kd.pairA (G d) (H d)) := by
  refine ⟨fun d d' hs => ?_, ?_, ?_⟩
  · show (G d).sz + (H d).sz = (G d').sz + (H d').sz
    rw [hG.sz d d' hs, hH.sz d d' hs]
  · rintro d d' hs h w x cs ⟨c0, c1, rfl, h0, h1⟩
    exact ⟨c0, c1, rfl, hG.K d d' hs h _ _ _ h0, hH.K d d' hs h _ _ _ h1⟩
  · rintro d d' hs h w base ok x cs ⟨oka, c0, c1, rfl, h0, h1⟩
    exact ⟨oka, c0, c1, rfl, hG.M d d' hs h _ _ _ _ _ h0, hH.M d d' hs h _ _ _ _ _ h1⟩
theorem Kd.S_get_bounded {α : Type} {F : Kd α → Kd α} {sz : Nat} {E : List Nat} {hs : ∀ n, (Kd.upto F sz E n).sz = sz} {hE : ∀ n q, q ∈ (Kd.upto F sz E n).E → q ∈ E} (hm : Kd.Mono F) {e : Nat} {w : World} {base : Nat} {ok : Nat → Prop} {v : Value} {xs : List α} (h : Kd.S (Kd.fix F sz E hs hE) e w base ok v xs) : ∃ n, Kd.S (Kd.upto F sz E n) e w base ok v xs := by
  obtain ⟨f, h0, inner, ho, hr⟩ := h
  obtain ⟨N, hN⟩ := Kd.reps_bounded (R := fun n (p : α × Nat) c => (Kd.upto F sz E n).M w base (fun k => (ok k ∧ some k ≠ v.ownBlock) ∧ f k = p.2) p.1 c) (fun n m p c hnm hp => Kd.upto_M_le hm hs hnm hp) hr
  refine ⟨N, f, h0, inner, ?_, ?_⟩
  · show w.ownsRow base e (Kd.upto F sz E N).sz v xs.zipIdx.length inner
    rw [hs N]; exact ho
  · show Reps _ (Kd.upto F sz E N).sz _ _
    rw [hs N]; exact hN
theorem Kd.S_of_upto {α : Type} {F : Kd α → Kd α} {sz : Nat} {E : List Nat} {hs : ∀ n, (Kd.upto F sz E n).sz = sz} {hE : ∀ n q, q ∈ (Kd.upto F sz E n).E → q ∈ E} {n e : Nat} {w : World} {base : Nat} {ok : Nat → Prop} {v : Value} {xs : List α} (h : Kd.S (Kd.upto F sz E n) e w base ok v xs) : Kd.S (Kd.fix F sz E hs hE) e w base ok v xs :=
  Kd.S_imp (d' := Kd.fix F sz E hs hE) (hs n) (fun w base ok x cs hp => (⟨n, hp⟩ : ∃ n, (Kd.upto F sz E n).M w base ok x cs)) h
def D30 (d : Kd S30) : Kd S30 := Kd.iso (Kd.pairA (Kd.slice 5 (Kd.int .u8)) (Kd.pair Kd.bool (Kd.pair (Kd.int .i64) (Kd.sliceS 30 d)))) (fun x : S30 => (x.f0, x.f1, x.f2, x.f3))
theorem monoD30 : Kd.Mono D30 := Kd.mono_iso _ (Kd.mono_pairA (Kd.mono_const _) (Kd.mono_pair (Kd.mono_const _) (Kd.mono_pair (Kd.mono_const _) (Kd.mono_sliceS 30 Kd.mono_id))))
theorem subD30 : Kd.Sub D30 [5, 30] := by
  intro d h q hq
  have hq' : q ∈ [5] ++ ([] ++ ([] ++ (30 :: d.E))) := hq
  simp only [List.nil_append, List.mem_append, List.mem_cons, List.not_mem_nil, or_false] at hq'
  rcases hq' with rfl | rfl | hq'
  · exact .head _
  · exact .tail _ (.head _)
  · exact h q hq'
theorem szD30 : ∀ n, (Kd.upto D30 4 [5, 30] n).sz = 4 := Kd.upto_sz (fun _ => rfl)
def kD30 : Kd S30 := Kd.fix D30 4 [5, 30] szD30 (Kd.upto_E subD30)
theorem kD30_openM {w : World} {base : Nat} {ok : Nat → Prop} {x : S30} {cs : List Value} (h : kD30.M w base ok x cs) : ∃ (oka : Nat → Prop) (v0 v3 : Value), cs = [v0, .bool x.f1, .int .i64 x.f2, v3] ∧ (Kd.int .u8).R 5 w base (fun k => ok k ∧ oka k) v0 x.f0 ∧ Kd.S kD30 30 w base (fun k => ok k ∧ ¬ oka k) v3 x.f3 := by
  obtain ⟨n, h⟩ := h
  cases n with
  | zero => exact h.elim
  | succ n =>
    obtain ⟨oka, _, _, rfl, ⟨v0, rfl, g0⟩, ⟨_, _, rfl, rfl, ⟨_, _, rfl, rfl, ⟨v3, rfl, g3⟩⟩⟩⟩ := h
    exact ⟨oka, v0, v3, rfl, g0, Kd.S_of_upto g3⟩
theorem kD30_mkA (w : World) (base : Nat) (ok oka : Nat → Prop) (x : S30) {v0 : Value} (g0 : (Kd.int .u8).R 5 w base (fun k => ok k ∧ oka k) v0 x.f0) {v3 : Value} (g3 : Kd.S kD30 30 w base (fun k => ok k ∧ ¬ oka k) v3 x.f3) : kD30.M w base ok x [v0, .bool x.f1, .int .i64 x.f2, v3] := by
  obtain ⟨n3, q3⟩ := Kd.S_get_bounded monoD30 g3
  exact ⟨n3 + 1, oka, [v0], [.bool x.f1, .int .i64 x.f2, v3], rfl, ⟨v0, rfl, g0⟩, ⟨[.bool x.f1], [.int .i64 x.f2, v3], rfl, rfl, ⟨[.int .i64 x.f2], [v3], rfl, rfl, ⟨v3, rfl, q3⟩⟩⟩⟩
theorem kD30_mkM (w : World) (base : Nat) (ok : Nat → Prop) (x : S30) {v0 : Value} (g0 : (Kd.int .u8).R 5 w base ok v0 x.f0) {v3 : Value} (g3 : Kd.S kD30 30 w base (fun k => ok k ∧ some k ≠ v0.ownBlock) v3 x.f3) : kD30.M w base ok x [v0, .bool x.f1, .int .i64 x.f2, v3] :=
  kD30_mkA w base ok (fun k => some k = v0.ownBlock) x (Kd.R_tightA rfl g0) g3
theorem kD30_le (n : Nat) : ∀ {w : World} {base : Nat} {ok : Nat → Prop} {x : S30} {cs : List Value}, (Kd.upto D30 4 [5, 30] n).M w base ok x cs → (Kd.upto F30 4 [5, 30] n).M w base ok x cs := by
  induction n with
  | zero => intro _ _ _ _ _ h; exact h.elim
  | succ n ih =>
    intro w base ok x cs h
    obtain ⟨oka, _, _, rfl, ⟨v0, rfl, g0⟩, ⟨_, _, rfl, rfl, ⟨_, _, rfl, rfl, ⟨v3, rfl, g3⟩⟩⟩⟩ := h
    exact ⟨[v0], [.bool x.f1, .int .i64 x.f2, v3], rfl, ⟨v0, rfl, Kd.R_mono g0 (fun _ hk => hk.1)⟩, ⟨[.bool x.f1], [.int .i64 x.f2, v3], rfl, rfl, ⟨[.int .i64 x.f2], [v3], rfl, rfl, ⟨v3, rfl, Kd.R_imp (d' := Kd.upto F30 4 [5, 30] n) ((szD30 n).trans (sz30 n).symm) (fun _ _ _ _ _ hp => ih hp) (Kd.R_mono (Kd.S_R g3) (fun _ hk => hk.1))⟩⟩⟩⟩
theorem kD30_R {e : Nat} {w : World} {base : Nat} {ok : Nat → Prop} {v : Value} {xs : List S30} (h : Kd.S kD30 e w base ok v xs) : k30.R e w base ok v xs :=
  Kd.R_imp (d := kD30) (d' := k30) rfl (fun _ _ _ _ _ hp => by obtain ⟨n, hp⟩ := hp; exact ⟨n, kD30_le n hp⟩) (Kd.S_R h)
/-- What is read of a row is not of a block that the row says nothing of. -/
theorem Kd.V_awayN {α : Type} {d : Kd α} {e base g n c : Nat} {ok : Nat → Prop} {W : World} {ad : Addr} {xs : List α} (h : Kd.V d e W base ok (.slice (some ad) n c) xs) (hs : 0 < d.sz) (hn : 0 < xs.length) (hok : ∀ k, ok k → k ≠ g) : ad.block ≠ g := by
  obtain ⟨ad', _, he, _, _, _, hin⟩ := Kd.F_get (Kd.V_F h) (xs[0]'hn) 0 (by omega) (by have := (Kd.V_at h).1; omega)
  injection he with he
  subst he
  exact hok _ (hin hs)
/-- A tree's two rows: all their blocks are ok .. -/
def TR30 (W : World) (base : Nat) (ok : Nat → Prop) (v0 v3 : Value) (l0 : List Int) (l3 : List S30) : Prop := Kd.R (Kd.int .u8) 5 W base ok v0 l0 ∧ Kd.R k30 30 W base ok v3 l3
/-- .. and no two parts lead to one block. -/
def TS30 (W : World) (base : Nat) (ok : Nat → Prop) (v0 v3 : Value) (l0 : List Int) (l3 : List S30) : Prop := ∃ oka : Nat → Prop, Kd.R (Kd.int .u8) 5 W base (fun k => ok k ∧ oka k) v0 l0 ∧ Kd.S kD30 30 W base (fun k => ok k ∧ ¬ oka k) v3 l3
section
variable {W W1 Wp : World} {base n0 n3 c0 c3 : Nat} {ok ok' ok0 ok3 P : Nat → Prop} {v0 v3 : Value} {l0 : List Int} {l3 : List S30} {A0 A3 : Option Addr} {p : Addr}
theorem TR30.of (h0 : Kd.R (Kd.int .u8) 5 W Wp.heap.size ok0 v0 l0) (h3 : Kd.R k30 30 W Wp.heap.size ok3 v3 l3) (hb : base ≤ Wp.heap.size) (hok : ∀ k, Wp.heap.size ≤ k → k < W.heap.size → ok k) : TR30 W base ok v0 v3 l0 l3 :=
  ⟨Kd.R_lower (Kd.R_mono (Kd.R_bound h0) (fun k h => hok k h.2.1 h.2.2.1)) hb, Kd.R_lower (Kd.R_mono (Kd.R_bound h3) (fun k h => hok k h.2.1 h.2.2.1)) hb⟩
theorem TS30.of (h0 : Kd.R (Kd.int .u8) 5 W Wp.heap.size ok0 v0 l0) (h3 : Kd.S kD30 30 W Wp.heap.size (fun k => some k ≠ v0.ownBlock) v3 l3) (hb : base ≤ Wp.heap.size) (hok : ∀ k, Wp.heap.size ≤ k → k < W.heap.size → ok k) : TS30 W base ok v0 v3 l0 l3 :=
  ⟨fun k => some k = v0.ownBlock, Kd.R_lower (Kd.R_mono (Kd.R_tightA rfl (Kd.R_bound h0)) (fun k h => ⟨hok k h.1.2.1 h.1.2.2.1, h.2⟩)) hb, Kd.S_lower (Kd.S_mono (Kd.S_bound h3) (fun k h => ⟨hok k h.2.1 h.2.2.1, h.1⟩)) hb⟩
theorem TS30.tr (h : TS30 W base ok v0 v3 l0 l3) : TR30 W base ok v0 v3 l0 l3 := by
  obtain ⟨_, h0, h3⟩ := h
  exact ⟨Kd.R_mono h0 (fun _ h => h.1), Kd.R_mono (kD30_R h3) (fun _ h => h.1)⟩
theorem TR30.step (h : TR30 W base ok v0 v3 l0 l3) (hm : ∀ k, ok k → k < W.heap.size → W1.heap[k]? = W.heap[k]?) : TR30 W1 base ok v0 v3 l0 l3 := ⟨Kd.R_step h.1 hm, Kd.R_step h.2 hm⟩
theorem TS30.step (h : TS30 W base ok v0 v3 l0 l3) (hm : ∀ k, ok k → k < W.heap.size → W1.heap[k]? = W.heap[k]?) : TS30 W1 base ok v0 v3 l0 l3 := by
  obtain ⟨oka, h0, h3⟩ := h
  exact ⟨oka, Kd.R_step h0 (fun k hk => hm k hk.1), Kd.S_step h3 (fun k hk => hm k hk.1)⟩
theorem TR30.below (h : TR30 W base ok v0 v3 l0 l3) (hb : Below W.heap.size W W1) : TR30 W1 base ok v0 v3 l0 l3 := h.step (fun k _ hk => hb.block k hk)
theorem TS30.below (h : TS30 W base ok v0 v3 l0 l3) (hb : Below W.heap.size W W1) : TS30 W1 base ok v0 v3 l0 l3 := h.step (fun k _ hk => hb.block k hk)
theorem TR30.drew (h : TR30 W base ok v0 v3 l0 l3) : TR30 W.drew base ok v0 v3 l0 l3 := h.step (fun _ _ _ => rfl)
theorem TS30.drew (h : TS30 W base ok v0 v3 l0 l3) : TS30 W.drew base ok v0 v3 l0 l3 := h.step (fun _ _ _ => rfl)
theorem TR30.drewN (h : TR30 W base ok v0 v3 l0 l3) (m : Nat) : TR30 (W.drewN m) base ok v0 v3 l0 l3 := h.step (fun _ _ _ => rfl)
theorem TS30.drewN (h : TS30 W base ok v0 v3 l0 l3) (m : Nat) : TS30 (W.drewN m) base ok v0 v3 l0 l3 := h.step (fun _ _ _ => rfl)
theorem TR30.far (h : TR30 W base ok v0 v3 l0 l3) (hne : ∀ k, ok k → k ≠ p.block) (u : Value) : TR30 (W.setCell p u) base ok v0 v3 l0 l3 := h.step (fun k ho _ => Below.heap_setCell W p u k (hne k ho))
theorem TS30.far (h : TS30 W base ok v0 v3 l0 l3) (hne : ∀ k, ok k → k ≠ p.block) (u : Value) : TS30 (W.setCell p u) base ok v0 v3 l0 l3 := h.step (fun k ho _ => Below.heap_setCell W p u k (hne k ho))
theorem TR30.kept (h : TR30 W base ok v0 v3 l0 l3) (hk : Kept W W1 P) (hne : ∀ k, ok k → ¬ P k) : TR30 W1 base ok v0 v3 l0 l3 := h.step (fun k ho hlt => hk.2 k hlt (hne k ho))
theorem TS30.kept (h : TS30 W base ok v0 v3 l0 l3) (hk : Kept W W1 P) (hne : ∀ k, ok k → ¬ P k) : TS30 W1 base ok v0 v3 l0 l3 := h.step (fun k ho hlt => hk.2 k hlt (hne k ho))
theorem TR30.slices (h : TR30 W base ok v0 v3 l0 l3) : ∃ A0 c0 A3 c3, v0 = .slice A0 l0.length c0 ∧ v3 = .slice A3 l3.length c3 := by
  obtain ⟨A0, c0, e0⟩ := Kd.R_slice h.1
  obtain ⟨A3, c3, e3⟩ := Kd.R_slice h.2
  exact ⟨A0, c0, A3, c3, e0, e3⟩
theorem TR30.reads (h : TR30 W base ok (.slice A0 n0 c0) (.slice A3 n3 c3) l0 l3) : (Kd.int .u8).C W A0 l0.length l0 ∧ l0.length ≤ c0 ∧ Kd.C k30 W A3 l3.length l3 ∧ l3.length ≤ c3 ∧ n0 = l0.length ∧ n3 = l3.length := by
  have h0 := Kd.R_reads' h.1
  have h3 := Kd.R_reads' h.2
  exact ⟨h0.2.2, h0.1 ▸ h0.2.1, h3.2.2, h3.1 ▸ h3.2.1, h0.1, h3.1⟩
end
theorem Kd.sizeOf_ {W w1 : World} (_h : Below W.heap.size W w1) : ∃ N, N = W.heap.size := ⟨_, rfl⟩
theorem vkp {α : Type} {d : Kd α} {e : Nat} {W0 W : World} {base : Nat} {ok : Nat → Prop} {v : Value} {xs : List α} (_h : Aside0 (Kd.V d e W0 base ok v xs)) (f : Kd.V d e W base ok v xs := by ((with_reducible repeat (first | apply Kd.V_alloc | apply Kd.V_drewN | apply Kd.V_drew)); exact Aside0.out (by assumption))) : Kd.V d e W base ok v xs := f
theorem vbl {α : Type} {d : Kd α} {e : Nat} {W0 W W1 : World} {base : Nat} {ok : Nat → Prop} {v : Value} {xs : List α} (_h : Aside0 (Kd.V d e W0 base ok v xs)) (hb : Below W.heap.size W W1) (f : Kd.V d e W base ok v xs := by ((with_reducible repeat (first | apply Kd.V_alloc | apply Kd.V_drewN | apply Kd.V_drew)); exact Aside0.out (by assumption))) : Kd.V d e W1 base ok v xs := Kd.V_below f hb
theorem nkp {α : Type} {d : Kd α} {e : Nat} {W0 W : World} {base : Nat} {ok : Nat → Prop} {v : Value} {xs : List α} (_h : Aside0 (Kd.N d e W0 base ok v xs)) (f : Kd.N d e W base ok v xs := by ((with_reducible repeat (first | apply Kd.N_alloc | apply Kd.N_drewN | apply Kd.N_drew)); exact Aside0.out (by assumption))) : Kd.N d e W base ok v xs := f
theorem blk_far4 {w : World} {g q : Nat} {t : TypeId} {cs : Array Value} {x0 x1 x2 x3 : Value} (h : w.heap[g]? = some (.cells cs t (0, 0))) (hq : g ≠ q) : ((((w.setCell ⟨q, 0, none⟩ x0).setCell ⟨q, 1, none⟩ x1).setCell ⟨q, 2, none⟩ x2).setCell ⟨q, 3, none⟩ x3).heap[g]? = some (.cells cs t (0, 0)) := blk_far (p := ⟨q, 3, none⟩) (blk_far (p := ⟨q, 2, none⟩) (blk_far (p := ⟨q, 1, none⟩) (blk_far (p := ⟨q, 0, none⟩) h hq _) hq _) hq _) hq _
theorem blk_put4 {w : World} {q : Nat} {t : TypeId} {y0 y1 y2 y3 x0 x1 x2 x3 : Value} (h : w.heap[q]? = some (.cells #[y0, y1, y2, y3] t (0, 0))) : ((((w.setCell ⟨q, 0, none⟩ x0).setCell ⟨q, 1, none⟩ x1).setCell ⟨q, 2, none⟩ x2).setCell ⟨q, 3, none⟩ x3).heap[q]? = some (.cells #[x0, x1, x2, x3] t (0, 0)) := blk_put (blk_put (blk_put (blk_put h 0 _ rfl) 1 _ rfl) 2 _ rfl) 3 _ rfl
theorem Kd.V_far4 {α : Type} {d : Kd α} {e base q : Nat} {W : World} {ok : Nat → Prop} {v x0 x1 x2 x3 : Value} {xs : List α} (h : Kd.V d e W base ok v xs) (hn : ∀ k, ok k → k ≠ q) : Kd.V d e ((((W.setCell ⟨q, 0, none⟩ x0).setCell ⟨q, 1, none⟩ x1).setCell ⟨q, 2, none⟩ x2).setCell ⟨q, 3, none⟩ x3) base ok v xs := Kd.V_far (p := ⟨q, 3, none⟩) (Kd.V_far (p := ⟨q, 2, none⟩) (Kd.V_far (p := ⟨q, 1, none⟩) (Kd.V_far (p := ⟨q, 0, none⟩) h hn _) hn _) hn _) hn _
theorem Kd.R_far4 {α : Type} {d : Kd α} {e base q : Nat} {W : World} {ok : Nat → Prop} {v x0 x1 x2 x3 : Value} {xs : List α} (h : Kd.R d e W base ok v xs) (hn : ∀ k, ok k → k ≠ q) : Kd.R d e ((((W.setCell ⟨q, 0, none⟩ x0).setCell ⟨q, 1, none⟩ x1).setCell ⟨q, 2, none⟩ x2).setCell ⟨q, 3, none⟩ x3) base ok v xs := Kd.R_far (p := ⟨q, 3, none⟩) (Kd.R_far (p := ⟨q, 2, none⟩) (Kd.R_far (p := ⟨q, 1, none⟩) (Kd.R_far (p := ⟨q, 0, none⟩) h hn _) hn _) hn _) hn _
theorem Kd.S_far4 {α : Type} {d : Kd α} {e base q : Nat} {W : World} {ok : Nat → Prop} {v x0 x1 x2 x3 : Value} {xs : List α} (h : Kd.S d e W base ok v xs) (hn : ∀ k, ok k → k ≠ q) : Kd.S d e ((((W.setCell ⟨q, 0, none⟩ x0).setCell ⟨q, 1, none⟩ x1).setCell ⟨q, 2, none⟩ x2).setCell ⟨q, 3, none⟩ x3) base ok v xs := Kd.S_far (p := ⟨q, 3, none⟩) (Kd.S_far (p := ⟨q, 2, none⟩) (Kd.S_far (p := ⟨q, 1, none⟩) (Kd.S_far (p := ⟨q, 0, none⟩) h hn _) hn _) hn _) hn _
theorem Kd.N_far4 {α : Type} {d : Kd α} {e base q : Nat} {W : World} {ok : Nat → Prop} {v x0 x1 x2 x3 : Value} {xs : List α} (h : Kd.N d e W base ok v xs) (hn : ∀ k, ok k → k ≠ q) : Kd.N d e ((((W.setCell ⟨q, 0, none⟩ x0).setCell ⟨q, 1, none⟩ x1).setCell ⟨q, 2, none⟩ x2).setCell ⟨q, 3, none⟩ x3) base ok v xs := Kd.N_far (p := ⟨q, 3, none⟩) (Kd.N_far (p := ⟨q, 2, none⟩) (Kd.N_far (p := ⟨q, 1, none⟩) (Kd.N_far (p := ⟨q, 0, none⟩) h hn _) hn _) hn _) hn _
theorem TR30.far4 {W : World} {base q : Nat} {ok : Nat → Prop} {v0 v3 x0 x1 x2 x3 : Value} {l0 : List Int} {l3 : List S30} (h : TR30 W base ok v0 v3 l0 l3) (hn : ∀ k, ok k → k ≠ q) : TR30 ((((W.setCell ⟨q, 0, none⟩ x0).setCell ⟨q, 1, none⟩ x1).setCell ⟨q, 2, none⟩ x2).setCell ⟨q, 3, none⟩ x3) base ok v0 v3 l0 l3 := TR30.far (p := ⟨q, 3, none⟩) (TR30.far (p := ⟨q, 2, none⟩) (TR30.far (p := ⟨q, 1, none⟩) (TR30.far (p := ⟨q, 0, none⟩) h hn _) hn _) hn _) hn _
theorem TS30.far4 {W : World} {base q : Nat} {ok : Nat → Prop} {v0 v3 x0 x1 x2 x3 : Value} {l0 : List Int} {l3 : List S30} (h : TS30 W base ok v0 v3 l0 l3) (hn : ∀ k, ok k → k ≠ q) : TS30 ((((W.setCell ⟨q, 0, none⟩ x0).setCell ⟨q, 1, none⟩ x1).setCell ⟨q, 2, none⟩ x2).setCell ⟨q, 3, none⟩ x3) base ok v0 v3 l0 l3 := TS30.far (p := ⟨q, 3, none⟩) (TS30.far (p := ⟨q, 2, none⟩) (TS30.far (p := ⟨q, 1, none⟩) (TS30.far (p := ⟨q, 0, none⟩) h hn _) hn _) hn _) hn _
end Go.Proofs.Ytoaddpfoecggpaa.PW
