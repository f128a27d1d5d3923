-- Written for this claim by the session's program pp.py, out of the kit's print and the seat's translation.
import Derived.Test.YtmfedjoofnlncaaProg
import Derived.Below
import Derived.Deep.Draws
import Derived.Deep.AppendLies
import Derived.Maps.AppendAt
import Derived.OwnWalk
import Derived.Laws.BytesArg
import Derived.Laws.MakeOwn
import Derived.Laws.OwnMore
import Derived.Deep.OwnRows
import Derived.Tactics
import Derived.Lib.ConvBytes
import Derived.Laws.Slices
import Derived.WalkKit
import Derived.KernelRfl
import Derived.RowKit3
import Derived.Deep.LoopGhost
import Derived.Deep.QuietTactic
import Derived.BigQuiet
import Derived.WideLaws
import Derived.Deep.DeepCutAuto
import Derived.Deep.CutBlock
import Derived.Deep.RegionHeld3
import Derived.Laws.Rows
import Derived.Lib.AppendStr
import Derived.ArgAppend
import Derived.Laws.IdiomCopy
import Derived.OrdersHeld
import Derived.Laws.BitsLemmas
import Derived.RowKit
import Derived.Lib.SliceRun
import Derived.Lib.Bytealg
import Derived.Laws.Cover1
import Derived.Test.YtmfedjoofnlncaaSTWords
import Derived.Test.YtmfedjoofnlncaaSTLast
import Derived.Test.YtmfedjoofnlncaaSTTab
import Derived.Test.YtmfedjoofnlncaaSTFour
import Derived.Test.YtmfedjoofnlncaaSTQPut
import Derived.Test.YtmfedjoofnlncaaSTApart
import Derived.Test.YtmfedjoofnlncaaSTArr
import Derived.Test.YtmfedjoofnlncaaSTZeros
import Derived.Test.YtmfedjoofnlncaaSTFoot
import Derived.Test.YtmfedjoofnlncaaSTKept
import Derived.Test.YtmfedjoofnlncaaSTShare
import Derived.Test.YtmfedjoofnlncaaSTN
import Derived.Test.YtmfedjoofnlncaaSTFootNe
import Derived.Test.YtmfedjoofnlncaaSTAt
import Derived.Test.YtmfedjoofnlncaaSTEqStruct
import Derived.Test.YtmfedjoofnlncaaSTRepsOne
import Derived.Test.YtmfedjoofnlncaaSTInv
import Derived.Test.YtmfedjoofnlncaaSTInvWords
import Derived.Test.YtmfedjoofnlncaaSTGuard
import Derived.Test.YtmfedjoofnlncaaSTNEv
import Derived.Test.YtmfedjoofnlncaaSTMore
namespace Go.Proofs.Ytmfedjoofnlncaa.PT
open Go.RowKit Go.Proofs.YtmfedjoofnlncaaW.PrintWords Go.Proofs.YtmfedjoofnlncaaW.PrintLast Go.Proofs.YtmfedjoofnlncaaW.PrintMore
attribute [local go_sem] kR kS nk nu jM jN kT kU   -- for this text's walks alone
set_option linter.unusedVariables false
set_option linter.unusedSimpArgs false
def avL : Option Int → Value
 | none => .nilIface
 | some c => .iface 0 (.int .i64 c)
theorem bW : avL none = .nilIface := rfl
theorem bX (c : Int) : avL (some c) = .iface 0 (.int .i64 c) := rfl
theorem info5 : (Try.prog.info? 5).map (fun i => (i.zero, i.size, i.bytes)) = some (some (.int .u8 0), 1, 1) := by kernel_rfl
theorem Aw : (Try.prog.info? 46).map (fun i => (i.zero, i.size, i.bytes)) = some (some (.agg #[(.slice none 0 0), (.bool false), (.int .i64 0), (.slice none 0 0)]), 4, 64) := by kernel_rfl
theorem apP : (Try.prog.info? 70).map (fun i => (i.zero, i.size, i.bytes)) = some (some (.agg #[(.slice none 0 0), (.slice none 0 0), (.int .i64 0), (.int .i64 0)]), 4, 64) := by kernel_rfl
theorem Jy : (Try.prog.info? 74).map (fun i => (i.zero, i.size, i.bytes)) = some (some (.agg #[(.slice none 0 0), (.int .i64 0)]), 2, 32) := by kernel_rfl
theorem apQ : (Try.prog.info? 85).map (fun i => (i.zero, i.size, i.bytes)) = some (some (.agg #[(.slice none 0 0), (.int .i64 0)]), 2, 32) := by kernel_rfl
theorem apR : (Try.prog.info? 88).map (fun i => (i.zero, i.size, i.bytes)) = some (some (.agg #[(.int .i64 0), (.bool false)]), 2, 16) := by kernel_rfl
theorem apS : (Try.prog.info? 92).map (fun i => (i.zero, i.size, i.bytes)) = some (some (.agg #[(.int .i64 0), (.int .i64 0), (.int .i64 0), (.int .i64 0)]), 4, 32) := by kernel_rfl
-- the values' own types
structure BV where
 f0 : (List Int)
 f1 : (List Int)
 f2 : Int
 f3 : Int
def z79 : BV := ⟨([] : List Int), ([] : List Int), (0 : Int), (0 : Int)⟩
def k79 : Kd BV := Kd.U7 (Kd.pair (Kd.slice 5 (Kd.int .u8)) (Kd.pair (Kd.slice 5 (Kd.int .u8)) (Kd.pair (Kd.int .i64) (Kd.int .i64)))) (fun x : BV => (x.f0, x.f1, x.f2, x.f3))
theorem af0 {w : World} {x : BV} {cs : List Value} (h : k79.K w x cs) : ∃ A0 c0 A1 c1, cs = [.slice A0 x.f0.length c0, .slice A1 x.f1.length c1, .int .i64 x.f2, .int .i64 x.f3] ∧ x.f0.length ≤ c0 ∧ (Kd.int .u8).C w A0 x.f0.length x.f0 ∧ x.f1.length ≤ c1 ∧ (Kd.int .u8).C w A1 x.f1.length x.f1 := by
 obtain ⟨_, _, rfl, ⟨A0, c0, rfl, l0, g0⟩, ⟨_, _, rfl, ⟨A1, c1, rfl, l1, g1⟩, ⟨_, _, rfl, rfl, rfl⟩⟩⟩ := h
 exact ⟨A0, c0, A1, c1, rfl, l0, g0, l1, g1⟩
theorem apT (w : World) (x : BV) {A0 : Option Addr} {c0 : Nat} (l0 : x.f0.length ≤ c0) (g0 : (Kd.int .u8).C w A0 x.f0.length x.f0) {A1 : Option Addr} {c1 : Nat} (l1 : x.f1.length ≤ c1) (g1 : (Kd.int .u8).C w A1 x.f1.length x.f1) : k79.K w x [.slice A0 x.f0.length c0, .slice A1 x.f1.length c1, .int .i64 x.f2, .int .i64 x.f3] := ⟨[.slice A0 x.f0.length c0], [.slice A1 x.f1.length c1, .int .i64 x.f2, .int .i64 x.f3], rfl, ⟨A0, c0, rfl, l0, g0⟩, ⟨[.slice A1 x.f1.length c1], [.int .i64 x.f2, .int .i64 x.f3], rfl, ⟨A1, c1, rfl, l1, g1⟩, ⟨[.int .i64 x.f2], [.int .i64 x.f3], rfl, rfl, rfl⟩⟩⟩
def ik (xs : List BV) (i : Int) : BV := xs.getD i.toNat z79
theorem XC {w : World} {A : Option Addr} {n : Nat} {xs : List BV} (h : Kd.C k79 w A n xs) (i : Int) (h0 : 0 ≤ i) (h1 : i < n) : ∃ ad A0 c0 A1 c1, A = some ad ∧ w.cell? (ad.add (i.toNat * 4)) = some (.slice A0 (ik xs i).f0.length c0) ∧ w.cell? ⟨(ad.add (i.toNat * 4)).block, (ad.add (i.toNat * 4)).off + 1, none⟩ = some (.slice A1 (ik xs i).f1.length c1) ∧ w.cell? ⟨(ad.add (i.toNat * 4)).block, (ad.add (i.toNat * 4)).off + 2, none⟩ = some (.int .i64 (ik xs i).f2) ∧ w.cell? ⟨(ad.add (i.toNat * 4)).block, (ad.add (i.toNat * 4)).off + 3, none⟩ = some (.int .i64 (ik xs i).f3) ∧ (ik xs i).f0.length ≤ c0 ∧ (Kd.int .u8).C w A0 (ik xs i).f0.length (ik xs i).f0 ∧ (ik xs i).f1.length ≤ c1 ∧ (Kd.int .u8).C w A1 (ik xs i).f1.length (ik xs i).f1 := by
 obtain ⟨ad, c, e, _, hK, hc0⟩ := Kd.zQ h z79 i h0 h1
 have hc : ∀ j u, c[j]? = some u → w.cell? (ad.add (i.toNat * 4 + j)) = some u := hc0
 obtain ⟨A0, c0, A1, c1, rfl, l0, g0, l1, g1⟩ := af0 hK
 exact ⟨ad, A0, c0, A1, c1, e, hc 0 _ rfl, by rw [← gX _ _ 1 (by omega)]; exact hc 1 _ rfl, by rw [← gX _ _ 2 (by omega)]; exact hc 2 _ rfl, by rw [← gX _ _ 3 (by omega)]; exact hc 3 _ rfl, l0, g0, l1, g1⟩
structure BX where
 f0 : (List Int)
 f1 : Int
def z82 : BX := ⟨([] : List Int), (0 : Int)⟩
def k82 : Kd BX := Kd.U7 (Kd.pair (Kd.slice 5 (Kd.int .u8)) (Kd.int .i64)) (fun x : BX => (x.f0, x.f1))
theorem af1 {w : World} {x : BX} {cs : List Value} (h : k82.K w x cs) : ∃ A0 c0, cs = [.slice A0 x.f0.length c0, .int .i64 x.f1] ∧ x.f0.length ≤ c0 ∧ (Kd.int .u8).C w A0 x.f0.length x.f0 := by
 obtain ⟨_, _, rfl, ⟨A0, c0, rfl, l0, g0⟩, rfl⟩ := h
 exact ⟨A0, c0, rfl, l0, g0⟩
theorem apU (w : World) (x : BX) {A0 : Option Addr} {c0 : Nat} (l0 : x.f0.length ≤ c0) (g0 : (Kd.int .u8).C w A0 x.f0.length x.f0) : k82.K w x [.slice A0 x.f0.length c0, .int .i64 x.f1] := ⟨[.slice A0 x.f0.length c0], [.int .i64 x.f1], rfl, ⟨A0, c0, rfl, l0, g0⟩, rfl⟩
def nS (xs : List BX) (i : Int) : BX := xs.getD i.toNat z82
theorem XD {w : World} {A : Option Addr} {n : Nat} {xs : List BX} (h : Kd.C k82 w A n xs) (i : Int) (h0 : 0 ≤ i) (h1 : i < n) : ∃ ad A0 c0, A = some ad ∧ w.cell? (ad.add (i.toNat * 2)) = some (.slice A0 (nS xs i).f0.length c0) ∧ w.cell? ⟨(ad.add (i.toNat * 2)).block, (ad.add (i.toNat * 2)).off + 1, none⟩ = some (.int .i64 (nS xs i).f1) ∧ (nS xs i).f0.length ≤ c0 ∧ (Kd.int .u8).C w A0 (nS xs i).f0.length (nS xs i).f0 := by
 obtain ⟨ad, c, e, _, hK, hc0⟩ := Kd.zQ h z82 i h0 h1
 have hc : ∀ j u, c[j]? = some u → w.cell? (ad.add (i.toNat * 2 + j)) = some u := hc0
 obtain ⟨A0, c0, rfl, l0, g0⟩ := af1 hK
 exact ⟨ad, A0, c0, e, hc 0 _ rfl, by rw [← gX _ _ 1 (by omega)]; exact hc 1 _ rfl, l0, g0⟩
structure Jm where
 f0 : Int
 f1 : Bool
def z99 : Jm := ⟨(0 : Int), false⟩
def k99 : Kd Jm := Kd.U7 (Kd.pair (Kd.int .i64) Kd.bool) (fun x : Jm => (x.f0, x.f1))
theorem af2 {w : World} {x : Jm} {cs : List Value} (h : k99.K w x cs) : cs = [.int .i64 x.f0, .bool x.f1] := by
 obtain ⟨_, _, rfl, rfl, rfl⟩ := h
 exact rfl
theorem apV (w : World) (x : Jm)  : k99.K w x [.int .i64 x.f0, .bool x.f1] := ⟨[.int .i64 x.f0], [.bool x.f1], rfl, rfl, rfl⟩
def zF (xs : List Jm) (i : Int) : Jm := xs.getD i.toNat z99
theorem apW {w : World} {A : Option Addr} {n : Nat} {xs : List Jm} (h : Kd.C k99 w A n xs) (i : Int) (h0 : 0 ≤ i) (h1 : i < n) : ∃ ad , A = some ad ∧ w.cell? (ad.add (i.toNat * 2)) = some (.int .i64 (zF xs i).f0) ∧ w.cell? ⟨(ad.add (i.toNat * 2)).block, (ad.add (i.toNat * 2)).off + 1, none⟩ = some (.bool (zF xs i).f1) := by
 obtain ⟨ad, c, e, _, hK, hc0⟩ := Kd.zQ h z99 i h0 h1
 have hc : ∀ j u, c[j]? = some u → w.cell? (ad.add (i.toNat * 2 + j)) = some u := hc0
 obtain rfl := af2 hK
 exact ⟨ad, e, hc 0 _ rfl, by rw [← gX _ _ 1 (by omega)]; exact hc 1 _ rfl⟩
structure QQ where
 f0 : Int
 f1 : Int
def avM : QQ := ⟨(0 : Int), (0 : Int)⟩
def ajR : Kd QQ := Kd.U7 (Kd.pair (Kd.int .i64) (Kd.int .i64)) (fun x : QQ => (x.f0, x.f1))
theorem PE {w : World} {x : QQ} {cs : List Value} (h : ajR.K w x cs) : cs = [.int .i64 x.f0, .int .i64 x.f1] := by
 obtain ⟨_, _, rfl, rfl, rfl⟩ := h
 exact rfl
theorem aaG (w : World) (x : QQ)  : ajR.K w x [.int .i64 x.f0, .int .i64 x.f1] := ⟨[.int .i64 x.f0], [.int .i64 x.f1], rfl, rfl, rfl⟩
structure uR where
 f0 : Int
 f1 : Int
 f2 : QQ
def apX : uR := ⟨(0 : Int), (0 : Int), avM⟩
def KS : Kd uR := Kd.U7 (Kd.pair (Kd.int .i64) (Kd.pair (Kd.int .i64) ajR)) (fun x : uR => (x.f0, x.f1, x.f2))
theorem ad7 {w : World} {x : uR} {cs : List Value} (h : KS.K w x cs) : cs = [.int .i64 x.f0, .int .i64 x.f1, .int .i64 x.f2.f0, .int .i64 x.f2.f1] := by
 obtain ⟨_, _, rfl, rfl, ⟨_, _, rfl, rfl, s2⟩⟩ := h
 obtain rfl := PE s2
 exact rfl
theorem ajS (w : World) (x : uR)  : KS.K w x [.int .i64 x.f0, .int .i64 x.f1, .int .i64 x.f2.f0, .int .i64 x.f2.f1] := ⟨[.int .i64 x.f0], [.int .i64 x.f1, .int .i64 x.f2.f0, .int .i64 x.f2.f1], rfl, rfl, ⟨[.int .i64 x.f1], [.int .i64 x.f2.f0, .int .i64 x.f2.f1], rfl, rfl, (aaG w x.f2 )⟩⟩
def oh (xs : List uR) (i : Int) : uR := xs.getD i.toNat apX
theorem ajT {w : World} {A : Option Addr} {n : Nat} {xs : List uR} (h : Kd.C KS w A n xs) (i : Int) (h0 : 0 ≤ i) (h1 : i < n) : ∃ ad , A = some ad ∧ w.cell? (ad.add (i.toNat * 4)) = some (.int .i64 (oh xs i).f0) ∧ w.cell? ⟨(ad.add (i.toNat * 4)).block, (ad.add (i.toNat * 4)).off + 1, none⟩ = some (.int .i64 (oh xs i).f1) ∧ w.cell? ⟨(ad.add (i.toNat * 4)).block, (ad.add (i.toNat * 4)).off + 2, none⟩ = some (.int .i64 (oh xs i).f2.f0) ∧ w.cell? ⟨(ad.add (i.toNat * 4)).block, (ad.add (i.toNat * 4)).off + 3, none⟩ = some (.int .i64 (oh xs i).f2.f1) := by
 obtain ⟨ad, c, e, _, hK, hc0⟩ := Kd.zQ h apX i h0 h1
 have hc : ∀ j u, c[j]? = some u → w.cell? (ad.add (i.toNat * 4 + j)) = some u := hc0
 obtain rfl := ad7 hK
 exact ⟨ad, e, hc 0 _ rfl, by rw [← gX _ _ 1 (by omega)]; exact hc 1 _ rfl, by rw [← gX _ _ 2 (by omega)]; exact hc 2 _ rfl, by rw [← gX _ _ 3 (by omega)]; exact hc 3 _ rfl⟩
structure kG where
 f0 : (List Int)
 f1 : (List Int)
 f2 : Int
 f3 : Int
def z70 : kG := ⟨([] : List Int), ([] : List Int), (0 : Int), (0 : Int)⟩
def ym : Kd kG := Kd.U7 (Kd.pair (Kd.slice 5 (Kd.int .u8)) (Kd.pair (Kd.slice 5 (Kd.int .u8)) (Kd.pair (Kd.int .i64) (Kd.int .i64)))) (fun x : kG => (x.f0, x.f1, x.f2, x.f3))
theorem Fj {w : World} {x : kG} {cs : List Value} (h : ym.K w x cs) : ∃ A0 c0 A1 c1, cs = [.slice A0 x.f0.length c0, .slice A1 x.f1.length c1, .int .i64 x.f2, .int .i64 x.f3] ∧ x.f0.length ≤ c0 ∧ (Kd.int .u8).C w A0 x.f0.length x.f0 ∧ x.f1.length ≤ c1 ∧ (Kd.int .u8).C w A1 x.f1.length x.f1 := by
 obtain ⟨_, _, rfl, ⟨A0, c0, rfl, l0, g0⟩, ⟨_, _, rfl, ⟨A1, c1, rfl, l1, g1⟩, ⟨_, _, rfl, rfl, rfl⟩⟩⟩ := h
 exact ⟨A0, c0, A1, c1, rfl, l0, g0, l1, g1⟩
theorem Da {w : World} {base : Nat} {ok : Nat → Prop} {x : kG} {cs : List Value} (h : ym.M w base ok x cs) : ∃ v0 v1, cs = [v0, v1, .int .i64 x.f2, .int .i64 x.f3] ∧ (Kd.int .u8).R 5 w base ok v0 x.f0 ∧ (Kd.int .u8).R 5 w base ok v1 x.f1 := by
 obtain ⟨_, _, rfl, ⟨v0, rfl, g0⟩, ⟨_, _, rfl, ⟨v1, rfl, g1⟩, ⟨_, _, rfl, rfl, rfl⟩⟩⟩ := h
 exact ⟨v0, v1, rfl, g0, g1⟩
theorem QR (w : World) (base : Nat) (ok : Nat → Prop) (x : kG) {v0 : Value} (g0 : (Kd.int .u8).R 5 w base ok v0 x.f0) {v1 : Value} (g1 : (Kd.int .u8).R 5 w base ok v1 x.f1) : ym.M w base ok x [v0, v1, .int .i64 x.f2, .int .i64 x.f3] := ⟨[v0], [v1, .int .i64 x.f2, .int .i64 x.f3], rfl, ⟨v0, rfl, g0⟩, ⟨[v1], [.int .i64 x.f2, .int .i64 x.f3], rfl, ⟨v1, rfl, g1⟩, ⟨[.int .i64 x.f2], [.int .i64 x.f3], rfl, rfl, rfl⟩⟩⟩
theorem ad8 {W : World} {ok : Nat → Prop} {x : kG} {cs : List Value} (h : Kd.FK ym W ok x cs) : ∃ A0 c0 A1 c1, cs = [.slice A0 x.f0.length c0, .slice A1 x.f1.length c1, .int .i64 x.f2, .int .i64 x.f3] ∧ x.f0.length ≤ c0 ∧ Kd.F (Kd.int .u8) W ok A0 x.f0.length x.f0 ∧ x.f1.length ≤ c1 ∧ Kd.F (Kd.int .u8) W ok A1 x.f1.length x.f1 := by
 obtain ⟨A0, c0, A1, c1, rfl, l0, _, l1, _⟩ := Fj (Kd.Ca h)
 exact ⟨A0, c0, A1, c1, rfl, l0, (fun W' hW => by obtain ⟨A0_, c0_, A1_, c1_, he, l0_, g0_, l1_, g1_⟩ := Fj (h W' hW); injection (Option.some.inj (show some (Value.slice A0 x.f0.length c0) = some (Value.slice A0_ x.f0.length c0_) from congrArg (fun l => l[0]?) he)) with ha_ _ _; rw [ha_]; exact g0_), l1, (fun W' hW => by obtain ⟨A0_, c0_, A1_, c1_, he, l0_, g0_, l1_, g1_⟩ := Fj (h W' hW); injection (Option.some.inj (show some (Value.slice A1 x.f1.length c1) = some (Value.slice A1_ x.f1.length c1_) from congrArg (fun l => l[1]?) he)) with ha_ _ _; rw [ha_]; exact g1_)⟩
def ax (xs : List kG) (i : Int) : kG := xs.getD i.toNat z70
theorem qI {w : World} {A : Option Addr} {n : Nat} {xs : List kG} (h : Kd.C ym w A n xs) (i : Int) (h0 : 0 ≤ i) (h1 : i < n) : ∃ ad A0 c0 A1 c1, A = some ad ∧ w.cell? (ad.add (i.toNat * 4)) = some (.slice A0 (ax xs i).f0.length c0) ∧ w.cell? ⟨(ad.add (i.toNat * 4)).block, (ad.add (i.toNat * 4)).off + 1, none⟩ = some (.slice A1 (ax xs i).f1.length c1) ∧ w.cell? ⟨(ad.add (i.toNat * 4)).block, (ad.add (i.toNat * 4)).off + 2, none⟩ = some (.int .i64 (ax xs i).f2) ∧ w.cell? ⟨(ad.add (i.toNat * 4)).block, (ad.add (i.toNat * 4)).off + 3, none⟩ = some (.int .i64 (ax xs i).f3) ∧ (ax xs i).f0.length ≤ c0 ∧ (Kd.int .u8).C w A0 (ax xs i).f0.length (ax xs i).f0 ∧ (ax xs i).f1.length ≤ c1 ∧ (Kd.int .u8).C w A1 (ax xs i).f1.length (ax xs i).f1 := by
 obtain ⟨ad, c, e, _, hK, hc0⟩ := Kd.zQ h z70 i h0 h1
 have hc : ∀ j u, c[j]? = some u → w.cell? (ad.add (i.toNat * 4 + j)) = some u := hc0
 obtain ⟨A0, c0, A1, c1, rfl, l0, g0, l1, g1⟩ := Fj hK
 exact ⟨ad, A0, c0, A1, c1, e, hc 0 _ rfl, by rw [← gX _ _ 1 (by omega)]; exact hc 1 _ rfl, by rw [← gX _ _ 2 (by omega)]; exact hc 2 _ rfl, by rw [← gX _ _ 3 (by omega)]; exact hc 3 _ rfl, l0, g0, l1, g1⟩
structure lQ where
 f0 : (List Int)
 f1 : Int
def z85 : lQ := ⟨([] : List Int), (0 : Int)⟩
def BM : Kd lQ := Kd.U7 (Kd.pair (Kd.slice 5 (Kd.int .u8)) (Kd.int .i64)) (fun x : lQ => (x.f0, x.f1))
theorem af3 {w : World} {x : lQ} {cs : List Value} (h : BM.K w x cs) : ∃ A0 c0, cs = [.slice A0 x.f0.length c0, .int .i64 x.f1] ∧ x.f0.length ≤ c0 ∧ (Kd.int .u8).C w A0 x.f0.length x.f0 := by
 obtain ⟨_, _, rfl, ⟨A0, c0, rfl, l0, g0⟩, rfl⟩ := h
 exact ⟨A0, c0, rfl, l0, g0⟩
theorem Db {w : World} {base : Nat} {ok : Nat → Prop} {x : lQ} {cs : List Value} (h : BM.M w base ok x cs) : ∃ v0, cs = [v0, .int .i64 x.f1] ∧ (Kd.int .u8).R 5 w base ok v0 x.f0 := by
 obtain ⟨_, _, rfl, ⟨v0, rfl, g0⟩, rfl⟩ := h
 exact ⟨v0, rfl, g0⟩
theorem QS (w : World) (base : Nat) (ok : Nat → Prop) (x : lQ) {v0 : Value} (g0 : (Kd.int .u8).R 5 w base ok v0 x.f0) : BM.M w base ok x [v0, .int .i64 x.f1] := ⟨[v0], [.int .i64 x.f1], rfl, ⟨v0, rfl, g0⟩, rfl⟩
def bu (xs : List lQ) (i : Int) : lQ := xs.getD i.toNat z85
theorem tV {w : World} {A : Option Addr} {n : Nat} {xs : List lQ} (h : Kd.C BM w A n xs) (i : Int) (h0 : 0 ≤ i) (h1 : i < n) : ∃ ad A0 c0, A = some ad ∧ w.cell? (ad.add (i.toNat * 2)) = some (.slice A0 (bu xs i).f0.length c0) ∧ w.cell? ⟨(ad.add (i.toNat * 2)).block, (ad.add (i.toNat * 2)).off + 1, none⟩ = some (.int .i64 (bu xs i).f1) ∧ (bu xs i).f0.length ≤ c0 ∧ (Kd.int .u8).C w A0 (bu xs i).f0.length (bu xs i).f0 := by
 obtain ⟨ad, c, e, _, hK, hc0⟩ := Kd.zQ h z85 i h0 h1
 have hc : ∀ j u, c[j]? = some u → w.cell? (ad.add (i.toNat * 2 + j)) = some u := hc0
 obtain ⟨A0, c0, rfl, l0, g0⟩ := af3 hK
 exact ⟨ad, A0, c0, e, hc 0 _ rfl, by rw [← gX _ _ 1 (by omega)]; exact hc 1 _ rfl, l0, g0⟩
structure l7 where
 f0 : Int
 f1 : Bool
def z88 : l7 := ⟨(0 : Int), false⟩
def BN : Kd l7 := Kd.U7 (Kd.pair (Kd.int .i64) Kd.bool) (fun x : l7 => (x.f0, x.f1))
theorem af4 {w : World} {x : l7} {cs : List Value} (h : BN.K w x cs) : cs = [.int .i64 x.f0, .bool x.f1] := by
 obtain ⟨_, _, rfl, rfl, rfl⟩ := h
 exact rfl
theorem Dc {w : World} {base : Nat} {ok : Nat → Prop} {x : l7} {cs : List Value} (h : BN.M w base ok x cs) : cs = [.int .i64 x.f0, .bool x.f1] := by
 obtain ⟨_, _, rfl, rfl, rfl⟩ := h
 exact rfl
theorem QT (w : World) (base : Nat) (ok : Nat → Prop) (x : l7)  : BN.M w base ok x [.int .i64 x.f0, .bool x.f1] := ⟨[.int .i64 x.f0], [.bool x.f1], rfl, rfl, rfl⟩
def bS (xs : List l7) (i : Int) : l7 := xs.getD i.toNat z88
theorem qJ {w : World} {A : Option Addr} {n : Nat} {xs : List l7} (h : Kd.C BN w A n xs) (i : Int) (h0 : 0 ≤ i) (h1 : i < n) : ∃ ad , A = some ad ∧ w.cell? (ad.add (i.toNat * 2)) = some (.int .i64 (bS xs i).f0) ∧ w.cell? ⟨(ad.add (i.toNat * 2)).block, (ad.add (i.toNat * 2)).off + 1, none⟩ = some (.bool (bS xs i).f1) := by
 obtain ⟨ad, c, e, _, hK, hc0⟩ := Kd.zQ h z88 i h0 h1
 have hc : ∀ j u, c[j]? = some u → w.cell? (ad.add (i.toNat * 2 + j)) = some u := hc0
 obtain rfl := af4 hK
 exact ⟨ad, e, hc 0 _ rfl, by rw [← gX _ _ 1 (by omega)]; exact hc 1 _ rfl⟩
structure S90 where
 f0 : Int
 f1 : Int
def z90 : S90 := ⟨(0 : Int), (0 : Int)⟩
def k90 : Kd S90 := Kd.U7 (Kd.pair (Kd.int .i64) (Kd.int .i64)) (fun x : S90 => (x.f0, x.f1))
theorem af6 {w : World} {x : S90} {cs : List Value} (h : k90.K w x cs) : cs = [.int .i64 x.f0, .int .i64 x.f1] := by
 obtain ⟨_, _, rfl, rfl, rfl⟩ := h
 exact rfl
theorem ad9 {w : World} {base : Nat} {ok : Nat → Prop} {x : S90} {cs : List Value} (h : k90.M w base ok x cs) : cs = [.int .i64 x.f0, .int .i64 x.f1] := by
 obtain ⟨_, _, rfl, rfl, rfl⟩ := h
 exact rfl
theorem ajV (w : World) (base : Nat) (ok : Nat → Prop) (x : S90)  : k90.M w base ok x [.int .i64 x.f0, .int .i64 x.f1] := ⟨[.int .i64 x.f0], [.int .i64 x.f1], rfl, rfl, rfl⟩
structure mE where
 f0 : Int
 f1 : Int
 f2 : S90
def z92 : mE := ⟨(0 : Int), (0 : Int), z90⟩
def Av : Kd mE := Kd.U7 (Kd.pair (Kd.int .i64) (Kd.pair (Kd.int .i64) k90)) (fun x : mE => (x.f0, x.f1, x.f2))
theorem af7 {w : World} {x : mE} {cs : List Value} (h : Av.K w x cs) : cs = [.int .i64 x.f0, .int .i64 x.f1, .int .i64 x.f2.f0, .int .i64 x.f2.f1] := by
 obtain ⟨_, _, rfl, rfl, ⟨_, _, rfl, rfl, s2⟩⟩ := h
 obtain rfl := af6 s2
 exact rfl
theorem De {w : World} {base : Nat} {ok : Nat → Prop} {x : mE} {cs : List Value} (h : Av.M w base ok x cs) : cs = [.int .i64 x.f0, .int .i64 x.f1, .int .i64 x.f2.f0, .int .i64 x.f2.f1] := by
 obtain ⟨_, _, rfl, rfl, ⟨_, _, rfl, rfl, s2⟩⟩ := h
 obtain rfl := ad9 s2
 exact rfl
theorem QU (w : World) (base : Nat) (ok : Nat → Prop) (x : mE)  : Av.M w base ok x [.int .i64 x.f0, .int .i64 x.f1, .int .i64 x.f2.f0, .int .i64 x.f2.f1] := ⟨[.int .i64 x.f0], [.int .i64 x.f1, .int .i64 x.f2.f0, .int .i64 x.f2.f1], rfl, rfl, ⟨[.int .i64 x.f1], [.int .i64 x.f2.f0, .int .i64 x.f2.f1], rfl, rfl, (ajV w base ok x.f2 )⟩⟩
def bn (xs : List mE) (i : Int) : mE := xs.getD i.toNat z92
theorem Cb {w : World} {A : Option Addr} {n : Nat} {xs : List mE} (h : Kd.C Av w A n xs) (i : Int) (h0 : 0 ≤ i) (h1 : i < n) : ∃ ad , A = some ad ∧ w.cell? (ad.add (i.toNat * 4)) = some (.int .i64 (bn xs i).f0) ∧ w.cell? ⟨(ad.add (i.toNat * 4)).block, (ad.add (i.toNat * 4)).off + 1, none⟩ = some (.int .i64 (bn xs i).f1) ∧ w.cell? ⟨(ad.add (i.toNat * 4)).block, (ad.add (i.toNat * 4)).off + 2, none⟩ = some (.int .i64 (bn xs i).f2.f0) ∧ w.cell? ⟨(ad.add (i.toNat * 4)).block, (ad.add (i.toNat * 4)).off + 3, none⟩ = some (.int .i64 (bn xs i).f2.f1) := by
 obtain ⟨ad, c, e, _, hK, hc0⟩ := Kd.zQ h z92 i h0 h1
 have hc : ∀ j u, c[j]? = some u → w.cell? (ad.add (i.toNat * 4 + j)) = some u := hc0
 obtain rfl := af7 hK
 exact ⟨ad, e, hc 0 _ rfl, by rw [← gX _ _ 1 (by omega)]; exact hc 1 _ rfl, by rw [← gX _ _ 2 (by omega)]; exact hc 2 _ rfl, by rw [← gX _ _ 3 (by omega)]; exact hc 3 _ rfl⟩
structure dR where
 f0 : (List Int)
 f1 : Bool
 f2 : Int
 f3 : (List dR)
def z46 : dR := ⟨([] : List Int), false, (0 : Int), ([] : List dR)⟩
def F46 (d : Kd dR) : Kd dR := Kd.U7 (Kd.pair (Kd.slice 5 (Kd.int .u8)) (Kd.pair Kd.bool (Kd.pair (Kd.int .i64) (Kd.slice 46 d)))) (fun x : dR => (x.f0, x.f1, x.f2, x.f3))
theorem QV : Kd.vY F46 := Kd.U8 _ (Kd.zR (Kd.vo _) (Kd.zR (Kd.vo _) (Kd.zR (Kd.vo _) (Kd.XE 46 Kd.aaH))))
theorem avN : Kd.Sub F46 [5, 46] := Kd.ajW _ (Kd.MB (Kd.sub_const _ (by decide)) (Kd.MB (Kd.sub_const _ (by decide)) (Kd.MB (Kd.sub_const _ (by decide)) (Kd.ad_ 46 (by decide) Kd.ap2))))
theorem ajX : ∀ n, (Kd.upto F46 4 [5, 46] n).sz = 4 := Kd.aaI (fun _ => rfl)
def qp : Kd dR := Kd.fix F46 4 [5, 46] ajX (Kd.XF avN)
theorem Fp {w : World} {x : dR} {cs : List Value} (h : qp.K w x cs) : ∃ A0 c0 A3 c3, cs = [.slice A0 x.f0.length c0, .bool x.f1, .int .i64 x.f2, .slice A3 x.f3.length c3] ∧ x.f0.length ≤ c0 ∧ (Kd.int .u8).C w A0 x.f0.length x.f0 ∧ x.f3.length ≤ c3 ∧ qp.C w A3 x.f3.length x.f3 := by
 obtain ⟨n, h⟩ := h
 cases n with
 | zero => exact h.elim
 | succ n =>
  obtain ⟨_, _, rfl, ⟨A0, c0, rfl, l0, g0⟩, ⟨_, _, rfl, rfl, ⟨_, _, rfl, rfl, ⟨A3, c3, rfl, l3, g3⟩⟩⟩⟩ := h
  exact ⟨A0, c0, A3, c3, rfl, l0, g0, l3, Kd.avO g3⟩
theorem PG {w : World} {base : Nat} {ok : Nat → Prop} {x : dR} {cs : List Value} (h : qp.M w base ok x cs) : ∃ v0 v3, cs = [v0, .bool x.f1, .int .i64 x.f2, v3] ∧ (Kd.int .u8).R 5 w base ok v0 x.f0 ∧ qp.R 46 w base ok v3 x.f3 := by
 obtain ⟨n, h⟩ := h
 cases n with
 | zero => exact h.elim
 | succ n =>
  obtain ⟨_, _, rfl, ⟨v0, rfl, g0⟩, ⟨_, _, rfl, rfl, ⟨_, _, rfl, rfl, ⟨v3, rfl, g3⟩⟩⟩⟩ := h
  exact ⟨v0, v3, rfl, g0, Kd.avP g3⟩
theorem ap3 (w : World) (x : dR) {A0 : Option Addr} {c0 : Nat} (l0 : x.f0.length ≤ c0) (g0 : (Kd.int .u8).C w A0 x.f0.length x.f0) {A3 : Option Addr} {c3 : Nat} (l3 : x.f3.length ≤ c3) (g3 : qp.C w A3 x.f3.length x.f3) : qp.K w x [.slice A0 x.f0.length c0, .bool x.f1, .int .i64 x.f2, .slice A3 x.f3.length c3] := by
 obtain ⟨n3, q3⟩ := Kd.XG QV g3
 have r3 := Kd.aea QV ajX (show n3 ≤ n3 by omega) q3
 exact ⟨n3 + 1, ⟨[.slice A0 x.f0.length c0], [.bool x.f1, .int .i64 x.f2, .slice A3 x.f3.length c3], rfl, ⟨A0, c0, rfl, l0, g0⟩, ⟨[.bool x.f1], [.int .i64 x.f2, .slice A3 x.f3.length c3], rfl, rfl, ⟨[.int .i64 x.f2], [.slice A3 x.f3.length c3], rfl, rfl, ⟨A3, c3, rfl, l3, r3⟩⟩⟩⟩⟩
theorem aaJ (w : World) (base : Nat) (ok : Nat → Prop) (x : dR) {v0 : Value} (g0 : (Kd.int .u8).R 5 w base ok v0 x.f0) {v3 : Value} (g3 : qp.R 46 w base ok v3 x.f3) : qp.M w base ok x [v0, .bool x.f1, .int .i64 x.f2, v3] := by
 obtain ⟨n3, q3⟩ := Kd.XH QV g3
 have r3 := Kd.aeb QV ajX (show n3 ≤ n3 by omega) q3
 exact ⟨n3 + 1, ⟨[v0], [.bool x.f1, .int .i64 x.f2, v3], rfl, ⟨v0, rfl, g0⟩, ⟨[.bool x.f1], [.int .i64 x.f2, v3], rfl, rfl, ⟨[.int .i64 x.f2], [v3], rfl, rfl, ⟨v3, rfl, r3⟩⟩⟩⟩⟩
theorem Df {W : World} {ok : Nat → Prop} {x : dR} {cs : List Value} (h : Kd.FK qp W ok x cs) : ∃ A0 c0 A3 c3, cs = [.slice A0 x.f0.length c0, .bool x.f1, .int .i64 x.f2, .slice A3 x.f3.length c3] ∧ x.f0.length ≤ c0 ∧ Kd.F (Kd.int .u8) W ok A0 x.f0.length x.f0 ∧ x.f3.length ≤ c3 ∧ Kd.F qp W ok A3 x.f3.length x.f3 := by
 obtain ⟨A0, c0, A3, c3, rfl, l0, _, l3, _⟩ := Fp (Kd.Ca h)
 exact ⟨A0, c0, A3, c3, rfl, l0, (fun W' hW => by obtain ⟨A0_, c0_, A3_, c3_, he, l0_, g0_, l3_, g3_⟩ := Fp (h W' hW); injection (Option.some.inj (show some (Value.slice A0 x.f0.length c0) = some (Value.slice A0_ x.f0.length c0_) from congrArg (fun l => l[0]?) he)) with ha_ _ _; rw [ha_]; exact g0_), l3, (fun W' hW => by obtain ⟨A0_, c0_, A3_, c3_, he, l0_, g0_, l3_, g3_⟩ := Fp (h W' hW); injection (Option.some.inj (show some (Value.slice A3 x.f3.length c3) = some (Value.slice A3_ x.f3.length c3_) from congrArg (fun l => l[3]?) he)) with ha_ _ _; rw [ha_]; exact g3_)⟩
theorem yZ (W : World) (ok : Nat → Prop) (x : dR) {A0 : Option Addr} {c0 : Nat} (l0 : x.f0.length ≤ c0) (g0 : Kd.F (Kd.int .u8) W ok A0 x.f0.length x.f0) {A3 : Option Addr} {c3 : Nat} (l3 : x.f3.length ≤ c3) (g3 : Kd.F qp W ok A3 x.f3.length x.f3) : Kd.FK qp W ok x [.slice A0 x.f0.length c0, .bool x.f1, .int .i64 x.f2, .slice A3 x.f3.length c3] := fun W2 hW => ap3 W2 x l0 (g0 W2 hW) l3 (g3 W2 hW)
def ak (xs : List dR) (i : Int) : dR := xs.getD i.toNat z46
theorem nT {w : World} {A : Option Addr} {n : Nat} {xs : List dR} (h : Kd.C qp w A n xs) (i : Int) (h0 : 0 ≤ i) (h1 : i < n) : ∃ ad A0 c0 A3 c3, A = some ad ∧ w.cell? (ad.add (i.toNat * 4)) = some (.slice A0 (ak xs i).f0.length c0) ∧ w.cell? ⟨(ad.add (i.toNat * 4)).block, (ad.add (i.toNat * 4)).off + 1, none⟩ = some (.bool (ak xs i).f1) ∧ w.cell? ⟨(ad.add (i.toNat * 4)).block, (ad.add (i.toNat * 4)).off + 2, none⟩ = some (.int .i64 (ak xs i).f2) ∧ w.cell? ⟨(ad.add (i.toNat * 4)).block, (ad.add (i.toNat * 4)).off + 3, none⟩ = some (.slice A3 (ak xs i).f3.length c3) ∧ (ak xs i).f0.length ≤ c0 ∧ (Kd.int .u8).C w A0 (ak xs i).f0.length (ak xs i).f0 ∧ (ak xs i).f3.length ≤ c3 ∧ qp.C w A3 (ak xs i).f3.length (ak xs i).f3 := by
 obtain ⟨ad, c, e, _, hK, hc0⟩ := Kd.zQ h z46 i h0 h1
 have hc : ∀ j u, c[j]? = some u → w.cell? (ad.add (i.toNat * 4 + j)) = some u := hc0
 obtain ⟨A0, c0, A3, c3, rfl, l0, g0, l3, g3⟩ := Fp hK
 exact ⟨ad, A0, c0, A3, c3, e, hc 0 _ rfl, by rw [← gX _ _ 1 (by omega)]; exact hc 1 _ rfl, by rw [← gX _ _ 2 (by omega)]; exact hc 2 _ rfl, by rw [← gX _ _ 3 (by omega)]; exact hc 3 _ rfl, l0, g0, l3, g3⟩
structure yn where
 f0 : (List Int)
 f1 : Int
def z74 : yn := ⟨([] : List Int), (0 : Int)⟩
def Cc : Kd yn := Kd.U7 (Kd.pair (Kd.slice 5 (Kd.int .u8)) (Kd.int .i64)) (fun x : yn => (x.f0, x.f1))
theorem af8 : Kd.Heap Cc := Kd.af9 _ (Kd.aec (Kd.XI 5 (Kd.MC .u8)) (Kd.MC .i64))
theorem ME {w : World} {x : yn} {cs : List Value} (h : Cc.K w x cs) : ∃ A0 c0, cs = [.slice A0 x.f0.length c0, .int .i64 x.f1] ∧ x.f0.length ≤ c0 ∧ (Kd.int .u8).C w A0 x.f0.length x.f0 := by
 obtain ⟨_, _, rfl, ⟨A0, c0, rfl, l0, g0⟩, rfl⟩ := h
 exact ⟨A0, c0, rfl, l0, g0⟩
theorem ap4 (w : World) (x : yn) {A0 : Option Addr} {c0 : Nat} (l0 : x.f0.length ≤ c0) (g0 : (Kd.int .u8).C w A0 x.f0.length x.f0) : Cc.K w x [.slice A0 x.f0.length c0, .int .i64 x.f1] := ⟨[.slice A0 x.f0.length c0], [.int .i64 x.f1], rfl, ⟨A0, c0, rfl, l0, g0⟩, rfl⟩
theorem oZ {W : World} {ok : Nat → Prop} {x : yn} {cs : List Value} (h : Kd.FK Cc W ok x cs) : ∃ A0 c0, cs = [.slice A0 x.f0.length c0, .int .i64 x.f1] ∧ x.f0.length ≤ c0 ∧ Kd.F (Kd.int .u8) W ok A0 x.f0.length x.f0 := by
 obtain ⟨A0, c0, rfl, l0, _⟩ := ME (Kd.Ca h)
 exact ⟨A0, c0, rfl, l0, (fun W' hW => by obtain ⟨A0_, c0_, he, l0_, g0_⟩ := ME (h W' hW); injection (Option.some.inj (show some (Value.slice A0 x.f0.length c0) = some (Value.slice A0_ x.f0.length c0_) from congrArg (fun l => l[0]?) he)) with ha_ _ _; rw [ha_]; exact g0_)⟩
theorem ajY (W : World) (ok : Nat → Prop) (x : yn) {A0 : Option Addr} {c0 : Nat} (l0 : x.f0.length ≤ c0) (g0 : Kd.F (Kd.int .u8) W ok A0 x.f0.length x.f0) : Kd.FK Cc W ok x [.slice A0 x.f0.length c0, .int .i64 x.f1] := fun W2 hW => ap4 W2 x l0 (g0 W2 hW)
def bD (xs : List yn) (i : Int) : yn := xs.getD i.toNat z74
theorem yo {w : World} {A : Option Addr} {n : Nat} {xs : List yn} (h : Kd.C Cc w A n xs) (i : Int) (h0 : 0 ≤ i) (h1 : i < n) : ∃ ad A0 c0, A = some ad ∧ w.cell? (ad.add (i.toNat * 2)) = some (.slice A0 (bD xs i).f0.length c0) ∧ w.cell? ⟨(ad.add (i.toNat * 2)).block, (ad.add (i.toNat * 2)).off + 1, none⟩ = some (.int .i64 (bD xs i).f1) ∧ (bD xs i).f0.length ≤ c0 ∧ (Kd.int .u8).C w A0 (bD xs i).f0.length (bD xs i).f0 := by
 obtain ⟨ad, c, e, _, hK, hc0⟩ := Kd.zQ h z74 i h0 h1
 have hc : ∀ j u, c[j]? = some u → w.cell? (ad.add (i.toNat * 2 + j)) = some u := hc0
 obtain ⟨A0, c0, rfl, l0, g0⟩ := ME hK
 exact ⟨ad, A0, c0, e, hc 0 _ rfl, by rw [← gX _ _ 1 (by omega)]; exact hc 1 _ rfl, l0, g0⟩
structure U6 where
 f0 : Int
 f1 : (List BV)
 f2 : (List BX)
 f3 : Int
 f4 : (List Jm)
 f5 : (List uR)
def z27 : U6 := ⟨(0 : Int), ([] : List BV), ([] : List BX), (0 : Int), ([] : List Jm), ([] : List uR)⟩
def k27 : Kd U6 := Kd.U7 (Kd.pair (Kd.int .i64) (Kd.pair (Kd.slice 79 k79) (Kd.pair (Kd.slice 82 k82) (Kd.pair (Kd.int .i64) (Kd.pair (Kd.slice 99 k99) (Kd.slice 103 KS)))))) (fun x : U6 => (x.f0, x.f1, x.f2, x.f3, x.f4, x.f5))
theorem afZ {w : World} {x : U6} {cs : List Value} (h : k27.K w x cs) : ∃ A1 c1 A2 c2 A4 c4 A5 c5, cs = [.int .i64 x.f0, .slice A1 x.f1.length c1, .slice A2 x.f2.length c2, .int .i64 x.f3, .slice A4 x.f4.length c4, .slice A5 x.f5.length c5] ∧ x.f1.length ≤ c1 ∧ k79.C w A1 x.f1.length x.f1 ∧ x.f2.length ≤ c2 ∧ k82.C w A2 x.f2.length x.f2 ∧ x.f4.length ≤ c4 ∧ k99.C w A4 x.f4.length x.f4 ∧ x.f5.length ≤ c5 ∧ KS.C w A5 x.f5.length x.f5 := by
 obtain ⟨_, _, rfl, rfl, ⟨_, _, rfl, ⟨A1, c1, rfl, l1, g1⟩, ⟨_, _, rfl, ⟨A2, c2, rfl, l2, g2⟩, ⟨_, _, rfl, rfl, ⟨_, _, rfl, ⟨A4, c4, rfl, l4, g4⟩, ⟨A5, c5, rfl, l5, g5⟩⟩⟩⟩⟩⟩ := h
 exact ⟨A1, c1, A2, c2, A4, c4, A5, c5, rfl, l1, g1, l2, g2, l4, g4, l5, g5⟩
theorem ap5 (w : World) (x : U6) {A1 : Option Addr} {c1 : Nat} (l1 : x.f1.length ≤ c1) (g1 : k79.C w A1 x.f1.length x.f1) {A2 : Option Addr} {c2 : Nat} (l2 : x.f2.length ≤ c2) (g2 : k82.C w A2 x.f2.length x.f2) {A4 : Option Addr} {c4 : Nat} (l4 : x.f4.length ≤ c4) (g4 : k99.C w A4 x.f4.length x.f4) {A5 : Option Addr} {c5 : Nat} (l5 : x.f5.length ≤ c5) (g5 : KS.C w A5 x.f5.length x.f5) : k27.K w x [.int .i64 x.f0, .slice A1 x.f1.length c1, .slice A2 x.f2.length c2, .int .i64 x.f3, .slice A4 x.f4.length c4, .slice A5 x.f5.length c5] := ⟨[.int .i64 x.f0], [.slice A1 x.f1.length c1, .slice A2 x.f2.length c2, .int .i64 x.f3, .slice A4 x.f4.length c4, .slice A5 x.f5.length c5], rfl, rfl, ⟨[.slice A1 x.f1.length c1], [.slice A2 x.f2.length c2, .int .i64 x.f3, .slice A4 x.f4.length c4, .slice A5 x.f5.length c5], rfl, ⟨A1, c1, rfl, l1, g1⟩, ⟨[.slice A2 x.f2.length c2], [.int .i64 x.f3, .slice A4 x.f4.length c4, .slice A5 x.f5.length c5], rfl, ⟨A2, c2, rfl, l2, g2⟩, ⟨[.int .i64 x.f3], [.slice A4 x.f4.length c4, .slice A5 x.f5.length c5], rfl, rfl, ⟨[.slice A4 x.f4.length c4], [.slice A5 x.f5.length c5], rfl, ⟨A4, c4, rfl, l4, g4⟩, ⟨A5, c5, rfl, l5, g5⟩⟩⟩⟩⟩⟩
def af_ (x : BV) : Prop := (fun l_ => l_.length ≤ maxLen ∧ ∀ y_ ∈ l_, (fun x_ => (Lit.int .u8 x_).wf = true) y_) x.f0 ∧ (fun l_ => l_.length ≤ maxLen ∧ ∀ y_ ∈ l_, (fun x_ => (Lit.int .u8 x_).wf = true) y_) x.f1 ∧ (fun x_ => (Lit.int .i64 x_).wf = true) x.f2 ∧ (fun x_ => (Lit.int .i64 x_).wf = true) x.f3
def af' (x : BX) : Prop := (fun l_ => l_.length ≤ maxLen ∧ ∀ y_ ∈ l_, (fun x_ => (Lit.int .u8 x_).wf = true) y_) x.f0 ∧ (fun x_ => (Lit.int .i64 x_).wf = true) x.f1
def ann (x : Jm) : Prop := (fun x_ => (Lit.int .i64 x_).wf = true) x.f0 ∧ (fun _ => True) x.f1
def aga (x : QQ) : Prop := (fun x_ => (Lit.int .i64 x_).wf = true) x.f0 ∧ (fun x_ => (Lit.int .i64 x_).wf = true) x.f1
def agb (x : uR) : Prop := (fun x_ => (Lit.int .i64 x_).wf = true) x.f0 ∧ (fun x_ => (Lit.int .i64 x_).wf = true) x.f1 ∧ aga x.f2
def Mw (x : U6) : Prop := (fun x_ => (Lit.int .i64 x_).wf = true) x.f0 ∧ (fun l_ => l_.length ≤ maxLen ∧ ∀ y_ ∈ l_, af_ y_) x.f1 ∧ (fun l_ => l_.length ≤ maxLen ∧ ∀ y_ ∈ l_, af' y_) x.f2 ∧ (fun x_ => (Lit.int .i64 x_).wf = true) x.f3 ∧ (fun l_ => l_.length ≤ maxLen ∧ ∀ y_ ∈ l_, ann y_) x.f4 ∧ (fun l_ => l_.length ≤ maxLen ∧ ∀ y_ ∈ l_, agb y_) x.f5
def tf (a b : Nat) : Array Bool := (List.replicate a true ++ List.replicate b false).toArray
-- shorter words for what the print writes over and over
def tb (n m : Nat) : Array Bool := ((List.range n).map (fun i => m.testBit i)).toArray
theorem od {p : Prop} [Decidable p] (h : decide p = true := by first | (with_reducible assumption) | assumption) : p := of_decide_eq_true h
section
variable {P : Program} {ops : Array Oper} {Q : Exit → Act → World → Prop} {md : Region.Mode} {S : World → Prop} {ds : List Nat} {T : Bool × List (List Nat × List Nat)}
theorem gY (HT : ai (nL md ops = T)) (i : Nat) (N : Option Tmp) (l' : Array Bool) {oi : Oper} {v : Value} {fuel : Nat} {l : Array Bool} {a : Act} {w : World}
  (hi : ops[i]? = some oi := by exact rfl) (hN : oi.dst = N := by exact rfl) (hc : aed T l.toList l'.toList i = true := by kernel_rfl)
  (hQ : ∀ c a w, Q (.panic c) (a.put oi.dst v) w → Q (.panic c) a w := by exact fun _ _ _ h => h) (hg : Region.wanted oi (yielded ops a.tmps) = true := by rfl)
  (hv : ∀ w, (execOp a.eval oi).run P w = .ok (.value v) w := by (intro w'; go_simp; with_reducible rfl)) {a' : Act}
  (ha : a.put N v = a' := by (simp only [Act.put, List.setIfInBounds_toArray, List.set_cons_zero, List.set_cons_succ, nR, uV]; rfl))
  (h : bY P md ops Q S ds fuel l' a' w) : bY P md ops Q S ds (fuel + 1) l a w := afY l' hi hN (agc HT.out hc) hQ (Or.inl ⟨hg, hv⟩) ha h
theorem pu_ (HT : ai (nL md ops = T)) (i : Nat) (N : Option Tmp) (l' : Array Bool) {oi : Oper} {fuel : Nat} {l : Array Bool} {a : Act} {w : World}
  (hi : ops[i]? = some oi := by exact rfl) (hN : oi.dst = N := by exact rfl) (hc : aed T l.toList l'.toList i = true := by kernel_rfl)
  (hQ : ∀ c a w, Q (.panic c) (a.put oi.dst undef) w → Q (.panic c) a w := by exact fun _ _ _ h => h) (hg : Region.wanted oi (yielded ops a.tmps) = false := by rfl) {a' : Act}
  (ha : a.put N undef = a' := by (simp only [Act.put, List.setIfInBounds_toArray, List.set_cons_zero, List.set_cons_succ, nR, uV]; rfl))
  (h : bY P md ops Q S ds fuel l' a' w) : bY P md ops Q S ds (fuel + 1) l a w := afY l' hi hN (agc HT.out hc) hQ (Or.inr ⟨hg, rfl⟩) ha h
theorem mG {B : List Nat} (HT : ai (nL md ops = T)) (HB : ai (jQ T.2 B = true)) {w : World} (hS : S w) (i : Nat) (N : Option Tmp) (l' : Array Bool) {oi : Oper} {v : Value} {fuel : Nat} {l : Array Bool} {a : Act}
  (hi : ops[i]? = some oi := by exact rfl) (hN : oi.dst = N := by exact rfl) (hc : aaK T B ds l.toList l'.toList i = true := by kernel_rfl)
  (hQ : ∀ c a w, Q (.panic c) (a.put oi.dst v) w → Q (.panic c) a w := by exact fun _ _ _ h => h) (hg : Region.wanted oi (yielded ops a.tmps) = true := by rfl)
  (hv : ∀ w, S w → (execOp a.eval oi).run P w = .ok (.value v) w := by (intro w'; (try simp only [and_imp]); intros; go_simp; with_reducible rfl)) {a' : Act}
  (ha : a.put N v = a' := by (simp only [Act.put, List.setIfInBounds_toArray, List.set_cons_zero, List.set_cons_succ, nR, uV]; rfl))
  (h : bY P md ops Q S ds fuel l' a' w) : bY P md ops Q S ds (fuel + 1) l a w := U2 l' hi hN (agd HT.out HB.out hc) hQ (Or.inl ⟨hg, hv⟩) hS ha h
end
theorem bG {w w1 w2 : World} (h : Below w.heap.size w1 w2 := by repeat (first | (with_reducible first | exact ai.out (by assumption) | apply jZ | apply lg | apply di | refine kz ?_ (ai.out (by assumption))) | exact ai.out (by assumption))) : Below w.heap.size w1 w2 := h
theorem eU {w w1 w2 : World} (hb : Below w1.heap.size w1 w2) (h : Below w.heap.size w w1 := by repeat (first | (with_reducible first | exact ai.out (by assumption) | apply jZ | apply lg | apply di | refine kz ?_ (ai.out (by assumption))) | exact ai.out (by assumption))) : ai (Below w.heap.size w w2) := ⟨Ex h hb⟩
theorem fT {α : Type} {d : Kd α} {w : World} {A : Option Addr} {n : Nat} {xs : List α} (h : d.C w A n xs := by repeat (first | exact Kd.cz (ai.out (by assumption)) bG | (with_reducible refine Kd.cB ?_ _) | (with_reducible refine Kd.bO ?_ _) | (with_reducible refine Kd.dH ?_))) : d.C w A n xs := h
section
variable {P : Program} {ops : Array Oper} {Q : Exit → Act → World → Prop}
theorem jG {rest : List Oper} {oi : Oper} {a : Act} {w : World} (N : Option Tmp) {f : FuncId} {fn : Func} (hf : P.funcs[f]? = some fn) (args : Array Value) {ar : Array Operand} {ts : Array TypeId} (hd : oi.dst = N := by exact rfl) (hg : oi.guard = none := by exact rfl) (hname : (fn.name == "runtime.NumGoroutine") = false := by kernel_rfl) (hb : fn.body.isSome = true := by exact rfl)
  (hop : oi.op = .call { callee := .value (.func f), args := ar, argTypes := ts } := by exact rfl) (hargs : ar.map a.eval = args := by ((try simp only [List.map_toArray, List.map_cons, List.map_nil]); first | done | rfl | (simp only [List.length_drop, List.length_take]; rfl)))
  (h : Calls P f args w fun e w' => ∃ v, e = .returned v ∧ wpList P ops Q rest (a.put N v) w') : wpList P ops Q (oi :: rest) a w := ap6 N hd hg hf hname hb args hop hargs h
theorem EZ {oi : Oper} {N : Option Tmp} {a : Act} {w : World} {K : Act → World → Prop} {f : FuncId} {fn : Func} (hf : P.funcs[f]? = some fn) (args : Array Value) {ar : Array Operand} {ts : Array TypeId} (hname : (fn.name == "runtime.NumGoroutine") = false := by kernel_rfl) (hb : fn.body.isSome = true := by exact rfl)
  (hw : Region.wanted oi (yielded ops a.tmps) = true := by rfl) (hN : oi.dst = N := by exact rfl) (hop : oi.op = .call { callee := .value (.func f), args := ar, argTypes := ts } := by exact rfl) (hargs : ar.map a.eval = args := by ((try simp only [List.map_toArray, List.map_cons, List.map_nil]); first | done | rfl | (simp only [List.length_drop, List.length_take]; rfl)))
  (h : Calls P f args w fun e w' => ∃ v, e = .returned v ∧ K (a.put N v) w') : if Region.wanted oi (yielded ops a.tmps) = true then Oper.wp P oi a w K Q else K (a.put N undef) w := PH hf hname hb args hw hN hop hargs h
theorem avQ {rest : List Oper} {oi : Oper} {a : Act} {w : World} (N : Option Tmp) {f : FuncId} {fn : Func} (hf : P.funcs[f]? = some fn) (args : Array Value) {q : Tmp} {ar : Array Operand} {ts : Array TypeId} (hd : oi.dst = N := by exact rfl) (hg : oi.guard = none := by exact rfl) (hname : (fn.name == "runtime.NumGoroutine") = false := by kernel_rfl) (hb : fn.body.isSome = true := by exact rfl)
 (hop : oi.op = .call { callee := .value (.tmp q), args := ar, argTypes := ts } := by exact rfl) (hv : a.eval (.tmp q) = .func (.func f) #[] #[] := by rfl) (hargs : ar.map a.eval = args := by ((try simp only [List.map_toArray, List.map_cons, List.map_nil]); first | done | rfl | (simp only [List.length_drop, List.length_take]; rfl)))
 (h : Calls P f args w fun e w' => ∃ v, e = .returned v ∧ wpList P ops Q rest (a.put N v) w') : wpList P ops Q (oi :: rest) a w := by
 refine wpList_plain hg fun K hK => ?_
 have he := QW hf hname hb args w
 have hrun : (execOp a.eval oi).run P w = .ok (.enter f args) w := by
  unfold execOp
  simp [hop, resolve, Deferred.ofValue, invoke, hv, hargs, he]
 unfold Oper.wp
 rw [hrun, Oper.upon_enter]
 refine h.mono fun e w'' hh => ?_
 obtain ⟨v, rfl, hk⟩ := hh
 subst hd
 exact hK _ _ hk
theorem je {rest : List Oper} {o : Oper} {a : Act} {W : World} (N : Tmp) (cs : Array Value) (t : TypeId) (hd : o.dst = some N := by exact rfl) (hg : o.guard = none := by exact rfl)
  (hr : (execOp a.eval o).run P W = .ok (.value (.pointer (some ⟨W.heap.size, 0, none⟩))) (W.alloc (.cells cs t (0, 0))) := by first | (go_simp; done) | (go_simp; rfl))
  (h : ∀ g, g = W.heap.size → ∀ w1, w1.heap[g]? = some (.cells cs t (0, 0)) → Below W.heap.size W w1 → wpList P ops Q rest (a.put o.dst (.pointer (some ⟨g, 0, none⟩))) w1) : wpList P ops Q (o :: rest) a W := aee hg hd hr h
end
theorem fo {w0 w w1 : World} {g : Nat} {o : Obj} (_h : ai (w0.heap[g]? = some o)) (hb : Below w.heap.size w w1) (f : w.heap[g]? = some o := by ((with_reducible repeat (first | refine cu ?_ _ | refine aV ?_ | refine bJ ?_ _)); exact ai.out (by assumption))) : w1.heap[g]? = some o := dX f hb
theorem blt {w0 w : World} {g : Nat} {o : Obj} (_h : ai (w0.heap[g]? = some o)) (f : w.heap[g]? = some o := by ((with_reducible repeat (first | refine cu ?_ _ | refine aV ?_ | refine bJ ?_ _)); exact ai.out (by assumption))) : g < w.heap.size := sO f
theorem hxb {w W : World} {a : Addr} {v : Value} (HB : ai (Below w.heap.size w W)) (h : w.cell? a = some v) : W.cell? a = some v := (HB.out.cell (World.block_lt_of_cell? w _ h)).trans h
theorem fM {w : World} {g : Nat} {t : TypeId} {v0 v1 : Value} (h : w.heap[g]? = some (.cells #[v0, v1] t (0, 0))) {R : Prop} (r : R) : w.cell? ⟨g, 0, none⟩ = some v0 ∧ w.cell? ⟨g, 1, none⟩ = some v1 ∧ R := ⟨(aY h 0).trans rfl, (aY h 1).trans rfl, r⟩
theorem j6 {w : World} {g : Nat} {t : TypeId} {v0 v1 : Value} (h : w.heap[g]? = some (.cells #[v0, v1] t (0, 0))) : w.frozen? ⟨g, 0, none⟩ = false ∧ w.frozen? ⟨g, 1, none⟩ = false ∧ True := ⟨fC h 0, fC h 1, trivial⟩
theorem aT {w : World} {g : Nat} {t : TypeId} {v0 v1 v2 v3 : Value} (h : w.heap[g]? = some (.cells #[v0, v1, v2, v3] t (0, 0))) {R : Prop} (r : R) : w.cell? ⟨g, 0, none⟩ = some v0 ∧ w.cell? ⟨g, 1, none⟩ = some v1 ∧ w.cell? ⟨g, 2, none⟩ = some v2 ∧ w.cell? ⟨g, 3, none⟩ = some v3 ∧ R := ⟨(aY h 0).trans rfl, (aY h 1).trans rfl, (aY h 2).trans rfl, (aY h 3).trans rfl, r⟩
theorem qL {w : World} {g : Nat} {t : TypeId} {v0 v1 v2 v3 : Value} (h : w.heap[g]? = some (.cells #[v0, v1, v2, v3] t (0, 0))) : w.cell? ⟨g, 0, none⟩ = some v0 ∧ w.cell? ⟨g, 1, none⟩ = some v1 ∧ w.cell? ⟨g, 2, none⟩ = some v2 ∧ w.cell? ⟨g, 3, none⟩ = some v3 := ⟨(aY h 0).trans rfl, (aY h 1).trans rfl, (aY h 2).trans rfl, (aY h 3).trans rfl⟩
theorem dK {w : World} {g : Nat} {t : TypeId} {v0 v1 v2 v3 : Value} (h : w.heap[g]? = some (.cells #[v0, v1, v2, v3] t (0, 0))) : w.frozen? ⟨g, 0, none⟩ = false ∧ w.frozen? ⟨g, 1, none⟩ = false ∧ w.frozen? ⟨g, 2, none⟩ = false ∧ w.frozen? ⟨g, 3, none⟩ = false ∧ True := ⟨fC h 0, fC h 1, fC h 2, fC h 3, trivial⟩
theorem a_ {w : World} {g : Nat} {t : TypeId} {v0 v1 v2 v3 v4 v5 : Value} (h : w.heap[g]? = some (.cells #[v0, v1, v2, v3, v4, v5] t (0, 0))) {R : Prop} (r : R) : w.cell? ⟨g, 0, none⟩ = some v0 ∧ w.cell? ⟨g, 1, none⟩ = some v1 ∧ w.cell? ⟨g, 2, none⟩ = some v2 ∧ w.cell? ⟨g, 3, none⟩ = some v3 ∧ w.cell? ⟨g, 4, none⟩ = some v4 ∧ w.cell? ⟨g, 5, none⟩ = some v5 ∧ R := ⟨(aY h 0).trans rfl, (aY h 1).trans rfl, (aY h 2).trans rfl, (aY h 3).trans rfl, (aY h 4).trans rfl, (aY h 5).trans rfl, r⟩
theorem kH {w : World} {g : Nat} {t : TypeId} {v0 v1 v2 v3 v4 v5 : Value} (h : w.heap[g]? = some (.cells #[v0, v1, v2, v3, v4, v5] t (0, 0))) : w.cell? ⟨g, 0, none⟩ = some v0 ∧ w.cell? ⟨g, 1, none⟩ = some v1 ∧ w.cell? ⟨g, 2, none⟩ = some v2 ∧ w.cell? ⟨g, 3, none⟩ = some v3 ∧ w.cell? ⟨g, 4, none⟩ = some v4 ∧ w.cell? ⟨g, 5, none⟩ = some v5 := ⟨(aY h 0).trans rfl, (aY h 1).trans rfl, (aY h 2).trans rfl, (aY h 3).trans rfl, (aY h 4).trans rfl, (aY h 5).trans rfl⟩
theorem dA {w : World} {g : Nat} {t : TypeId} {v0 v1 v2 v3 v4 v5 : Value} (h : w.heap[g]? = some (.cells #[v0, v1, v2, v3, v4, v5] t (0, 0))) : w.frozen? ⟨g, 0, none⟩ = false ∧ w.frozen? ⟨g, 1, none⟩ = false ∧ w.frozen? ⟨g, 2, none⟩ = false ∧ w.frozen? ⟨g, 3, none⟩ = false ∧ w.frozen? ⟨g, 4, none⟩ = false ∧ w.frozen? ⟨g, 5, none⟩ = false ∧ True := ⟨fC h 0, fC h 1, fC h 2, fC h 3, fC h 4, fC h 5, trivial⟩
theorem rbl {α : Type} {d : Kd α} {e base : Nat} {ok : Nat → Prop} {v : Value} {xs : List α} {W0 W W1 : World} (_h : ai (d.R e W0 base ok v xs)) (hb : Below W.heap.size W W1) (f : d.R e W base ok v xs := by ((with_reducible repeat (first | apply Kd.iN | apply Kd.iO | apply Kd.iQ)); exact ai.out (by assumption))) : d.R e W1 base ok v xs := Kd.rG f hb
-- rows of rows of the call's own that go behind others (own, not read)
theorem gu {w0 w : World} {g : Nat} {o : Obj} (_h : ai (w0.heap[g]? = some o)) (f : w.heap[g]? = some o := by ((with_reducible repeat (first | refine cu ?_ _ | refine aV ?_ | refine bJ ?_ _)); exact ai.out (by assumption))) : w.heap[g]? = some o := f
theorem zG {α : Type} {d : Kd α} {e base : Nat} {ok : Nat → Prop} {v : Value} {xs : List α} {W0 W : World} (_h : ai (d.R e W0 base ok v xs)) (f : d.R e W base ok v xs := by ((with_reducible repeat (first | apply Kd.iN | apply Kd.iO | apply Kd.iQ)); exact ai.out (by assumption))) : d.R e W base ok v xs := f
theorem UZ {α : Type} {d : Kd α} {e base : Nat} {ok : Nat → Prop} {v : Value} {xs : List α} {W0 W : World} (_h : ai (Kd.S d e W0 base ok v xs)) (f : Kd.S d e W base ok v xs := by ((with_reducible repeat (first | apply Kd.lh | apply Kd.ll | apply Kd.lL)); exact ai.out (by assumption))) : Kd.S d e W base ok v xs := f
section
variable {P : Program} {ops : Array Oper} {Q : Exit → Act → World → Prop} {md : Region.Mode} {S : World → Prop} {ds : List Nat} {T : Bool × List (List Nat × List Nat)}
theorem bF (HT : ai (nL md ops = T)) {i m : Nat} {N : Option Tmp} {oi : Oper} {v : Value} {fuel : Nat} {a : Act} {w : World}
  (hi : ops[i]? = some oi := by exact rfl) (hN : oi.dst = N := by first | exact (rfl : _ = some _) | exact (rfl : _ = none) | exact rfl) (hc : aed T (tf i (m + 1)).toList (tf (i + 1) m).toList i = true := by kernel_rfl)
  (hQ : ∀ c a w, Q (.panic c) (a.put oi.dst v) w → Q (.panic c) a w := by exact fun _ _ _ h => h) (hg : Region.wanted oi (yielded ops a.tmps) = true := by rfl)
  (hv : ∀ w, (execOp a.eval oi).run P w = .ok (.value v) w := by (intro w'; go_simp; with_reducible rfl)) {a' : Act}
  (ha : a.put N v = a' := by (simp only [Act.put, List.setIfInBounds_toArray, List.set_cons_zero, List.set_cons_succ, nR, uV]; rfl))
  (h : bY P md ops Q S ds fuel (tf (i + 1) m) a' w) : bY P md ops Q S ds (fuel + 1) (tf i (m + 1)) a w := gY HT i N (tf (i + 1) m) hi hN hc hQ hg hv ha h
theorem gI {B : List Nat} (HT : ai (nL md ops = T)) (HB : ai (jQ T.2 B = true)) {w : World} (hS : S w) {i m : Nat} {N : Option Tmp} {oi : Oper} {v : Value} {fuel : Nat} {a : Act}
  (hi : ops[i]? = some oi := by exact rfl) (hN : oi.dst = N := by first | exact (rfl : _ = some _) | exact (rfl : _ = none) | exact rfl) (hc : aaK T B ds (tf i (m + 1)).toList (tf (i + 1) m).toList i = true := by kernel_rfl)
  (hQ : ∀ c a w, Q (.panic c) (a.put oi.dst v) w → Q (.panic c) a w := by exact fun _ _ _ h => h) (hg : Region.wanted oi (yielded ops a.tmps) = true := by rfl)
  (hv : ∀ w, S w → (execOp a.eval oi).run P w = .ok (.value v) w := by (intro w'; (try simp only [and_imp]); intros; go_simp; with_reducible rfl)) {a' : Act}
  (ha : a.put N v = a' := by (simp only [Act.put, List.setIfInBounds_toArray, List.set_cons_zero, List.set_cons_succ, nR, uV]; rfl))
  (h : bY P md ops Q S ds fuel (tf (i + 1) m) a' w) : bY P md ops Q S ds (fuel + 1) (tf i (m + 1)) a w := mG HT HB hS i N (tf (i + 1) m) hi hN hc hQ hg hv ha h
end
theorem yg {w : World} {g t j : Nat} {cs : Array Value} {u : Value} (hb : w.heap[g]? = some (.cells cs t (0, 0))) (hj : j < cs.size) :
  (w.setCell ⟨g, j, none⟩ u).heap[g]? = some (.cells (cs.set j u hj) t (0, 0)) ∧ (∀ g', g' ≠ g → (w.setCell ⟨g, j, none⟩ u).heap[g']? = w.heap[g']?) ∧ ∀ w0 : World, Below w0.heap.size w0 w → w0.heap.size ≤ g → Below w0.heap.size w0 (w.setCell ⟨g, j, none⟩ u) := by
 refine ⟨?_, fun g' h => Below.heap_setCell w ⟨g, j, none⟩ u g' h, fun w0 h hg => kz h hg⟩
 have e := gq (cs := cs) hb j u rfl
 rw [e]
 simp [Array.setIfInBounds, hj]
theorem ano {P : Program} {C : Code} {K : Exit → Act → World → Prop} {a : Act} {w : World} {g t : Nat} {z0 z1 u0 u1 : Value} (hb : w.heap[g]? = some (.cells #[z0, z1] t (0, 0)))
  (h : ∀ w', w'.heap[g]? = some (.cells #[u0, u1] t (0, 0)) → (∀ g', g' ≠ g → w'.heap[g']? = w.heap[g']?) → (∀ w0 : World, Below w0.heap.size w0 w → w0.heap.size ≤ g → Below w0.heap.size w0 w') → Code.wp P C K a w') :
  Code.wp P C K a ((w.setCell ⟨g, 0, none⟩ u0).setCell ⟨g, 1, none⟩ u1) := by
 obtain ⟨a0, b0, c0⟩ := yg (j := 0) (u := u0) hb (by simp)
 obtain ⟨a1, b1, c1⟩ := yg (j := 1) (u := u1) a0 (by simp)
 exact h _ a1 (fun g' n => (b1 g' n).trans (b0 g' n)) (fun w0 x y => c1 w0 (c0 w0 x y) y)
theorem aaL {P : Program} {C : Code} {K : Exit → Act → World → Prop} {a : Act} {w : World} {g t : Nat} {z0 z1 z2 z3 u0 u1 u2 u3 : Value} (hb : w.heap[g]? = some (.cells #[z0, z1, z2, z3] t (0, 0)))
  (h : ∀ w', w'.heap[g]? = some (.cells #[u0, u1, u2, u3] t (0, 0)) → (∀ g', g' ≠ g → w'.heap[g']? = w.heap[g']?) → (∀ w0 : World, Below w0.heap.size w0 w → w0.heap.size ≤ g → Below w0.heap.size w0 w') → Code.wp P C K a w') :
  Code.wp P C K a ((((w.setCell ⟨g, 0, none⟩ u0).setCell ⟨g, 1, none⟩ u1).setCell ⟨g, 2, none⟩ u2).setCell ⟨g, 3, none⟩ u3) := by
 obtain ⟨a0, b0, c0⟩ := yg (j := 0) (u := u0) hb (by simp)
 obtain ⟨a1, b1, c1⟩ := yg (j := 1) (u := u1) a0 (by simp)
 obtain ⟨a2, b2, c2⟩ := yg (j := 2) (u := u2) a1 (by simp)
 obtain ⟨a3, b3, c3⟩ := yg (j := 3) (u := u3) a2 (by simp)
 exact h _ a3 (fun g' n => (b3 g' n).trans ((b2 g' n).trans ((b1 g' n).trans (b0 g' n)))) (fun w0 x y => c3 w0 (c2 w0 (c1 w0 (c0 w0 x y) y) y) y)
theorem mo {P : Program} {ops : Array Oper} {Q : Exit → Act → World → Prop} {md : Region.Mode} {S : World → Prop} {ds : List Nat} (N : Option Tmp) {v : Value} {fuel : Nat} {l : Array Bool} {a a' : Act} {w : World}
  (ha : Act.put a N v = a' := by (simp only [Act.put, List.setIfInBounds_toArray, List.set_cons_zero, List.set_cons_succ, nR, uV]; rfl)) (h : bY P md ops Q S ds fuel l a' w) : bY P md ops Q S ds fuel l (Act.put a N v) w := Kg ha h
theorem ku {p : Prop} (h : p := by first | rfl | (simp [bW, bX] <;> rfl) | (simp [*, bW, bX] <;> rfl)) : p := h
theorem ky {p : Prop} (h : p := by first | rfl | (simp; done) | (simp [*]; done)) : p := h
theorem Ce {P : Program} {ops : Array Oper} {Q : Exit → Act → World → Prop} {md : Region.Mode} {S S' : World → Prop} {fuel : Nat} {l : Array Bool} {a : Act} {w : World}
  (hs : ∀ w, S' w → S w) (h0 : S' w) (h : S' w → bY P md ops Q S' [] fuel l a w) : bY P md ops Q S [] fuel l a w := by
 have key : ∀ (fuel : Nat) (l : Array Bool) (a : Act) (w : World), S' w → bY P md ops Q S' [] fuel l a w → bY P md ops Q S [] fuel l a w := by
  intro fuel
  induction fuel with
  | zero => exact fun _ _ _ _ h => h
  | succ n ih => exact fun l a w h0 h => ⟨h.1, fun i hi => wpOp_mono (fun a' w' h' => ⟨fun _ _ => hs _ (h'.1 (by simp) h0), ih _ _ _ (h'.1 (by simp) h0) h'.2⟩) (h.2 i hi)⟩
 exact key fuel l a w h0 (h h0)
def age : List (Option Tmp) → Act → Act
 | [], a => a
 | d :: ds, a => age ds (a.put d undef)
def unw (ops : Array Oper) : Nat → Nat → Act → Bool
 | 0, _, _ => true
 | n + 1, i, a => match ops[i]? with
  | some o => !Region.wanted o (yielded ops a.tmps) && unw ops n (i + 1) (a.put o.dst undef)
  | none => false
def agf (T : Bool × List (List Nat × List Nat)) : Nat → Nat → Nat → Bool
 | 0, _, _ => true
 | n + 1, i, m => aed T (tf i (m + n + 1)).toList (tf (i + 1) (m + n)).toList i && agf T n (i + 1) m
def dstsOf (ops : Array Oper) : Nat → Nat → List (Option Tmp)
 | 0, _ => []
 | n + 1, i => (match ops[i]? with | some o => o.dst | none => none) :: dstsOf ops n (i + 1)
def ajZ (ops : Array Oper) (a : Act) : Nat → Nat → List (Option Tmp) → Bool
 | 0, _, _ => true
 | n + 1, i, D => match ops[i]? with
  | some o => (match o.guard with
   | some (j, want) => D.any (fun x => x == (ops[j]?).bind (·.dst)) || !(yielded ops a.tmps j == some want)
   | none => false) && ajZ ops a n (i + 1) (o.dst :: D)
  | none => false
theorem ap7 (ops : Array Oper) (a : Act) (n : Nat) : ∀ (i : Nat) (D : List (Option Tmp)) (a' : Act),
  (∀ d : Nat, (some d ∈ D → ∀ b, a'.tmps[d]? ≠ some (.bool b)) ∧ (some d ∉ D → a'.tmps[d]? = a.tmps[d]?)) → ajZ ops a n i D = true → unw ops n i a' = true := by
 induction n with
 | zero => intro i D a' _ _; rfl
 | succ n ih =>
  intro i D a' hA h
  rw [ajZ] at h
  rw [unw]
  cases ho : ops[i]? with
  | none => rw [ho] at h; cases h
  | some o =>
   rw [ho] at h
   simp only [Bool.and_eq_true] at h
   simp only [Bool.and_eq_true, Bool.not_eq_true']
   refine ⟨?_, ih (i + 1) (o.dst :: D) _ (fun d => ?_) h.2⟩
   ·unfold Region.wanted
    cases hg : o.guard with
    | none => rw [hg] at h; exact absurd h.1 (by simp)
    | some p =>
     obtain ⟨j, want⟩ := p
     rw [hg] at h
     simp only [Bool.or_eq_true, Bool.not_eq_true'] at h
     simp only
     cases hd : (ops[j]?).bind (·.dst) with
     | none => unfold yielded; rw [hd]; rfl
     | some d =>
      have h1 := h.1
      unfold yielded at h1 ⊢
      rw [hd] at h1 ⊢
      by_cases hm : some d ∈ D
      ·have := (hA d).1 hm
       simp only [Option.bind_some]
       cases hv : a'.tmps[d]? with
       | none => rfl
       | some v =>
        cases v <;> first | rfl | exact absurd hv (this _)
      ·rw [Option.bind_some, (hA d).2 hm]
       rcases h1 with h1 | h1
       ·rw [List.any_eq_true] at h1
        obtain ⟨x, hx, e⟩ := h1
        exact absurd (by rw [beq_iff_eq] at e; rw [← e]; exact hx) hm
       ·rw [Option.bind_some] at h1
        exact h1
   ·cases hd : o.dst with
    | none =>
     refine ⟨fun hm => (hA d).1 ?_, fun hm => (hA d).2 ?_⟩
     ·simpa using hm
     ·simpa using hm
    | some q =>
     show (_ → ∀ b, (a'.tmps.setIfInBounds q undef)[d]? ≠ some (.bool b)) ∧ (_ → (a'.tmps.setIfInBounds q undef)[d]? = a.tmps[d]?)
     rw [Array.getElem?_setIfInBounds]
     by_cases e : q = d
     ·subst e
      refine ⟨fun _ b => ?_, fun hm => absurd (List.mem_cons_self ..) hm⟩
      rw [if_pos rfl]
      split
      ·intro hc; cases hc
      ·intro hc; cases hc
     ·rw [if_neg e]
      refine ⟨fun hm => (hA d).1 ?_, fun hm => (hA d).2 ?_⟩
      ·simpa [Ne.symm e] using hm
      ·simpa [Ne.symm e] using hm
section
variable {P : Program} {ops : Array Oper} {Q : Exit → Act → World → Prop} {md : Region.Mode} {S : World → Prop} {ds : List Nat} {T : Bool × List (List Nat × List Nat)}
theorem dJ (HT : ai (nL md ops = T)) (n : Nat) (D : List (Option Tmp)) {i m : Nat} {fuel : Nat} {a : Act} {w : World}
  (hd : dstsOf ops n i = D := by exact rfl)
  (hQ : ∀ d c a w, Q (.panic c) (a.put (some d) undef) w → Q (.panic c) a w := by exact fun _ _ _ _ h => h)
  (hc : agf T n i m = true := by kernel_rfl) (hg : ajZ ops a n i [] = true := by kernel_rfl) {a' : Act}
  (ha : age D a = a' := by (simp only [age, Act.put, List.setIfInBounds_toArray, List.set_cons_zero, List.set_cons_succ]; rfl))
  (h : bY P md ops Q S ds fuel (tf (i + n) m) a' w) : bY P md ops Q S ds (fuel + n) (tf i (m + n)) a w := by
 subst hd
 replace hg := ap7 ops a n i [] a (fun d => ⟨fun h => absurd h (by simp), fun _ => rfl⟩) hg
 induction n generalizing i a fuel a' with
 | zero => subst ha; exact h
 | succ n ih =>
  rw [unw] at hg
  cases ho : ops[i]? with
  | none => rw [ho] at hg; cases hg
  | some o =>
   rw [ho] at hg
   simp only [Bool.and_eq_true, Bool.not_eq_true'] at hg
   rw [agf, Bool.and_eq_true] at hc
   have hd1 : dstsOf ops (n + 1) i = o.dst :: dstsOf ops n (i + 1) := by rw [dstsOf, ho]
   rw [hd1] at ha
   have h2 := ih (i := i + 1) (fuel := fuel) (a := a.put o.dst undef) (a' := a') (hc := hc.2) (hg := hg.2) (ha := ha) (h := by rw [show i + 1 + n = i + (n + 1) by omega]; exact h)
   have hQ2 : ∀ c a w, Q (.panic c) (a.put o.dst undef) w → Q (.panic c) a w := by
    cases o.dst with
    | none => exact fun _ _ _ h => h
    | some d => exact hQ d
   exact pu_ HT i o.dst (tf (i + 1) (m + n)) ho rfl hc.1 hQ2 hg.1 rfl h2
end
def yt (u u' : Value) : Prop := u = u' ∨ (∃ k a b, u = .int k a ∧ u' = .int k b) ∨ (∃ a b, u = .bool a ∧ u' = .bool b)
theorem yt.trans {a b c : Value} (h : yt a b) (k : yt b c) : yt a c := by
 rcases h with rfl | ⟨q, x, y, rfl, rfl⟩ | ⟨x, y, rfl, rfl⟩
 ·exact k
 ·rcases k with rfl | ⟨q', x', y', e, rfl⟩ | ⟨x', y', e, rfl⟩
  ·exact .inr (.inl ⟨q, x, y, rfl, rfl⟩)
  ·injection e with e1 e2
   subst e1
   exact .inr (.inl ⟨q, x, y', rfl, rfl⟩)
  ·cases e
 ·rcases k with rfl | ⟨q', x', y', e, rfl⟩ | ⟨x', y', e, rfl⟩
  ·exact .inr (.inr ⟨x, y, rfl, rfl⟩)
  ·cases e
  ·exact .inr (.inr ⟨x, y', rfl, rfl⟩)
structure Mk (w W : World) (P : Nat → Prop) : Prop where
 os : W.os = w.os
 tape : W.tape = w.tape
 output : W.output = w.output
 kept : Kept w W P
 same : ∀ b, b < w.heap.size → P b → ∀ cells e fz, w.heap[b]? = some (.cells cells e fz) → ∃ cells', W.heap[b]? = some (.cells cells' e fz) ∧ cells'.size = cells.size ∧ ∀ (i : Nat) (u : Value), cells[i]? = some u → ∃ u' : Value, cells'[i]? = some u' ∧ yt u u'
theorem Mk.refl (w : World) (P : Nat → Prop) : Mk w w P := ⟨rfl, rfl, rfl, Kept.refl w P, fun _ _ _ cells _ _ h => ⟨cells, h, rfl, fun _ u hu => ⟨u, hu, .inl rfl⟩⟩⟩
theorem Mk.trans {w W W2 : World} {P : Nat → Prop} (h : Mk w W P) (k : Mk W W2 P) : Mk w W2 P := by
 refine ⟨k.os.trans h.os, k.tape.trans h.tape, k.output.trans h.output, h.kept.Fq k.kept (fun _ hk => .inl hk), fun b hb hP cells e fz hc => ?_⟩
 obtain ⟨c1, h1, s1, e1⟩ := h.same b hb hP cells e fz hc
 obtain ⟨c2, h2, s2, e2⟩ := k.same b (Nat.lt_of_lt_of_le hb h.kept.1) hP c1 e fz h1
 refine ⟨c2, h2, s2.trans s1, fun i u hu => ?_⟩
 obtain ⟨u1, hu1, q1⟩ := e1 i u hu
 obtain ⟨u2, hu2, q2⟩ := e2 i u1 hu1
 exact ⟨u2, hu2, q1.trans q2⟩
theorem Mk.mono {w W : World} {P P' : Nat → Prop} (h : Mk w W P) (hp : ∀ k, P k → P' k) : Mk w W P' := by
 refine ⟨h.os, h.tape, h.output, h.kept.mono hp, fun b hb _ cells e fz hc => ?_⟩
 by_cases hP : P b
 ·exact h.same b hb hP cells e fz hc
 ·exact ⟨cells, (h.kept.2 b hb hP).trans hc, rfl, fun _ u hu => ⟨u, hu, .inl rfl⟩⟩
theorem Mk.drewN {w W : World} {P : Nat → Prop} (h : Mk w W P) (m : Nat) : Mk w (W.drewN m) P := ⟨h.os, h.tape, h.output, h.kept, h.same⟩
theorem Mk.drew {w W : World} {P : Nat → Prop} (h : Mk w W P) : Mk w W.drew P := ⟨h.os, h.tape, h.output, h.kept, h.same⟩
theorem Mk.set {w W : World} {P : Nat → Prop} (h : Mk w W P) {g j : Nat} (hP : P g) {u u' : Value} (hc : W.cell? ⟨g, j, none⟩ = some u) (hs : yt u u') : Mk w (W.setCell ⟨g, j, none⟩ u') P := by
 refine ⟨h.os, h.tape, h.output, h.kept.setCell (p := ⟨g, j, none⟩) (.inl hP) u', fun b hb hPb cells e fz hcb => ?_⟩
 obtain ⟨c1, h1, s1, e1⟩ := h.same b hb hPb cells e fz hcb
 by_cases hbg : b = g
 ·subst hbg
  refine ⟨c1.setIfInBounds j u', ?_, by rw [Array.size_setIfInBounds, s1], fun i v hv => ?_⟩
  ·simp [World.setCell, Array.getElem?_modify, h1]
  ·obtain ⟨v1, hv1, q1⟩ := e1 i v hv
   by_cases hij : j = i
   ·subst hij
    have hlt := (Array.getElem?_eq_some_iff.1 hv1).1
    have : v1 = u := by
     simp only [World.cell?, h1] at hc
     have hc' : c1[j]? = some u := by simpa using hc
     rw [hv1] at hc'
     exact Option.some.inj hc'
    subst this
    exact ⟨u', by simp [hlt], q1.trans hs⟩
   ·exact ⟨v1, by rw [Array.getElem?_setIfInBounds_ne hij]; exact hv1, q1⟩
 ·exact ⟨c1, (Below.heap_setCell W ⟨g, j, none⟩ u' b hbg).trans h1, s1, e1⟩
theorem Mk.below {w0 w W : World} {P : Nat → Prop} (h : Mk w W P) (hb : Below w0.heap.size w0 w) (hP : ∀ k, P k → w0.heap.size ≤ k) : Below w0.heap.size w0 W :=
 ⟨h.os.trans hb.os, h.tape.trans hb.tape, h.output.trans hb.output, Nat.le_trans hb.size h.kept.1, fun k hk => (h.kept.2 k (Nat.lt_of_lt_of_le hk hb.size) (fun hp => by have := hP k hp; omega)).trans (hb.block k hk)⟩
theorem Mk.own {w W : World} {P : Nat → Prop} (h : Mk w W P) {base e sz n : Nat} {v : Value} {xs : List Value} (ho : w.ownsRow base e sz v n xs) (hP : ∀ k, v.ownBlock = some k → P k) :
  ∃ xs', W.ownsRow base e sz v n xs' ∧ xs'.length = xs.length ∧ ∀ (i : Nat) (u : Value), xs[i]? = some u → ∃ u' : Value, xs'[i]? = some u' ∧ yt u u' := by
 obtain ⟨hl, ho⟩ := ho
 rcases ho with ⟨rfl, rfl⟩ | ⟨g, cap, cur, rfl, hg, hh, hn, hcap, hsz, ht⟩
 ·exact ⟨xs, ⟨hl, .inl ⟨rfl, rfl⟩⟩, rfl, fun _ u hu => ⟨u, hu, .inl rfl⟩⟩
 ·obtain ⟨c1, h1, s1, e1⟩ := h.same g (Array.getElem?_eq_some_iff.1 hh).1 (hP g rfl) cur e (0, 0) hh
  have hle : n * sz ≤ cur.size := by rw [hsz]; exact Nat.mul_le_mul_right _ hn
  have hlen : (c1.toList.take (n * sz)).length = xs.length := by
   rw [List.length_take, Array.length_toList, s1, hl]
   omega
  refine ⟨c1.toList.take (n * sz), ⟨hlen.trans hl, .inr ⟨g, cap, c1, rfl, hg, h1, hn, hcap, s1.trans hsz, rfl⟩⟩, hlen, fun i u hu => ?_⟩
  have hi := (List.getElem?_eq_some_iff.1 hu).1
  rw [← ht, List.getElem?_take, if_pos (by omega), Array.getElem?_toList] at hu
  obtain ⟨u', hu', q⟩ := e1 i u hu
  exact ⟨u', by rw [List.getElem?_take, if_pos (by omega), Array.getElem?_toList]; exact hu', q⟩
theorem Kh {α : Type} (Q : Nat → α → Prop) : ∀ n, (∀ j, j < n → ∃ p, Q j p) → ∃ l : List α, l.length = n ∧ ∀ j p, l[j]? = some p → Q j p
 | 0, _ => ⟨[], rfl, fun j p h => by simp at h⟩
 | n + 1, h => by
  obtain ⟨l, hl, hq⟩ := Kh Q n (fun j hj => h j (by omega))
  obtain ⟨p, hp⟩ := h n (by omega)
  refine ⟨l ++ [p], by simp [hl], fun j q hj => ?_⟩
  rcases Nat.lt_or_ge j n with hjn | hjn
  ·rw [List.getElem?_append_left (by omega)] at hj
   exact hq j q hj
  ·have : j = n := by
    have := (List.getElem?_eq_some_iff.1 hj).1
    simp [hl] at this
    omega
   subst this
   rw [List.getElem?_append_right (by omega)] at hj
   simp [hl] at hj
   subst hj
   exact hp
def Sm (cs cs' : List Value) : Prop := cs'.length = cs.length ∧ ∀ (i : Nat) (u : Value), cs[i]? = some u → ∃ u' : Value, cs'[i]? = some u' ∧ yt u u'
theorem Mk.R {α : Type} {d : Kd α} {s : α → α → Prop} {w W : World} {P ok : Nat → Prop} {base e : Nat} {v : Value} {xs : List α} (h : Mk w W P) (hok : ∀ k, ok k → P k) (hr : d.R e w base ok v xs)
  (hs : ∀ x, x ∈ xs → ∀ ok' : Nat → Prop, (∀ k, ok' k → P k) → ∀ cs cs', d.M w base ok' x cs → Sm cs cs' → ∃ x', s x x' ∧ d.M W base ok' x' cs') :
  ∃ xs', xs'.length = xs.length ∧ (∀ (j : Nat) (x x' : α), xs[j]? = some x → xs'[j]? = some x' → s x x') ∧ d.R e W base ok v xs' := by
 obtain ⟨h0, inner, ho, hi⟩ := hr
 obtain ⟨inner', ho', hl', he'⟩ := h.own ho (fun k hk => hok k (h0 k hk))
 have step : ∀ j, j < xs.length → ∃ x', (∀ x, xs[j]? = some x → s x x') ∧ d.M W base (fun k => ok k ∧ some k ≠ v.ownBlock) x' ((inner'.drop (j * d.sz)).take d.sz) := by
  intro j hj
  have hm := hi.2 j _ (List.getElem?_eq_getElem hj)
  obtain ⟨x', hx', hM⟩ := hs xs[j] (List.getElem_mem hj) (fun k => ok k ∧ some k ≠ v.ownBlock) (fun k hk => hok k hk.1) _ ((inner'.drop (j * d.sz)).take d.sz) hm ⟨by simp [hl'], fun i u hu => by
   rw [List.getElem?_take] at hu
   split at hu
   case isFalse => cases hu
   case isTrue hlt =>
    rw [List.getElem?_drop] at hu
    obtain ⟨u', hu', q⟩ := he' _ u hu
    exact ⟨u', by rw [List.getElem?_take, if_pos hlt, List.getElem?_drop]; exact hu', q⟩⟩
  exact ⟨x', fun x hx => by rw [List.getElem?_eq_getElem hj] at hx; cases hx; exact hx', hM⟩
 obtain ⟨xs', hl, hq⟩ := Kh (fun j x' => (∀ x, xs[j]? = some x → s x x') ∧ d.M W base (fun k => ok k ∧ some k ≠ v.ownBlock) x' ((inner'.drop (j * d.sz)).take d.sz)) xs.length step
 refine ⟨xs', hl, fun j x x' hx hx' => (hq j x' hx').1 x hx, h0, inner', ?_, ?_⟩
 ·rw [hl]; exact ho'
 ·exact ⟨by rw [hl', hi.1, hl], fun j p hj => (hq j p hj).2⟩
theorem Mk.MF {w W : World} {P ok : Nat → Prop} {kd : IntKind} {base e : Nat} {v : Value} {xs : List Int} (h : Mk w W P) (hok : ∀ k, ok k → P k) (hr : (Kd.int kd).R e w base ok v xs) :
  ∃ xs', xs'.length = xs.length ∧ (Kd.int kd).R e W base ok v xs' := by
 obtain ⟨xs', hl, _, h2⟩ := Mk.R (s := fun _ _ => True) h hok hr (fun x _ ok' _ cs cs' hm hsm => by
  have hm' : cs = [.int kd x] := hm
  subst hm'
  obtain ⟨hl, he⟩ := hsm
  obtain ⟨u', hu', q⟩ := he 0 _ rfl
  have : cs' = [u'] := by
   match cs', hl, hu' with
   | [z], _, hz => simp at hz; rw [hz]
  subst this
  rcases q with q | ⟨k, a, b, e1, e2⟩ | ⟨a, b, e1, _⟩
  ·exact ⟨x, trivial, by rw [← q]; exact hm⟩
  ·injection e1 with e3 e4
   subst e3
   exact ⟨b, trivial, by rw [e2]; rfl⟩
  ·cases e1)
 exact ⟨xs', hl, h2⟩
theorem zS {x : Int} (h0 : -9223372036854775808 ≤ x) (h1 : x ≤ 9223372036854775807) : wrap64 x = x := by
 unfold wrap64
 omega
theorem yt.slice {A : Option Addr} {n c : Nat} {u : Value} (h : yt (.slice A n c) u) : u = .slice A n c := by
 rcases h with h | ⟨k, a, b, e1, _⟩ | ⟨a, b, e1, _⟩
 ·exact h.symm
 ·cases e1
 ·cases e1
theorem yt.bool {x : Bool} {u : Value} (h : yt (.bool x) u) : ∃ y, u = .bool y := by
 rcases h with h | ⟨k, a, b, e1, _⟩ | ⟨a, b, e1, e2⟩
 ·exact ⟨x, h.symm⟩
 ·cases e1
 ·exact ⟨b, e2⟩
theorem yt.int {q : IntKind} {x : Int} {u : Value} (h : yt (.int q x) u) : ∃ y, u = .int q y := by
 rcases h with h | ⟨k, a, b, e1, e2⟩ | ⟨a, b, e1, _⟩
 ·exact ⟨x, h.symm⟩
 ·injection e1 with e3 e4
  subst e3
  exact ⟨b, e2⟩
 ·cases e1
theorem Mk.cell {w W : World} {P : Nat → Prop} (h : Mk w W P) {g j : Nat} {u : Value} (hc : w.cell? ⟨g, j, none⟩ = some u) : ∃ u', W.cell? ⟨g, j, none⟩ = some u' ∧ yt u u' := by
 have hlt := World.block_lt_of_cell? w _ hc
 by_cases hP : P g
 ·have hc0 := hc
  unfold World.cell? at hc
  split at hc
  case h_1 c e fz hh =>
   simp at hc
   obtain ⟨c', h1, _, he⟩ := h.same g hlt hP _ _ _ hh
   obtain ⟨u', hu', q⟩ := he j u hc
   exact ⟨u', by simp [World.cell?, h1, hu'], q⟩
  case h_2 => cases hc
 ·exact ⟨u, cell_kept hc h.kept hP, .inl rfl⟩
theorem Mk.frz {w W : World} {P : Nat → Prop} (h : Mk w W P) {g j : Nat} {u : Value} (hc : w.cell? ⟨g, j, none⟩ = some u) (hf : w.frozen? ⟨g, j, none⟩ = false) : W.frozen? ⟨g, j, none⟩ = false := by
 have hlt := World.block_lt_of_cell? w _ hc
 by_cases hP : P g
 ·unfold World.cell? at hc
  split at hc
  case h_1 c e fz hh =>
   obtain ⟨c', h1, _, _⟩ := h.same g hlt hP _ _ _ hh
   simp only [World.frozen?, hh] at hf
   simp only [World.frozen?, h1]
   exact hf
  case h_2 => cases hc
 ·have := h.kept.2 g hlt hP
  simp only [World.frozen?] at hf ⊢
  rw [this]
  exact hf
theorem Mk.newer {w0 w W : World} {P : Nat → Prop} (hb : Below w0.heap.size w0 w) (h : Mk w W P) (hP : ∀ k, P k → k < w0.heap.size) : Mk w0 W P := by
 refine ⟨h.os.trans hb.os, h.tape.trans hb.tape, h.output.trans hb.output, ⟨Nat.le_trans hb.size h.kept.1, fun i hi hn => (h.kept.2 i (Nat.lt_of_lt_of_le hi hb.size) hn).trans (hb.block i hi)⟩, fun b hbl hp cells e fz hc => h.same b (Nat.lt_of_lt_of_le hbl hb.size) hp cells e fz ((hb.block b hbl).trans hc)⟩
theorem Dg {α β : Type} {xs ys : List α} (f : α → β) (hl : ys.length = xs.length) (h : ∀ (j : Nat) (x y : α), xs[j]? = some x → ys[j]? = some y → f x = f y) : xs.map f = ys.map f := by
 apply List.ext_getElem?
 intro j
 rw [List.getElem?_map, List.getElem?_map]
 rcases Nat.lt_or_ge j xs.length with hj | hj
 ·have hj' : j < ys.length := by omega
  rw [List.getElem?_eq_getElem hj, List.getElem?_eq_getElem hj', Option.map_some, Option.map_some, h j _ _ (List.getElem?_eq_getElem hj) (List.getElem?_eq_getElem hj')]
 ·rw [List.getElem?_eq_none hj, List.getElem?_eq_none (by omega)]
theorem vQ {α : Type} (f : α → Nat) : ∀ (l : List α) (n : Nat), ((l.take n).map f).sum ≤ (l.map f).sum
 | [], n => by simp
 | x :: xs, 0 => by simp
 | x :: xs, n + 1 => by
  have := vQ f xs n
  simp only [List.take_succ_cons, List.map_cons, List.sum_cons]
  omega
theorem y5 {α : Type} (f : α → Nat) (l : List α) (n : Nat) (h : n < l.length) : ((l.take (n + 1)).map f).sum = ((l.take n).map f).sum + f l[n] := by
 rw [List.take_succ_eq_append_getElem h, List.map_append, List.sum_append]
 simp
theorem Kd.U9 {α : Type} {d : Kd α} {e base : Nat} {ok : Nat → Prop} {w : World} {v : Value} {xs : List α} (hE : d.E = []) (h : d.R e w base ok v xs) : d.R e w base (fun k => ok k ∧ some k = v.ownBlock) v xs :=
  Kd.dF (Kd.Ay hE h) (fun k hk => ⟨h.1 k hk.symm, hk⟩)
def Kd.agh {α : Type} (e : Nat) (d : Kd α) : Kd (List α) where
  sz := 1
  E := e :: d.E
  K := (Kd.slice e d).K
  M := fun w base ok xs cs => ∃ v, cs = [v] ∧ Kd.S d e w base ok v xs
  oF := (Kd.slice e d).oF
  nU := (Kd.slice e d).nU
  lS := (Kd.slice e d).lS
  jm := by
    rintro w base ok x cs ⟨v, rfl, h⟩
    exact (Kd.slice e d).jm ⟨v, rfl, Kd.QO h⟩
  gJ := by
    rintro w base ok ok' x cs hok ⟨v, rfl, h⟩
    exact ⟨v, rfl, Kd.iA h hok⟩
  jo := by
    rintro w base ok x cs ⟨v, rfl, h⟩
    exact ⟨v, rfl, Kd.Az h⟩
  lq := by
    rintro w w1 base ok x cs hm ⟨v, rfl, h⟩
    exact ⟨v, rfl, Kd.agi h hm⟩
  lT := by
    rintro w base base' ok x cs hb ⟨v, rfl, h⟩
    exact ⟨v, rfl, Kd.vL h hb⟩
def Kd.anp {α β : Type} (a : Kd α) (b : Kd β) : Kd (α × β) where
  sz := a.sz + b.sz
  E := a.E ++ b.E
  K := (Kd.pair a b).K
  M := fun w base ok x cs => ∃ (oka : Nat → Prop) (c0 c1 : List Value), cs = c0 ++ c1 ∧ a.M w base (fun k => ok k ∧ oka k) x.1 c0 ∧ b.M w base (fun k => ok k ∧ ¬ oka k) x.2 c1
  oF := (Kd.pair a b).oF
  nU := (Kd.pair a b).nU
  lS := (Kd.pair a b).lS
  jm := by
    rintro w base ok x cs ⟨oka, c0, c1, rfl, h0, h1⟩
    exact ⟨c0, c1, rfl, a.jm h0, b.jm h1⟩
  gJ := by
    rintro w base ok ok' x cs hok ⟨oka, c0, c1, rfl, h0, h1⟩
    exact ⟨oka, c0, c1, rfl, a.gJ (fun k hk => ⟨hok k hk.1, hk.2⟩) h0, b.gJ (fun k hk => ⟨hok k hk.1, hk.2⟩) h1⟩
  jo := by
    rintro w base ok x cs ⟨oka, c0, c1, rfl, h0, h1⟩
    refine ⟨oka, c0, c1, rfl, a.gJ ?_ (a.jo h0), b.gJ ?_ (b.jo h1)⟩
    · rintro k ⟨h2, h3, h4, q, hq, hc⟩
      exact ⟨⟨h2.1, h3, h4, q, List.mem_append_left _ hq, hc⟩, h2.2⟩
    · rintro k ⟨h2, h3, h4, q, hq, hc⟩
      exact ⟨⟨h2.1, h3, h4, q, List.mem_append_right _ hq, hc⟩, h2.2⟩
  lq := by
    rintro w w1 base ok x cs hm ⟨oka, c0, c1, rfl, h0, h1⟩
    exact ⟨oka, c0, c1, rfl, a.lq (fun k hk => hm k hk.1) h0, b.lq (fun k hk => hm k hk.1) h1⟩
  lT := by
    rintro w base base' ok x cs hb ⟨oka, c0, c1, rfl, h0, h1⟩
    exact ⟨oka, c0, c1, rfl, a.lT hb h0, b.lT hb h1⟩
theorem Kd.anq {α : Type} {d d' : Kd α} (hs : d.sz = d'.sz) (h : ∀ w base ok x cs, d.M w base ok x cs → d'.M w base ok x cs) {e : Nat} {w : World} {base : Nat} {ok : Nat → Prop} {v : Value} {xs : List α} (hr : Kd.S d e w base ok v xs) : Kd.S d' e w base ok v xs := by
  obtain ⟨f, hr⟩ := hr
  exact ⟨f, Kd.PI (d := Kd.tag f d) (d' := Kd.tag f d') hs (fun w base ok x cs hp => h _ _ _ _ _ hp) hr⟩
theorem Kd.U_ {α β : Type} (e : Nat) {G : Kd α → Kd β} (hG : Kd.vY G) : Kd.vY (fun d => Kd.agh e (G d)) := by
  refine ⟨fun _ _ _ => rfl, ?_, ?_⟩
  · rintro d d' hs h w x cs ⟨A, c, rfl, hl, hr⟩
    exact ⟨A, c, rfl, hl, Kd.aaM (hG.sz d d' hs) (hG.K d d' hs h) hr⟩
  · rintro d d' hs h w base ok x cs ⟨v, rfl, hr⟩
    exact ⟨v, rfl, Kd.anq (hG.sz d d' hs) (hG.M d d' hs h) hr⟩
theorem Kd.XJ {α β γ : Type} {G : Kd α → Kd β} {H : Kd α → Kd γ} (hG : Kd.vY G) (hH : Kd.vY H) : Kd.vY (fun d => Kd.anp (G d) (H d)) := by
  refine ⟨fun d d' hs => ?_, ?_, ?_⟩
  · show (G d).sz + (H d).sz = (G d').sz + (H d').sz
    rw [hG.sz d d' hs, hH.sz d d' hs]
  · rintro d d' hs h w x cs ⟨c0, c1, rfl, h0, h1⟩
    exact ⟨c0, c1, rfl, hG.K d d' hs h _ _ _ h0, hH.K d d' hs h _ _ _ h1⟩
  · rintro d d' hs h w base ok x cs ⟨oka, c0, c1, rfl, h0, h1⟩
    exact ⟨oka, c0, c1, rfl, hG.M d d' hs h _ _ _ _ _ h0, hH.M d d' hs h _ _ _ _ _ h1⟩
theorem Kd.O3 {α : Type} {F : Kd α → Kd α} {sz : Nat} {E : List Nat} {hs : ∀ n, (Kd.upto F sz E n).sz = sz} {hE : ∀ n q, q ∈ (Kd.upto F sz E n).E → q ∈ E} (hm : Kd.vY F) {e : Nat} {w : World} {base : Nat} {ok : Nat → Prop} {v : Value} {xs : List α} (h : Kd.S (Kd.fix F sz E hs hE) e w base ok v xs) : ∃ n, Kd.S (Kd.upto F sz E n) e w base ok v xs := by
  obtain ⟨f, h0, inner, ho, hr⟩ := h
  obtain ⟨N, hN⟩ := Kd.Fs (R := fun n (p : α × Nat) c => (Kd.upto F sz E n).M w base (fun k => (ok k ∧ some k ≠ v.ownBlock) ∧ f k = p.2) p.1 c) (fun n m p c hnm hp => Kd.Jz hm hs hnm hp) hr
  refine ⟨N, f, h0, inner, ?_, ?_⟩
  · show w.ownsRow base e (Kd.upto F sz E N).sz v xs.zipIdx.length inner
    rw [hs N]; exact ho
  · show iR _ (Kd.upto F sz E N).sz _ _
    rw [hs N]; exact hN
theorem Kd.aef {α : Type} {F : Kd α → Kd α} {sz : Nat} {E : List Nat} {hs : ∀ n, (Kd.upto F sz E n).sz = sz} {hE : ∀ n q, q ∈ (Kd.upto F sz E n).E → q ∈ E} {n e : Nat} {w : World} {base : Nat} {ok : Nat → Prop} {v : Value} {xs : List α} (h : Kd.S (Kd.upto F sz E n) e w base ok v xs) : Kd.S (Kd.fix F sz E hs hE) e w base ok v xs :=
  Kd.anq (d' := Kd.fix F sz E hs hE) (hs n) (fun w base ok x cs hp => (⟨n, hp⟩ : ∃ n, (Kd.upto F sz E n).M w base ok x cs)) h
def D46 (d : Kd dR) : Kd dR := Kd.U7 (Kd.anp (Kd.slice 5 (Kd.int .u8)) (Kd.pair Kd.bool (Kd.pair (Kd.int .i64) (Kd.agh 46 d)))) (fun x : dR => (x.f0, x.f1, x.f2, x.f3))
theorem aj0 : Kd.vY D46 := Kd.U8 _ (Kd.XJ (Kd.vo _) (Kd.zR (Kd.vo _) (Kd.zR (Kd.vo _) (Kd.U_ 46 Kd.aaH))))
theorem ap9 : Kd.Sub D46 [5, 46] := by
  intro d h q hq
  have hq' : q ∈ [5] ++ ([] ++ ([] ++ (46 :: d.E))) := hq
  simp only [List.nil_append, List.mem_append, List.mem_cons, List.not_mem_nil, or_false] at hq'
  rcases hq' with rfl | rfl | hq'
  · exact .head _
  · exact .tail _ (.head _)
  · exact h q hq'
theorem anr : ∀ n, (Kd.upto D46 4 [5, 46] n).sz = 4 := Kd.aaI (fun _ => rfl)
def yu : Kd dR := Kd.fix D46 4 [5, 46] anr (Kd.XF ap9)
theorem XK {w : World} {base : Nat} {ok : Nat → Prop} {x : dR} {cs : List Value} (h : yu.M w base ok x cs) : ∃ (oka : Nat → Prop) (v0 v3 : Value), cs = [v0, .bool x.f1, .int .i64 x.f2, v3] ∧ (Kd.int .u8).R 5 w base (fun k => ok k ∧ oka k) v0 x.f0 ∧ Kd.S yu 46 w base (fun k => ok k ∧ ¬ oka k) v3 x.f3 := by
  obtain ⟨n, h⟩ := h
  cases n with
  | zero => exact h.elim
  | succ n =>
    obtain ⟨oka, _, _, rfl, ⟨v0, rfl, g0⟩, ⟨_, _, rfl, rfl, ⟨_, _, rfl, rfl, ⟨v3, rfl, g3⟩⟩⟩⟩ := h
    exact ⟨oka, v0, v3, rfl, g0, Kd.aef g3⟩
theorem Va (w : World) (base : Nat) (ok oka : Nat → Prop) (x : dR) {v0 : Value} (g0 : (Kd.int .u8).R 5 w base (fun k => ok k ∧ oka k) v0 x.f0) {v3 : Value} (g3 : Kd.S yu 46 w base (fun k => ok k ∧ ¬ oka k) v3 x.f3) : yu.M w base ok x [v0, .bool x.f1, .int .i64 x.f2, v3] := by
  obtain ⟨n3, q3⟩ := Kd.O3 aj0 g3
  exact ⟨n3 + 1, oka, [v0], [.bool x.f1, .int .i64 x.f2, v3], rfl, ⟨v0, rfl, g0⟩, ⟨[.bool x.f1], [.int .i64 x.f2, v3], rfl, rfl, ⟨[.int .i64 x.f2], [v3], rfl, rfl, ⟨v3, rfl, q3⟩⟩⟩⟩
theorem Vb (w : World) (base : Nat) (ok : Nat → Prop) (x : dR) {v0 : Value} (g0 : (Kd.int .u8).R 5 w base ok v0 x.f0) {v3 : Value} (g3 : Kd.S yu 46 w base (fun k => ok k ∧ some k ≠ v0.ownBlock) v3 x.f3) : yu.M w base ok x [v0, .bool x.f1, .int .i64 x.f2, v3] :=
  Va w base ok (fun k => some k = v0.ownBlock) x (Kd.U9 rfl g0) g3
theorem aj1 (n : Nat) : ∀ {w : World} {base : Nat} {ok : Nat → Prop} {x : dR} {cs : List Value}, (Kd.upto D46 4 [5, 46] n).M w base ok x cs → (Kd.upto F46 4 [5, 46] n).M w base ok x cs := by
  induction n with
  | zero => intro _ _ _ _ _ h; exact h.elim
  | succ n ih =>
    intro w base ok x cs h
    obtain ⟨oka, _, _, rfl, ⟨v0, rfl, g0⟩, ⟨_, _, rfl, rfl, ⟨_, _, rfl, rfl, ⟨v3, rfl, g3⟩⟩⟩⟩ := h
    exact ⟨[v0], [.bool x.f1, .int .i64 x.f2, v3], rfl, ⟨v0, rfl, Kd.dF g0 (fun _ hk => hk.1)⟩, ⟨[.bool x.f1], [.int .i64 x.f2, v3], rfl, rfl, ⟨[.int .i64 x.f2], [v3], rfl, rfl, ⟨v3, rfl, Kd.PI (d' := Kd.upto F46 4 [5, 46] n) ((anr n).trans (ajX n).symm) (fun _ _ _ _ _ hp => ih hp) (Kd.dF (Kd.QO g3) (fun _ hk => hk.1))⟩⟩⟩⟩
theorem ap_ {e : Nat} {w : World} {base : Nat} {ok : Nat → Prop} {v : Value} {xs : List dR} (h : Kd.S yu e w base ok v xs) : qp.R e w base ok v xs :=
  Kd.PI (d := yu) (d' := qp) rfl (fun _ _ _ _ _ hp => by obtain ⟨n, hp⟩ := hp; exact ⟨n, aj1 n hp⟩) (Kd.QO h)
theorem Kd.oQ {α : Type} {d : Kd α} {e base g n c : Nat} {ok : Nat → Prop} {W : World} {ad : Addr} {xs : List α} (h : Kd.V d e W base ok (.slice (some ad) n c) xs) (hs : 0 < d.sz) (hn : 0 < xs.length) (hok : ∀ k, ok k → k ≠ g) : ad.block ≠ g := by
  obtain ⟨ad', _, he, _, _, _, hin⟩ := Kd.ant (Kd.Vd h) (xs[0]'hn) 0 (by omega) (by have := (Kd.Ey h).1; omega)
  injection he with he
  subst he
  exact hok _ (hin hs)
def lY (W : World) (base : Nat) (ok : Nat → Prop) (v0 v3 : Value) (l0 : List Int) (l3 : List dR) : Prop := Kd.R (Kd.int .u8) 5 W base ok v0 l0 ∧ Kd.R qp 46 W base ok v3 l3
def oP (W : World) (base : Nat) (ok : Nat → Prop) (v0 v3 : Value) (l0 : List Int) (l3 : List dR) : Prop := ∃ oka : Nat → Prop, Kd.R (Kd.int .u8) 5 W base (fun k => ok k ∧ oka k) v0 l0 ∧ Kd.S yu 46 W base (fun k => ok k ∧ ¬ oka k) v3 l3
section
variable {W W1 Wp : World} {base n0 n3 c0 c3 : Nat} {ok ok' ok0 ok3 P : Nat → Prop} {v0 v3 : Value} {l0 : List Int} {l3 : List dR} {A0 A3 : Option Addr} {p : Addr}
theorem lY.of (h0 : Kd.R (Kd.int .u8) 5 W Wp.heap.size ok0 v0 l0) (h3 : Kd.R qp 46 W Wp.heap.size ok3 v3 l3) (hb : base ≤ Wp.heap.size) (hok : ∀ k, Wp.heap.size ≤ k → k < W.heap.size → ok k) : lY W base ok v0 v3 l0 l3 :=
  ⟨Kd.iE (Kd.dF (Kd.jY h0) (fun k h => hok k h.2.1 h.2.2.1)) hb, Kd.iE (Kd.dF (Kd.jY h3) (fun k h => hok k h.2.1 h.2.2.1)) hb⟩
theorem oP.of (h0 : Kd.R (Kd.int .u8) 5 W Wp.heap.size ok0 v0 l0) (h3 : Kd.S yu 46 W Wp.heap.size (fun k => some k ≠ v0.ownBlock) v3 l3) (hb : base ≤ Wp.heap.size) (hok : ∀ k, Wp.heap.size ≤ k → k < W.heap.size → ok k) : oP W base ok v0 v3 l0 l3 :=
  ⟨fun k => some k = v0.ownBlock, Kd.iE (Kd.dF (Kd.U9 rfl (Kd.jY h0)) (fun k h => ⟨hok k h.1.2.1 h.1.2.2.1, h.2⟩)) hb, Kd.vL (Kd.iA (Kd.Az h3) (fun k h => ⟨hok k h.2.1 h.2.2.1, h.1⟩)) hb⟩
theorem oP.tr (h : oP W base ok v0 v3 l0 l3) : lY W base ok v0 v3 l0 l3 := by
  obtain ⟨_, h0, h3⟩ := h
  exact ⟨Kd.dF h0 (fun _ h => h.1), Kd.dF (ap_ h3) (fun _ h => h.1)⟩
theorem lY.step (h : lY W base ok v0 v3 l0 l3) (hm : ∀ k, ok k → k < W.heap.size → W1.heap[k]? = W.heap[k]?) : lY W1 base ok v0 v3 l0 l3 := ⟨Kd.vk h.1 hm, Kd.vk h.2 hm⟩
theorem oP.step (h : oP W base ok v0 v3 l0 l3) (hm : ∀ k, ok k → k < W.heap.size → W1.heap[k]? = W.heap[k]?) : oP W1 base ok v0 v3 l0 l3 := by
  obtain ⟨oka, h0, h3⟩ := h
  exact ⟨oka, Kd.vk h0 (fun k hk => hm k hk.1), Kd.QX h3 (fun k hk => hm k hk.1)⟩
theorem lY.below (h : lY W base ok v0 v3 l0 l3) (hb : Below W.heap.size W W1) : lY W1 base ok v0 v3 l0 l3 := h.step (fun k _ hk => hb.block k hk)
theorem oP.below (h : oP W base ok v0 v3 l0 l3) (hb : Below W.heap.size W W1) : oP W1 base ok v0 v3 l0 l3 := h.step (fun k _ hk => hb.block k hk)
theorem lY.drew (h : lY W base ok v0 v3 l0 l3) : lY W.drew base ok v0 v3 l0 l3 := h.step (fun _ _ _ => rfl)
theorem oP.drew (h : oP W base ok v0 v3 l0 l3) : oP W.drew base ok v0 v3 l0 l3 := h.step (fun _ _ _ => rfl)
theorem lY.drewN (h : lY W base ok v0 v3 l0 l3) (m : Nat) : lY (W.drewN m) base ok v0 v3 l0 l3 := h.step (fun _ _ _ => rfl)
theorem oP.drewN (h : oP W base ok v0 v3 l0 l3) (m : Nat) : oP (W.drewN m) base ok v0 v3 l0 l3 := h.step (fun _ _ _ => rfl)
theorem lY.far (h : lY W base ok v0 v3 l0 l3) (hne : ∀ k, ok k → k ≠ p.block) (u : Value) : lY (W.setCell p u) base ok v0 v3 l0 l3 := h.step (fun k ho _ => Below.heap_setCell W p u k (hne k ho))
theorem oP.far (h : oP W base ok v0 v3 l0 l3) (hne : ∀ k, ok k → k ≠ p.block) (u : Value) : oP (W.setCell p u) base ok v0 v3 l0 l3 := h.step (fun k ho _ => Below.heap_setCell W p u k (hne k ho))
theorem lY.kept (h : lY W base ok v0 v3 l0 l3) (hk : Kept W W1 P) (hne : ∀ k, ok k → ¬ P k) : lY W1 base ok v0 v3 l0 l3 := h.step (fun k ho hlt => hk.2 k hlt (hne k ho))
theorem oP.kept (h : oP W base ok v0 v3 l0 l3) (hk : Kept W W1 P) (hne : ∀ k, ok k → ¬ P k) : oP W1 base ok v0 v3 l0 l3 := h.step (fun k ho hlt => hk.2 k hlt (hne k ho))
theorem lY.slices (h : lY W base ok v0 v3 l0 l3) : ∃ A0 c0 A3 c3, v0 = .slice A0 l0.length c0 ∧ v3 = .slice A3 l3.length c3 := by
  obtain ⟨A0, c0, e0⟩ := Kd.eB h.1
  obtain ⟨A3, c3, e3⟩ := Kd.eB h.2
  exact ⟨A0, c0, A3, c3, e0, e3⟩
theorem lY.reads (h : lY W base ok (.slice A0 n0 c0) (.slice A3 n3 c3) l0 l3) : (Kd.int .u8).C W A0 l0.length l0 ∧ l0.length ≤ c0 ∧ Kd.C qp W A3 l3.length l3 ∧ l3.length ≤ c3 ∧ n0 = l0.length ∧ n3 = l3.length := by
  have h0 := Kd.jf h.1
  have h3 := Kd.jf h.2
  exact ⟨h0.2.2, h0.1 ▸ h0.2.1, h3.2.2, h3.1 ▸ h3.2.1, h0.1, h3.1⟩
end
theorem Kd.aaN {W w1 : World} (_h : Below W.heap.size W w1) : ∃ N, N = W.heap.size := ⟨_, rfl⟩
theorem iB {α : Type} {d : Kd α} {e : Nat} {W0 W : World} {base : Nat} {ok : Nat → Prop} {v : Value} {xs : List α} (_h : ai (Kd.V d e W0 base ok v xs)) (f : Kd.V d e W base ok v xs := by ((with_reducible repeat (first | apply Kd.dC | apply Kd.dD | apply Kd.bM)); exact ai.out (by assumption))) : Kd.V d e W base ok v xs := f
theorem vbl {α : Type} {d : Kd α} {e : Nat} {W0 W W1 : World} {base : Nat} {ok : Nat → Prop} {v : Value} {xs : List α} (_h : ai (Kd.V d e W0 base ok v xs)) (hb : Below W.heap.size W W1) (f : Kd.V d e W base ok v xs := by ((with_reducible repeat (first | apply Kd.dC | apply Kd.dD | apply Kd.bM)); exact ai.out (by assumption))) : Kd.V d e W1 base ok v xs := Kd.dL f hb
theorem KV {α : Type} {d : Kd α} {e : Nat} {W0 W : World} {base : Nat} {ok : Nat → Prop} {v : Value} {xs : List α} (_h : ai (Kd.N d e W0 base ok v xs)) (f : Kd.N d e W base ok v xs := by ((with_reducible repeat (first | apply Kd.wM | apply Kd.wN | apply Kd.su)); exact ai.out (by assumption))) : Kd.N d e W base ok v xs := f
theorem agj {w : World} {g q : Nat} {t : TypeId} {cs : Array Value} {x0 x1 x2 x3 : Value} (h : w.heap[g]? = some (.cells cs t (0, 0))) (hq : g ≠ q) : ((((w.setCell ⟨q, 0, none⟩ x0).setCell ⟨q, 1, none⟩ x1).setCell ⟨q, 2, none⟩ x2).setCell ⟨q, 3, none⟩ x3).heap[g]? = some (.cells cs t (0, 0)) := sI (p := ⟨q, 3, none⟩) (sI (p := ⟨q, 2, none⟩) (sI (p := ⟨q, 1, none⟩) (sI (p := ⟨q, 0, none⟩) h hq _) hq _) hq _) hq _
theorem agk {w : World} {q : Nat} {t : TypeId} {y0 y1 y2 y3 x0 x1 x2 x3 : Value} (h : w.heap[q]? = some (.cells #[y0, y1, y2, y3] t (0, 0))) : ((((w.setCell ⟨q, 0, none⟩ x0).setCell ⟨q, 1, none⟩ x1).setCell ⟨q, 2, none⟩ x2).setCell ⟨q, 3, none⟩ x3).heap[q]? = some (.cells #[x0, x1, x2, x3] t (0, 0)) := gq (gq (gq (gq h 0 _ rfl) 1 _ rfl) 2 _ rfl) 3 _ rfl
theorem Kd.iG {α : Type} {d : Kd α} {e base q : Nat} {W : World} {ok : Nat → Prop} {v x0 x1 x2 x3 : Value} {xs : List α} (h : Kd.V d e W base ok v xs) (hn : ∀ k, ok k → k ≠ q) : Kd.V d e ((((W.setCell ⟨q, 0, none⟩ x0).setCell ⟨q, 1, none⟩ x1).setCell ⟨q, 2, none⟩ x2).setCell ⟨q, 3, none⟩ x3) base ok v xs := Kd.lZ (p := ⟨q, 3, none⟩) (Kd.lZ (p := ⟨q, 2, none⟩) (Kd.lZ (p := ⟨q, 1, none⟩) (Kd.lZ (p := ⟨q, 0, none⟩) h hn _) hn _) hn _) hn _
theorem Kd.vZ {α : Type} {d : Kd α} {e base q : Nat} {W : World} {ok : Nat → Prop} {v x0 x1 x2 x3 : Value} {xs : List α} (h : Kd.R d e W base ok v xs) (hn : ∀ k, ok k → k ≠ q) : Kd.R d e ((((W.setCell ⟨q, 0, none⟩ x0).setCell ⟨q, 1, none⟩ x1).setCell ⟨q, 2, none⟩ x2).setCell ⟨q, 3, none⟩ x3) base ok v xs := Kd.nG (p := ⟨q, 3, none⟩) (Kd.nG (p := ⟨q, 2, none⟩) (Kd.nG (p := ⟨q, 1, none⟩) (Kd.nG (p := ⟨q, 0, none⟩) h hn _) hn _) hn _) hn _
theorem Kd.MG {α : Type} {d : Kd α} {e base q : Nat} {W : World} {ok : Nat → Prop} {v x0 x1 x2 x3 : Value} {xs : List α} (h : Kd.S d e W base ok v xs) (hn : ∀ k, ok k → k ≠ q) : Kd.S d e ((((W.setCell ⟨q, 0, none⟩ x0).setCell ⟨q, 1, none⟩ x1).setCell ⟨q, 2, none⟩ x2).setCell ⟨q, 3, none⟩ x3) base ok v xs := Kd.sF (p := ⟨q, 3, none⟩) (Kd.sF (p := ⟨q, 2, none⟩) (Kd.sF (p := ⟨q, 1, none⟩) (Kd.sF (p := ⟨q, 0, none⟩) h hn _) hn _) hn _) hn _
theorem Kd.Cf {α : Type} {d : Kd α} {e base q : Nat} {W : World} {ok : Nat → Prop} {v x0 x1 x2 x3 : Value} {xs : List α} (h : Kd.N d e W base ok v xs) (hn : ∀ k, ok k → k ≠ q) : Kd.N d e ((((W.setCell ⟨q, 0, none⟩ x0).setCell ⟨q, 1, none⟩ x1).setCell ⟨q, 2, none⟩ x2).setCell ⟨q, 3, none⟩ x3) base ok v xs := Kd.PK (p := ⟨q, 3, none⟩) (Kd.PK (p := ⟨q, 2, none⟩) (Kd.PK (p := ⟨q, 1, none⟩) (Kd.PK (p := ⟨q, 0, none⟩) h hn _) hn _) hn _) hn _
theorem lY.DR {W : World} {base q : Nat} {ok : Nat → Prop} {v0 v3 x0 x1 x2 x3 : Value} {l0 : List Int} {l3 : List dR} (h : lY W base ok v0 v3 l0 l3) (hn : ∀ k, ok k → k ≠ q) : lY ((((W.setCell ⟨q, 0, none⟩ x0).setCell ⟨q, 1, none⟩ x1).setCell ⟨q, 2, none⟩ x2).setCell ⟨q, 3, none⟩ x3) base ok v0 v3 l0 l3 := lY.far (p := ⟨q, 3, none⟩) (lY.far (p := ⟨q, 2, none⟩) (lY.far (p := ⟨q, 1, none⟩) (lY.far (p := ⟨q, 0, none⟩) h hn _) hn _) hn _) hn _
theorem oP.DR {W : World} {base q : Nat} {ok : Nat → Prop} {v0 v3 x0 x1 x2 x3 : Value} {l0 : List Int} {l3 : List dR} (h : oP W base ok v0 v3 l0 l3) (hn : ∀ k, ok k → k ≠ q) : oP ((((W.setCell ⟨q, 0, none⟩ x0).setCell ⟨q, 1, none⟩ x1).setCell ⟨q, 2, none⟩ x2).setCell ⟨q, 3, none⟩ x3) base ok v0 v3 l0 l3 := oP.far (p := ⟨q, 3, none⟩) (oP.far (p := ⟨q, 2, none⟩) (oP.far (p := ⟨q, 1, none⟩) (oP.far (p := ⟨q, 0, none⟩) h hn _) hn _) hn _) hn _
theorem ae {p : Prop} (h : p) : ai p := ⟨h⟩
theorem _root_.Go.Proofs.YtmfedjoofnlncaaW.PrintWords.ai.o {p : Prop} (h : ai p) : p := h.out
theorem ni {α β : Type} {x : Option α} {f : α → Option β} {b : β} (h : x.bind f = some b) : ∃ a, ai (x = some a) ∧ f a = some b := by
 obtain ⟨a, h1, h2⟩ := Option.bind_eq_some_iff.mp h; exact ⟨a, ⟨h1⟩, h2⟩
theorem sb_ {α β : Type} {x : α} {f : α → Option β} {b : Option β} (h : (some x).bind f = b) : ∃ y, y = x ∧ f y = b := ⟨x, rfl, h⟩
theorem agl {P : Program} {ops : Array Oper} {Q : Exit → Act → World → Prop} {md : Region.Mode} {S : World → Prop} {ds : List Nat} {σ : Type} {fuel : Nat} {l : Array Bool} {a : Act} {w : World} (fuel' : Nat) (l' : Array Bool) (ns : σ → List (Tmp × Value)) (F : σ → World → Prop) (hc : ∀ s w', S w' ∧ F s w' → bY P md ops Q S ds fuel' l' (Cg a (ns s)) w') (h : (∀ s w', S w' ∧ F s w' → bY P md ops Q S ds fuel' l' (Cg a (ns s)) w') → bY P md ops Q S ds fuel l a w) : bY P md ops Q S ds fuel l a w := avT fuel' l' ns (fun s w' => S w' ∧ F s w') hc h
theorem ps_ {a b : Act} (h : a = b := by simp only [Cg, Act.put, List.setIfInBounds_toArray, List.set_cons_zero, List.set_cons_succ]) : a = b := h
theorem ap' {w : World} {q : Nat} {t : TypeId} {y0 y1 y2 y3 x : Value} (h : w.heap[q]? = some (.cells #[y0, y1, y2, y3] t (0, 0))) : (w.setCell ⟨q, 0, none⟩ x).heap[q]? = some (.cells #[x, y1, y2, y3] t (0, 0)) := gq h 0 _ rfl
theorem aqa {w : World} {q : Nat} {t : TypeId} {y0 y1 y2 y3 x : Value} (h : w.heap[q]? = some (.cells #[y0, y1, y2, y3] t (0, 0))) : (w.setCell ⟨q, 1, none⟩ x).heap[q]? = some (.cells #[y0, x, y2, y3] t (0, 0)) := gq h 1 _ rfl
theorem aqb {w : World} {q : Nat} {t : TypeId} {y0 y1 y2 y3 x : Value} (h : w.heap[q]? = some (.cells #[y0, y1, y2, y3] t (0, 0))) : (w.setCell ⟨q, 2, none⟩ x).heap[q]? = some (.cells #[y0, y1, x, y3] t (0, 0)) := gq h 2 _ rfl
theorem aqc {w : World} {q : Nat} {t : TypeId} {y0 y1 y2 y3 x : Value} (h : w.heap[q]? = some (.cells #[y0, y1, y2, y3] t (0, 0))) : (w.setCell ⟨q, 3, none⟩ x).heap[q]? = some (.cells #[y0, y1, y2, x] t (0, 0)) := gq h 3 _ rfl
theorem oo {p : Prop} (h : p := by repeat (first | (with_reducible first | exact ai.out (by assumption) | refine cu ?_ _ | refine aV ?_ | refine bJ ?_ _ | apply agk | refine agj ?_ (ai.out (by assumption)) | refine sI ?_ (ai.out (by assumption)) _ | apply ap' | apply aqa | apply aqb | apply aqc) | exact ai.out (by assumption))) : p := h
end Go.Proofs.Ytmfedjoofnlncaa.PT
