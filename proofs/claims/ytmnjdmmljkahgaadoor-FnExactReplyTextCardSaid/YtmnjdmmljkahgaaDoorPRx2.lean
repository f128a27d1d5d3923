-- Written for this claim by the session's program pp.py, out of the kit's print and the seat's translation.
import Derived.Test.YtmnjdmmljkahgaaDoorPRx0
import Derived.Test.YtmnjdmmljkahgaaDoorPRx1
namespace Go.Proofs.YtmnjdmmljkahgaaDoor.PR
open Go.RowKit Go.Proofs.YtmnjdmmljkahgaaDoorW.PrintWords Go.Proofs.YtmnjdmmljkahgaaDoorW.PrintLast Go.Proofs.YtmnjdmmljkahgaaDoorW.PrintMore
attribute [local go_sem] max2_int min2_int max_two min_two max_three min_three max_four min_four   -- for this text's walks alone
set_option linter.unusedVariables false
set_option linter.unusedSimpArgs false

/-! ### impl_spaced: function 34 -/
theorem Kd.N_plain {α : Type} {d : Kd α} {e : Nat} {w : World} {base : Nat} {ok : Nat → Prop} {A : Option Addr} {n c : Nat} {xs : List α} (h : Kd.N d e w base ok (.slice A n c) xs) : ∀ ad, A = some ad → ∃ b o, ad = ⟨b, o, none⟩ := by
 rintro ad rfl
 obtain ⟨_, rows, _, hr, _⟩ := h
 obtain ⟨g, hg⟩ := Kd.R_head hr
 exact ⟨g, 0, hg⟩
theorem impl_spaced.holds {w : World} {A : Option Addr} {c : Nat} {q : List Int} (h : Kd.C (Kd.int .u8) w A q.length q) (hq : ∀ z ∈ q, 0 ≤ z ∧ z < 256) : Lib.HoldsBytes w (.slice A q.length c) (Lib.bytesOf q) := by
 have hl : (Lib.bytesOf q).length = q.length := by simp [Lib.bytesOf]
 refine ⟨A, c, by rw [hl], ?_, ?_⟩
 ·rintro rfl
  rcases Nat.eq_zero_or_pos q.length with h0 | h0
  ·exact List.eq_nil_of_length_eq_zero (hl.trans h0)
  ·obtain ⟨_, e, _⟩ := h.2.2 h0
   cases e
 ·rintro a rfl i x hx
  have hi : i < q.length := by
   have := (List.getElem?_eq_some_iff.1 hx).1
   omega
  obtain ⟨ad, e, hc⟩ := h.2.2 (by omega)
  injection e with e
  subst e
  obtain ⟨cs, _, hK, hcell⟩ := hc i _ (List.getElem?_eq_getElem hi)
  have hK2 : cs = [.int .u8 q[i]] := hK
  have := hcell 0 (.int .u8 q[i]) (by rw [hK2]; rfl)
  rw [show (Kd.int .u8).sz = 1 from rfl, Nat.mul_one, Nat.add_zero] at this
  rw [this]
  simp only [Lib.bytesOf, List.getElem?_map, List.getElem?_eq_getElem hi, Option.map_some] at hx
  injection hx with hx
  have hr := hq _ (List.getElem_mem hi)
  rw [← hx]
  congr 2
  simp [UInt8.toNat_ofNat']
  omega
theorem impl_spaced.parts {w : World} {ad : Addr} {l0 : List (List Int)} (h : Kd.C (Kd.slice 5 (Kd.int .u8)) w (some ad) l0.length l0) (hq : ∀ l ∈ l0, ∀ z ∈ l, 0 ≤ z ∧ z < 256) : ∃ vs, Lib.PartsAt w ad vs (l0.map Lib.bytesOf) := by
 obtain ⟨news, hr, hc⟩ := ReadsRow.inner_ h
 have hl : news.length = l0.length := by rw [hr.1]; show _ * 1 = _; rw [Nat.mul_one]
 refine ⟨news, by rw [List.length_map]; exact hl, hc, fun i v l hv hx => ?_⟩
 rw [List.getElem?_map] at hx
 obtain ⟨q, hq2, rfl⟩ := Option.map_eq_some_iff.1 hx
 have h1 := hr.2 i q hq2
 obtain ⟨A, c, he, _, hC⟩ : ∃ A c, (news.drop (i * 1)).take 1 = [.slice A q.length c] ∧ q.length ≤ c ∧ Kd.C (Kd.int .u8) w A q.length q := h1
 have hv2 : (news.drop i)[0]? = some (.slice A q.length c) := by
  rw [Nat.mul_one] at he
  have := congrArg (fun l => l[0]?) he
  simpa using this
 rw [List.getElem?_drop, Nat.add_zero, hv] at hv2
 injection hv2 with hv2
 subst hv2
 exact impl_spaced.holds hC (hq q (List.mem_of_getElem? hq2))
def impl_spaced.f (l0 : List (List Int)) : Option (List Int) := if 2 ≤ l0.length ∧ l0.length ≤ 1000 ∧ Lib.lens (l0.map Lib.bytesOf) ≤ 1000000000 ∧ 0 < (Lib.join (l0.map Lib.bytesOf) [32]).length ∧ ∀ l ∈ l0, ∀ z ∈ l, 0 ≤ z ∧ z < 256 then some ((Lib.join (l0.map Lib.bytesOf) [32]).map (fun b => (b.toNat : Int))) else none
set_option maxHeartbeats 8000000 in
set_option maxRecDepth 100000 in
theorem impl_spaced.calls (A0 : Option Addr) (c0 : Nat) (l0 : List (List Int)) (r : List Int) (w : World) (hr0 : Kd.C (Kd.slice 5 (Kd.int .u8)) w A0 l0.length l0) (hc0 : l0.length ≤ c0) (hA : ∀ ad, A0 = some ad → ∃ b o, ad = ⟨b, o, none⟩) (h : impl_spaced.f l0 = some r) :
  Calls Tryd.prog 34 #[.slice A0 l0.length c0] w fun e w' => ∃ v0_ : Value, e = .returned (v0_) ∧ RMk w' w.heap.size (fun _ => True) v0_ r ∧ Below w.heap.size w w' := by
 unfold impl_spaced.f at h
 by_cases c : 2 ≤ l0.length ∧ l0.length ≤ 1000 ∧ Lib.lens (l0.map Lib.bytesOf) ≤ 1000000000 ∧ 0 < (Lib.join (l0.map Lib.bytesOf) [32]).length ∧ ∀ l ∈ l0, ∀ z ∈ l, 0 ≤ z ∧ z < 256
 ·rw [if_pos c] at h
  obtain rfl := Option.some.inj h
  obtain ⟨c1, c2, c3, c4, c5⟩ := c
  obtain ⟨ad, rfl, _⟩ := hr0.2.2 (by omega)
  obtain ⟨b, o, rfl⟩ := hA _ rfl
  have hb : Below w.heap.size w (w.alloc (.cells #[.int .u8 32] 5)) := below_alloc (Below.refl _ _) _
  obtain ⟨vs, hP⟩ := impl_spaced.parts (Kd.C_below hr0 hb) c5
  have hS : Lib.HoldsBytes (w.alloc (.cells #[.int .u8 32] 5)) (.slice (some ⟨w.heap.size, 0, none⟩) 1 1) [32] := by
   refine ⟨_, 1, rfl, fun e => (by cases e), ?_⟩
   rintro a e i x hx
   injection e with e
   subst e
   match i with
   | 0 =>
    have e2 : x = 32 := by simpa using hx.symm
    subst e2
    rw [add_plain]
    exact (cell_of_row _ _ 0 _ 5 (0, 0) (heap_alloc_new w _)).trans rfl
   | i + 1 => simp at hx
  have HP := Aside0.mk hP
  have HS := Aside0.mk hS
  have A1 := Aside0.mk c1
  have A2 := Aside0.mk c2
  have A3 := Aside0.mk c3
  have A4 := Aside0.mk c4
  have HC := Aside0.mk hc0
  have HW := Aside0.mk hb
  clear hP hS c1 c2 c3 c4 c5 hc0 hr0 hA hb h
  go_enter Tryd.func34, Tryd.ntmps34
  go_wp2_with (first | ((with_reducible refine gate_callee (f := 59) rfl ?_); refine gl_ (some 5) Tryd.func59 #[.slice (some ⟨b, o, none⟩) l0.length c0, .slice (some ⟨w.heap.size, 0, none⟩) 1 1] (h := ?_); (refine (Tryd.bytes_Join_many b o l0.length c0 vs (l0.map Lib.bytesOf) _ [32] _ (by rw [List.length_map]) A1.out HP.out HC.out HS.out (by have := A2.out; omega) (by have := A2.out; have := A3.out; show _ + 1 * _ ≤ _; omega)).mono ?_); rintro e w' ⟨v', rfl, hf, hb2⟩; refine ⟨_, rfl, ?_⟩))
  go_ret
  exact ⟨_, rfl, RMk_lower (RMk_fresh hf A4.out) HW.out.size, HW.out.trans (hb2.mono HW.out.size)⟩
 rw [if_neg c] at h
 exact absurd h (by simp)

/-! ### impl_within: function 38 -/
def impl_within.f (a0 : Int) (a1 : Int) (a2 : Int) : Option (Bool) := if a1 ≤ a0 then (some (decide (a0 ≤ a2))) else (some false)
set_option maxHeartbeats 8000000 in
set_option maxRecDepth 100000 in
theorem impl_within.calls (a0 : Int) (a1 : Int) (a2 : Int) (r : Bool) (w : World) (h : impl_within.f a0 a1 a2 = some r) :
  Calls Tryd.prog 38 #[.int .i64 a0, .int .i64 a1, .int .i64 a2] w fun e w' => e = .returned (.bool r) ∧ Drawn0 w w' := by
 have H : (if a1 ≤ a0 then (some (decide (a0 ≤ a2))) else (some false)) = some r := h
 clear h
 by_cases c4 : a1 ≤ a0
 ·rw [if_pos c4] at H
  have c4b0 : decide (a1 ≤ a0) = true := decide_eq_true c4
  clear c4
  obtain rfl := Option.some.inj H
  go_enter Tryd.func38, Tryd.ntmps38
  go_wp2
  go_ret
  exact ⟨by first | rfl | (simp; done) | (simp [*]; done), by repeat (first | exact Drawn0.refl _ | apply Drawn0.step)⟩
 rw [if_neg c4] at H
 have c4b0 : decide (a1 ≤ a0) = false := decide_eq_false c4
 clear c4
 obtain rfl := Option.some.inj H
 go_enter Tryd.func38, Tryd.ntmps38
 go_wp2
 go_ret
 exact ⟨by first | rfl | (simp; done) | (simp [*]; done), by repeat (first | exact Drawn0.refl _ | apply Drawn0.step)⟩

/-! ### virtual_bytesV: function 135 -/
def virtual_bytesV.f (s : ByteArray) : Option (List Int) := if s.size ≤ 1000000 then some (s.data.toList.map (fun b => (b.toNat : Int))) else none
theorem virtual_bytesV.calls (s : ByteArray) (r : List Int) (w : World) (h : virtual_bytesV.f s = some r) :
  CV w s fun e w' => ∃ v0_ : Value, e = .returned (v0_) ∧ Kd.V (Kd.int .u8) 5 w' w.heap.size (fun k_ => (w.heap.size ≤ k_)) v0_ r ∧ Below w.heap.size w w' := by
 unfold virtual_bytesV.f at h
 by_cases c : s.size ≤ 1000000
 ·rw [if_pos c] at h
  obtain rfl := Option.some.inj h
  exact ⟨_, rfl, Kd.V_bytes w s c, RM_bel w 5 s⟩
 rw [if_neg c] at h
 exact absurd h (by simp)

/-! ### impl_ReplyText: function 23 -/
def impl_ReplyText.j0 : Nat → Bool → Int → Int → Option (List Int)
 | 0, _, _, _ => none
 | k + 1, x12, x146000, x146001 => if x12 = true then (some ([] : List Int)) else ((some (([(⟨#[119, 101, 108, 108]⟩ : ByteArray), (⟨#[110, 111, 110, 101]⟩ : ByteArray), (⟨#[104, 101, 108, 100]⟩ : ByteArray), (⟨#[116, 117, 114, 110, 101, 100]⟩ : ByteArray), (⟨#[102, 117, 108, 108]⟩ : ByteArray), (⟨#[111, 108, 100]⟩ : ByteArray)] : List ByteArray) : List ByteArray)).bind fun y148 => (if 0 ≤ x146000 then (if x146000 < (y148.length : Int) then ((virtual_bytesV.f (rdOf ByteArray.empty y148 x146000)).bind fun t152 => ((impl_decimal.f x146001).bind fun t155 => ((impl_spaced.f (([t152, t155] : List (List Int)))).bind fun t161 => (some t161)))) else (none)) else (none)))
def impl_ReplyText.f (k : Nat) (a0_0 : Int) (a0_1 : Int) : Option (List Int) := (impl_within.f a0_0 0 5).bind fun t146 => (if t146 = true then ((impl_within.f a0_1 0 1000000).bind fun t147 => (impl_ReplyText.j0 k (!t147) a0_0 a0_1)) else (impl_ReplyText.j0 k true a0_0 a0_1))
def impl_ReplyText.T3 : Bool × List (List Nat × List Nat) := (true, [([], []), ([], []), ([1], [1]), ([0, 2], [0, 2]), ([3], [3]), ([4], [4]), ([], []), ([6], [6]), ([7], [7]), ([5, 8], [5, 8]), ([9, 8], [9]), ([10, 10, 0, 1, 2, 3, 4, 5, 6, 7, 8, 9, 10], [10])])
def impl_ReplyText.B3 : List Nat := [0, 0, 2, 7, 15, 31, 0, 64, 192, 511, 1023, 2047]
theorem impl_ReplyText.tab3 : rtab .any (opsOf Tryd.f23 3) = impl_ReplyText.T3 := by kernel_rfl
theorem impl_ReplyText.bits3 : waitsOk impl_ReplyText.T3.2 impl_ReplyText.B3 = true := by kernel_rfl
set_option maxHeartbeats 8000000 in
set_option maxRecDepth 100000 in
theorem impl_ReplyText.calls (k : Nat) (a0_0 : Int) (a0_1 : Int) (r : List Int) (w : World) (htab : Lib.TabIs Tryd.prog w "internal/strconv.uint64pow10" .u64 Lib.pow10Tab) (h : impl_ReplyText.f k a0_0 a0_1 = some r) :
  Calls Tryd.prog 23 #[.agg #[.int .i64 a0_0, .int .i64 a0_1]] w fun e w' => ∃ v0_ : Value, e = .returned (v0_) ∧ RMk w' w.heap.size (fun _ => True) v0_ r ∧ Below w.heap.size w w' := by
 have HTAB := Aside0.mk htab
 clear htab
 have hu40 := Tryd.underlying40
 have HB := Aside0.mk (Below.refl w.heap.size w)
 have H : ((impl_within.f a0_0 0 5).bind fun t146 => (if t146 = true then ((impl_within.f a0_1 0 1000000).bind fun t147 => (impl_ReplyText.j0 k (!t147) a0_0 a0_1)) else (impl_ReplyText.j0 k true a0_0 a0_1))) = some r := h
 clear h
 have HC2 := Aside0.mk H
 clear H
 go_enter Tryd.func23, Tryd.ntmps23
 go_upto_region 1 with (first | ((with_reducible refine gate_dst (N := 1) rfl ?_); refine bx_ 1 #[.int .i64 a0_0, .int .i64 a0_1] 40 (h := ?_); intro gb145 hg w3 hbox hb; have BK145 := Aside0.mk (hbox); have GW145 := Aside0.mk ((by rw [hg]; exact (below_size bel) : w.heap.size ≤ gb145)); have GE145 := GW145; replace HB := bst hb; clear hb hbox hg))
 (try simp only [Act.put, List.setIfInBounds_toArray, List.set_cons_zero, List.set_cons_succ])
 go_cut [12] (fun v12 wc => ∃ (kq : Nat) (x12_1 : Bool), v12 = .bool x12_1 ∧ Aside0 (impl_ReplyText.j0 kq x12_1 a0_0 a0_1 = some r) ∧ Aside0 (kq ≤ k) ∧ Aside0 (wc.heap[gb145]? = some (.cells #[.int .i64 a0_0, .int .i64 a0_1] 40 (0, 0))) ∧ Aside0 (Below w.heap.size w wc))
 case first =>
  have H := HC2.out
  clear HC2
  replace H := Option.bind_eq_some_iff.mp H
  obtain ⟨t146, A40, H⟩ := H
  replace H : (if t146 = true then ((impl_within.f a0_1 0 1000000).bind fun t147 => (impl_ReplyText.j0 k (!t147) a0_0 a0_1)) else (impl_ReplyText.j0 k true a0_0 a0_1)) = some r := H
  have A4 := Aside0.mk A40
  clear A40
  by_cases c5 : t146 = true
  ·subst c5
   have H1 : ((impl_within.f a0_1 0 1000000).bind fun t147 => (impl_ReplyText.j0 k (!t147) a0_0 a0_1)) = some r := by rw [if_pos rfl] at H; exact H
   clear H
   have H := H1
   clear H1
   replace H := Option.bind_eq_some_iff.mp H
   obtain ⟨t147, A60, H⟩ := H
   replace H : (impl_ReplyText.j0 k (!t147) a0_0 a0_1) = some r := H
   have A6 := Aside0.mk A60
   clear A60
   have H' := Aside0.mk H
   clear H
   obtain ⟨C7_0, C7_1, -⟩ := cells_2 BK145.out trivial
   obtain ⟨F7_0, F7_1, -⟩ := frz_2 BK145.out
   go_wp2_with (first | ((with_reducible refine gate_callee (f := 38) rfl ?_); refine gl_ (some 5) Tryd.func38 #[.int .i64 a0_0, .int .i64 0, .int .i64 5] (h := ?_); (with_reducible refine (impl_within.calls a0_0 0 5 true _ A4.out).mono ?_); rintro e w' ⟨rfl, ⟨nd, rfl⟩⟩; refine ⟨_, rfl, ?_⟩) | (go_at_call 38; (with_reducible refine (impl_within.calls a0_1 0 1000000 t147 _ A6.out).mono ?_); rintro e w' ⟨rfl, ⟨nd, rfl⟩⟩))
   go_meet
   case rel => exact ⟨_, (!t147), rs_, H', ⟨by first | omega | exact Nat.le_refl _⟩, ⟨bkp BK145⟩, ⟨bel⟩⟩
  replace c5 := Bool.eq_false_iff.mpr c5
  subst c5
  have H1 : (impl_ReplyText.j0 k true a0_0 a0_1) = some r := by rw [if_neg (show ¬ (false = true) by decide)] at H; exact H
  clear H
  have H := H1
  clear H1
  have H' := Aside0.mk H
  clear H
  obtain ⟨C8_0, C8_1, -⟩ := cells_2 BK145.out trivial
  obtain ⟨F8_0, F8_1, -⟩ := frz_2 BK145.out
  go_wp2_with (first | ((with_reducible refine gate_callee (f := 38) rfl ?_); refine gl_ (some 5) Tryd.func38 #[.int .i64 a0_0, .int .i64 0, .int .i64 5] (h := ?_); (with_reducible refine (impl_within.calls a0_0 0 5 false _ A4.out).mono ?_); rintro e w' ⟨rfl, ⟨nd, rfl⟩⟩; refine ⟨_, rfl, ?_⟩))
  go_meet
  case rel => exact ⟨_, (true), rs_, H', ⟨by first | omega | exact Nat.le_refl _⟩, ⟨bkp BK145⟩, ⟨bel⟩⟩
 case rest =>
  clear HC2
  try clear c2; try clear p2; try clear c3; try clear c5; try clear C7_0 C7_1; try clear C8_0 C8_1; try clear F7_0 F7_1; try clear F8_0 F8_1
  obtain ⟨kq, x12_1, rfl, HA, HJ1, BK145, HB⟩ := hcut
  cases kq with
  | zero => exact absurd HA.out (by simp [impl_ReplyText.j0])
  | succ kj1 =>
   have H := HA.out
   clear HA
   simp only [impl_ReplyText.j0] at H
   by_cases c9 : x12_1 = true
   ·subst c9
    have H1 : (some ([] : List Int)) = some r := by rw [if_pos rfl] at H; exact H
    clear H
    have H := H1
    clear H1
    obtain rfl := Option.some.inj H
    go_wp2
    go_ret
    exact ⟨_, rz_, by first | exact RMk_nil _ _ _ | exact Kd.N_nil _ _ _ _ _ | exact Kd.V_nil _ _ _ _ _ | exact Kd.Q_nil _ _ _ _ _ | exact Kd.S_nil _ _ _ _ _, bel⟩
   replace c9 := Bool.eq_false_iff.mpr c9
   subst c9
   have H1 : ((some (([(⟨#[119, 101, 108, 108]⟩ : ByteArray), (⟨#[110, 111, 110, 101]⟩ : ByteArray), (⟨#[104, 101, 108, 100]⟩ : ByteArray), (⟨#[116, 117, 114, 110, 101, 100]⟩ : ByteArray), (⟨#[102, 117, 108, 108]⟩ : ByteArray), (⟨#[111, 108, 100]⟩ : ByteArray)] : List ByteArray) : List ByteArray)).bind fun y148 => (if 0 ≤ a0_0 then (if a0_0 < (y148.length : Int) then ((virtual_bytesV.f (rdOf ByteArray.empty y148 a0_0)).bind fun t152 => ((impl_decimal.f a0_1).bind fun t155 => ((impl_spaced.f (([t152, t155] : List (List Int)))).bind fun t161 => (some t161)))) else (none)) else (none))) = some r := by rw [if_neg (show ¬ (false = true) by decide)] at H; exact H
   clear H
   have H := H1
   clear H1
   obtain ⟨y148, hy148⟩ : ∃ y_ : List ByteArray, y_ = (([(⟨#[119, 101, 108, 108]⟩ : ByteArray), (⟨#[110, 111, 110, 101]⟩ : ByteArray), (⟨#[104, 101, 108, 100]⟩ : ByteArray), (⟨#[116, 117, 114, 110, 101, 100]⟩ : ByteArray), (⟨#[102, 117, 108, 108]⟩ : ByteArray), (⟨#[111, 108, 100]⟩ : ByteArray)] : List ByteArray)) := ⟨_, rfl⟩
   replace H : (if 0 ≤ a0_0 then (if a0_0 < (y148.length : Int) then ((virtual_bytesV.f (rdOf ByteArray.empty y148 a0_0)).bind fun t152 => ((impl_decimal.f a0_1).bind fun t155 => ((impl_spaced.f (([t152, t155] : List (List Int)))).bind fun t161 => (some t161)))) else (none)) else (none)) = some r := by first | (rw [hy148]; with_reducible exact H) | (have H2_ := (Option.bind_some _ _).symm.trans H; rw [hy148]; with_reducible exact H2_) | (have H2_ := (Option.bind_some _ _).symm.trans H; with_reducible exact H2_) | with_reducible exact H | (rw [hy148]; exact H) | exact H
   have Ny148 := Aside0.mk hy148
   clear hy148
   by_cases c10 : 0 ≤ a0_0
   ·rw [if_pos c10] at H
    have c10b0 : decide (0 ≤ a0_0) = true := decide_eq_true c10
    clear c10
    by_cases c11 : a0_0 < (y148.length : Int)
    ·rw [if_pos c11] at H
     have c11b0 : decide (a0_0 < (y148.length : Int)) = true := decide_eq_true c11
     clear c11
     replace H := Option.bind_eq_some_iff.mp H
     obtain ⟨t152, A120, H⟩ := H
     replace H : ((impl_decimal.f a0_1).bind fun t155 => ((impl_spaced.f (([t152, t155] : List (List Int)))).bind fun t161 => (some t161))) = some r := H
     have A12 := Aside0.mk A120
     clear A120
     replace H := Option.bind_eq_some_iff.mp H
     obtain ⟨t155, A130, H⟩ := H
     replace H : ((impl_spaced.f (([t152, t155] : List (List Int)))).bind fun t161 => (some t161)) = some r := H
     have A13 := Aside0.mk A130
     clear A130
     obtain ⟨y158, hy158⟩ : ∃ y_ : List (List Int), y_ = (([t152, t155] : List (List Int))) := ⟨_, rfl⟩
     replace H : ((impl_spaced.f y158).bind fun t161 => (some t161)) = some r := by first | (rw [hy158]; with_reducible exact H) | (have H2_ := (Option.bind_some _ _).symm.trans H; rw [hy158]; with_reducible exact H2_) | (have H2_ := (Option.bind_some _ _).symm.trans H; with_reducible exact H2_) | with_reducible exact H | (rw [hy158]; exact H) | exact H
     have Ny158 := Aside0.mk hy158
     clear hy158
     replace H := Option.bind_eq_some_iff.mp H
     obtain ⟨t161, A140, H⟩ := H
     replace H : (some t161) = some r := H
     have A14 := Aside0.mk A140
     clear A140
     obtain rfl := Option.some.inj H
     try go_wp2
     have pi151 : (0 ≤ (a0_0 : Int)) = True := eq_true od
     have qi151 : (a0_0 < (y148.length : Int)) = True := eq_true od
     replace BK145 := Aside0.mk (blk_drew BK145.out)
     replace HB := Aside0.mk (below_drew1 HB.out)
     refine start_ (n := 12) (S := fun w' => True) (ds := []) (tf 0 12) (by kernel_rfl) rfl rfl trivial (fun hHeld => ?_); refine with_tabW impl_ReplyText.tab3 impl_ReplyText.bits3 (fun HT_ HW_ => ?_)
     generalize wc.drew = w15 at BK145 HB hHeld ⊢
     refine pv_ HT_ 1 (some 14) (tb 12 2) (h := ?_)
     refine pv_ HT_ 6 (some 19) (tb 12 66) (h := ?_)
     refine inv_at [0, 2, 3, 4, 5, 7, 8, 9, 10, 11] (fun a0_ b a w' => ∃ (v149 : Value) (adz_v149 : Addr) (v153 : Value) (v156 : Value) (v159 : Value) (v162 : Value) (m3_ : Value) (m11_ : Value), a = putSel a0_ b [(0, 13, v149), (2, 15, .int .i64 a0_0), (3, 16, m3_), (4, 17, .string (rdOf ByteArray.empty y148 a0_0)), (5, 18, v153), (7, 20, .int .i64 a0_1), (8, 21, v156), (9, 22, v159), (10, 23, v162), (11, 2, m11_)] ∧ (w'.heap[gb145]? = some (.cells #[.int .i64 a0_0, .int .i64 a0_1] 40 (0, 0))) ∧ (Below w.heap.size w w') ∧ (b 0 = true → Kd.R Kd.string 9 w' w.heap.size (fun _ => True) v149 y148) ∧ (b 0 = true → ∃ c_, (v149 : Value) = .slice (some adz_v149) y148.length c_) ∧ (b 5 = true → Kd.V (Kd.int .u8) 5 w' w.heap.size (fun k_ => k_ ≠ gb145) v153 t152) ∧ (b 8 = true → Kd.V (Kd.int .u8) 5 w' w.heap.size (fun k_ => k_ ≠ gb145) v156 t155) ∧ (b 9 = true → Kd.N (Kd.slice 5 (Kd.int .u8)) 22 w' w.heap.size (fun k_ => k_ ≠ gb145) v159 y158) ∧ (b 10 = true → RMk w' w.heap.size (fun _ => True) v162 t161) ∧ (b 3 = true → (m3_ : Value) = .pointer (some (adz_v149.add (a0_0).toNat))) ∧ (b 11 = true → (m11_ : Value) = v162)) HT_.out HW_.out (by kernel_rfl) (by kernel_rfl) ?_ ?_ ?_
     ·exact ⟨.bool false, ⟨0, 0, none⟩, .bool false, .bool false, .bool false, .bool false, .bool false, .bool false, by simp only [putSel, Bool.false_eq_true, if_false], BK145.out, HB.out, fun h_ => absurd h_ (by decide), fun h_ => absurd h_ (by decide), fun h_ => absurd h_ (by decide), fun h_ => absurd h_ (by decide), fun h_ => absurd h_ (by decide), fun h_ => absurd h_ (by decide), fun h_ => absurd h_ (by decide), fun h_ => absurd h_ (by decide)⟩
     ·skip
      clear BK145 HB
      refine steps_cons ?_ ?_
      ·rintro b a w' ⟨v149, adz_v149, v153, v156, v159, v162, m3_, m11_, ha, Q_BK145, Q_HB, Q_HO150, Q_HA_HO150, Q_HO154, Q_HO157, Q_HO160, Q_HO163, Q_X3_, Q_X11_⟩ hb_ hon hoff
       refine ⟨_, rfl, fun K hK => ?_⟩
       replace ha := Aside0.mk ha
       have BK145 := Aside0.mk Q_BK145
       have HB := Aside0.mk Q_HB
       refine Kd.R_lit_step Kd.string _ 9 ?hg (N := 13) ?hd (xs := ([(⟨#[119, 101, 108, 108]⟩ : ByteArray), (⟨#[110, 111, 110, 101]⟩ : ByteArray), (⟨#[104, 101, 108, 100]⟩ : ByteArray), (⟨#[116, 117, 114, 110, 101, 100]⟩ : ByteArray), (⟨#[102, 117, 108, 108]⟩ : ByteArray), (⟨#[111, 108, 100]⟩ : ByteArray)] : List ByteArray)) (inner := [.string (⟨#[119, 101, 108, 108]⟩ : ByteArray), .string (⟨#[110, 111, 110, 101]⟩ : ByteArray), .string (⟨#[104, 101, 108, 100]⟩ : ByteArray), .string (⟨#[116, 117, 114, 110, 101, 100]⟩ : ByteArray), .string (⟨#[102, 117, 108, 108]⟩ : ByteArray), .string (⟨#[111, 108, 100]⟩ : ByteArray)]) (ok := fun _ => True) (okp := fun _ => True) ?hr ?hp (fun _ hk => hk) trivial (Below.refl _ _) (Nat.le_refl _) (by simp) ?_; (case hd => rfl); (case hg => rfl); (case hr => first | (go_simp; done) | (go_simp; rfl)); (case hp => exact (Reps.one (show Kd.M Kd.string _ _ _ (⟨#[119, 101, 108, 108]⟩ : ByteArray) [.string (⟨#[119, 101, 108, 108]⟩ : ByteArray)] from rfl) (Reps.one (show Kd.M Kd.string _ _ _ (⟨#[110, 111, 110, 101]⟩ : ByteArray) [.string (⟨#[110, 111, 110, 101]⟩ : ByteArray)] from rfl) (Reps.one (show Kd.M Kd.string _ _ _ (⟨#[104, 101, 108, 100]⟩ : ByteArray) [.string (⟨#[104, 101, 108, 100]⟩ : ByteArray)] from rfl) (Reps.one (show Kd.M Kd.string _ _ _ (⟨#[116, 117, 114, 110, 101, 100]⟩ : ByteArray) [.string (⟨#[116, 117, 114, 110, 101, 100]⟩ : ByteArray)] from rfl) (Reps.one (show Kd.M Kd.string _ _ _ (⟨#[102, 117, 108, 108]⟩ : ByteArray) [.string (⟨#[102, 117, 108, 108]⟩ : ByteArray)] from rfl) (Reps.one (show Kd.M Kd.string _ _ _ (⟨#[111, 108, 100]⟩ : ByteArray) [.string (⟨#[111, 108, 100]⟩ : ByteArray)] from rfl) (Reps.none _ _))))))))
       intro v149 w16 ho17 hb hg_ hnew_
       clear hg_ hnew_
       (first | rw [← Ny148.out] at ho17 | (simp only [Int.reduceToNat] at ho17; rw [← Ny148.out] at ho17))
       have n0_ := Aside0.mk (Kd.R_lower ho17 (below_size bel))
       have n1_ := Aside0.mk (blb BK145 hb)
       have n2_ := Aside0.mk (below_step bel hb)
       have z_HO157 := fun (h0_ : b 8 = true) => (show Kd.V (Kd.int .u8) 5 w16 w.heap.size (fun k_ => k_ ≠ gb145) v156 t155 from by first | exact (Kd.V_elder' (by (with_reducible repeat (first | apply Kd.V_alloc | apply Kd.V_drewN | apply Kd.V_drew)); exact (Q_HO157 h0_)) (Kd.R_base ho17) hb) | exact Kd.V_mono (Kd.V_elder' (by (with_reducible repeat (first | apply Kd.V_alloc | apply Kd.V_drewN | apply Kd.V_drew)); exact (Q_HO157 h0_)) (Kd.R_base ho17) hb) (fun _ h_ => by first | trivial | exact h_ | exact h_.1))
       clear BK145
       clear HB
       have HO150 := n0_
       have BK145 := n1_
       have HB := n2_
       clear n0_ n1_ n2_
       clear hb ho17
       obtain ⟨Ao18, co18, eo18⟩ := Kd.R_slice HO150.out
       subst eo18
       obtain ⟨ado18, fo18, _⟩ := Kd.at_string (Kd.R_reads' HO150.out).2.2 0 (by decide) (by rw [Ny148.out]; simp)
       cases fo18
       refine hK.out _ _ ⟨.slice (some ado18) y148.length co18, ado18, v153, v156, v159, v162, m3_, m11_, (by rw [ha.out]; exact putSel_upk 0 hb_ rfl rfl rfl), (bkp BK145), bel, fun _ => (rkp HO150), fun _ => ⟨_, rfl⟩, fun h0_ => absurd ((hoff 5 (by kernel_rfl)).symm.trans h0_) (by decide), z_HO157, fun h0_ => absurd ((hoff 9 (by kernel_rfl)).symm.trans h0_) (by decide), fun h0_ => absurd ((hoff 10 (by kernel_rfl)).symm.trans h0_) (by decide), fun h0_ => absurd ((hoff 3 (by kernel_rfl)).symm.trans h0_) (by decide), fun h0_ => absurd ((hoff 11 (by kernel_rfl)).symm.trans h0_) (by decide)⟩
      refine steps_cons ?_ ?_
      ·rintro b a w' ⟨v149, adz_v149, v153, v156, v159, v162, m3_, m11_, ha, Q_BK145, Q_HB, Q_HO150, Q_HA_HO150, Q_HO154, Q_HO157, Q_HO160, Q_HO163, Q_X3_, Q_X11_⟩ hb_ hon hoff
       refine ⟨_, rfl, fun K hK => ?_⟩
       have e14 : a.tmps[14]? = some (.pointer (some ⟨gb145, 0, none⟩)) := by rw [ha]; exact (putSel_off rfl).trans rfl
       replace ha := Aside0.mk ha
       have BK145 := Aside0.mk Q_BK145
       have HB := Aside0.mk Q_HB
       have hc0_ : w'.cell? ⟨gb145, 0, none⟩ = some (.int .i64 a0_0) := (blk_cell BK145.out 0).trans rfl
       have hc1_ : w'.cell? ⟨gb145, 1, none⟩ = some (.int .i64 a0_1) := (blk_cell BK145.out 1).trans rfl
       refine value_ (w1 := w') (v := .int .i64 a0_0) (by rfl) rfl ?_ ?_
       ·go_simp
        (try simp only [i64_w])
        try rfl
       refine hK.out _ _ ⟨v149, adz_v149, v153, v156, v159, v162, m3_, m11_, (by rw [ha.out]; exact putSel_upk 1 hb_ rfl rfl rfl), Q_BK145, Q_HB, Q_HO150, Q_HA_HO150, fun h0_ => absurd ((hoff 5 (by kernel_rfl)).symm.trans h0_) (by decide), Q_HO157, fun h0_ => absurd ((hoff 9 (by kernel_rfl)).symm.trans h0_) (by decide), fun h0_ => absurd ((hoff 10 (by kernel_rfl)).symm.trans h0_) (by decide), fun h0_ => absurd ((hoff 3 (by kernel_rfl)).symm.trans h0_) (by decide), fun h0_ => absurd ((hoff 11 (by kernel_rfl)).symm.trans h0_) (by decide)⟩
      refine steps_cons ?_ ?_
      ·rintro b a w' ⟨v149, adz_v149, v153, v156, v159, v162, m3_, m11_, ha, Q_BK145, Q_HB, Q_HO150, Q_HA_HO150, Q_HO154, Q_HO157, Q_HO160, Q_HO163, Q_X3_, Q_X11_⟩ hb_ hon hoff
       refine ⟨_, rfl, fun K hK => ?_⟩
       have e13 : a.tmps[13]? = some (v149) := by rw [ha]; exact putSel_on (e := (0, 13, v149)) 0 rfl rfl (hon 0 (by kernel_rfl)) rfl
       have e15 : a.tmps[15]? = some (.int .i64 a0_0) := by rw [ha]; exact putSel_on (e := (2, 15, .int .i64 a0_0)) 1 rfl rfl (hon 2 (by kernel_rfl)) rfl
       replace ha := Aside0.mk ha
       have BK145 := Aside0.mk Q_BK145
       have HB := Aside0.mk Q_HB
       have HO150 := Aside0.mk (Q_HO150 (hon 0 (by kernel_rfl)))
       have HA_HO150 := Aside0.mk (Q_HA_HO150 (hon 0 (by kernel_rfl)))
       obtain ⟨c_, hv_⟩ := HA_HO150.out
       rw [hv_] at e13
       refine value_ (w1 := w') (v := .pointer (some (adz_v149.add (a0_0).toNat))) (by rfl) rfl ?_ ?_
       ·go_simp
        (try simp only [i64_w])
        try rfl
       refine hK.out _ _ ⟨v149, adz_v149, v153, v156, v159, v162, (.pointer (some (adz_v149.add (a0_0).toNat))), m11_, (by rw [ha.out]; exact putSel_upk 2 hb_ rfl rfl rfl), Q_BK145, Q_HB, Q_HO150, Q_HA_HO150, fun h0_ => absurd ((hoff 5 (by kernel_rfl)).symm.trans h0_) (by decide), Q_HO157, fun h0_ => absurd ((hoff 9 (by kernel_rfl)).symm.trans h0_) (by decide), fun h0_ => absurd ((hoff 10 (by kernel_rfl)).symm.trans h0_) (by decide), fun _ => rfl, fun h0_ => absurd ((hoff 11 (by kernel_rfl)).symm.trans h0_) (by decide)⟩
      refine steps_cons ?_ ?_
      ·rintro b a w' ⟨v149, adz_v149, v153, v156, v159, v162, m3_, m11_, ha, Q_BK145, Q_HB, Q_HO150, Q_HA_HO150, Q_HO154, Q_HO157, Q_HO160, Q_HO163, Q_X3_, Q_X11_⟩ hb_ hon hoff
       refine ⟨_, rfl, fun K hK => ?_⟩
       have e16 : a.tmps[16]? = some (m3_) := by rw [ha]; exact putSel_on (e := (3, 16, m3_)) 2 rfl rfl (hon 3 (by kernel_rfl)) rfl
       rw [Q_X3_ (hon 3 (by kernel_rfl))] at e16
       replace ha := Aside0.mk ha
       have BK145 := Aside0.mk Q_BK145
       have HB := Aside0.mk Q_HB
       have HO150 := Aside0.mk (Q_HO150 (hon 0 (by kernel_rfl)))
       have HA_HO150 := Aside0.mk (Q_HA_HO150 (hon 0 (by kernel_rfl)))
       obtain ⟨c_, hv_⟩ := HA_HO150.out
       have hF_ := HO150.out
       rw [hv_] at hF_
       obtain ⟨ad_, ea_, hx_⟩ := Kd.at_string (Kd.R_reads' hF_).2.2 a0_0 (of_eq_true pi151) (of_eq_true qi151)
       cases ea_
       refine value_ (w1 := w') (v := .string (rdOf ByteArray.empty y148 a0_0)) (by rfl) rfl ?_ ?_
       ·go_simp
        (try simp only [i64_w])
        try rfl
       refine hK.out _ _ ⟨v149, adz_v149, v153, v156, v159, v162, m3_, m11_, (by rw [ha.out]; exact putSel_upk 3 hb_ rfl rfl rfl), Q_BK145, Q_HB, Q_HO150, Q_HA_HO150, fun h0_ => absurd ((hoff 5 (by kernel_rfl)).symm.trans h0_) (by decide), Q_HO157, fun h0_ => absurd ((hoff 9 (by kernel_rfl)).symm.trans h0_) (by decide), fun h0_ => absurd ((hoff 10 (by kernel_rfl)).symm.trans h0_) (by decide), Q_X3_, fun h0_ => absurd ((hoff 11 (by kernel_rfl)).symm.trans h0_) (by decide)⟩
      refine steps_cons ?_ ?_
      ·rintro b a w' ⟨v149, adz_v149, v153, v156, v159, v162, m3_, m11_, ha, Q_BK145, Q_HB, Q_HO150, Q_HA_HO150, Q_HO154, Q_HO157, Q_HO160, Q_HO163, Q_X3_, Q_X11_⟩ hb_ hon hoff
       refine ⟨_, rfl, fun K hK => ?_⟩
       have e17 : a.tmps[17]? = some (.string (rdOf ByteArray.empty y148 a0_0)) := by rw [ha]; exact putSel_on (e := (4, 17, .string (rdOf ByteArray.empty y148 a0_0))) 3 rfl rfl (hon 4 (by kernel_rfl)) rfl
       replace ha := Aside0.mk ha
       have BK145 := Aside0.mk Q_BK145
       have HB := Aside0.mk Q_HB
       have HO150 := Aside0.mk (Q_HO150 (hon 0 (by kernel_rfl)))
       have HA_HO150 := Aside0.mk (Q_HA_HO150 (hon 0 (by kernel_rfl)))
       obtain ⟨co20, eo20⟩ := HA_HO150.out
       clear HA_HO150
       subst eo20
       refine cvs_ (rdOf ByteArray.empty y148 a0_0) Tryd.underlying9 Tryd.underlying22 Tryd.underlying5 (hx := by first | (simp only [Act.eval, Array.getD_eq_getD_getElem?, Option.getD_some, e17]; done) | (simp only [Act.eval, Array.getD_eq_getD_getElem?, Option.getD_some, e17]; rfl)) (h := ?_)
       with_reducible refine (virtual_bytesV.calls (rdOf ByteArray.empty y148 a0_0) t152 _ A12.out).mono ?_
       rintro e w21 ⟨v153, rfl, ho0, hb⟩
       refine ⟨_, rfl, ?_⟩
       have n0_ := Aside0.mk (rbl HO150 hb)
       have n1_ := Aside0.mk (Kd.V_lower (Kd.V_mono (ok' := fun k_ => k_ ≠ gb145) ho0 (fun k_ hk_ => (Kd.freshB (g := gb145) (o := .cells #[.int .i64 a0_0, .int .i64 a0_1] 40 (0, 0)) (bkp BK145) k_ hk_))) (below_size bel))
       have n2_ := Aside0.mk (blb BK145 hb)
       have n3_ := Aside0.mk (below_step bel hb)
       have z_HO157 := fun (h0_ : b 8 = true) => (show Kd.V (Kd.int .u8) 5 w21 w.heap.size (fun k_ => k_ ≠ gb145) v156 t155 from by first | exact (Kd.V_below (by (with_reducible repeat (first | apply Kd.V_alloc | apply Kd.V_drewN | apply Kd.V_drew)); exact (Q_HO157 h0_)) hb) | exact Kd.V_mono (Kd.V_below (by (with_reducible repeat (first | apply Kd.V_alloc | apply Kd.V_drewN | apply Kd.V_drew)); exact (Q_HO157 h0_)) hb) (fun _ h_ => by first | trivial | exact h_ | exact h_.1))
       clear HO150
       clear BK145
       clear HB
       have HO150 := n0_
       have HO154 := n1_
       have BK145 := n2_
       have HB := n3_
       clear n0_ n1_ n2_ n3_
       (try clear hb)
       (try clear hb2)
       (try clear hk)
       (try clear hi)
       (try clear ho0)
       refine hK.out _ _ ⟨.slice (some adz_v149) y148.length co20, adz_v149, v153, v156, v159, v162, m3_, m11_, (by rw [ha.out]; exact putSel_upk 4 hb_ rfl rfl rfl), (bkp BK145), bel, fun _ => (rkp HO150), fun _ => ⟨_, rfl⟩, fun _ => (by (with_reducible repeat (first | apply Kd.V_alloc | apply Kd.V_drewN | apply Kd.V_drew)); exact HO154.out), z_HO157, fun h0_ => absurd ((hoff 9 (by kernel_rfl)).symm.trans h0_) (by decide), fun h0_ => absurd ((hoff 10 (by kernel_rfl)).symm.trans h0_) (by decide), Q_X3_, fun h0_ => absurd ((hoff 11 (by kernel_rfl)).symm.trans h0_) (by decide)⟩
      refine steps_cons ?_ ?_
      ·rintro b a w' ⟨v149, adz_v149, v153, v156, v159, v162, m3_, m11_, ha, Q_BK145, Q_HB, Q_HO150, Q_HA_HO150, Q_HO154, Q_HO157, Q_HO160, Q_HO163, Q_X3_, Q_X11_⟩ hb_ hon hoff
       refine ⟨_, rfl, fun K hK => ?_⟩
       have e19 : a.tmps[19]? = some (.pointer (some ⟨gb145, 1, none⟩)) := by rw [ha]; exact (putSel_off rfl).trans rfl
       replace ha := Aside0.mk ha
       have BK145 := Aside0.mk Q_BK145
       have HB := Aside0.mk Q_HB
       have hc0_ : w'.cell? ⟨gb145, 0, none⟩ = some (.int .i64 a0_0) := (blk_cell BK145.out 0).trans rfl
       have hc1_ : w'.cell? ⟨gb145, 1, none⟩ = some (.int .i64 a0_1) := (blk_cell BK145.out 1).trans rfl
       refine value_ (w1 := w') (v := .int .i64 a0_1) (by rfl) rfl ?_ ?_
       ·go_simp
        (try simp only [i64_w])
        try rfl
       refine hK.out _ _ ⟨v149, adz_v149, v153, v156, v159, v162, m3_, m11_, (by rw [ha.out]; exact putSel_upk 5 hb_ rfl rfl rfl), Q_BK145, Q_HB, Q_HO150, Q_HA_HO150, Q_HO154, fun h0_ => absurd ((hoff 8 (by kernel_rfl)).symm.trans h0_) (by decide), fun h0_ => absurd ((hoff 9 (by kernel_rfl)).symm.trans h0_) (by decide), fun h0_ => absurd ((hoff 10 (by kernel_rfl)).symm.trans h0_) (by decide), Q_X3_, fun h0_ => absurd ((hoff 11 (by kernel_rfl)).symm.trans h0_) (by decide)⟩
      refine steps_cons ?_ ?_
      ·rintro b a w' ⟨v149, adz_v149, v153, v156, v159, v162, m3_, m11_, ha, Q_BK145, Q_HB, Q_HO150, Q_HA_HO150, Q_HO154, Q_HO157, Q_HO160, Q_HO163, Q_X3_, Q_X11_⟩ hb_ hon hoff
       refine ⟨_, rfl, fun K hK => ?_⟩
       have e20 : a.tmps[20]? = some (.int .i64 a0_1) := by rw [ha]; exact putSel_on (e := (7, 20, .int .i64 a0_1)) 5 rfl rfl (hon 7 (by kernel_rfl)) rfl
       replace ha := Aside0.mk ha
       have BK145 := Aside0.mk Q_BK145
       have HB := Aside0.mk Q_HB
       refine goes_ Tryd.func33 (by kernel_rfl) rfl #[.int .i64 a0_1] (by rfl) rfl rfl (by first | (simp only [List.map_toArray, List.map_cons, List.map_nil, Act.eval, Array.getD_eq_getD_getElem?, Option.getD_some, e20]; done) | (simp only [List.map_toArray, List.map_cons, List.map_nil, Act.eval, Array.getD_eq_getD_getElem?, Option.getD_some, e20]; rfl)) ?_
       with_reducible refine (impl_decimal.calls a0_1 t155 _ (tbl_ HTAB.out bel) A13.out).mono ?_
       rintro e w16 ⟨v156, rfl, ho0, hb⟩
       refine ⟨_, rfl, ?_⟩
       have n0_ := Aside0.mk (Kd.V_lower (Kd.V_mono (ok' := fun k_ => k_ ≠ gb145) ho0 (fun k_ hk_ => (Kd.freshB (g := gb145) (o := .cells #[.int .i64 a0_0, .int .i64 a0_1] 40 (0, 0)) (bkp BK145) k_ hk_))) (below_size bel))
       have n1_ := Aside0.mk (blb BK145 hb)
       have n2_ := Aside0.mk (below_step bel hb)
       have z_HO150 := fun (h0_ : b 0 = true) => (show Kd.R Kd.string 9 w16 w.heap.size (fun _ => True) v149 y148 from by first | exact (Kd.R_below (by (with_reducible repeat (first | apply Kd.R_alloc | apply Kd.R_drewN | apply Kd.R_drew)); exact (Q_HO150 h0_)) hb) | exact Kd.R_mono (Kd.R_below (by (with_reducible repeat (first | apply Kd.R_alloc | apply Kd.R_drewN | apply Kd.R_drew)); exact (Q_HO150 h0_)) hb) (fun _ h_ => by first | trivial | exact h_ | exact h_.1))
       have z_HO154 := fun (h0_ : b 5 = true) => (show Kd.V (Kd.int .u8) 5 w16 w.heap.size (fun k_ => k_ ≠ gb145) v153 t152 from by first | exact (Kd.V_below (by (with_reducible repeat (first | apply Kd.V_alloc | apply Kd.V_drewN | apply Kd.V_drew)); exact (Q_HO154 h0_)) hb) | exact Kd.V_mono (Kd.V_below (by (with_reducible repeat (first | apply Kd.V_alloc | apply Kd.V_drewN | apply Kd.V_drew)); exact (Q_HO154 h0_)) hb) (fun _ h_ => by first | trivial | exact h_ | exact h_.1))
       clear BK145
       clear HB
       have HO157 := n0_
       have BK145 := n1_
       have HB := n2_
       clear n0_ n1_ n2_
       (try clear hb)
       (try clear hb2)
       (try clear hk)
       (try clear hi)
       (try clear ho0)
       refine hK.out _ _ ⟨v149, adz_v149, v153, v156, v159, v162, m3_, m11_, (by rw [ha.out]; exact putSel_upk 6 hb_ rfl rfl rfl), (bkp BK145), bel, z_HO150, Q_HA_HO150, z_HO154, fun _ => (by (with_reducible repeat (first | apply Kd.V_alloc | apply Kd.V_drewN | apply Kd.V_drew)); exact HO157.out), fun h0_ => absurd ((hoff 9 (by kernel_rfl)).symm.trans h0_) (by decide), fun h0_ => absurd ((hoff 10 (by kernel_rfl)).symm.trans h0_) (by decide), Q_X3_, fun h0_ => absurd ((hoff 11 (by kernel_rfl)).symm.trans h0_) (by decide)⟩
      refine steps_cons ?_ ?_
      ·rintro b a w' ⟨v149, adz_v149, v153, v156, v159, v162, m3_, m11_, ha, Q_BK145, Q_HB, Q_HO150, Q_HA_HO150, Q_HO154, Q_HO157, Q_HO160, Q_HO163, Q_X3_, Q_X11_⟩ hb_ hon hoff
       refine ⟨_, rfl, fun K hK => ?_⟩
       have e18 : a.tmps[18]? = some (v153) := by rw [ha]; exact putSel_on (e := (5, 18, v153)) 4 rfl rfl (hon 5 (by kernel_rfl)) rfl
       have e21 : a.tmps[21]? = some (v156) := by rw [ha]; exact putSel_on (e := (8, 21, v156)) 6 rfl rfl (hon 8 (by kernel_rfl)) rfl
       replace ha := Aside0.mk ha
       have BK145 := Aside0.mk Q_BK145
       have HB := Aside0.mk Q_HB
       have HO150 := Aside0.mk (Q_HO150 (hon 0 (by kernel_rfl)))
       have HA_HO150 := Aside0.mk (Q_HA_HO150 (hon 0 (by kernel_rfl)))
       have HO154 := Aside0.mk (Q_HO154 (hon 5 (by kernel_rfl)))
       have HO157 := Aside0.mk (Q_HO157 (hon 8 (by kernel_rfl)))
       obtain ⟨co22, eo22⟩ := HA_HO150.out
       clear HA_HO150
       subst eo22
       obtain ⟨Ao23, co23, eo23⟩ := Kd.V_slice HO154.out
       (first | subst eo23 | (injection eo23 with f1_ f2_ f3_; have f4_ := f1_.symm; have f5_ := f3_.symm; clear f1_ f2_ f3_; subst f4_; subst f5_))
       obtain ⟨Ao24, co24, eo24⟩ := Kd.V_slice HO157.out
       (first | subst eo24 | (injection eo24 with f1_ f2_ f3_; have f4_ := f1_.symm; have f5_ := f3_.symm; clear f1_ f2_ f3_; subst f4_; subst f5_))
       refine Kd.N_lit_step (Kd.slice 5 (Kd.int .u8)) _ 22 ?hg (N' := 22) ?hd (xs := ([t152, t155] : List (List Int))) (inner := [.slice Ao23 t152.length co23, .slice Ao24 t155.length co24]) (ok := (fun k_ => k_ ≠ gb145)) (okp := (fun k_ => k_ ≠ gb145)) ?hr ?hp (fun _ hk => hk) ((show ∀ k_, w'.heap.size ≤ k_ → (fun k_ => k_ ≠ gb145) k_ from fun k_ hk => Kd.freshB (g := gb145) (o := .cells #[.int .i64 a0_0, .int .i64 a0_1] 40 (0, 0)) (bkp BK145) k_ hk) _ (Nat.le_refl _)) (Below.refl _ _) (Nat.le_refl _) (by simp) ?_; (case hd => rfl); (case hg => rfl); (case hr => first | (go_simp; done) | (go_simp; rfl)); (case hp => exact (Reps.one (show Kd.FK (Kd.slice 5 (Kd.int .u8)) _ _ t152 [.slice Ao23 t152.length co23] from (Kd.FK_slice_mk (Kd.V_reads' (Kd.V_mono (ok' := (fun k_ => k_ ≠ gb145)) (HO154.out) (fun k_ hk => hk))).2.1 (Kd.V_F (Kd.V_mono (ok' := (fun k_ => k_ ≠ gb145)) (HO154.out) (fun k_ hk => hk))))) (Reps.one (show Kd.FK (Kd.slice 5 (Kd.int .u8)) _ _ t155 [.slice Ao24 t155.length co24] from (Kd.FK_slice_mk (Kd.V_reads' (Kd.V_mono (ok' := (fun k_ => k_ ≠ gb145)) (HO157.out) (fun k_ hk => hk))).2.1 (Kd.V_F (Kd.V_mono (ok' := (fun k_ => k_ ≠ gb145)) (HO157.out) (fun k_ hk => hk))))) (Reps.none _ _))))
       intro v159 w25 ho26 hb hg_ hnew_
       clear hg_ hnew_
       (first | rw [← Ny158.out] at ho26 | (simp only [Int.reduceToNat] at ho26; rw [← Ny158.out] at ho26))
       have HO160 := Aside0.mk (Kd.N_lower ho26 (below_size bel))
       replace HO150 := Aside0.mk (rbl HO150 hb)
       replace HO154 := Aside0.mk (Kd.V_elder' (by (with_reducible repeat (first | apply Kd.V_alloc | apply Kd.V_drewN | apply Kd.V_drew)); exact HO154.out) (Kd.N_base ho26) hb)
       replace HO157 := Aside0.mk (Kd.V_elder' (by (with_reducible repeat (first | apply Kd.V_alloc | apply Kd.V_drewN | apply Kd.V_drew)); exact HO157.out) (Kd.N_base ho26) hb)
       replace BK145 := Aside0.mk (blb BK145 hb)
       replace HB := bst hb
       clear hb ho26
       refine hK.out _ _ ⟨.slice (some adz_v149) y148.length co22, adz_v149, .slice Ao23 t152.length co23, .slice Ao24 t155.length co24, v159, v162, m3_, m11_, (by rw [ha.out]; exact putSel_upk 7 hb_ rfl rfl rfl), (bkp BK145), bel, fun _ => (rkp HO150), fun _ => ⟨_, rfl⟩, fun _ => (by (with_reducible repeat (first | apply Kd.V_alloc | apply Kd.V_drewN | apply Kd.V_drew)); exact Kd.V_mono HO154.out (fun _ hk => hk.1)), fun _ => (by (with_reducible repeat (first | apply Kd.V_alloc | apply Kd.V_drewN | apply Kd.V_drew)); exact Kd.V_mono HO157.out (fun _ hk => hk.1)), fun _ => (by (with_reducible repeat (first | apply Kd.N_alloc | apply Kd.N_drewN | apply Kd.N_drew)); exact HO160.out), fun h0_ => absurd ((hoff 10 (by kernel_rfl)).symm.trans h0_) (by decide), Q_X3_, fun h0_ => absurd ((hoff 11 (by kernel_rfl)).symm.trans h0_) (by decide)⟩
      refine steps_cons ?_ ?_
      ·rintro b a w' ⟨v149, adz_v149, v153, v156, v159, v162, m3_, m11_, ha, Q_BK145, Q_HB, Q_HO150, Q_HA_HO150, Q_HO154, Q_HO157, Q_HO160, Q_HO163, Q_X3_, Q_X11_⟩ hb_ hon hoff
       refine ⟨_, rfl, fun K hK => ?_⟩
       have e22 : a.tmps[22]? = some (v159) := by rw [ha]; exact putSel_on (e := (9, 22, v159)) 7 rfl rfl (hon 9 (by kernel_rfl)) rfl
       replace ha := Aside0.mk ha
       have BK145 := Aside0.mk Q_BK145
       have HB := Aside0.mk Q_HB
       have HO150 := Aside0.mk (Q_HO150 (hon 0 (by kernel_rfl)))
       have HA_HO150 := Aside0.mk (Q_HA_HO150 (hon 0 (by kernel_rfl)))
       have HO154 := Aside0.mk (Q_HO154 (hon 5 (by kernel_rfl)))
       have HO157 := Aside0.mk (Q_HO157 (hon 8 (by kernel_rfl)))
       have HO160 := Aside0.mk (Q_HO160 (hon 9 (by kernel_rfl)))
       obtain ⟨co26, eo26⟩ := HA_HO150.out
       clear HA_HO150
       subst eo26
       obtain ⟨Ao27, co27, eo27⟩ := Kd.N_slice HO160.out
       (first | subst eo27 | (injection eo27 with f1_ f2_ f3_; have f4_ := f1_.symm; have f5_ := f3_.symm; clear f1_ f2_ f3_; subst f4_; subst f5_))
       refine goes_ Tryd.func34 (by kernel_rfl) rfl #[.slice Ao27 y158.length co27] (by rfl) rfl rfl (by first | (simp only [List.map_toArray, List.map_cons, List.map_nil, Act.eval, Array.getD_eq_getD_getElem?, Option.getD_some, e22]; done) | (simp only [List.map_toArray, List.map_cons, List.map_nil, Act.eval, Array.getD_eq_getD_getElem?, Option.getD_some, e22]; rfl)) ?_
       with_reducible refine (impl_spaced.calls _ _ y158 t161 _ ?side1 ?side2 (Kd.N_plain HO160.out) A14.out).mono ?_
       (case side1 => repeat (first | exact (Kd.N_reads' HO160.out).2.2 | (with_reducible refine Kd.C_alloc ?_ _) | (with_reducible refine Kd.C_drewN ?_ _) | (with_reducible refine Kd.C_drew ?_)))
       (case side2 => exact (Kd.N_reads' HO160.out).2.1)
       rintro e w28 ⟨v162, rfl, ho0, hb⟩
       refine ⟨_, rfl, ?_⟩
       have HO163 := Aside0.mk (RMk_lower ho0 (below_size bel))
       replace HO150 := Aside0.mk (rbl HO150 hb)
       replace HO154 := Aside0.mk (Kd.V_elder' (by (with_reducible repeat (first | apply Kd.V_alloc | apply Kd.V_drewN | apply Kd.V_drew)); exact HO154.out) (RMk_base ho0) hb)
       replace HO157 := Aside0.mk (Kd.V_elder' (by (with_reducible repeat (first | apply Kd.V_alloc | apply Kd.V_drewN | apply Kd.V_drew)); exact HO157.out) (RMk_base ho0) hb)
       replace HO160 := Aside0.mk (Kd.N_elder' (by (with_reducible repeat (first | apply Kd.N_alloc | apply Kd.N_drewN | apply Kd.N_drew)); exact HO160.out) (RMk_base ho0) hb)
       replace BK145 := Aside0.mk (blb BK145 hb)
       replace HB := bst hb
       (try clear hb)
       (try clear hb2)
       (try clear hk)
       (try clear hi)
       (try clear ho0)
       refine hK.out _ _ ⟨.slice (some adz_v149) y148.length co26, adz_v149, v153, v156, .slice Ao27 y158.length co27, v162, m3_, m11_, (by rw [ha.out]; exact putSel_upk 8 hb_ rfl rfl rfl), (bkp BK145), bel, fun _ => (rkp HO150), fun _ => ⟨_, rfl⟩, fun _ => (by (with_reducible repeat (first | apply Kd.V_alloc | apply Kd.V_drewN | apply Kd.V_drew)); exact Kd.V_mono HO154.out (fun _ hk => hk.1)), fun _ => (by (with_reducible repeat (first | apply Kd.V_alloc | apply Kd.V_drewN | apply Kd.V_drew)); exact Kd.V_mono HO157.out (fun _ hk => hk.1)), fun _ => (by (with_reducible repeat (first | apply Kd.N_alloc | apply Kd.N_drewN | apply Kd.N_drew)); exact Kd.N_mono HO160.out (fun _ hk => hk.1)), fun _ => (rmp HO163), Q_X3_, fun h0_ => absurd ((hoff 11 (by kernel_rfl)).symm.trans h0_) (by decide)⟩
      refine steps_cons ?_ ?_
      ·rintro b a w' ⟨v149, adz_v149, v153, v156, v159, v162, m3_, m11_, ha, Q_BK145, Q_HB, Q_HO150, Q_HA_HO150, Q_HO154, Q_HO157, Q_HO160, Q_HO163, Q_X3_, Q_X11_⟩ hb_ hon hoff
       refine ⟨_, rfl, fun K hK => ?_⟩
       have e23 : a.tmps[23]? = some (v162) := by rw [ha]; exact putSel_on (e := (10, 23, v162)) 8 rfl rfl (hon 10 (by kernel_rfl)) rfl
       replace ha := Aside0.mk ha
       have BK145 := Aside0.mk Q_BK145
       have HB := Aside0.mk Q_HB
       have HO150 := Aside0.mk (Q_HO150 (hon 0 (by kernel_rfl)))
       have HA_HO150 := Aside0.mk (Q_HA_HO150 (hon 0 (by kernel_rfl)))
       have HO154 := Aside0.mk (Q_HO154 (hon 5 (by kernel_rfl)))
       have HO157 := Aside0.mk (Q_HO157 (hon 8 (by kernel_rfl)))
       have HO160 := Aside0.mk (Q_HO160 (hon 9 (by kernel_rfl)))
       have HO163 := Aside0.mk (Q_HO163 (hon 10 (by kernel_rfl)))
       refine value_ (w1 := w') (v := v162) (by rfl) rfl ?_ ?_
       ·go_simp
        (try simp only [i64_w])
        try rfl
       refine hK.out _ _ ⟨v149, adz_v149, v153, v156, v159, v162, m3_, (v162), (by rw [ha.out]; exact putSel_upk 9 hb_ rfl rfl rfl), Q_BK145, Q_HB, Q_HO150, Q_HA_HO150, Q_HO154, Q_HO157, Q_HO160, Q_HO163, Q_X3_, fun _ => rfl⟩
      exact steps_nil
     rintro b a w27 hall ⟨v149, adz_v149, v153, v156, v159, v162, m3_, m11_, ha, Q_BK145, Q_HB, Q_HO150, Q_HA_HO150, Q_HO154, Q_HO157, Q_HO160, Q_HO163, Q_X3_, Q_X11_⟩
     clear BK145 HB
     have hb0_ := hall 0 (by kernel_rfl)
     have hb2_ := hall 2 (by kernel_rfl)
     have hb3_ := hall 3 (by kernel_rfl)
     have hb4_ := hall 4 (by kernel_rfl)
     have hb5_ := hall 5 (by kernel_rfl)
     have hb7_ := hall 7 (by kernel_rfl)
     have hb8_ := hall 8 (by kernel_rfl)
     have hb9_ := hall 9 (by kernel_rfl)
     have hb10_ := hall 10 (by kernel_rfl)
     have hb11_ := hall 11 (by kernel_rfl)
     subst ha
     obtain rfl := Q_X3_ hb3_
     obtain rfl := Q_X11_ hb11_
     simp only [putSel, hb0_, hb2_, hb3_, hb4_, hb5_, hb7_, hb8_, hb9_, hb10_, hb11_, if_true, Act.put, List.setIfInBounds_toArray, List.set_cons_zero, List.set_cons_succ]
     have BK145 := Aside0.mk Q_BK145
     clear Q_BK145
     have HB := Aside0.mk Q_HB
     clear Q_HB
     have HO150 := Aside0.mk (Q_HO150 hb0_)
     clear Q_HO150
     have HA_HO150 := Aside0.mk (Q_HA_HO150 hb0_)
     clear Q_HA_HO150
     have HO154 := Aside0.mk (Q_HO154 hb5_)
     clear Q_HO154
     have HO157 := Aside0.mk (Q_HO157 hb8_)
     clear Q_HO157
     have HO160 := Aside0.mk (Q_HO160 hb9_)
     clear Q_HO160
     have HO163 := Aside0.mk (Q_HO163 hb10_)
     clear Q_HO163
     clear hall hb0_ hb2_ hb3_ hb4_ hb5_ hb7_ hb8_ hb9_ hb10_ hb11_
     obtain ⟨co28, eo28⟩ := HA_HO150.out
     clear HA_HO150
     subst eo28
     try go_wp2
     go_ret
     exact ⟨_, rz_, by (with_reducible repeat (first | apply Kd.R_alloc | apply Kd.R_drewN | apply Kd.R_drew)); exact HO163.out, bel⟩
    rw [if_neg c11] at H
    exact absurd H (by simp)
   rw [if_neg c10] at H
   exact absurd H (by simp)

/-! ### laws_heldByteS: function 24 -/
def laws_heldByteS.l0 : Nat → List Int → Int → Int → Option (Int)
 | 0, _, _, _ => none
 | k + 1, x0, x1, x5 => if x5 < (x0.length : Int) then (if 0 ≤ x5 then (if (rd x0 x5) = ((x1) % 256) then (laws_heldByteS.l0 k x0 (wrap64 (x1 + 1)) (wrap64 (x5 + 1))) else (some (-1))) else (none)) else (some x1)
def laws_heldByteS.f (k : Nat) (l0 : List Int) (a1 : Int) : Option (Int) := laws_heldByteS.l0 k l0 a1 0
set_option maxHeartbeats 8000000 in
set_option maxRecDepth 100000 in
theorem laws_heldByteS.calls (k : Nat) (A0 : Option Addr) (c0 : Nat) (l0 : List Int) (a1 : Int) (r : Int) (w : World) (hr0 : Kd.C (Kd.int .u8) w A0 l0.length l0) (hc0 : l0.length ≤ c0) (h : laws_heldByteS.f k l0 a1 = some r) :
  Calls Tryd.prog 24 #[.slice A0 l0.length c0, .int .i64 a1] w fun e w' => e = .returned (.int .i64 r) ∧ Drawn0 w w' := by
 have HR0 := Aside0.mk hr0
 have HC0 := Aside0.mk hc0
 clear hr0 hc0
 have H : (laws_heldByteS.l0 k l0 a1 0) = some r := h
 clear h
 have H' := Aside0.mk H
 clear H
 go_enter Tryd.func24, Tryd.ntmps24
 go_wp2
 go_loopg [1, 5] k (fun kq v1 v5 w' => ∃ (x1_1 : Int) (x5_1 : Int), v1 = .int .i64 x1_1 ∧ v5 = .int .i64 x5_1 ∧ Aside0 (laws_heldByteS.l0 kq l0 x1_1 x5_1 = some r) ∧ Aside0 (kq ≤ k) ∧ Drawn0 w w')
 case atStart => exact ⟨(a1), (0), rs_, rs_, H', ⟨Nat.le_refl _⟩, by repeat (first | exact Drawn0.refl _ | apply Drawn0.step)⟩
 case round =>
  clear H'
  try clear c2; try clear p2
  obtain ⟨x1_1, x5_1, rfl, rfl, HA, HK1, ⟨m1, rfl⟩⟩ := hrel
  cases gk with
  | zero => exact absurd HA.out (by simp [laws_heldByteS.l0])
  | succ k1 =>
   have H := HA.out
   clear HA
   simp only [laws_heldByteS.l0] at H
   by_cases c3 : x5_1 < (l0.length : Int)
   ·rw [if_pos c3] at H
    have c3b0 : decide (x5_1 < (l0.length : Int)) = true := decide_eq_true c3
    clear c3
    by_cases c4 : 0 ≤ x5_1
    ·rw [if_pos c4] at H
     have c4b0 : decide (0 ≤ x5_1) = true := decide_eq_true c4
     clear c4
     by_cases c5 : (rd l0 x5_1) = ((x1_1) % 256)
     ·rw [if_pos c5] at H
      have c5b0 : ((rd l0 x5_1) == ((x1_1) % 256)) = true := beq_iff_eq.mpr c5
      have c5b1 : ((rd l0 x5_1) != ((x1_1) % 256)) = false := bne_eq_false_iff_eq.mpr c5
      clear c5
      have H' := Aside0.mk H
      clear H
      have p164 : 0 ≤ (x5_1 : Int) := od
      have q164 : x5_1 < (l0.length : Int) := od
      obtain ⟨ad164, e164, hx164_0⟩ := Kd.at_int HR0.out x5_1 p164 q164
      cases e164
      replace p164 := eq_true p164
      replace q164 := eq_true q164
      go_wp2
      go_roundg k1
      case measure => have := HK1.out; omega
      case rel => exact ⟨(wrap64 (x1_1 + 1)), (wrap64 (x5_1 + 1)), rs_, rs_, H', ⟨by have := HK1.out; omega⟩, by repeat (first | exact Drawn0.refl _ | apply Drawn0.step)⟩
     rw [if_neg c5] at H
     have c5b0 : ((rd l0 x5_1) == ((x1_1) % 256)) = false := beq_eq_false_iff_ne.mpr c5
     have c5b1 : ((rd l0 x5_1) != ((x1_1) % 256)) = true := bne_iff_ne.mpr c5
     obtain rfl := Option.some.inj H
     have p164 : 0 ≤ (x5_1 : Int) := od
     have q164 : x5_1 < (l0.length : Int) := od
     obtain ⟨ad164, e164, hx164_0⟩ := Kd.at_int HR0.out x5_1 p164 q164
     cases e164
     replace p164 := eq_true p164
     replace q164 := eq_true q164
     go_wp2
     go_ret
     exact ⟨by first | rfl | (simp; done) | (simp [*]; done), by repeat (first | exact Drawn0.refl _ | apply Drawn0.step)⟩
    rw [if_neg c4] at H
    exact absurd H (by simp)
   rw [if_neg c3] at H
   have c3b0 : decide (x5_1 < (l0.length : Int)) = false := decide_eq_false c3
   clear c3
   obtain rfl := Option.some.inj H
   go_wp2
   go_ret
   exact ⟨by first | rfl | (simp; done) | (simp [*]; done), by repeat (first | exact Drawn0.refl _ | apply Drawn0.step)⟩

end Go.Proofs.YtmnjdmmljkahgaaDoor.PR
