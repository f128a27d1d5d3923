-- Written for this claim by the session's program pp.py, out of the kit's print and the seat's translation.
import Derived.Test.YtdgegnakiljfjaaPTx0
import Derived.Test.YtdgegnakiljfjaaPTx4
namespace Go.Proofs.Ytdgegnakiljfjaa.PT
open Go.RowKit Go.Proofs.YtdgegnakiljfjaaW.PrintWords Go.Proofs.YtdgegnakiljfjaaW.PrintLast Go.Proofs.YtdgegnakiljfjaaW.PrintMore
attribute [local go_sem] max2_int min2_int max_two min_two max_three min_three max_four min_four   -- for this text's walks alone
set_option linter.unusedVariables false
set_option linter.unusedSimpArgs false

/-! ### impl_KeyOk: function 47 -/
def impl_KeyOk.l0 : Nat → List Int → List Int → Int → Int → Option (Bool)
 | 0, _, _, _, _ => none
 | k + 1, x0, x5, x6, x7 => if x7 < x6 then (if 0 ≤ x7 then (if x7 < (x5.length : Int) then (if (rd x5 x7) < 97 then (if (rd x5 x7) = 47 then (impl_KeyOk.l0 k x0 x5 x6 (wrap64 (x7 + 1))) else (some false)) else (if (rd x5 x7) > 122 then (if (rd x5 x7) = 47 then (impl_KeyOk.l0 k x0 x5 x6 (wrap64 (x7 + 1))) else (some false)) else (impl_KeyOk.l0 k x0 x5 x6 (wrap64 (x7 + 1))))) else (none)) else (none)) else ((impl_within.f (x0.length : Int) 1 20).bind fun t234 => (some t234))
def impl_KeyOk.f (k : Nat) (l0 : List Int) : Option (Bool) := impl_KeyOk.l0 k l0 l0 (l0.length : Int) 0
set_option maxHeartbeats 8000000 in
set_option maxRecDepth 100000 in
theorem impl_KeyOk.calls (k : Nat) (A0 : Option Addr) (c0 : Nat) (l0 : List Int) (r : Bool) (w : World) (hr0 : Kd.C (Kd.int .u8) w A0 l0.length l0) (hc0 : l0.length ≤ c0) (h : impl_KeyOk.f k l0 = some r) :
  Calls Try.prog 47 #[.slice A0 l0.length c0] w fun e w' => e = .returned (.bool r) ∧ Drawn0 w w' := by
 have HR0 := Aside0.mk hr0
 have HC0 := Aside0.mk hc0
 clear hr0 hc0
 have H : (impl_KeyOk.l0 k l0 l0 (l0.length : Int) 0) = some r := h
 clear h
 have H' := Aside0.mk H
 clear H
 go_enter Try.func47, Try.ntmps47
 go_wp2
 go_loopg [7] k (fun kq v7 w' => ∃ (x7_1 : Int), v7 = .int .i64 x7_1 ∧ Aside0 (impl_KeyOk.l0 kq l0 l0 (l0.length : Int) x7_1 = some r) ∧ Aside0 (kq ≤ k) ∧ Drawn0 w w')
 case atStart => exact ⟨(0), rs_, H', ⟨Nat.le_refl _⟩, by repeat (first | exact Drawn0.refl _ | apply Drawn0.step)⟩
 case round =>
  clear H'
  obtain ⟨x7_1, rfl, HA, HK1, ⟨m1, rfl⟩⟩ := hrel
  cases gk with
  | zero => exact absurd HA.out (by simp [impl_KeyOk.l0])
  | succ k1 =>
   have H := HA.out
   clear HA
   simp only [impl_KeyOk.l0] at H
   by_cases c2 : x7_1 < (l0.length : Int)
   ·rw [if_pos c2] at H
    have c2b0 : decide (x7_1 < (l0.length : Int)) = true := decide_eq_true c2
    clear c2
    by_cases c3 : 0 ≤ x7_1
    ·rw [if_pos c3] at H
     have c3b0 : decide (0 ≤ x7_1) = true := decide_eq_true c3
     clear c3
     by_cases c4 : x7_1 < (l0.length : Int)
     ·rw [if_pos c4] at H
      have c4b0 : decide (x7_1 < (l0.length : Int)) = true := decide_eq_true c4
      clear c4
      by_cases c5 : (rd l0 x7_1) < 97
      ·rw [if_pos c5] at H
       have c5b0 : decide ((rd l0 x7_1) < 97) = true := decide_eq_true c5
       clear c5
       by_cases c6 : (rd l0 x7_1) = 47
       ·rw [if_pos c6] at H
        have c6b0 : ((rd l0 x7_1) == 47) = true := beq_iff_eq.mpr c6
        have c6b1 : ((rd l0 x7_1) != 47) = false := bne_eq_false_iff_eq.mpr c6
        clear c6
        have H' := Aside0.mk H
        clear H
        have p233 : 0 ≤ (x7_1 : Int) := od
        have q233 : x7_1 < (l0.length : Int) := od
        obtain ⟨ad233, e233, hx233_0⟩ := Kd.at_int HR0.out x7_1 p233 q233
        cases e233
        replace p233 := eq_true p233
        replace q233 := eq_true q233
        go_wp2
        go_roundg k1
        case measure => have := HK1.out; omega
        case rel => exact ⟨(wrap64 (x7_1 + 1)), rs_, H', ⟨by have := HK1.out; omega⟩, by repeat (first | exact Drawn0.refl _ | apply Drawn0.step)⟩
       rw [if_neg c6] at H
       have c6b0 : ((rd l0 x7_1) == 47) = false := beq_eq_false_iff_ne.mpr c6
       have c6b1 : ((rd l0 x7_1) != 47) = true := bne_iff_ne.mpr c6
       obtain rfl := Option.some.inj H
       have p233 : 0 ≤ (x7_1 : Int) := od
       have q233 : x7_1 < (l0.length : Int) := od
       obtain ⟨ad233, e233, hx233_0⟩ := Kd.at_int HR0.out x7_1 p233 q233
       cases e233
       replace p233 := eq_true p233
       replace q233 := eq_true q233
       go_wp2
       go_ret
       exact ⟨by first | rfl | (simp; done) | (simp [*]; done), by repeat (first | exact Drawn0.refl _ | apply Drawn0.step)⟩
      rw [if_neg c5] at H
      have c5b0 : decide ((rd l0 x7_1) < 97) = false := decide_eq_false c5
      clear c5
      by_cases c7 : (rd l0 x7_1) > 122
      ·rw [if_pos c7] at H
       have c7b0 : decide (122 < (rd l0 x7_1)) = true := decide_eq_true c7
       clear c7
       by_cases c8 : (rd l0 x7_1) = 47
       ·rw [if_pos c8] at H
        have c8b0 : ((rd l0 x7_1) == 47) = true := beq_iff_eq.mpr c8
        have c8b1 : ((rd l0 x7_1) != 47) = false := bne_eq_false_iff_eq.mpr c8
        clear c8
        have H' := Aside0.mk H
        clear H
        have p233 : 0 ≤ (x7_1 : Int) := od
        have q233 : x7_1 < (l0.length : Int) := od
        obtain ⟨ad233, e233, hx233_0⟩ := Kd.at_int HR0.out x7_1 p233 q233
        cases e233
        replace p233 := eq_true p233
        replace q233 := eq_true q233
        go_wp2
        go_roundg k1
        case measure => have := HK1.out; omega
        case rel => exact ⟨(wrap64 (x7_1 + 1)), rs_, H', ⟨by have := HK1.out; omega⟩, by repeat (first | exact Drawn0.refl _ | apply Drawn0.step)⟩
       rw [if_neg c8] at H
       have c8b0 : ((rd l0 x7_1) == 47) = false := beq_eq_false_iff_ne.mpr c8
       have c8b1 : ((rd l0 x7_1) != 47) = true := bne_iff_ne.mpr c8
       obtain rfl := Option.some.inj H
       have p233 : 0 ≤ (x7_1 : Int) := od
       have q233 : x7_1 < (l0.length : Int) := od
       obtain ⟨ad233, e233, hx233_0⟩ := Kd.at_int HR0.out x7_1 p233 q233
       cases e233
       replace p233 := eq_true p233
       replace q233 := eq_true q233
       go_wp2
       go_ret
       exact ⟨by first | rfl | (simp; done) | (simp [*]; done), by repeat (first | exact Drawn0.refl _ | apply Drawn0.step)⟩
      rw [if_neg c7] at H
      have c7b0 : decide (122 < (rd l0 x7_1)) = false := decide_eq_false c7
      clear c7
      have H' := Aside0.mk H
      clear H
      have p233 : 0 ≤ (x7_1 : Int) := od
      have q233 : x7_1 < (l0.length : Int) := od
      obtain ⟨ad233, e233, hx233_0⟩ := Kd.at_int HR0.out x7_1 p233 q233
      cases e233
      replace p233 := eq_true p233
      replace q233 := eq_true q233
      go_wp2
      go_roundg k1
      case measure => have := HK1.out; omega
      case rel => exact ⟨(wrap64 (x7_1 + 1)), rs_, H', ⟨by have := HK1.out; omega⟩, by repeat (first | exact Drawn0.refl _ | apply Drawn0.step)⟩
     rw [if_neg c4] at H
     exact absurd H (by simp)
    rw [if_neg c3] at H
    exact absurd H (by simp)
   rw [if_neg c2] at H
   have c2b0 : decide (x7_1 < (l0.length : Int)) = false := decide_eq_false c2
   clear c2
   replace H := Option.bind_eq_some_iff.mp H
   obtain ⟨t234, A90, H⟩ := H
   replace H : (some t234) = some r := H
   have A9 := Aside0.mk A90
   clear A90
   obtain rfl := Option.some.inj H
   go_wp2_with (first | ((with_reducible refine gate_callee (f := 81) rfl ?_); refine gl_ (some 24) Try.func81 #[.int .i64 (l0.length : Int), .int .i64 1, .int .i64 20] (h := ?_); (with_reducible refine (impl_within.calls (l0.length : Int) 1 20 t234 _ A9.out).mono ?_); rintro e w' ⟨rfl, ⟨nd, rfl⟩⟩; refine ⟨_, rfl, ?_⟩))
   go_ret
   exact ⟨by first | rfl | (simp; done) | (simp [*]; done), by repeat (first | exact Drawn0.refl _ | apply Drawn0.step)⟩

/-! ### impl_isValue: function 82 -/
def impl_isValue.f (l0 : List Int) : Option (Bool) := some (decide ((l0.length : Int) ≤ 20))
set_option maxHeartbeats 8000000 in
set_option maxRecDepth 100000 in
theorem impl_isValue.calls (A0 : Option Addr) (c0 : Nat) (l0 : List Int) (r : Bool) (w : World) (hr0 : Kd.C (Kd.int .u8) w A0 l0.length l0) (hc0 : l0.length ≤ c0) (h : impl_isValue.f l0 = some r) :
  Calls Try.prog 82 #[.slice A0 l0.length c0] w fun e w' => e = .returned (.bool r) ∧ Drawn0 w w' := by
 have HR0 := Aside0.mk hr0
 have HC0 := Aside0.mk hc0
 clear hr0 hc0
 have H : (some (decide ((l0.length : Int) ≤ 20))) = some r := h
 clear h
 obtain rfl := Option.some.inj H
 go_enter Try.func82, Try.ntmps82
 go_wp2
 go_ret
 exact ⟨by first | rfl | (simp; done) | (simp [*]; done), by repeat (first | exact Drawn0.refl _ | apply Drawn0.step)⟩

/-! ### impl_State_session: function 83 -/
def impl_State_session.find (id : Int) : List (S109) → Int → Int
 | [], _ => -1
 | x :: xs, i => if x.f0 = id then i else impl_State_session.find id xs (i + 1)
def impl_State_session.f (a0_0 : Int) (l0_1 : List (S92)) (l0_2 : List (S94)) (a0_3 : Int) (l0_4 : List (S109)) (l0_5 : List (S75)) (a1 : Int) : Option Int := if l0_4.length < 140737488355328 then some (impl_State_session.find a1 l0_4 0) else none
set_option maxHeartbeats 4000000 in
theorem impl_State_session.pred (id a : Int) (b : Bool) (gb : Nat) (W : World) (hc : W.cell? ⟨gb, 0, none⟩ = some (.int .i64 id)) :
  Calls Try.prog 149 #[.agg #[.int .i64 a, .bool b], .pointer (some ⟨gb, 0, none⟩)] W fun e w' => e = .returned (.bool (decide (a = id))) ∧ Below W.heap.size W w' := by
 have hB : gb < W.heap.size := World.block_lt_of_cell? W _ hc
 have hne : gb ≠ W.heap.size := by omega
 have hu := Try.underlying109
 go_enter Try.func149, Try.ntmps149
 go_wp2
 all_goals (go_ret; exact ⟨by first | (simp_all; done) | (simp_all; rfl), (Below.refl _ W).alloc (Nat.le_refl _) _⟩)
set_option maxHeartbeats 8000000 in
set_option maxRecDepth 100000 in
theorem impl_State_session.index (A0 : Option Addr) (c0 : Nat) (l0 : List (S109)) (id : Int) (gb : Nat) (w : World) (hr0 : Kd.C k109 w A0 l0.length l0) (hl : l0.length < 140737488355328) (hc : w.cell? ⟨gb, 0, none⟩ = some (.int .i64 id)) :
  Calls Try.prog 148 #[.slice A0 l0.length c0, .func (.func 149) #[] #[.pointer (some ⟨gb, 0, none⟩)]] w fun e w' => e = .returned (.int .i64 (impl_State_session.find id l0 0)) ∧ Below w.heap.size w w' := by
 have hu := Try.underlying109
 have HR0 := Aside0.mk hr0
 have HC := Aside0.mk hc
 clear hr0 hc
 have eg : ∀ args w, (callFunc 149 args).run Try.prog w = .ok (.enter 149 args) w := by
  intro args w
  have h1 : ¬ Try.f149.name = "runtime.NumGoroutine" := by simp [Try.f149]
  obtain ⟨c, hb⟩ : ∃ c, Try.f149.body = some c := ⟨_, rfl⟩
  simp [callFunc, Try.func149, h1, hb, mark]
 go_enter Try.func148, Try.ntmps148
 go_wp2
 go_loopg [5, 8] l0.length (fun gg _ s8 wr => ∃ x : Int, s8 = .int .i64 x ∧ 0 ≤ x ∧ x ≤ (l0.length : Int) ∧ l0.length - x.toNat ≤ gg ∧ Aside (Below w.heap.size w wr) ∧ Aside (impl_State_session.find id l0 0 = impl_State_session.find id (l0.drop x.toNat) x))
 case atStart => exact ⟨0, rfl, by omega, by omega, by omega, Below.refl _ w, rfl⟩
 case round =>
  obtain ⟨x, rfl, hx0, hx1, hg, BW, A⟩ := hrel
  by_cases hlt : x < (l0.length : Int)
  ·obtain ⟨ad, e, h0, h1⟩ := at_T109 (Kd.C_below HR0.out BW.out) x hx0 hlt
   cases e
   have hcall := impl_State_session.pred id (rd_T109 l0 x).f0 (rd_T109 l0 x).f1 gb wr ((BW.out.cell (World.block_lt_of_cell? w _ HC.out)).trans HC.out)
   have hd : l0.drop x.toNat = rd_T109 l0 x :: l0.drop (x.toNat + 1) := by
    rw [List.drop_eq_getElem_cons (by omega)]
    congr 1
    unfold rd_T109
    simp [List.getD, show x.toNat < l0.length by omega]
   have HD := Aside0.mk hd
   clear hd
   by_cases hq : (rd_T109 l0 x).f0 = id
   ·rw [decide_eq_true hq] at hcall
    have HQ := Aside0.mk hq
    clear hq
    go_wp2_with (refine hcall.mono ?_; rintro e w' ⟨rfl, hb'⟩)
    go_ret
    refine ⟨?_, BW.out.trans (hb'.mono BW.out.size)⟩
    rw [A.out, HD.out, impl_State_session.find, if_pos HQ.out]
    rfl
   rw [decide_eq_false hq] at hcall
   have HQ := Aside0.mk hq
   clear hq
   go_wp2_with (refine hcall.mono ?_; rintro e w' ⟨rfl, hb'⟩)
   go_roundg (l0.length - (x.toNat + 1))
   case measure => omega
   case rel =>
    have ex : (x + 1).toNat = x.toNat + 1 := by omega
    refine ⟨x + 1, by go_num, by omega, by omega, by omega, BW.out.trans (hb'.mono BW.out.size), ?_⟩
    show Aside _
    rw [A.out, HD.out, impl_State_session.find, if_neg HQ.out, ex]
    exact rfl
  have hx : x.toNat = l0.length := by omega
  go_wp2
  go_ret
  refine ⟨?_, BW.out⟩
  rw [A.out, hx, List.drop_length, impl_State_session.find]
  rfl
set_option maxHeartbeats 8000000 in
set_option maxRecDepth 100000 in
theorem impl_State_session.calls (a0_0 : Int) (A0_1 : Option Addr) (c0_1 : Nat) (l0_1 : List (S92)) (A0_2 : Option Addr) (c0_2 : Nat) (l0_2 : List (S94)) (a0_3 : Int) (A0_4 : Option Addr) (c0_4 : Nat) (l0_4 : List (S109)) (A0_5 : Option Addr) (c0_5 : Nat) (l0_5 : List (S75)) (a1 : Int) (r : Int) (w : World) (hr0_1 : Kd.C k92 w A0_1 l0_1.length l0_1) (hc0_1 : l0_1.length ≤ c0_1) (hr0_2 : Kd.C k94 w A0_2 l0_2.length l0_2) (hc0_2 : l0_2.length ≤ c0_2) (hr0_4 : Kd.C k109 w A0_4 l0_4.length l0_4) (hc0_4 : l0_4.length ≤ c0_4) (hr0_5 : Kd.C k75 w A0_5 l0_5.length l0_5) (hc0_5 : l0_5.length ≤ c0_5) (h : impl_State_session.f a0_0 l0_1 l0_2 a0_3 l0_4 l0_5 a1 = some r) :
  Calls Try.prog 83 #[.agg #[.int .i64 a0_0, .slice A0_1 l0_1.length c0_1, .slice A0_2 l0_2.length c0_2, .int .i64 a0_3, .slice A0_4 l0_4.length c0_4, .slice A0_5 l0_5.length c0_5], .int .i64 a1] w fun e w' => e = .returned (.int .i64 r) ∧ Below w.heap.size w w' := by
 unfold impl_State_session.f at h
 by_cases hl : l0_4.length < 140737488355328
 ·rw [if_pos hl] at h
  obtain rfl := Option.some.inj h
  clear h
  have hu := Try.underlying35
  have HL := Aside0.mk hl
  have HR := Aside0.mk hr0_4
  clear hl hr0_1 hc0_1 hr0_2 hc0_2 hr0_4 hc0_4 hr0_5 hc0_5
  have HB := Aside0.mk (Below.refl w.heap.size w)
  go_enter Try.func83, Try.ntmps83
  go_wp2_with (first
   | ((with_reducible refine gate_dst (N := 2) rfl ?_); refine bx_ 2 #[.int .i64 a0_0, .slice A0_1 l0_1.length c0_1, .slice A0_2 l0_2.length c0_2, .int .i64 a0_3, .slice A0_4 l0_4.length c0_4, .slice A0_5 l0_5.length c0_5] 35 (h := ?_); intro gb1 hg w1 hbox hb; have BK1 := Aside0.mk (hbox); have GW1 := Aside0.mk ((by rw [hg]; exact (below_size bel) : w.heap.size ≤ gb1)); replace HB := bst hb; clear hb hbox hg)
   | ((with_reducible refine gate_dst (N := 3) rfl ?_); refine bx_ 3 #[.int .i64 a1] 3 (h := ?_); intro gb2 hg w2 hbox hb; have BK2 := Aside0.mk (hbox); replace BK1 := Aside0.mk (blb BK1 hb); replace HB := bst hb; clear hb hbox hg; have C1_0 : w2.cell? ⟨gb1, 0, none⟩ = some (.int .i64 a0_0) := (blk_cell BK1.out 0).trans rfl; have C1_1 : w2.cell? ⟨gb1, 1, none⟩ = some (.slice A0_1 l0_1.length c0_1) := (blk_cell BK1.out 1).trans rfl; have C1_2 : w2.cell? ⟨gb1, 2, none⟩ = some (.slice A0_2 l0_2.length c0_2) := (blk_cell BK1.out 2).trans rfl; have C1_3 : w2.cell? ⟨gb1, 3, none⟩ = some (.int .i64 a0_3) := (blk_cell BK1.out 3).trans rfl; have C1_4 : w2.cell? ⟨gb1, 4, none⟩ = some (.slice A0_4 l0_4.length c0_4) := (blk_cell BK1.out 4).trans rfl; have C1_5 : w2.cell? ⟨gb1, 5, none⟩ = some (.slice A0_5 l0_5.length c0_5) := (blk_cell BK1.out 5).trans rfl)
   | (go_at_call 148; (refine (impl_State_session.index A0_4 c0_4 l0_4 a1 gb2 _ ?s1 ?s2 ?s3).mono ?_); (case s1 => exact (Kd.C_below HR.out HB.out)); (case s2 => exact HL.out); (case s3 => exact ((blk_cell BK2.out 0).trans rfl)); rintro e w3 ⟨rfl, hb⟩; replace HB := bst hb; clear hb))
  go_ret
  exact ⟨rfl, HB.out⟩
 rw [if_neg hl] at h
 exact absurd h (by simp)

/-! ### bytes_Compare: function 84 -/
def bytes_Compare.u8of (l : List Int) : List UInt8 := l.map fun x => x.toNat.toUInt8
def bytes_Compare.cmp : List Int → List Int → Int
 | [], [] => 0
 | [], _ :: _ => -1
 | _ :: _, [] => 1
 | x :: xs, y :: ys => if x < y then -1 else if y < x then 1 else bytes_Compare.cmp xs ys
def bytes_Compare.f (l0 : List Int) (l1 : List Int) : Option Int := if (∀ x ∈ l0, 0 ≤ x ∧ x ≤ 255) ∧ (∀ x ∈ l1, 0 ≤ x ∧ x ≤ 255) then some (bytes_Compare.cmp l0 l1) else none
theorem bytes_Compare.run_loadBytes {P : Program} (w : World) (n : Nat) : ∀ (a : Addr) (l : List Int) (acc : ByteArray), l.length = n → (∀ i, i < n → w.cell? (a.add i) = some (.int .u8 (l.getD i 0))) →
  (Extern.Bytes.loadBytes a n acc).run P w = .ok (⟨acc.data ++ (bytes_Compare.u8of l).toArray⟩) w := by
 induction n with
 | zero =>
  intro a l acc hl _
  obtain rfl := List.eq_nil_of_length_eq_zero hl
  simp [Extern.Bytes.loadBytes, bytes_Compare.u8of]
 | succ n ih =>
  intro a l acc hl hc
  cases l with
  | nil => simp at hl
  | cons x xs =>
   have h0 := hc 0 (by omega)
   rw [Addr.add_zero'] at h0
   have h := ih (a.add 1) xs (acc.push x.toNat.toUInt8) (by simpa using hl) (fun i hi => by
    have h2 := hc (i + 1) (by omega)
    have e : (a.add 1).add i = a.add (i + 1) := by
     have e2 : (a.add 1).add i = a.add (1 + i) := by first | exact Go.RowKit.add_add _ _ _ | exact Addr.add_add _ _ _ | (unfold Addr.add; split <;> simp_all <;> omega)
     rw [e2, Nat.add_comm]
    rw [e]
    simpa using h2)
   simp only [Extern.Bytes.loadBytes, Sem.run_bind, run_load]
   simp [h0] at *
   rw [h]
   simp [bytes_Compare.u8of]
theorem bytes_Compare.run_bytesOf {P : Program} {w : World} {A : Option Addr} {c : Nat} {l : List Int} (h : Kd.C (Kd.int .u8) w A l.length l) : (Extern.Bytes.bytesOf (.slice A l.length c)).run P w = .ok ⟨(bytes_Compare.u8of l).toArray⟩ w := by
 cases A with
 | none =>
  have hz : l.length = 0 := by
   rcases Nat.eq_zero_or_pos l.length with h2 | h2
   ·exact h2
   ·obtain ⟨ad, e, _⟩ := h.2.2 h2
    cases e
  obtain rfl := List.eq_nil_of_length_eq_zero hz
  simp [Extern.Bytes.bytesOf, bytes_Compare.u8of, ByteArray.empty, ByteArray.emptyWithCapacity]
  rfl
 | some ad =>
  have hl := bytes_Compare.run_loadBytes (P := P) w l.length ad l .empty rfl (fun i hi => by
   obtain ⟨ad', e, hx⟩ := Kd.at_int h (i : Int) (by omega) (by omega)
   cases e
   rw [Int.toNat_natCast] at hx
   rw [hx]
   unfold rd
   rw [Int.toNat_natCast])
  simp only [Extern.Bytes.bytesOf]
  rw [hl]
  simp [ByteArray.empty, ByteArray.emptyWithCapacity]
  rfl
theorem bytes_Compare.cmp_eq : ∀ l0 l1 : List Int, (∀ x ∈ l0, 0 ≤ x ∧ x ≤ 255) → (∀ x ∈ l1, 0 ≤ x ∧ x ≤ 255) → Lib.compareBytes (bytes_Compare.u8of l0) (bytes_Compare.u8of l1) = bytes_Compare.cmp l0 l1
 | [], [], _, _ => rfl
 | [], _ :: _, _, _ => rfl
 | _ :: _, [], _, _ => rfl
 | x :: xs, y :: ys, h0, h1 => by
  have ih := bytes_Compare.cmp_eq xs ys (fun z hz => h0 z (List.mem_cons_of_mem _ hz)) (fun z hz => h1 z (List.mem_cons_of_mem _ hz))
  have a := h0 x (List.mem_cons_self ..)
  have b := h1 y (List.mem_cons_self ..)
  have ea : x.toNat.toUInt8.toNat = x.toNat := by
   rw [Nat.toUInt8, UInt8.toNat_ofNat']
   omega
  have eb : y.toNat.toUInt8.toNat = y.toNat := by
   rw [Nat.toUInt8, UInt8.toNat_ofNat']
   omega
  show (if x.toNat.toUInt8 < y.toNat.toUInt8 then (-1 : Int) else if y.toNat.toUInt8 < x.toNat.toUInt8 then 1 else Lib.compareBytes (bytes_Compare.u8of xs) (bytes_Compare.u8of ys)) = if x < y then -1 else if y < x then 1 else bytes_Compare.cmp xs ys
  have e1 : x.toNat.toUInt8 < y.toNat.toUInt8 ↔ x < y := by
   rw [UInt8.lt_iff_toNat_lt, ea, eb]
   omega
  have e2 : y.toNat.toUInt8 < x.toNat.toUInt8 ↔ y < x := by
   rw [UInt8.lt_iff_toNat_lt, ea, eb]
   omega
  simp only [e1, e2, ih]
set_option maxHeartbeats 8000000 in
set_option maxRecDepth 100000 in
theorem bytes_Compare.calls (A0 : Option Addr) (c0 : Nat) (l0 : List Int) (A1 : Option Addr) (c1 : Nat) (l1 : List Int) (r : Int) (w : World) (hr0 : Kd.C (Kd.int .u8) w A0 l0.length l0) (hc0 : l0.length ≤ c0) (hr1 : Kd.C (Kd.int .u8) w A1 l1.length l1) (hc1 : l1.length ≤ c1) (h : bytes_Compare.f l0 l1 = some r) :
  Calls Try.prog 84 #[.slice A0 l0.length c0, .slice A1 l1.length c1] w fun e w' => e = .returned (.int .i64 r) ∧ Drawn0 w w' := by
 clear hc0 hc1
 unfold bytes_Compare.f at h
 by_cases hb : (∀ x ∈ l0, 0 ≤ x ∧ x ≤ 255) ∧ (∀ x ∈ l1, 0 ≤ x ∧ x ≤ 255)
 case neg =>
  rw [if_neg hb] at h
  exact absurd h (by simp)
 rw [if_pos hb] at h
 obtain rfl := Option.some.inj h
 clear h
 have hx : (callFunc 150 #[.slice A0 l0.length c0, .slice A1 l1.length c1]).run Try.prog w = .ok (.value (.int .i64 (bytes_Compare.cmp l0 l1))) w := by
  rw [run_callFunc_extern (e := Extern.BytealgCompare.compare) Try.func150 (by kernel_rfl) (by rfl) (by kernel_rfl) (by rfl)]
  have hr : (Extern.BytealgCompare.compare #[.slice A0 l0.length c0, .slice A1 l1.length c1]).run Try.prog w = .ok (.int .i64 (bytes_Compare.cmp l0 l1)) w := by
   change Sem.run _ (do pure (goInt (Extern.BytealgCompare.cmp (← Extern.Bytes.bytesOf (.slice A0 l0.length c0)) (← Extern.Bytes.bytesOf (.slice A1 l1.length c1))))) w = _
   simp only [Sem.run_bind, bytes_Compare.run_bytesOf hr0, bytes_Compare.run_bytesOf hr1, Result.andThen, Sem.run_pure, Lib.cmp_eq, bytes_Compare.cmp_eq l0 l1 hb.1 hb.2]
   rfl
  rw [hr]
  rfl
 clear hr0 hr1 hb
 generalize bytes_Compare.cmp l0 l1 = q at hx ⊢
 go_enter Try.func84, Try.ntmps84
 go_wp2
 go_ret
 exact ⟨rfl, Drawn0.refl _⟩

/-! ### impl_State_row_1: function 152 -/
def impl_State_row_1.f (l0_0 : List Int) (l0_1 : List Int) (a0_2 : Int) (a0_3 : Int) (l1 : List Int) : Option (Int) := (bytes_Compare.f l0_0 l1).bind fun t236 => (some t236)
set_option maxHeartbeats 8000000 in
set_option maxRecDepth 100000 in
theorem impl_State_row_1.calls (A0_0 : Option Addr) (c0_0 : Nat) (l0_0 : List Int) (A0_1 : Option Addr) (c0_1 : Nat) (l0_1 : List Int) (a0_2 : Int) (a0_3 : Int) (A1 : Option Addr) (c1 : Nat) (l1 : List Int) (r : Int) (w : World) (hr0_0 : Kd.C (Kd.int .u8) w A0_0 l0_0.length l0_0) (hc0_0 : l0_0.length ≤ c0_0) (hr0_1 : Kd.C (Kd.int .u8) w A0_1 l0_1.length l0_1) (hc0_1 : l0_1.length ≤ c0_1) (hr1 : Kd.C (Kd.int .u8) w A1 l1.length l1) (hc1 : l1.length ≤ c1) (h : impl_State_row_1.f l0_0 l0_1 a0_2 a0_3 l1 = some r) :
  Calls Try.prog 152 #[.agg #[.slice A0_0 l0_0.length c0_0, .slice A0_1 l0_1.length c0_1, .int .i64 a0_2, .int .i64 a0_3], .slice A1 l1.length c1] w fun e w' => e = .returned (.int .i64 r) ∧ Below w.heap.size w w' := by
 have hu92 := Try.underlying92
 have HR0_0 := Aside0.mk hr0_0
 have HC0_0 := Aside0.mk hc0_0
 clear hr0_0 hc0_0
 have HR0_1 := Aside0.mk hr0_1
 have HC0_1 := Aside0.mk hc0_1
 clear hr0_1 hc0_1
 have HR1 := Aside0.mk hr1
 have HC1 := Aside0.mk hc1
 clear hr1 hc1
 have HB := Aside0.mk (Below.refl w.heap.size w)
 have H : ((bytes_Compare.f l0_0 l1).bind fun t236 => (some t236)) = some r := h
 clear h
 replace H := Option.bind_eq_some_iff.mp H
 obtain ⟨t236, A30, H⟩ := H
 replace H : (some t236) = some r := H
 have A3 := Aside0.mk A30
 clear A30
 obtain rfl := Option.some.inj H
 go_enter Try.func152, Try.ntmps152
 go_wp2_with (first | ((with_reducible refine gate_dst (N := 2) rfl ?_); refine bx_ 2 #[.slice A0_0 l0_0.length c0_0, .slice A0_1 l0_1.length c0_1, .int .i64 a0_2, .int .i64 a0_3] 92 (h := ?_); intro gb235 hg w4 hbox hb; have BK235 := Aside0.mk (hbox); have GW235 := Aside0.mk ((by rw [hg]; exact (below_size bel) : w.heap.size ≤ gb235)); have GE235 := GW235; replace HB := bst hb; clear hb hbox hg; obtain ⟨C5_0, C5_1, C5_2, C5_3, -⟩ := cells_4 BK235.out trivial; obtain ⟨F5_0, F5_1, F5_2, F5_3, -⟩ := frz_4 BK235.out) | ((with_reducible refine gate_callee (f := 84) rfl ?_); refine gl_ (some 8) Try.func84 #[.slice A0_0 l0_0.length c0_0, .slice A1 l1.length c1] (h := ?_); (with_reducible refine (bytes_Compare.calls _ _ l0_0 _ _ l1 t236 _ ?side1 ?side2 ?side3 ?side4 A3.out).mono ?_); (case side1 => exact kcb); (case side2 => exact HC0_0.out); (case side3 => exact kcb); (case side4 => exact HC1.out); rintro e w' ⟨rfl, ⟨nd, rfl⟩⟩; refine ⟨_, rfl, ?_⟩))
 go_ret
 exact ⟨rz_, bel⟩

/-! ### impl_Row_byte: function 151 -/
def impl_Row_byte.l0 : Nat → List (S92) → List Int → Int → Int → Int → Option (Int × Bool)
 | 0, _, _, _, _, _ => none
 | k + 1, x0, x1, x8, x9, x10 => if x9 < x10 then (if 0 ≤ (wrap64 ((IntKind.u64.wrap (wrap64 (x9 + x10))) / 2)) then (if (wrap64 ((IntKind.u64.wrap (wrap64 (x9 + x10))) / 2)) < (x0.length : Int) then ((impl_State_row_1.f ((rd_T92 x0 (wrap64 ((IntKind.u64.wrap (wrap64 (x9 + x10))) / 2))).f0) ((rd_T92 x0 (wrap64 ((IntKind.u64.wrap (wrap64 (x9 + x10))) / 2))).f1) ((rd_T92 x0 (wrap64 ((IntKind.u64.wrap (wrap64 (x9 + x10))) / 2))).f2) ((rd_T92 x0 (wrap64 ((IntKind.u64.wrap (wrap64 (x9 + x10))) / 2))).f3) x1).bind fun t238 => (if t238 < 0 then (impl_Row_byte.l0 k x0 x1 x8 (wrap64 ((wrap64 ((IntKind.u64.wrap (wrap64 (x9 + x10))) / 2)) + 1)) x10) else (impl_Row_byte.l0 k x0 x1 x8 x9 (wrap64 ((IntKind.u64.wrap (wrap64 (x9 + x10))) / 2))))) else (none)) else (none)) else (if x9 < x8 then (if 0 ≤ x9 then (if x9 < (x0.length : Int) then ((impl_State_row_1.f ((rd_T92 x0 x9).f0) ((rd_T92 x0 x9).f1) ((rd_T92 x0 x9).f2) ((rd_T92 x0 x9).f3) x1).bind fun t240 => (some (x9, (t240 == 0)))) else (none)) else (none)) else (some (x9, false)))
def impl_Row_byte.f (k : Nat) (l0 : List (S92)) (l1 : List Int) (a2 : Unit) : Option (Int × Bool) := impl_Row_byte.l0 k l0 l1 (l0.length : Int) 0 (l0.length : Int)
set_option maxHeartbeats 8000000 in
set_option maxRecDepth 100000 in
theorem impl_Row_byte.calls (k : Nat) (A0 : Option Addr) (c0 : Nat) (l0 : List (S92)) (A1 : Option Addr) (c1 : Nat) (l1 : List Int) (a2 : Unit) (r1 : Int) (r2 : Bool) (w : World) (hr0 : Kd.C k92 w A0 l0.length l0) (hc0 : l0.length ≤ c0) (hr1 : Kd.C (Kd.int .u8) w A1 l1.length l1) (hc1 : l1.length ≤ c1) (h : impl_Row_byte.f k l0 l1 a2 = some (r1, r2)) :
  Calls Try.prog 151 #[.slice A0 l0.length c0, .slice A1 l1.length c1, .func (.func 152) #[] #[]] w fun e w' => e = .returned (.tuple #[.int .i64 r1, .bool r2]) ∧ Below w.heap.size w w' := by
 have hu92 := Try.underlying92
 have HR0 := Aside0.mk hr0
 have HC0 := Aside0.mk hc0
 clear hr0 hc0
 have HR1 := Aside0.mk hr1
 have HC1 := Aside0.mk hc1
 clear hr1 hc1
 have HB := Aside0.mk (Below.refl w.heap.size w)
 have H : (impl_Row_byte.l0 k l0 l1 (l0.length : Int) 0 (l0.length : Int)) = some (r1, r2) := h
 clear h
 have H' := Aside0.mk H
 clear H
 go_enter Try.func151, Try.ntmps151
 go_wp2
 go_loopg [9, 10] k (fun kq v9 v10 w' => ∃ (x9_1 : Int) (x10_1 : Int), v9 = .int .i64 x9_1 ∧ v10 = .int .i64 x10_1 ∧ Aside0 (impl_Row_byte.l0 kq l0 l1 (l0.length : Int) x9_1 x10_1 = some (r1, r2)) ∧ Aside0 (kq ≤ k) ∧ Aside0 (Below w.heap.size w w'))
 case atStart => exact ⟨(0), ((l0.length : Int)), rs_, rs_, H', ⟨Nat.le_refl _⟩, ⟨bel⟩⟩
 case round =>
  clear H'
  try clear c1; try clear p2
  obtain ⟨x9_1, x10_1, rfl, rfl, HA, HK1, HB⟩ := hrel
  cases gk with
  | zero => exact absurd HA.out (by simp [impl_Row_byte.l0])
  | succ k1 =>
   have H := HA.out
   clear HA
   simp only [impl_Row_byte.l0] at H
   by_cases c4 : x9_1 < x10_1
   ·rw [if_pos c4] at H
    have c4b0 : decide (x9_1 < x10_1) = true := decide_eq_true c4
    clear c4
    obtain ⟨ji5, hji5⟩ : ∃ j_ : Int, (wrap64 ((IntKind.u64.wrap (wrap64 (x9_1 + x10_1))) / 2)) = j_ := ⟨_, rfl⟩
    replace H : (if 0 ≤ (ji5) then (if (ji5) < (l0.length : Int) then ((impl_State_row_1.f ((rd_T92 l0 (ji5)).f0) ((rd_T92 l0 (ji5)).f1) ((rd_T92 l0 (ji5)).f2) ((rd_T92 l0 (ji5)).f3) l1).bind fun t238 => (if t238 < 0 then (impl_Row_byte.l0 k1 l0 l1 (l0.length : Int) (wrap64 ((ji5) + 1)) x10_1) else (impl_Row_byte.l0 k1 l0 l1 (l0.length : Int) x9_1 ji5))) else (none)) else (none)) = some (r1, r2) := by first | (rw [hji5] at H; exact H) | (simp only [hji5] at H ⊢; exact H)
    have hji5w : (IntKind.i64.wrap ((IntKind.u64.wrap (wrap64 (x9_1 + x10_1))) / 2)) = ji5 := (i64_w _).trans hji5
    by_cases c6 : 0 ≤ (ji5)
    ·rw [if_pos c6] at H
     have c6b0 : decide (0 ≤ (ji5)) = true := decide_eq_true c6
     clear c6
     by_cases c7 : (ji5) < (l0.length : Int)
     ·rw [if_pos c7] at H
      have c7b0 : decide ((ji5) < (l0.length : Int)) = true := decide_eq_true c7
      clear c7
      replace H := Option.bind_eq_some_iff.mp H
      obtain ⟨t238, A80, H⟩ := H
      replace H : (if t238 < 0 then (impl_Row_byte.l0 k1 l0 l1 (l0.length : Int) (wrap64 ((ji5) + 1)) x10_1) else (impl_Row_byte.l0 k1 l0 l1 (l0.length : Int) x9_1 ji5)) = some (r1, r2) := H
      have A8 := Aside0.mk A80
      clear A80
      by_cases c9 : t238 < 0
      ·rw [if_pos c9] at H
       have c9b0 : decide (t238 < 0) = true := decide_eq_true c9
       clear c9
       have H' := Aside0.mk H
       clear H
       have p237 : 0 ≤ ((ji5) : Int) := od
       have q237 : (ji5) < (l0.length : Int) := od
       obtain ⟨ad237, A237_0, c237_0, A237_1, c237_1, e237, hx237_0, hx237_1, hx237_2, hx237_3, hl237_0, hi237_0, hl237_1, hi237_1⟩ := at_T92 HR0.out (ji5) p237 q237
       cases e237
       replace hx237_0 := hxb HB hx237_0
       replace hx237_1 := hxb HB hx237_1
       replace hx237_2 := hxb HB hx237_2
       replace hx237_3 := hxb HB hx237_3
       have HR237_0 := Aside0.mk hi237_0
       have HC237_0 := Aside0.mk hl237_0
       clear hi237_0 hl237_0
       have HR237_1 := Aside0.mk hi237_1
       have HC237_1 := Aside0.mk hl237_1
       clear hi237_1 hl237_1
       replace p237 := eq_true p237
       replace q237 := eq_true q237
       go_wp2_with (first | ((with_reducible refine gate_dst (N := 30) rfl ?_); refine glv_ (some 30) Try.func152 #[.agg #[.slice A237_0 ((rd_T92 l0 (ji5)).f0).length c237_0, .slice A237_1 ((rd_T92 l0 (ji5)).f1).length c237_1, .int .i64 ((rd_T92 l0 (ji5)).f2), .int .i64 ((rd_T92 l0 (ji5)).f3)], .slice A1 l1.length c1] (hargs := (by (try simp only [List.map_toArray, List.map_cons, List.map_nil]); first | done | (simp only [hji5]; rfl) | rfl | (simp only [List.length_drop, List.length_take]; rfl))) (h := ?_); (with_reducible refine (impl_State_row_1.calls _ _ ((rd_T92 l0 (ji5)).f0) _ _ ((rd_T92 l0 (ji5)).f1) ((rd_T92 l0 (ji5)).f2) ((rd_T92 l0 (ji5)).f3) _ _ l1 t238 _ ?side1 ?side2 ?side3 ?side4 ?side5 ?side6 A8.out).mono ?_); (case side1 => exact kcb); (case side2 => exact HC237_0.out); (case side3 => exact kcb); (case side4 => exact HC237_1.out); (case side5 => exact kcb); (case side6 => exact HC1.out); rintro e w10 ⟨rfl, hb⟩; refine ⟨_, rfl, ?_⟩; replace HB := bst hb; (try clear hb); (try clear hb2); (try clear hk); (try clear hi)))
       go_roundg k1
       case measure => have := HK1.out; omega
       case rel => exact ⟨(wrap64 ((ji5) + 1)), (x10_1), (by first | rfl | (simp; done) | (simp only [← hji5] <;> (first | rfl | simp)) | (simp [*]; done)), rs_, H', ⟨by have := HK1.out; omega⟩, ⟨bel⟩⟩
      rw [if_neg c9] at H
      have c9b0 : decide (t238 < 0) = false := decide_eq_false c9
      clear c9
      have H' := Aside0.mk H
      clear H
      have p237 : 0 ≤ ((ji5) : Int) := od
      have q237 : (ji5) < (l0.length : Int) := od
      obtain ⟨ad237, A237_0, c237_0, A237_1, c237_1, e237, hx237_0, hx237_1, hx237_2, hx237_3, hl237_0, hi237_0, hl237_1, hi237_1⟩ := at_T92 HR0.out (ji5) p237 q237
      cases e237
      replace hx237_0 := hxb HB hx237_0
      replace hx237_1 := hxb HB hx237_1
      replace hx237_2 := hxb HB hx237_2
      replace hx237_3 := hxb HB hx237_3
      have HR237_0 := Aside0.mk hi237_0
      have HC237_0 := Aside0.mk hl237_0
      clear hi237_0 hl237_0
      have HR237_1 := Aside0.mk hi237_1
      have HC237_1 := Aside0.mk hl237_1
      clear hi237_1 hl237_1
      replace p237 := eq_true p237
      replace q237 := eq_true q237
      go_wp2_with (first | ((with_reducible refine gate_dst (N := 30) rfl ?_); refine glv_ (some 30) Try.func152 #[.agg #[.slice A237_0 ((rd_T92 l0 (ji5)).f0).length c237_0, .slice A237_1 ((rd_T92 l0 (ji5)).f1).length c237_1, .int .i64 ((rd_T92 l0 (ji5)).f2), .int .i64 ((rd_T92 l0 (ji5)).f3)], .slice A1 l1.length c1] (hargs := (by (try simp only [List.map_toArray, List.map_cons, List.map_nil]); first | done | (simp only [hji5]; rfl) | rfl | (simp only [List.length_drop, List.length_take]; rfl))) (h := ?_); (with_reducible refine (impl_State_row_1.calls _ _ ((rd_T92 l0 (ji5)).f0) _ _ ((rd_T92 l0 (ji5)).f1) ((rd_T92 l0 (ji5)).f2) ((rd_T92 l0 (ji5)).f3) _ _ l1 t238 _ ?side1 ?side2 ?side3 ?side4 ?side5 ?side6 A8.out).mono ?_); (case side1 => exact kcb); (case side2 => exact HC237_0.out); (case side3 => exact kcb); (case side4 => exact HC237_1.out); (case side5 => exact kcb); (case side6 => exact HC1.out); rintro e w11 ⟨rfl, hb⟩; refine ⟨_, rfl, ?_⟩; replace HB := bst hb; (try clear hb); (try clear hb2); (try clear hk); (try clear hi)))
      go_roundg k1
      case measure => have := HK1.out; omega
      case rel => exact ⟨(x9_1), (ji5), rs_, (by first | rfl | (simp; done) | (simp only [← hji5] <;> (first | rfl | simp)) | (simp [*]; done)), H', ⟨by have := HK1.out; omega⟩, ⟨bel⟩⟩
     rw [if_neg c7] at H
     exact absurd H (by simp)
    rw [if_neg c6] at H
    exact absurd H (by simp)
   rw [if_neg c4] at H
   have c4b0 : decide (x9_1 < x10_1) = false := decide_eq_false c4
   clear c4
   by_cases c12 : x9_1 < (l0.length : Int)
   ·rw [if_pos c12] at H
    have c12b0 : decide (x9_1 < (l0.length : Int)) = true := decide_eq_true c12
    clear c12
    by_cases c13 : 0 ≤ x9_1
    ·rw [if_pos c13] at H
     have c13b0 : decide (0 ≤ x9_1) = true := decide_eq_true c13
     clear c13
     by_cases c14 : x9_1 < (l0.length : Int)
     ·rw [if_pos c14] at H
      have c14b0 : decide (x9_1 < (l0.length : Int)) = true := decide_eq_true c14
      clear c14
      replace H := Option.bind_eq_some_iff.mp H
      obtain ⟨t240, A150, H⟩ := H
      replace H : (some (x9_1, (t240 == 0))) = some (r1, r2) := H
      have A15 := Aside0.mk A150
      clear A150
      simp only [Option.some.injEq, Prod.mk.injEq] at H
      obtain ⟨rfl, rfl⟩ := H
      have p239 : 0 ≤ (x9_1 : Int) := od
      have q239 : x9_1 < (l0.length : Int) := od
      obtain ⟨ad239, A239_0, c239_0, A239_1, c239_1, e239, hx239_0, hx239_1, hx239_2, hx239_3, hl239_0, hi239_0, hl239_1, hi239_1⟩ := at_T92 HR0.out x9_1 p239 q239
      cases e239
      replace hx239_0 := hxb HB hx239_0
      replace hx239_1 := hxb HB hx239_1
      replace hx239_2 := hxb HB hx239_2
      replace hx239_3 := hxb HB hx239_3
      have HR239_0 := Aside0.mk hi239_0
      have HC239_0 := Aside0.mk hl239_0
      clear hi239_0 hl239_0
      have HR239_1 := Aside0.mk hi239_1
      have HC239_1 := Aside0.mk hl239_1
      clear hi239_1 hl239_1
      replace p239 := eq_true p239
      replace q239 := eq_true q239
      go_wp2_with (first | (go_at_call 152; (with_reducible refine (impl_State_row_1.calls _ _ ((rd_T92 l0 x9_1).f0) _ _ ((rd_T92 l0 x9_1).f1) ((rd_T92 l0 x9_1).f2) ((rd_T92 l0 x9_1).f3) _ _ l1 t240 _ ?side1 ?side2 ?side3 ?side4 ?side5 ?side6 A15.out).mono ?_); (case side1 => exact kcb); (case side2 => exact HC239_0.out); (case side3 => exact kcb); (case side4 => exact HC239_1.out); (case side5 => exact kcb); (case side6 => exact HC1.out); rintro e w16 ⟨rfl, hb⟩; replace HB := bst hb; (try clear hb); (try clear hb2); (try clear hk); (try clear hi)))
      go_ret2
      exact ⟨rz_, bel⟩
     rw [if_neg c14] at H
     exact absurd H (by simp)
    rw [if_neg c13] at H
    exact absurd H (by simp)
   rw [if_neg c12] at H
   have c12b0 : decide (x9_1 < (l0.length : Int)) = false := decide_eq_false c12
   clear c12
   simp only [Option.some.injEq, Prod.mk.injEq] at H
   obtain ⟨rfl, rfl⟩ := H
   go_wp2
   go_ret2
   exact ⟨rz_, bel⟩

/-! ### impl_State_row: function 85 -/
def impl_State_row.f (k : Nat) (a0_0 : Int) (l0_1 : List (S92)) (l0_2 : List (S94)) (a0_3 : Int) (l0_4 : List (S109)) (l0_5 : List (S75)) (l1 : List Int) : Option (Int × Bool) := (impl_Row_byte.f k l0_1 l1 ()).bind fun bt242 => (some (bt242.1, bt242.2))
set_option maxHeartbeats 8000000 in
set_option maxRecDepth 100000 in
theorem impl_State_row.calls (k : Nat) (a0_0 : Int) (A0_1 : Option Addr) (c0_1 : Nat) (l0_1 : List (S92)) (A0_2 : Option Addr) (c0_2 : Nat) (l0_2 : List (S94)) (a0_3 : Int) (A0_4 : Option Addr) (c0_4 : Nat) (l0_4 : List (S109)) (A0_5 : Option Addr) (c0_5 : Nat) (l0_5 : List (S75)) (A1 : Option Addr) (c1 : Nat) (l1 : List Int) (r1 : Int) (r2 : Bool) (w : World) (hr0_1 : Kd.C k92 w A0_1 l0_1.length l0_1) (hc0_1 : l0_1.length ≤ c0_1) (hr0_2 : Kd.C k94 w A0_2 l0_2.length l0_2) (hc0_2 : l0_2.length ≤ c0_2) (hr0_4 : Kd.C k109 w A0_4 l0_4.length l0_4) (hc0_4 : l0_4.length ≤ c0_4) (hr0_5 : Kd.C k75 w A0_5 l0_5.length l0_5) (hc0_5 : l0_5.length ≤ c0_5) (hr1 : Kd.C (Kd.int .u8) w A1 l1.length l1) (hc1 : l1.length ≤ c1) (h : impl_State_row.f k a0_0 l0_1 l0_2 a0_3 l0_4 l0_5 l1 = some (r1, r2)) :
  Calls Try.prog 85 #[.agg #[.int .i64 a0_0, .slice A0_1 l0_1.length c0_1, .slice A0_2 l0_2.length c0_2, .int .i64 a0_3, .slice A0_4 l0_4.length c0_4, .slice A0_5 l0_5.length c0_5], .slice A1 l1.length c1] w fun e w' => e = .returned (.tuple #[.int .i64 r1, .bool r2]) ∧ Below w.heap.size w w' := by
 have hu35 := Try.underlying35
 have HR0_1 := Aside0.mk hr0_1
 have HC0_1 := Aside0.mk hc0_1
 clear hr0_1 hc0_1
 have HR0_2 := Aside0.mk hr0_2
 have HC0_2 := Aside0.mk hc0_2
 clear hr0_2 hc0_2
 have HR0_4 := Aside0.mk hr0_4
 have HC0_4 := Aside0.mk hc0_4
 clear hr0_4 hc0_4
 have HR0_5 := Aside0.mk hr0_5
 have HC0_5 := Aside0.mk hc0_5
 clear hr0_5 hc0_5
 have HR1 := Aside0.mk hr1
 have HC1 := Aside0.mk hc1
 clear hr1 hc1
 have HB := Aside0.mk (Below.refl w.heap.size w)
 have H : ((impl_Row_byte.f k l0_1 l1 ()).bind fun bt242 => (some (bt242.1, bt242.2))) = some (r1, r2) := h
 clear h
 replace H := Option.bind_eq_some_iff.mp H
 obtain ⟨⟨t242, t243⟩, A30, H⟩ := H
 replace H : (some (t242, t243)) = some (r1, r2) := H
 have A3 := Aside0.mk A30
 clear A30
 simp only [Option.some.injEq, Prod.mk.injEq] at H
 obtain ⟨rfl, rfl⟩ := H
 go_enter Try.func85, Try.ntmps85
 go_wp2_with (first | ((with_reducible refine gate_dst (N := 2) rfl ?_); refine bx_ 2 #[.int .i64 a0_0, .slice A0_1 l0_1.length c0_1, .slice A0_2 l0_2.length c0_2, .int .i64 a0_3, .slice A0_4 l0_4.length c0_4, .slice A0_5 l0_5.length c0_5] 35 (h := ?_); intro gb241 hg w4 hbox hb; have BK241 := Aside0.mk (hbox); have GW241 := Aside0.mk ((by rw [hg]; exact (below_size bel) : w.heap.size ≤ gb241)); have GE241 := GW241; replace HB := bst hb; clear hb hbox hg; obtain ⟨C5_0, C5_1, C5_2, C5_3, C5_4, C5_5, -⟩ := cells_6 BK241.out trivial; obtain ⟨F5_0, F5_1, F5_2, F5_3, F5_4, F5_5, -⟩ := frz_6 BK241.out) | ((with_reducible refine gate_callee (f := 151) rfl ?_); refine gl_ (some 9) Try.func151 #[.slice A0_1 l0_1.length c0_1, .slice A1 l1.length c1, .func (.func 152) #[] #[]] (h := ?_); (with_reducible refine (impl_Row_byte.calls k _ _ l0_1 _ _ l1 () t242 t243 _ ?side1 ?side2 ?side3 ?side4 A3.out).mono ?_); (case side1 => exact kcb); (case side2 => exact HC0_1.out); (case side3 => exact kcb); (case side4 => exact HC1.out); rintro e w6 ⟨rfl, hb⟩; refine ⟨_, rfl, ?_⟩; replace BK241 := Aside0.mk (blb BK241 hb); replace HB := bst hb; (try clear hb); (try clear hb2); (try clear hk); (try clear hi)))
 go_ret2
 exact ⟨rz_, bel⟩

/-! ### bytes_Equal: function 116 -/
def bytes_Equal.f (l0 : List Int) (l1 : List Int) : Option (Bool) := some ((strOfNums l0).toList == (strOfNums l1).toList)
set_option maxHeartbeats 8000000 in
set_option maxRecDepth 100000 in
theorem bytes_Equal.calls (A0 : Option Addr) (c0 : Nat) (l0 : List Int) (A1 : Option Addr) (c1 : Nat) (l1 : List Int) (r : Bool) (w : World) (hr0 : Kd.C (Kd.int .u8) w A0 l0.length l0) (hc0 : l0.length ≤ c0) (hr1 : Kd.C (Kd.int .u8) w A1 l1.length l1) (hc1 : l1.length ≤ c1) (h : bytes_Equal.f l0 l1 = some r) :
  Calls Try.prog 116 #[.slice A0 l0.length c0, .slice A1 l1.length c1] w fun e w' => e = .returned (.bool r) ∧ Drawn0 w w' := by
 have HR0 := Aside0.mk hr0
 have HC0 := Aside0.mk hc0
 clear hr0 hc0
 have HR1 := Aside0.mk hr1
 have HC1 := Aside0.mk hc1
 clear hr1 hc1
 have H : (some ((strOfNums l0).toList == (strOfNums l1).toList)) = some r := h
 clear h
 obtain rfl := Option.some.inj H
 have hcv3 := Kd.C_string (P := Try.prog) (A := A0) (c := c0) Try.underlying52 Try.underlying5 Try.underlying9 HR0.out
 have hcw3 := fun nq_ : Nat => Kd.C_string (P := Try.prog) (A := A0) (c := c0) Try.underlying52 Try.underlying5 Try.underlying9 (Kd.C_drewN HR0.out nq_)
 have hcv4 := Kd.C_string (P := Try.prog) (A := A1) (c := c1) Try.underlying52 Try.underlying5 Try.underlying9 HR1.out
 have hcw4 := fun nq_ : Nat => Kd.C_string (P := Try.prog) (A := A1) (c := c1) Try.underlying52 Try.underlying5 Try.underlying9 (Kd.C_drewN HR1.out nq_)
 go_enter Try.func116, Try.ntmps116
 go_wp2
 go_ret
 exact ⟨by first | rfl | (simp; done) | (simp [*]; done), by repeat (first | exact Drawn0.refl _ | apply Drawn0.step)⟩

/-! ### impl_State_tomb: function 86 -/
def impl_State_tomb.find (key : List Int) : List (S94) → Int → Int
 | [], _ => -1
 | x :: xs, i => if ((strOfNums x.f0).toList == (strOfNums key).toList) = true then i else impl_State_tomb.find key xs (i + 1)
def impl_State_tomb.f (a0_0 : Int) (l0_1 : List (S92)) (l0_2 : List (S94)) (a0_3 : Int) (l0_4 : List (S109)) (l0_5 : List (S75)) (l1 : List Int) : Option Int := if l0_2.length < 140737488355328 then some (impl_State_tomb.find l1 l0_2 0) else none
set_option maxHeartbeats 4000000 in
theorem impl_State_tomb.pred (Ak : Option Addr) (ck : Nat) (key : List Int) (Ae : Option Addr) (ce : Nat) (a : List Int) (b : Int) (gb : Nat) (W : World) (hc : W.cell? ⟨gb, 0, none⟩ = some (.slice Ak key.length ck)) (hrk : Kd.C (Kd.int .u8) W Ak key.length key) (hck : key.length ≤ ck) (hre : Kd.C (Kd.int .u8) W Ae a.length a) (hce : a.length ≤ ce) :
  Calls Try.prog 154 #[.agg #[.slice Ae a.length ce, .int .i64 b], .pointer (some ⟨gb, 0, none⟩)] W fun e w' => e = .returned (.bool ((strOfNums a).toList == (strOfNums key).toList)) ∧ Below W.heap.size W w' := by
 have HC := Aside0.mk hc
 have HRK := Aside0.mk hrk
 have HCK := Aside0.mk hck
 have HRE := Aside0.mk hre
 have HCE := Aside0.mk hce
 clear hc hrk hck hre hce
 have HB := Aside0.mk (Below.refl W.heap.size W)
 have hu := Try.underlying94
 go_enter Try.func154, Try.ntmps154
 go_wp2_with (first | ((with_reducible refine gate_dst (N := 2) rfl ?_); refine bx_ 2 #[.slice Ae a.length ce, .int .i64 b] 94 (h := ?_); intro gb1 hg w1 hbox hb; have BK1 := Aside0.mk (hbox); replace HB := bst hb; clear hb hbox hg; have C0 : w1.cell? ⟨gb1, 0, none⟩ = some (.slice Ae a.length ce) := (blk_cell BK1.out 0).trans rfl; have C1 : w1.cell? ⟨gb, 0, none⟩ = some (.slice Ak key.length ck) := (HB.out.cell (World.block_lt_of_cell? W _ HC.out)).trans HC.out) | (go_at_call 116; (refine (bytes_Equal.calls Ae ce a Ak ck key _ _ ?s1 ?s2 ?s3 ?s4 rfl).mono ?_); (case s1 => exact (Kd.C_below HRE.out HB.out)); (case s2 => exact HCE.out); (case s3 => exact (Kd.C_below HRK.out HB.out)); (case s4 => exact HCK.out); rintro e w2 ⟨rfl, hd⟩; have HB2 := Aside0.mk (HB.out.trans (hd.below.mono HB.out.size)); clear hd))
 go_ret
 exact ⟨rfl, HB2.out⟩
set_option maxHeartbeats 8000000 in
set_option maxRecDepth 100000 in
theorem impl_State_tomb.index (A0 : Option Addr) (c0 : Nat) (l0 : List (S94)) (key : List Int) (Ak : Option Addr) (ck : Nat) (gb : Nat) (w : World) (hr0 : Kd.C k94 w A0 l0.length l0) (hl : l0.length < 140737488355328) (hc : w.cell? ⟨gb, 0, none⟩ = some (.slice Ak key.length ck)) (hrk : Kd.C (Kd.int .u8) w Ak key.length key) (hck : key.length ≤ ck) :
  Calls Try.prog 153 #[.slice A0 l0.length c0, .func (.func 154) #[] #[.pointer (some ⟨gb, 0, none⟩)]] w fun e w' => e = .returned (.int .i64 (impl_State_tomb.find key l0 0)) ∧ Below w.heap.size w w' := by
 have hu := Try.underlying94
 have HR0 := Aside0.mk hr0
 have HC := Aside0.mk hc
 have HRK := Aside0.mk hrk
 have HCK := Aside0.mk hck
 clear hr0 hc hrk hck
 have eg : ∀ args w, (callFunc 154 args).run Try.prog w = .ok (.enter 154 args) w := by
  intro args w
  have h1 : ¬ Try.f154.name = "runtime.NumGoroutine" := by simp [Try.f154]
  obtain ⟨c, hb⟩ : ∃ c, Try.f154.body = some c := ⟨_, rfl⟩
  simp [callFunc, Try.func154, h1, hb, mark]
 go_enter Try.func153, Try.ntmps153
 go_wp2
 go_loopg [5, 8] l0.length (fun gg _ s8 wr => ∃ x : Int, s8 = .int .i64 x ∧ 0 ≤ x ∧ x ≤ (l0.length : Int) ∧ l0.length - x.toNat ≤ gg ∧ Aside (Below w.heap.size w wr) ∧ Aside (impl_State_tomb.find key l0 0 = impl_State_tomb.find key (l0.drop x.toNat) x))
 case atStart => exact ⟨0, rfl, by omega, by omega, by omega, Below.refl _ w, rfl⟩
 case round =>
  obtain ⟨x, rfl, hx0, hx1, hg, BW, A⟩ := hrel
  by_cases hlt : x < (l0.length : Int)
  ·obtain ⟨ad, Ae, ce, e, h0, h1, hle, hre⟩ := at_T94 (Kd.C_below HR0.out BW.out) x hx0 hlt
   cases e
   have hcall := impl_State_tomb.pred Ak ck key Ae ce (rd_T94 l0 x).f0 (rd_T94 l0 x).f1 gb wr ((BW.out.cell (World.block_lt_of_cell? w _ HC.out)).trans HC.out) (Kd.C_below HRK.out BW.out) HCK.out hre hle
   clear hre hle
   have hd : l0.drop x.toNat = rd_T94 l0 x :: l0.drop (x.toNat + 1) := by
    rw [List.drop_eq_getElem_cons (by omega)]
    congr 1
    unfold rd_T94
    simp [List.getD, show x.toNat < l0.length by omega]
   have HD := Aside0.mk hd
   clear hd
   by_cases hq : ((strOfNums (rd_T94 l0 x).f0).toList == (strOfNums key).toList) = true
   ·rw [hq] at hcall
    have HQ := Aside0.mk hq
    clear hq
    go_wp2_with (refine hcall.mono ?_; rintro e w' ⟨rfl, hb'⟩)
    go_ret
    refine ⟨?_, BW.out.trans (hb'.mono BW.out.size)⟩
    rw [A.out, HD.out, impl_State_tomb.find, if_pos HQ.out]
    rfl
   rw [eq_false_of_ne_true hq] at hcall
   have HQ := Aside0.mk hq
   clear hq
   go_wp2_with (refine hcall.mono ?_; rintro e w' ⟨rfl, hb'⟩)
   go_roundg (l0.length - (x.toNat + 1))
   case measure => omega
   case rel =>
    have ex : (x + 1).toNat = x.toNat + 1 := by omega
    refine ⟨x + 1, by go_num, by omega, by omega, by omega, BW.out.trans (hb'.mono BW.out.size), ?_⟩
    show Aside _
    rw [A.out, HD.out, impl_State_tomb.find, if_neg HQ.out, ex]
    exact rfl
  have hx : x.toNat = l0.length := by omega
  go_wp2
  go_ret
  refine ⟨?_, BW.out⟩
  rw [A.out, hx, List.drop_length, impl_State_tomb.find]
  rfl
set_option maxHeartbeats 8000000 in
set_option maxRecDepth 100000 in
theorem impl_State_tomb.calls (a0_0 : Int) (A0_1 : Option Addr) (c0_1 : Nat) (l0_1 : List (S92)) (A0_2 : Option Addr) (c0_2 : Nat) (l0_2 : List (S94)) (a0_3 : Int) (A0_4 : Option Addr) (c0_4 : Nat) (l0_4 : List (S109)) (A0_5 : Option Addr) (c0_5 : Nat) (l0_5 : List (S75)) (A1 : Option Addr) (c1 : Nat) (l1 : List Int) (r : Int) (w : World) (hr0_1 : Kd.C k92 w A0_1 l0_1.length l0_1) (hc0_1 : l0_1.length ≤ c0_1) (hr0_2 : Kd.C k94 w A0_2 l0_2.length l0_2) (hc0_2 : l0_2.length ≤ c0_2) (hr0_4 : Kd.C k109 w A0_4 l0_4.length l0_4) (hc0_4 : l0_4.length ≤ c0_4) (hr0_5 : Kd.C k75 w A0_5 l0_5.length l0_5) (hc0_5 : l0_5.length ≤ c0_5) (hr1 : Kd.C (Kd.int .u8) w A1 l1.length l1) (hc1 : l1.length ≤ c1) (h : impl_State_tomb.f a0_0 l0_1 l0_2 a0_3 l0_4 l0_5 l1 = some r) :
  Calls Try.prog 86 #[.agg #[.int .i64 a0_0, .slice A0_1 l0_1.length c0_1, .slice A0_2 l0_2.length c0_2, .int .i64 a0_3, .slice A0_4 l0_4.length c0_4, .slice A0_5 l0_5.length c0_5], .slice A1 l1.length c1] w fun e w' => e = .returned (.int .i64 r) ∧ Below w.heap.size w w' := by
 unfold impl_State_tomb.f at h
 by_cases hl : l0_2.length < 140737488355328
 ·rw [if_pos hl] at h
  obtain rfl := Option.some.inj h
  clear h
  have hu := Try.underlying35
  have HL := Aside0.mk hl
  have HR := Aside0.mk hr0_2
  have HR1 := Aside0.mk hr1
  have HC1 := Aside0.mk hc1
  clear hl hr0_1 hc0_1 hr0_2 hc0_2 hr0_4 hc0_4 hr0_5 hc0_5 hr1 hc1
  have HB := Aside0.mk (Below.refl w.heap.size w)
  go_enter Try.func86, Try.ntmps86
  go_wp2_with (first
   | ((with_reducible refine gate_dst (N := 2) rfl ?_); refine bx_ 2 #[.int .i64 a0_0, .slice A0_1 l0_1.length c0_1, .slice A0_2 l0_2.length c0_2, .int .i64 a0_3, .slice A0_4 l0_4.length c0_4, .slice A0_5 l0_5.length c0_5] 35 (h := ?_); intro gb1 hg w1 hbox hb; have BK1 := Aside0.mk (hbox); have GW1 := Aside0.mk ((by rw [hg]; exact (below_size bel) : w.heap.size ≤ gb1)); replace HB := bst hb; clear hb hbox hg)
   | ((with_reducible refine gate_dst (N := 3) rfl ?_); refine bx_ 3 #[.slice A1 l1.length c1] 52 (h := ?_); intro gb2 hg w2 hbox hb; have BK2 := Aside0.mk (hbox); replace BK1 := Aside0.mk (blb BK1 hb); replace HB := bst hb; clear hb hbox hg; have C1_0 : w2.cell? ⟨gb1, 0, none⟩ = some (.int .i64 a0_0) := (blk_cell BK1.out 0).trans rfl; have C1_1 : w2.cell? ⟨gb1, 1, none⟩ = some (.slice A0_1 l0_1.length c0_1) := (blk_cell BK1.out 1).trans rfl; have C1_2 : w2.cell? ⟨gb1, 2, none⟩ = some (.slice A0_2 l0_2.length c0_2) := (blk_cell BK1.out 2).trans rfl; have C1_3 : w2.cell? ⟨gb1, 3, none⟩ = some (.int .i64 a0_3) := (blk_cell BK1.out 3).trans rfl; have C1_4 : w2.cell? ⟨gb1, 4, none⟩ = some (.slice A0_4 l0_4.length c0_4) := (blk_cell BK1.out 4).trans rfl; have C1_5 : w2.cell? ⟨gb1, 5, none⟩ = some (.slice A0_5 l0_5.length c0_5) := (blk_cell BK1.out 5).trans rfl)
   | (go_at_call 153; (refine (impl_State_tomb.index A0_2 c0_2 l0_2 l1 A1 c1 gb2 _ ?s1 ?s2 ?s3 ?s4 ?s5).mono ?_); (case s1 => exact (Kd.C_below HR.out HB.out)); (case s2 => exact HL.out); (case s3 => exact ((blk_cell BK2.out 0).trans rfl)); (case s4 => exact (Kd.C_below HR1.out HB.out)); (case s5 => exact HC1.out); rintro e w3 ⟨rfl, hb⟩; replace HB := bst hb; clear hb))
  go_ret
  exact ⟨rfl, HB.out⟩
 rw [if_neg hl] at h
 exact absurd h (by simp)

end Go.Proofs.Ytdgegnakiljfjaa.PT
