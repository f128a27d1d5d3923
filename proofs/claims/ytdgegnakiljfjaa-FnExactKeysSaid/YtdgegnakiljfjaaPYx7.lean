-- Written for this claim by the session's program pp.py, out of the kit's print and the seat's translation.
import Derived.Test.YtdgegnakiljfjaaPYx0
import Derived.Test.YtdgegnakiljfjaaPYx2
import Derived.Test.YtdgegnakiljfjaaPYx5
import Derived.Test.YtdgegnakiljfjaaPYx6
namespace Go.Proofs.Ytdgegnakiljfjaa.PY
open Go.RowKit Go.Proofs.YtdgegnakiljfjaaW.PrintWords Go.Proofs.YtdgegnakiljfjaaW.PrintLast Go.Proofs.YtdgegnakiljfjaaW.PrintMore
attribute [local go_sem] max2_int min2_int max_two min_two max_three min_three max_four min_four   -- for this text's walks alone
set_option linter.unusedVariables false
set_option linter.unusedSimpArgs false

/-! ### slices_Clone_byte_byte: function 128 -/
def slices_Clone_byte_byte.f (l0 : List Int) : Option (List Int) := if l0.length < 140737488355328 then some l0 else none
set_option maxHeartbeats 8000000 in
set_option maxRecDepth 100000 in
theorem slices_Clone_byte_byte.calls (A0 : Option Addr) (c0 : Nat) (l0 : List Int) (r : List Int) (w : World) (hr0 : Kd.C (Kd.int .u8) w A0 l0.length l0) (hc0 : l0.length ≤ c0) (h : slices_Clone_byte_byte.f l0 = some r) :
  Calls Try.prog 128 #[.slice A0 l0.length c0] w fun e w' => ∃ v0_ : Value, e = .returned (v0_) ∧ Kd.R (Kd.int .u8) 5 w' w.heap.size (fun _ => True) v0_ r ∧ Below w.heap.size w w' := by
 unfold slices_Clone_byte_byte.f at h
 by_cases hl : l0.length < 140737488355328
 ·rw [if_pos hl] at h
  obtain rfl := Option.some.inj h
  clear h
  have LM := Aside0.mk hl
  clear hl
  have HB := Aside0.mk (Below.refl w.heap.size w)
  cases A0 with
  | none =>
   have hz : l0.length = 0 := by
    rcases Nat.eq_zero_or_pos l0.length with h | h
    ·exact h
    ·obtain ⟨ad, e, _⟩ := hr0.2.2 h
     cases e
   obtain rfl := List.eq_nil_of_length_eq_zero hz
   clear hr0 hc0 hz LM
   have hq := Lib.run_eql_slice_nil (P := Try.prog) w 52 5 none 0 c0 0 0 Try.underlying52
   go_enter Try.func128, Try.ntmps128
   go_wp2
   go_ret
   exact ⟨_, rfl, Kd.R_nil _ _ _ _ _, Below.refl _ _⟩
  | some ad =>
   have HR0 := Aside0.mk hr0
   have HC0 := Aside0.mk hc0
   clear hr0 hc0
   obtain ⟨m, hm⟩ : ∃ m, m = l0.length := ⟨_, rfl⟩
   have HM := Aside0.mk hm
   have hq := Lib.run_eql_slice_nil (P := Try.prog) w 52 5 (some ad) l0.length c0 0 0 Try.underlying52
   go_enter Try.func128, Try.ntmps128
   go_wp2_with (first | ((with_reducible refine gate_dst (N := 5) rfl ?_); refine Kd.R_lit (Kd.int .u8) _ 5 ?hg (N := 5) ?hd (xs := ([] : List Int)) (inner := []) (ok := fun _ => True) (okp := fun _ => True) ?hr ?hp (fun _ hk => hk) trivial (Below.refl _ _) (Nat.le_refl _) (by simp) ?_; (case hd => rfl); (case hg => rfl); (case hr => first | (go_simp; done) | (go_simp; rfl)); (case hp => exact (Reps.none _ _)); intro v111 w5 ho6 hb hg_ hnew_; clear hg_ hnew_; have HO112 := Aside0.mk ho6; have n1_ := Aside0.mk (below_step (by repeat (first | (with_reducible first | exact HB.out | apply below_alloc | apply pw_below_drewN | apply below_drew1) | exact HB.out)) hb); clear HB; have HB := n1_; clear n1_; clear hb ho6) | ((with_reducible refine gate_builtin (b := .append) (xs := #[.tmp 5, .tmp 6]) rfl ?_); at_builtin; refine Kd.R_append_rows (Kd.int .u8) (w0 := w) w.heap.size rfl (.tmp 5) (.tmp 6) 52 5 (.int .u8 0) 1 rfl Try.underlying52 info5 rfl (by decide) (by omega) v111 [] l0 _ _ _ (fun _ => True) (fun _ => False) rfl rfl ?aO ?aR (fun _ _ h => h) (fun _ h => h.elim) ?aF ?aB ?aS ?aL ?_; (case aR => repeat (first | exact (Kd.C_below HR0.out HB.out) | (with_reducible refine Kd.C_alloc ?_ _) | (with_reducible refine Kd.C_drewN ?_ _) | (with_reducible refine Kd.C_drew ?_))); (case aB => exact (by repeat (first | (with_reducible first | exact HB.out | apply below_alloc | apply pw_below_drewN | apply below_drew1) | exact HB.out))); (case aF => exact (fun _ _ => trivial)); (case aO => exact (rkp HO112)); (case aS => exact (below_size (by repeat (first | (with_reducible first | exact HB.out | apply below_alloc | apply pw_below_drewN | apply below_drew1) | exact HB.out)))); (case aL => have := LM.out; simp; omega); intro v114 w7 ho hb hg hat; have n0_ := Aside0.mk (hb); have n1_ := Aside0.mk (ho); clear HB; clear HO112; have HB := n0_; have HO115 := n1_; clear n0_ n1_; clear ho hb hg hat))
   go_ret
   exact ⟨_, rfl, Kd.R_lower HO115.out (Nat.le_refl _), HB.out⟩
 rw [if_neg hl] at h
 exact absurd h (by simp)

/-! ### bytes_HasPrefix: function 131 -/
def bytes_HasPrefix.f (l0 : List Int) (l1 : List Int) : Option (Bool) := if (l0.length : Int) ≥ (l1.length : Int) then (if 0 ≤ (l1.length : Int) then (if (l1.length : Int) ≤ (l0.length : Int) then ((bytes_Equal.f (l0.take ((l1.length : Int) : Int).toNat) l1).bind fun t277 => (some t277)) else (none)) else (none)) else (some false)
set_option maxHeartbeats 8000000 in
set_option maxRecDepth 100000 in
theorem bytes_HasPrefix.calls (A0 : Option Addr) (c0 : Nat) (l0 : List Int) (A1 : Option Addr) (c1 : Nat) (l1 : List Int) (r : Bool) (w : World) (hr0 : Kd.C (Kd.int .u8) w A0 l0.length l0) (hc0 : l0.length ≤ c0) (hr1 : Kd.C (Kd.int .u8) w A1 l1.length l1) (hc1 : l1.length ≤ c1) (h : bytes_HasPrefix.f l0 l1 = some r) :
  Calls Try.prog 131 #[.slice A0 l0.length c0, .slice A1 l1.length c1] w fun e w' => e = .returned (.bool r) ∧ Drawn0 w w' := by
 have HR0 := Aside0.mk hr0
 have HC0 := Aside0.mk hc0
 clear hr0 hc0
 have HR1 := Aside0.mk hr1
 have HC1 := Aside0.mk hc1
 clear hr1 hc1
 have H : (if (l0.length : Int) ≥ (l1.length : Int) then (if 0 ≤ (l1.length : Int) then (if (l1.length : Int) ≤ (l0.length : Int) then ((bytes_Equal.f (l0.take ((l1.length : Int) : Int).toNat) l1).bind fun t277 => (some t277)) else (none)) else (none)) else (some false)) = some r := h
 clear h
 by_cases c3 : (l0.length : Int) ≥ (l1.length : Int)
 ·rw [if_pos c3] at H
  have c3b0 : decide ((l1.length : Int) ≤ (l0.length : Int)) = true := decide_eq_true c3
  have c3b1 : decide (l1.length ≤ l0.length) = true := decide_eq_true (Int.ofNat_le.mp c3)
  clear c3
  by_cases c4 : 0 ≤ (l1.length : Int)
  ·rw [if_pos c4] at H
   have c4b0 := eq_true c4
   have c4b1 : decide (0 ≤ (l1.length : Int)) = true := decide_eq_true c4
   clear c4
   by_cases c5 : (l1.length : Int) ≤ (l0.length : Int)
   ·rw [if_pos c5] at H
    have c5b0 := eq_true c5
    have c5b1 : decide ((l1.length : Int) ≤ (l0.length : Int)) = true := decide_eq_true c5
    clear c5
    replace H := Option.bind_eq_some_iff.mp H
    obtain ⟨t277, A60, H⟩ := H
    replace H : (some t277) = some r := H
    have A6 := Aside0.mk A60
    clear A60
    obtain rfl := Option.some.inj H
    obtain ⟨i07, hi07, _, hsz7, _⟩ := info_parts info5
    obtain ⟨hcut7, hA7, hC7⟩ := print_take_of (P := Try.prog) (Value.int .u8) 0 52 5 .i64 Try.underlying52 hi07 hsz7 A0 c0 l0 (l1.length : Int) od od HC0.out
    have HR276 := Aside0.mk (Kd.C_of_reads (h1 := fun _ => rfl) (hA7 _ (Kd.reads_of_C HR0.out)))
    have HC276 := Aside0.mk hC7
    clear hA7 hC7 hi07 hsz7
    (try rw [show (l0.take ((l1.length : Int) : Int).toNat).length = (l1.length : Int).toNat from (by rw [List.length_take]; have h_ : ((l1.length : Int) : Int) ≤ (l0.length : Int) := od; omega)] at hcut7)
    (try simp only [Int.toNat_natCast] at hcut7)
    go_enter Try.func131, Try.ntmps131
    go_wp2_with (first | (go_at_call 116; refine calls_of_args (args' := #[.slice A0 (l0.take ((l1.length : Int) : Int).toNat).length c0, .slice A1 l1.length c1]) (by first | (rw [show (l0.take ((l1.length : Int) : Int).toNat).length = (l1.length : Int).toNat from (by rw [List.length_take]; have h_ : ((l1.length : Int) : Int) ≤ (l0.length : Int) := od; omega)] <;> rfl) | rfl) ?_; (with_reducible refine (bytes_Equal.calls _ _ (l0.take ((l1.length : Int) : Int).toNat) _ _ l1 t277 _ ?side1 ?side2 ?side3 ?side4 A6.out).mono ?_); (case side1 => repeat (first | exact HR276.out | (with_reducible refine Kd.C_alloc ?_ _) | (with_reducible refine Kd.C_drewN ?_ _) | (with_reducible refine Kd.C_drew ?_))); (case side2 => exact HC276.out); (case side3 => repeat (first | exact HR1.out | (with_reducible refine Kd.C_alloc ?_ _) | (with_reducible refine Kd.C_drewN ?_ _) | (with_reducible refine Kd.C_drew ?_))); (case side4 => exact HC1.out); rintro e w' ⟨rfl, ⟨nd, rfl⟩⟩))
    go_ret
    exact ⟨by first | rfl | (simp; done) | (simp [*]; done), by repeat (first | exact Drawn0.refl _ | apply Drawn0.step)⟩
   rw [if_neg c5] at H
   exact absurd H (by simp)
  rw [if_neg c4] at H
  exact absurd H (by simp)
 rw [if_neg c3] at H
 have c3b0 : decide ((l1.length : Int) ≤ (l0.length : Int)) = false := decide_eq_false c3
 have c3b1 : decide (l1.length ≤ l0.length) = false := decide_eq_false (fun h => c3 (Int.ofNat_le.mpr h))
 clear c3
 obtain rfl := Option.some.inj H
 go_enter Try.func131, Try.ntmps131
 go_wp2
 go_ret
 exact ⟨by first | rfl | (simp; done) | (simp [*]; done), by repeat (first | exact Drawn0.refl _ | apply Drawn0.step)⟩

/-! ### impl_HasPrefix: function 50 -/
def impl_HasPrefix.f (l0 : List Int) (l1 : List Int) : Option (Bool) := (bytes_HasPrefix.f l0 l1).bind fun t278 => (some t278)
set_option maxHeartbeats 8000000 in
set_option maxRecDepth 100000 in
theorem impl_HasPrefix.calls (A0 : Option Addr) (c0 : Nat) (l0 : List Int) (A1 : Option Addr) (c1 : Nat) (l1 : List Int) (r : Bool) (w : World) (hr0 : Kd.C (Kd.int .u8) w A0 l0.length l0) (hc0 : l0.length ≤ c0) (hr1 : Kd.C (Kd.int .u8) w A1 l1.length l1) (hc1 : l1.length ≤ c1) (h : impl_HasPrefix.f l0 l1 = some r) :
  Calls Try.prog 50 #[.slice A0 l0.length c0, .slice A1 l1.length c1] w fun e w' => e = .returned (.bool r) ∧ Drawn0 w w' := by
 have HR0 := Aside0.mk hr0
 have HC0 := Aside0.mk hc0
 clear hr0 hc0
 have HR1 := Aside0.mk hr1
 have HC1 := Aside0.mk hc1
 clear hr1 hc1
 have H : ((bytes_HasPrefix.f l0 l1).bind fun t278 => (some t278)) = some r := h
 clear h
 replace H := Option.bind_eq_some_iff.mp H
 obtain ⟨t278, A30, H⟩ := H
 replace H : (some t278) = some r := H
 have A3 := Aside0.mk A30
 clear A30
 obtain rfl := Option.some.inj H
 go_enter Try.func50, Try.ntmps50
 go_wp2_with (first | ((with_reducible refine gate_callee (f := 131) rfl ?_); refine gl_ (some 7) Try.func131 #[.slice A0 l0.length c0, .slice A1 l1.length c1] (h := ?_); (with_reducible refine (bytes_HasPrefix.calls _ _ l0 _ _ l1 t278 _ ?side1 ?side2 ?side3 ?side4 A3.out).mono ?_); (case side1 => repeat (first | exact HR0.out | (with_reducible refine Kd.C_alloc ?_ _) | (with_reducible refine Kd.C_drewN ?_ _) | (with_reducible refine Kd.C_drew ?_))); (case side2 => exact HC0.out); (case side3 => repeat (first | exact HR1.out | (with_reducible refine Kd.C_alloc ?_ _) | (with_reducible refine Kd.C_drewN ?_ _) | (with_reducible refine Kd.C_drew ?_))); (case side4 => exact HC1.out); rintro e w' ⟨rfl, ⟨nd, rfl⟩⟩; refine ⟨_, rfl, ?_⟩))
 go_ret
 exact ⟨by first | rfl | (simp; done) | (simp [*]; done), by repeat (first | exact Drawn0.refl _ | apply Drawn0.step)⟩

/-! ### virtual_asked_Keys: function 227 -/
theorem virtual_asked_Keys.glc_ {P : Program} {ops : Array Oper} {Q : Exit → Act → World → Prop} {rest : List Oper} {oi : Oper} {a : Act} {w : World} (N : Option Tmp) {f : FuncId} {fn : Func} (hf : P.funcs[f]? = some fn) (args : Array Value) {c : Value} {q : Tmp} {ar : Array Operand} {ts : Array TypeId} (hd : oi.dst = N := by exact rfl) (hg : oi.guard = none := by exact rfl) (hname : (fn.name == "runtime.NumGoroutine") = false := by kernel_rfl) (hb : fn.body.isSome = true := by exact rfl)
  (hop : oi.op = .call { callee := .value (.tmp q), args := ar, argTypes := ts } := by exact rfl) (hv : a.eval (.tmp q) = .func (.func f) #[] #[c] := by rfl) (hargs : ar.map a.eval ++ #[c] = args := by ((try simp only [List.map_toArray, List.map_cons, List.map_nil]); first | done | rfl | (simp only [List.length_drop, List.length_take]; rfl)))
  (h : Calls P f args w fun e w' => ∃ v, e = .returned v ∧ wpList P ops Q rest (a.put N v) w') : wpList P ops Q (oi :: rest) a w := by
 refine wpList_plain hg fun K hK => ?_
 have he := enters_ hf hname hb args w
 have hrun : (execOp a.eval oi).run P w = .ok (.enter f args) w := by
  unfold execOp
  have hargs' : (ar.map a.eval).push c = args := by simpa using hargs
  simp [hop, resolve, Deferred.ofValue, invoke, hv, hargs', hargs, he]
 unfold Oper.wp
 rw [hrun, Oper.upon_enter]
 refine h.mono fun e w'' hh => ?_
 obtain ⟨v, rfl, hk⟩ := hh
 subst hd
 exact hK _ _ hk
def virtual_asked_Keys.f (a0 : List Int) (a1 : List Int) (a2 : Int) (a3 : Int) (p : List Int) : Option Bool := impl_HasPrefix.f a0 p
set_option maxHeartbeats 4000000 in
theorem virtual_asked_Keys.calls (A0 : Option Addr) (c0 : Nat) (l0 : List Int) (A1 : Option Addr) (c1 : Nat) (l1 : List Int) (a2 a3 : Int) (A4 : Option Addr) (c4 : Nat) (l4 : List Int) (r : Bool) (w : World) (gcap : Nat) (hcap : w.cell? ⟨gcap, 0, none⟩ = some (.slice A4 l4.length c4)) (hr0 : Kd.C (Kd.int .u8) w A0 l0.length l0) (hc0 : l0.length ≤ c0) (hr1 : Kd.C (Kd.int .u8) w A1 l1.length l1) (hc1 : l1.length ≤ c1) (hr4 : Kd.C (Kd.int .u8) w A4 l4.length l4) (hc4 : l4.length ≤ c4) (h : virtual_asked_Keys.f l0 l1 a2 a3 l4 = some r) :
  Calls Try.prog 129 #[.agg #[.slice A0 l0.length c0, .slice A1 l1.length c1, .int .i64 a2, .int .i64 a3], .pointer (some ⟨gcap, 0, none⟩)] w fun e w' => e = .returned (.bool r) ∧ Below w.heap.size w w' := by
 have hB : gcap < w.heap.size := World.block_lt_of_cell? w _ hcap
 have hne : gcap ≠ w.heap.size := by omega
 have hu := Try.underlying92
 have HR0 := Aside0.mk hr0
 have HR4 := Aside0.mk hr4
 have HC0 := Aside0.mk hc0
 have HC4 := Aside0.mk hc4
 have HH := Aside0.mk h
 clear hr0 hr1 hr4 hc0 hc1 hc4 h
 have HBW := Aside0.mk (show ∀ o, Below w.heap.size w (w.alloc o) from fun o => (Below.refl _ w).alloc (Nat.le_refl _) o)
 go_enter Try.func129, Try.ntmps129
 go_wp2_with (go_at_call 50; refine (impl_HasPrefix.calls A0 c0 l0 A4 c4 l4 r _ (Kd.C_below HR0.out (HBW.out _)) HC0.out (Kd.C_below HR4.out (HBW.out _)) HC4.out HH.out).mono ?_; rintro e w3 ⟨rfl, hb⟩; have HD := Aside0.mk hb; clear hb)
 go_ret
 exact ⟨rfl, by first | exact (HBW.out _).trans HD.out | exact (HBW.out _).trans (HD.out.mono (Nat.le_of_lt (by simp))) | (have := HD.out; obtain ⟨m, rfl⟩ := this; exact pw_below_drewN (HBW.out _) m)⟩

/-! ### impl_State_keys: function 126 -/
def impl_State_keys.l0 : Nat → List Int → List (List Int) → List (S92) → Int → Int → Option ((List (List Int)))
 | 0, _, _, _, _, _ => none
 | k + 1, x1, x5, x9, x10, x11 => if x11 < x10 then (if 0 ≤ x11 then (if x11 < (x9.length : Int) then ((virtual_asked_Keys.f ((rd_T92 x9 x11).f0) ((rd_T92 x9 x11).f1) ((rd_T92 x9 x11).f2) ((rd_T92 x9 x11).f3) x1).bind fun t282 => (if t282 = true then ((slices_Clone_byte_byte.f ((rd_T92 x9 x11).f0)).bind fun t283 => (if x5.length < 5864062014805 then (impl_State_keys.l0 k x1 (x5 ++ [t283]) x9 x10 (wrap64 (x11 + 1))) else (none))) else (impl_State_keys.l0 k x1 x5 x9 x10 (wrap64 (x11 + 1))))) else (none)) else (none)) else (some x5)
def impl_State_keys.f (k : Nat) (a0_0 : Int) (l0_1 : List (S92)) (l0_2 : List (S94)) (a0_3 : Int) (l0_4 : List (S109)) (l0_5 : List (S75)) (l1 : List Int) : Option ((List (List Int))) := impl_State_keys.l0 k l1 ([] : List (List Int)) l0_1 (l0_1.length : Int) 0
set_option maxHeartbeats 8000000 in
set_option maxRecDepth 100000 in
theorem impl_State_keys.calls (k : Nat) (a0_0 : Int) (A0_1 : Option Addr) (c0_1 : Nat) (l0_1 : List (S92)) (A0_2 : Option Addr) (c0_2 : Nat) (l0_2 : List (S94)) (a0_3 : Int) (A0_4 : Option Addr) (c0_4 : Nat) (l0_4 : List (S109)) (A0_5 : Option Addr) (c0_5 : Nat) (l0_5 : List (S75)) (A1 : Option Addr) (c1 : Nat) (l1 : List Int) (r : List (List Int)) (w : World) (gcap : Nat) (hcap : w.cell? ⟨gcap, 0, none⟩ = some (.slice A1 l1.length c1)) (hr0_1 : Kd.C k92 w A0_1 l0_1.length l0_1) (hc0_1 : l0_1.length ≤ c0_1) (hr0_2 : Kd.C k94 w A0_2 l0_2.length l0_2) (hc0_2 : l0_2.length ≤ c0_2) (hr0_4 : Kd.C k109 w A0_4 l0_4.length l0_4) (hc0_4 : l0_4.length ≤ c0_4) (hr0_5 : Kd.C k75 w A0_5 l0_5.length l0_5) (hc0_5 : l0_5.length ≤ c0_5) (hr1 : Kd.C (Kd.int .u8) w A1 l1.length l1) (hc1 : l1.length ≤ c1) (h : impl_State_keys.f k a0_0 l0_1 l0_2 a0_3 l0_4 l0_5 l1 = some r) :
  Calls Try.prog 126 #[.agg #[.int .i64 a0_0, .slice A0_1 l0_1.length c0_1, .slice A0_2 l0_2.length c0_2, .int .i64 a0_3, .slice A0_4 l0_4.length c0_4, .slice A0_5 l0_5.length c0_5], .func (.func 129) #[] #[.pointer (some ⟨gcap, 0, none⟩)]] w fun e w' => ∃ v0_ : Value, e = .returned (v0_) ∧ Kd.S (Kd.slice 5 (Kd.int .u8)) 52 w' w.heap.size (fun _ => True) v0_ r ∧ Below w.heap.size w w' := by
 have HCAP := Aside0.mk hcap
 clear hcap
 have hu35 := Try.underlying35
 have hu92 := Try.underlying92
 have HR0_1 := Aside0.mk hr0_1
 have HC0_1 := Aside0.mk hc0_1
 clear hr0_1 hc0_1
 have HR0_2 := Aside0.mk hr0_2
 have HC0_2 := Aside0.mk hc0_2
 clear hr0_2 hc0_2
 have HR0_4 := Aside0.mk hr0_4
 have HC0_4 := Aside0.mk hc0_4
 clear hr0_4 hc0_4
 have HR0_5 := Aside0.mk hr0_5
 have HC0_5 := Aside0.mk hc0_5
 clear hr0_5 hc0_5
 have HR1 := Aside0.mk hr1
 have HC1 := Aside0.mk hc1
 clear hr1 hc1
 have HB := Aside0.mk (Below.refl w.heap.size w)
 have H : (impl_State_keys.l0 k l1 ([] : List (List Int)) l0_1 (l0_1.length : Int) 0) = some r := h
 clear h
 have H' := Aside0.mk H
 clear H
 go_enter Try.func126, Try.ntmps126
 go_wp2_with (first | ((with_reducible refine gate_dst (N := 2) rfl ?_); refine bx_ 2 #[.int .i64 a0_0, .slice A0_1 l0_1.length c0_1, .slice A0_2 l0_2.length c0_2, .int .i64 a0_3, .slice A0_4 l0_4.length c0_4, .slice A0_5 l0_5.length c0_5] 35 (h := ?_); intro gb279 hg w3 hbox hb; have BK279 := Aside0.mk (hbox); have GW279 := Aside0.mk ((by rw [hg]; exact (below_size bel) : w.heap.size ≤ gb279)); have GE279 := GW279; replace HB := bst hb; clear hb hbox hg; obtain ⟨C4_0, C4_1, C4_2, C4_3, C4_4, C4_5, -⟩ := cells_6 BK279.out trivial; obtain ⟨F4_0, F4_1, F4_2, F4_3, F4_4, F4_5, -⟩ := frz_6 BK279.out))
 go_loopg [5, 11] k (fun kq v5 v11 w' => ∃ (x5_1 : List (List Int)) (x11_1 : Int), v11 = .int .i64 x11_1 ∧ Aside0 (impl_State_keys.l0 kq l1 x5_1 l0_1 (l0_1.length : Int) x11_1 = some r) ∧ Aside0 (kq ≤ k) ∧ Aside0 (Kd.S (Kd.slice 5 (Kd.int .u8)) 52 w' w.heap.size (fun _ => True) v5 x5_1) ∧ Aside0 (w'.heap[gb279]? = some (.cells #[.int .i64 a0_0, (.slice A0_1 l0_1.length c0_1), (.slice A0_2 l0_2.length c0_2), .int .i64 a0_3, (.slice A0_4 l0_4.length c0_4), (.slice A0_5 l0_5.length c0_5)] 35 (0, 0))) ∧ Aside0 (Below w.heap.size w w'))
 case atStart => exact ⟨(([] : List (List Int))), (0), rs_, H', ⟨Nat.le_refl _⟩, ⟨by first | exact Kd.S_nil _ _ _ _ _ | exact Kd.N_nil _ _ _ _ _ | exact Kd.V_nil _ _ _ _ _ | exact Kd.Q_nil _ _ _ _ _ | exact Kd.R_nil _ _ _ _ _⟩, ⟨bkp BK279⟩, ⟨bel⟩⟩
 case round =>
  clear H'
  try clear c1; try clear p2; try clear C4_0 C4_1 C4_2 C4_3 C4_4 C4_5; try clear F4_0 F4_1 F4_2 F4_3 F4_4 F4_5
  obtain ⟨x5_1, x11_1, rfl, HA, HK1, HO_5, BK279, HB⟩ := hrel
  cases gk with
  | zero => exact absurd HA.out (by simp [impl_State_keys.l0])
  | succ k1 =>
   have H := HA.out
   clear HA
   simp only [impl_State_keys.l0] at H
   by_cases c5 : x11_1 < (l0_1.length : Int)
   ·rw [if_pos c5] at H
    have c5b0 : decide (x11_1 < (l0_1.length : Int)) = true := decide_eq_true c5
    clear c5
    by_cases c6 : 0 ≤ x11_1
    ·rw [if_pos c6] at H
     have c6b0 : decide (0 ≤ x11_1) = true := decide_eq_true c6
     clear c6
     by_cases c7 : x11_1 < (l0_1.length : Int)
     ·rw [if_pos c7] at H
      have c7b0 : decide (x11_1 < (l0_1.length : Int)) = true := decide_eq_true c7
      clear c7
      replace H := Option.bind_eq_some_iff.mp H
      obtain ⟨t282, A80, H⟩ := H
      replace H : (if t282 = true then ((slices_Clone_byte_byte.f ((rd_T92 l0_1 x11_1).f0)).bind fun t283 => (if x5_1.length < 5864062014805 then (impl_State_keys.l0 k1 l1 (x5_1 ++ [t283]) l0_1 (l0_1.length : Int) (wrap64 (x11_1 + 1))) else (none))) else (impl_State_keys.l0 k1 l1 x5_1 l0_1 (l0_1.length : Int) (wrap64 (x11_1 + 1)))) = some r := H
      have A8 := Aside0.mk A80
      clear A80
      by_cases c9 : t282 = true
      ·subst c9
       have H1 : ((slices_Clone_byte_byte.f ((rd_T92 l0_1 x11_1).f0)).bind fun t283 => (if x5_1.length < 5864062014805 then (impl_State_keys.l0 k1 l1 (x5_1 ++ [t283]) l0_1 (l0_1.length : Int) (wrap64 (x11_1 + 1))) else (none))) = some r := by rw [if_pos rfl] at H; exact H
       clear H
       have H := H1
       clear H1
       replace H := Option.bind_eq_some_iff.mp H
       obtain ⟨t283, A100, H⟩ := H
       replace H : (if x5_1.length < 5864062014805 then (impl_State_keys.l0 k1 l1 (x5_1 ++ [t283]) l0_1 (l0_1.length : Int) (wrap64 (x11_1 + 1))) else (none)) = some r := H
       have A10 := Aside0.mk A100
       clear A100
       by_cases c11 : x5_1.length < 5864062014805
       ·rw [if_pos c11] at H
        have LMc11 := Aside0.mk c11
        clear c11
        obtain ⟨y286, hy286⟩ : ∃ y_ : List (List Int), y_ = (x5_1 ++ [t283]) := ⟨_, rfl⟩
        replace H : (impl_State_keys.l0 k1 l1 y286 l0_1 (l0_1.length : Int) (wrap64 (x11_1 + 1))) = some r := by first | (rw [hy286]; with_reducible exact H) | (have H2_ := (Option.bind_some _ _).symm.trans H; rw [hy286]; with_reducible exact H2_) | (have H2_ := (Option.bind_some _ _).symm.trans H; with_reducible exact H2_) | with_reducible exact H | (rw [hy286]; exact H) | exact H
        have Ny286 := Aside0.mk hy286
        clear hy286
        have H' := Aside0.mk H
        clear H
        have p280 : 0 ≤ (x11_1 : Int) := od
        have q280 : x11_1 < (l0_1.length : Int) := od
        obtain ⟨ad280, A280_0, c280_0, A280_1, c280_1, e280, hx280_0, hx280_1, hx280_2, hx280_3, hl280_0, hi280_0, hl280_1, hi280_1⟩ := at_T92 HR0_1.out x11_1 p280 q280
        cases e280
        replace hx280_0 := hxb HB hx280_0
        replace hx280_1 := hxb HB hx280_1
        replace hx280_2 := hxb HB hx280_2
        replace hx280_3 := hxb HB hx280_3
        have HR280_0 := Aside0.mk hi280_0
        have HC280_0 := Aside0.mk hl280_0
        clear hi280_0 hl280_0
        have HR280_1 := Aside0.mk hi280_1
        have HC280_1 := Aside0.mk hl280_1
        clear hi280_1 hl280_1
        replace p280 := eq_true p280
        replace q280 := eq_true q280
        go_wp2_with (first | ((with_reducible refine gate_dst (N := 7) rfl ?_); refine bx_ 7 #[.slice none 0 0, .slice none 0 0, .int .i64 0, .int .i64 0] 92 (h := ?_); intro gb281 hg w12 hbox hb; have BK281 := Aside0.mk (hbox); have GW281 := Aside0.mk ((by rw [hg]; exact (below_size bel) : w.heap.size ≤ gb281)); have GE281 := GW281; have NB279_281 := Aside0.mk ((by rw [hg]; exact Nat.ne_of_lt (blt BK279) : gb279 ≠ gb281)); have NB281_279 := Aside0.mk NB279_281.out.symm; replace HO_5 := Aside0.mk (Kd.S_below (skp HO_5) hb); replace BK279 := Aside0.mk (blb BK279 hb); replace HB := bst hb; clear hb hbox hg; have hnb13 := NB281_279.out; have hnc13 := NB279_281.out; obtain ⟨C14_0, C14_1, C14_2, C14_3, -⟩ := cells_4 BK281.out trivial; obtain ⟨F14_0, F14_1, F14_2, F14_3, -⟩ := frz_4 BK281.out) | ((with_reducible refine gate_dst (N := 17) rfl ?_); refine virtual_asked_Keys.glc_ (some 17) Try.func129 #[.agg #[.slice A280_0 ((rd_T92 l0_1 x11_1).f0).length c280_0, .slice A280_1 ((rd_T92 l0_1 x11_1).f1).length c280_1, .int .i64 ((rd_T92 l0_1 x11_1).f2), .int .i64 ((rd_T92 l0_1 x11_1).f3)], .pointer (some ⟨gcap, 0, none⟩)] (c := .pointer (some ⟨gcap, 0, none⟩)) (h := ?_); (with_reducible refine (virtual_asked_Keys.calls _ _ ((rd_T92 l0_1 x11_1).f0) _ _ ((rd_T92 l0_1 x11_1).f1) ((rd_T92 l0_1 x11_1).f2) ((rd_T92 l0_1 x11_1).f3) A1 c1 l1 true _ gcap ?sideK ?side1 ?side2 ?side3 ?side4 ?side5 ?side6 A8.out).mono ?_); (case sideK => exact ((bel : Below w.heap.size w _).cell (World.block_lt_of_cell? w _ HCAP.out)).trans HCAP.out); (case side1 => exact Kd.C_below HR280_0.out bel); (case side2 => exact HC280_0.out); (case side3 => exact Kd.C_below HR280_1.out bel); (case side4 => exact HC280_1.out); (case side5 => exact Kd.C_below HR1.out bel); (case side6 => exact HC1.out); rintro e w15 ⟨rfl, hb⟩; refine ⟨_, rfl, ?_⟩; replace HO_5 := Aside0.mk (Kd.S_below (by (with_reducible repeat (first | apply Kd.S_alloc | apply Kd.S_drewN | apply Kd.S_drew)); exact (Kd.S_mono (Kd.S_far (p := ⟨gb281, 3, none⟩) (Kd.S_far (p := ⟨gb281, 2, none⟩) (Kd.S_far (p := ⟨gb281, 1, none⟩) (Kd.S_far (p := ⟨gb281, 0, none⟩) (Kd.S_types HO_5.out BK281.out (by decide)) (fun _ hk => hk.2) (.slice A280_0 ((rd_T92 l0_1 x11_1).f0).length c280_0)) (fun _ hk => hk.2) (.slice A280_1 ((rd_T92 l0_1 x11_1).f1).length c280_1)) (fun _ hk => hk.2) (.int .i64 ((rd_T92 l0_1 x11_1).f2))) (fun _ hk => hk.2) (.int .i64 ((rd_T92 l0_1 x11_1).f3))) (fun _ h_ => h_.1))) hb); replace BK279 := Aside0.mk (blk_below (g := gb279) (o := .cells #[.int .i64 a0_0, .slice (some ad280) l0_1.length c0_1, .slice A0_2 l0_2.length c0_2, .int .i64 a0_3, .slice A0_4 l0_4.length c0_4, .slice A0_5 l0_5.length c0_5] 35 (0, 0)) (by (with_reducible repeat (first | refine blk_drewN ?_ _ | refine blk_drew ?_ | refine blk_alloc ?_ _)); refine blk_far ?_ NB279_281.out _; (with_reducible repeat (first | refine blk_drewN ?_ _ | refine blk_drew ?_ | refine blk_alloc ?_ _)); refine blk_far ?_ NB279_281.out _; (with_reducible repeat (first | refine blk_drewN ?_ _ | refine blk_drew ?_ | refine blk_alloc ?_ _)); refine blk_far ?_ NB279_281.out _; (with_reducible repeat (first | refine blk_drewN ?_ _ | refine blk_drew ?_ | refine blk_alloc ?_ _)); refine blk_far ?_ NB279_281.out _; (with_reducible repeat (first | refine blk_drewN ?_ _ | refine blk_drew ?_ | refine blk_alloc ?_ _)); exact BK279.out) hb); replace BK281 := Aside0.mk (blk_below (g := gb281) (o := .cells #[.slice A280_0 ((rd_T92 l0_1 x11_1).f0).length c280_0, .slice A280_1 ((rd_T92 l0_1 x11_1).f1).length c280_1, .int .i64 ((rd_T92 l0_1 x11_1).f2), .int .i64 ((rd_T92 l0_1 x11_1).f3)] 92 (0, 0)) (by (with_reducible repeat (first | refine blk_drewN ?_ _ | refine blk_drew ?_ | refine blk_alloc ?_ _)); refine blk_put (cs := #[.slice A280_0 ((rd_T92 l0_1 x11_1).f0).length c280_0, .slice A280_1 ((rd_T92 l0_1 x11_1).f1).length c280_1, .int .i64 ((rd_T92 l0_1 x11_1).f2), .int .i64 0]) ?_ 3 _ rfl; (with_reducible repeat (first | refine blk_drewN ?_ _ | refine blk_drew ?_ | refine blk_alloc ?_ _)); refine blk_put (cs := #[.slice A280_0 ((rd_T92 l0_1 x11_1).f0).length c280_0, .slice A280_1 ((rd_T92 l0_1 x11_1).f1).length c280_1, .int .i64 0, .int .i64 0]) ?_ 2 _ rfl; (with_reducible repeat (first | refine blk_drewN ?_ _ | refine blk_drew ?_ | refine blk_alloc ?_ _)); refine blk_put (cs := #[.slice A280_0 ((rd_T92 l0_1 x11_1).f0).length c280_0, .slice none 0 0, .int .i64 0, .int .i64 0]) ?_ 1 _ rfl; (with_reducible repeat (first | refine blk_drewN ?_ _ | refine blk_drew ?_ | refine blk_alloc ?_ _)); refine blk_put (cs := #[.slice none 0 0, .slice none 0 0, .int .i64 0, .int .i64 0]) ?_ 0 _ rfl; (with_reducible repeat (first | refine blk_drewN ?_ _ | refine blk_drew ?_ | refine blk_alloc ?_ _)); exact BK281.out) hb); replace HB := bst hb; (try clear hb); (try clear hb2); (try clear hk); (try clear hi); have C16_0 : w15.cell? ⟨gb281, 0, none⟩ = some (.slice A280_0 ((rd_T92 l0_1 x11_1).f0).length c280_0) := (blk_cell BK281.out 0).trans rfl; have C16_1 : w15.cell? ⟨gb281, 1, none⟩ = some (.slice A280_1 ((rd_T92 l0_1 x11_1).f1).length c280_1) := (blk_cell BK281.out 1).trans rfl; have C16_2 : w15.cell? ⟨gb281, 2, none⟩ = some (.int .i64 ((rd_T92 l0_1 x11_1).f2)) := (blk_cell BK281.out 2).trans rfl; have C16_3 : w15.cell? ⟨gb281, 3, none⟩ = some (.int .i64 ((rd_T92 l0_1 x11_1).f3)) := (blk_cell BK281.out 3).trans rfl; obtain ⟨F16_0, F16_1, F16_2, F16_3, -⟩ := frz_4 BK281.out) | ((with_reducible refine gate_callee (f := 128) rfl ?_); refine gl_ (some 21) Try.func128 #[.slice A280_0 ((rd_T92 l0_1 x11_1).f0).length c280_0] (h := ?_); (with_reducible refine (slices_Clone_byte_byte.calls _ _ ((rd_T92 l0_1 x11_1).f0) t283 _ ?side1 ?side2 A10.out).mono ?_); (case side1 => exact kcb); (case side2 => exact HC280_0.out); rintro e w17 ⟨v284, rfl, ho0, hb⟩; refine ⟨_, rfl, ?_⟩; have HO285 := Aside0.mk (Kd.R_lower ho0 (below_size bel)); replace HO_5 := Aside0.mk (Kd.S_elder' (skp HO_5) (Kd.R_base ho0) hb); replace BK279 := Aside0.mk (blb BK279 hb); replace BK281 := Aside0.mk (blb BK281 hb); replace HB := bst hb; (try clear hb); (try clear hb2); (try clear hk); (try clear hi); (try clear ho0); obtain ⟨Ao19, co19, eo19⟩ := Kd.R_slice HO285.out; subst eo19) | ((with_reducible refine gate_builtin (b := .append) (xs := #[.tmp 18, .tmp 22]) rfl ?_); at_builtin; refine Kd.S_append (Kd.slice 5 (Kd.int .u8)) (w0 := w) w.heap.size rfl (.tmp 18) (.tmp 22) 84 52 (.slice none 0 0) 24 rfl Try.underlying84 info52 rfl (by decide) (by omega) u5 x5_1 t283 [.slice Ao19 t283.length co19] (fun _ => True) (fun k_ => some k_ = (.slice Ao19 t283.length co19 : Value).ownBlock) rfl rfl ?aP (fun k_ hk_ => ((Kd.R_mono (ok' := fun k_ => ((fun _ => True)) k_ ∧ some k_ ≠ (u5 : Value).ownBlock) (Kd.R_apart' (HO285.out) (Kd.S_typed HO_5.out) (by decide)) (fun k_ hk => ⟨trivial, hk.2⟩))).1 k_ hk_.symm) ?aF ?aO ?aB ?aS ?aL ?_; (case aP => exact Kd.M_row (Kd.R_mono (Kd.R_tight rfl (Kd.R_mono (ok' := fun k_ => ((fun _ => True)) k_ ∧ some k_ ≠ (u5 : Value).ownBlock) (Kd.R_apart' (HO285.out) (Kd.S_typed HO_5.out) (by decide)) (fun k_ hk => ⟨trivial, hk.2⟩))) (fun _ h_ => h_))); (case aB => exact bel); (case aF => exact (fun _ _ => trivial)); (case aO => exact (by (with_reducible repeat (first | apply Kd.S_alloc | apply Kd.S_drewN | apply Kd.S_drew)); exact Kd.S_mono HO_5.out (fun k_ hk => ⟨trivial, fun e_ => hk.2 e_⟩))); (case aS => exact (below_size bel)); (case aL => have := LMc11.out; omega); intro v287 w18 ho hb hg hat; rw [← Ny286.out] at ho; have n0_ := Aside0.mk (blk_grown (g := gb279) (o := .cells #[.int .i64 a0_0, .slice (some ad280) l0_1.length c0_1, .slice A0_2 l0_2.length c0_2, .int .i64 a0_3, .slice A0_4 l0_4.length c0_4, .slice A0_5 l0_5.length c0_5] 35 (0, 0)) (bkp BK279) hg (Kd.S_ne HO_5.out BK279.out (by decide))); have n1_ := Aside0.mk (blk_grown (g := gb281) (o := .cells #[.slice A280_0 ((rd_T92 l0_1 x11_1).f0).length c280_0, .slice A280_1 ((rd_T92 l0_1 x11_1).f1).length c280_1, .int .i64 ((rd_T92 l0_1 x11_1).f2), .int .i64 ((rd_T92 l0_1 x11_1).f3)] 92 (0, 0)) (bkp BK281) hg (Kd.S_ne HO_5.out BK281.out (by decide))); have n2_ := Aside0.mk (hb); have n3_ := Aside0.mk (ho); clear BK279; clear BK281; clear HB; clear HO_5; clear HO285; have BK279 := n0_; have BK281 := n1_; have HB := n2_; have HO288 := n3_; clear n0_ n1_ n2_ n3_; clear ho hb hg hat))
        go_roundg k1
        case measure => have := HK1.out; omega
        case rel => exact ⟨(y286), (wrap64 (x11_1 + 1)), rs_, H', ⟨by have := HK1.out; omega⟩, ⟨skp HO288⟩, ⟨bkp BK279⟩, ⟨bel⟩⟩
       rw [if_neg c11] at H
       exact absurd H (by simp)
      replace c9 := Bool.eq_false_iff.mpr c9
      subst c9
      have H1 : (impl_State_keys.l0 k1 l1 x5_1 l0_1 (l0_1.length : Int) (wrap64 (x11_1 + 1))) = some r := by rw [if_neg (show ¬ (false = true) by decide)] at H; exact H
      clear H
      have H := H1
      clear H1
      have H' := Aside0.mk H
      clear H
      have p280 : 0 ≤ (x11_1 : Int) := od
      have q280 : x11_1 < (l0_1.length : Int) := od
      obtain ⟨ad280, A280_0, c280_0, A280_1, c280_1, e280, hx280_0, hx280_1, hx280_2, hx280_3, hl280_0, hi280_0, hl280_1, hi280_1⟩ := at_T92 HR0_1.out x11_1 p280 q280
      cases e280
      replace hx280_0 := hxb HB hx280_0
      replace hx280_1 := hxb HB hx280_1
      replace hx280_2 := hxb HB hx280_2
      replace hx280_3 := hxb HB hx280_3
      have HR280_0 := Aside0.mk hi280_0
      have HC280_0 := Aside0.mk hl280_0
      clear hi280_0 hl280_0
      have HR280_1 := Aside0.mk hi280_1
      have HC280_1 := Aside0.mk hl280_1
      clear hi280_1 hl280_1
      replace p280 := eq_true p280
      replace q280 := eq_true q280
      go_wp2_with (first | ((with_reducible refine gate_dst (N := 7) rfl ?_); refine bx_ 7 #[.slice none 0 0, .slice none 0 0, .int .i64 0, .int .i64 0] 92 (h := ?_); intro gb281 hg w20 hbox hb; have BK281 := Aside0.mk (hbox); have GW281 := Aside0.mk ((by rw [hg]; exact (below_size bel) : w.heap.size ≤ gb281)); have GE281 := GW281; have NB279_281 := Aside0.mk ((by rw [hg]; exact Nat.ne_of_lt (blt BK279) : gb279 ≠ gb281)); have NB281_279 := Aside0.mk NB279_281.out.symm; replace HO_5 := Aside0.mk (Kd.S_below (skp HO_5) hb); replace BK279 := Aside0.mk (blb BK279 hb); replace HB := bst hb; clear hb hbox hg; have hnb21 := NB281_279.out; have hnc21 := NB279_281.out; obtain ⟨C22_0, C22_1, C22_2, C22_3, -⟩ := cells_4 BK281.out trivial; obtain ⟨F22_0, F22_1, F22_2, F22_3, -⟩ := frz_4 BK281.out) | ((with_reducible refine gate_dst (N := 17) rfl ?_); refine virtual_asked_Keys.glc_ (some 17) Try.func129 #[.agg #[.slice A280_0 ((rd_T92 l0_1 x11_1).f0).length c280_0, .slice A280_1 ((rd_T92 l0_1 x11_1).f1).length c280_1, .int .i64 ((rd_T92 l0_1 x11_1).f2), .int .i64 ((rd_T92 l0_1 x11_1).f3)], .pointer (some ⟨gcap, 0, none⟩)] (c := .pointer (some ⟨gcap, 0, none⟩)) (h := ?_); (with_reducible refine (virtual_asked_Keys.calls _ _ ((rd_T92 l0_1 x11_1).f0) _ _ ((rd_T92 l0_1 x11_1).f1) ((rd_T92 l0_1 x11_1).f2) ((rd_T92 l0_1 x11_1).f3) A1 c1 l1 false _ gcap ?sideK ?side1 ?side2 ?side3 ?side4 ?side5 ?side6 A8.out).mono ?_); (case sideK => exact ((bel : Below w.heap.size w _).cell (World.block_lt_of_cell? w _ HCAP.out)).trans HCAP.out); (case side1 => exact Kd.C_below HR280_0.out bel); (case side2 => exact HC280_0.out); (case side3 => exact Kd.C_below HR280_1.out bel); (case side4 => exact HC280_1.out); (case side5 => exact Kd.C_below HR1.out bel); (case side6 => exact HC1.out); rintro e w23 ⟨rfl, hb⟩; refine ⟨_, rfl, ?_⟩; replace HO_5 := Aside0.mk (Kd.S_below (by (with_reducible repeat (first | apply Kd.S_alloc | apply Kd.S_drewN | apply Kd.S_drew)); exact (Kd.S_mono (Kd.S_far (p := ⟨gb281, 3, none⟩) (Kd.S_far (p := ⟨gb281, 2, none⟩) (Kd.S_far (p := ⟨gb281, 1, none⟩) (Kd.S_far (p := ⟨gb281, 0, none⟩) (Kd.S_types HO_5.out BK281.out (by decide)) (fun _ hk => hk.2) (.slice A280_0 ((rd_T92 l0_1 x11_1).f0).length c280_0)) (fun _ hk => hk.2) (.slice A280_1 ((rd_T92 l0_1 x11_1).f1).length c280_1)) (fun _ hk => hk.2) (.int .i64 ((rd_T92 l0_1 x11_1).f2))) (fun _ hk => hk.2) (.int .i64 ((rd_T92 l0_1 x11_1).f3))) (fun _ h_ => h_.1))) hb); replace BK279 := Aside0.mk (blk_below (g := gb279) (o := .cells #[.int .i64 a0_0, .slice (some ad280) l0_1.length c0_1, .slice A0_2 l0_2.length c0_2, .int .i64 a0_3, .slice A0_4 l0_4.length c0_4, .slice A0_5 l0_5.length c0_5] 35 (0, 0)) (by (with_reducible repeat (first | refine blk_drewN ?_ _ | refine blk_drew ?_ | refine blk_alloc ?_ _)); refine blk_far ?_ NB279_281.out _; (with_reducible repeat (first | refine blk_drewN ?_ _ | refine blk_drew ?_ | refine blk_alloc ?_ _)); refine blk_far ?_ NB279_281.out _; (with_reducible repeat (first | refine blk_drewN ?_ _ | refine blk_drew ?_ | refine blk_alloc ?_ _)); refine blk_far ?_ NB279_281.out _; (with_reducible repeat (first | refine blk_drewN ?_ _ | refine blk_drew ?_ | refine blk_alloc ?_ _)); refine blk_far ?_ NB279_281.out _; (with_reducible repeat (first | refine blk_drewN ?_ _ | refine blk_drew ?_ | refine blk_alloc ?_ _)); exact BK279.out) hb); replace BK281 := Aside0.mk (blk_below (g := gb281) (o := .cells #[.slice A280_0 ((rd_T92 l0_1 x11_1).f0).length c280_0, .slice A280_1 ((rd_T92 l0_1 x11_1).f1).length c280_1, .int .i64 ((rd_T92 l0_1 x11_1).f2), .int .i64 ((rd_T92 l0_1 x11_1).f3)] 92 (0, 0)) (by (with_reducible repeat (first | refine blk_drewN ?_ _ | refine blk_drew ?_ | refine blk_alloc ?_ _)); refine blk_put (cs := #[.slice A280_0 ((rd_T92 l0_1 x11_1).f0).length c280_0, .slice A280_1 ((rd_T92 l0_1 x11_1).f1).length c280_1, .int .i64 ((rd_T92 l0_1 x11_1).f2), .int .i64 0]) ?_ 3 _ rfl; (with_reducible repeat (first | refine blk_drewN ?_ _ | refine blk_drew ?_ | refine blk_alloc ?_ _)); refine blk_put (cs := #[.slice A280_0 ((rd_T92 l0_1 x11_1).f0).length c280_0, .slice A280_1 ((rd_T92 l0_1 x11_1).f1).length c280_1, .int .i64 0, .int .i64 0]) ?_ 2 _ rfl; (with_reducible repeat (first | refine blk_drewN ?_ _ | refine blk_drew ?_ | refine blk_alloc ?_ _)); refine blk_put (cs := #[.slice A280_0 ((rd_T92 l0_1 x11_1).f0).length c280_0, .slice none 0 0, .int .i64 0, .int .i64 0]) ?_ 1 _ rfl; (with_reducible repeat (first | refine blk_drewN ?_ _ | refine blk_drew ?_ | refine blk_alloc ?_ _)); refine blk_put (cs := #[.slice none 0 0, .slice none 0 0, .int .i64 0, .int .i64 0]) ?_ 0 _ rfl; (with_reducible repeat (first | refine blk_drewN ?_ _ | refine blk_drew ?_ | refine blk_alloc ?_ _)); exact BK281.out) hb); replace HB := bst hb; (try clear hb); (try clear hb2); (try clear hk); (try clear hi)))
      go_roundg k1
      case measure => have := HK1.out; omega
      case rel => exact ⟨(x5_1), (wrap64 (x11_1 + 1)), rs_, H', ⟨by have := HK1.out; omega⟩, ⟨skp HO_5⟩, ⟨bkp BK279⟩, ⟨bel⟩⟩
     rw [if_neg c7] at H
     exact absurd H (by simp)
    rw [if_neg c6] at H
    exact absurd H (by simp)
   rw [if_neg c5] at H
   have c5b0 : decide (x11_1 < (l0_1.length : Int)) = false := decide_eq_false c5
   clear c5
   obtain rfl := Option.some.inj H
   go_wp2
   go_ret
   exact ⟨_, rz_, by (with_reducible repeat (first | apply Kd.S_alloc | apply Kd.S_drewN | apply Kd.S_drew)); exact HO_5.out, bel⟩

/-! ### impl_Keys: function 46 -/
def impl_Keys.f (k : Nat) (a0_0 : Int) (l0_1 : List (S92)) (l0_2 : List (S94)) (a0_3 : Int) (l0_4 : List (S109)) (l0_5 : List (S75)) (l1 : List Int) : Option ((List (List Int))) := (impl_StateOk.f k a0_0 l0_1 l0_2 a0_3 l0_4 l0_5).bind fun t291 => (if t291 = true then ((impl_State_keys.f k a0_0 l0_1 l0_2 a0_3 l0_4 l0_5 l1).bind fun t292 => (some t292)) else (some ([] : List (List Int))))
set_option maxHeartbeats 8000000 in
set_option maxRecDepth 100000 in
theorem impl_Keys.calls (k : Nat) (a0_0 : Int) (A0_1 : Option Addr) (c0_1 : Nat) (l0_1 : List (S92)) (A0_2 : Option Addr) (c0_2 : Nat) (l0_2 : List (S94)) (a0_3 : Int) (A0_4 : Option Addr) (c0_4 : Nat) (l0_4 : List (S109)) (A0_5 : Option Addr) (c0_5 : Nat) (l0_5 : List (S75)) (A1 : Option Addr) (c1 : Nat) (l1 : List Int) (r : List (List Int)) (w : World) (hr0_1 : Kd.C k92 w A0_1 l0_1.length l0_1) (hc0_1 : l0_1.length ≤ c0_1) (hr0_2 : Kd.C k94 w A0_2 l0_2.length l0_2) (hc0_2 : l0_2.length ≤ c0_2) (hr0_4 : Kd.C k109 w A0_4 l0_4.length l0_4) (hc0_4 : l0_4.length ≤ c0_4) (hr0_5 : Kd.C k75 w A0_5 l0_5.length l0_5) (hc0_5 : l0_5.length ≤ c0_5) (hr1 : Kd.C (Kd.int .u8) w A1 l1.length l1) (hc1 : l1.length ≤ c1) (h : impl_Keys.f k a0_0 l0_1 l0_2 a0_3 l0_4 l0_5 l1 = some r) :
  Calls Try.prog 46 #[.agg #[.int .i64 a0_0, .slice A0_1 l0_1.length c0_1, .slice A0_2 l0_2.length c0_2, .int .i64 a0_3, .slice A0_4 l0_4.length c0_4, .slice A0_5 l0_5.length c0_5], .slice A1 l1.length c1] w fun e w' => ∃ v0_ : Value, e = .returned (v0_) ∧ Kd.S (Kd.slice 5 (Kd.int .u8)) 52 w' w.heap.size (fun _ => True) v0_ r ∧ Below w.heap.size w w' := by
 have hu35 := Try.underlying35
 have HR0_1 := Aside0.mk hr0_1
 have HC0_1 := Aside0.mk hc0_1
 clear hr0_1 hc0_1
 have HR0_2 := Aside0.mk hr0_2
 have HC0_2 := Aside0.mk hc0_2
 clear hr0_2 hc0_2
 have HR0_4 := Aside0.mk hr0_4
 have HC0_4 := Aside0.mk hc0_4
 clear hr0_4 hc0_4
 have HR0_5 := Aside0.mk hr0_5
 have HC0_5 := Aside0.mk hc0_5
 clear hr0_5 hc0_5
 have HR1 := Aside0.mk hr1
 have HC1 := Aside0.mk hc1
 clear hr1 hc1
 have HB := Aside0.mk (Below.refl w.heap.size w)
 have H : ((impl_StateOk.f k a0_0 l0_1 l0_2 a0_3 l0_4 l0_5).bind fun t291 => (if t291 = true then ((impl_State_keys.f k a0_0 l0_1 l0_2 a0_3 l0_4 l0_5 l1).bind fun t292 => (some t292)) else (some ([] : List (List Int))))) = some r := h
 clear h
 replace H := Option.bind_eq_some_iff.mp H
 obtain ⟨t291, A30, H⟩ := H
 replace H : (if t291 = true then ((impl_State_keys.f k a0_0 l0_1 l0_2 a0_3 l0_4 l0_5 l1).bind fun t292 => (some t292)) else (some ([] : List (List Int)))) = some r := H
 have A3 := Aside0.mk A30
 clear A30
 by_cases c4 : t291 = true
 ·subst c4
  have H1 : ((impl_State_keys.f k a0_0 l0_1 l0_2 a0_3 l0_4 l0_5 l1).bind fun t292 => (some t292)) = some r := by rw [if_pos rfl] at H; exact H
  clear H
  have H := H1
  clear H1
  replace H := Option.bind_eq_some_iff.mp H
  obtain ⟨t292, A50, H⟩ := H
  replace H : (some t292) = some r := H
  have A5 := Aside0.mk A50
  clear A50
  obtain rfl := Option.some.inj H
  go_enter Try.func46, Try.ntmps46
  go_wp2_with (first | ((with_reducible refine gate_dst (N := 2) rfl ?_); refine bx_ 2 #[.int .i64 a0_0, .slice A0_1 l0_1.length c0_1, .slice A0_2 l0_2.length c0_2, .int .i64 a0_3, .slice A0_4 l0_4.length c0_4, .slice A0_5 l0_5.length c0_5] 35 (h := ?_); intro gb289 hg w6 hbox hb; have BK289 := Aside0.mk (hbox); have GW289 := Aside0.mk ((by rw [hg]; exact (below_size bel) : w.heap.size ≤ gb289)); have GE289 := GW289; replace HB := bst hb; clear hb hbox hg) | ((with_reducible refine gate_dst (N := 3) rfl ?_); refine bx_ 3 #[.slice A1 l1.length c1] 52 (h := ?_); intro gb290 hg w7 hbox hb; have BK290 := Aside0.mk (hbox); have GW290 := Aside0.mk ((by rw [hg]; exact (below_size bel) : w.heap.size ≤ gb290)); have GE290 := GW290; have NB289_290 := Aside0.mk ((by rw [hg]; exact Nat.ne_of_lt (blt BK289) : gb289 ≠ gb290)); have NB290_289 := Aside0.mk NB289_290.out.symm; replace BK289 := Aside0.mk (blb BK289 hb); replace HB := bst hb; clear hb hbox hg; have hnb8 := NB289_290.out; have hnc8 := NB290_289.out; obtain ⟨C9_0, C9_1, C9_2, C9_3, C9_4, C9_5, -⟩ := cells_6 BK289.out trivial; obtain ⟨F9_0, F9_1, F9_2, F9_3, F9_4, F9_5, -⟩ := frz_6 BK289.out) | ((with_reducible refine gate_callee (f := 18) rfl ?_); refine gl_ (some 6) Try.func18 #[.agg #[.int .i64 a0_0, .slice A0_1 l0_1.length c0_1, .slice A0_2 l0_2.length c0_2, .int .i64 a0_3, .slice A0_4 l0_4.length c0_4, .slice A0_5 l0_5.length c0_5]] (h := ?_); (with_reducible refine (impl_StateOk.calls k a0_0 _ _ l0_1 _ _ l0_2 a0_3 _ _ l0_4 _ _ l0_5 true _ ?side1 ?side2 ?side3 ?side4 ?side5 ?side6 ?side7 ?side8 A3.out).mono ?_); (case side1 => exact kcb); (case side2 => exact HC0_1.out); (case side3 => exact kcb); (case side4 => exact HC0_2.out); (case side5 => exact kcb); (case side6 => exact HC0_4.out); (case side7 => exact kcb); (case side8 => exact HC0_5.out); rintro e w10 ⟨rfl, hb⟩; refine ⟨_, rfl, ?_⟩; replace BK289 := Aside0.mk (blb BK289 hb); replace BK290 := Aside0.mk (blb BK290 hb); replace HB := bst hb; (try clear hb); (try clear hb2); (try clear hk); (try clear hi); obtain ⟨C11_0, C11_1, C11_2, C11_3, C11_4, C11_5, -⟩ := cells_6 BK289.out trivial; obtain ⟨F11_0, F11_1, F11_2, F11_3, F11_4, F11_5, -⟩ := frz_6 BK289.out; have C12_0 : w10.cell? ⟨gb290, 0, none⟩ = some (.slice A1 l1.length c1) := (blk_cell BK290.out 0).trans rfl; have F12_0 := blk_frozen BK290.out 0) | ((with_reducible refine gate_callee (f := 126) rfl ?_); refine gl_ (some 10) Try.func126 #[.agg #[.int .i64 a0_0, .slice A0_1 l0_1.length c0_1, .slice A0_2 l0_2.length c0_2, .int .i64 a0_3, .slice A0_4 l0_4.length c0_4, .slice A0_5 l0_5.length c0_5], .func (.func 129) #[] #[.pointer (some ⟨gb290, 0, none⟩)]] (h := ?_); (with_reducible refine (impl_State_keys.calls k a0_0 _ _ l0_1 _ _ l0_2 a0_3 _ _ l0_4 _ _ l0_5 A1 c1 l1 t292 _ gb290 ?sideK ?side1 ?side2 ?side3 ?side4 ?side5 ?side6 ?side7 ?side8 ?side9 ?side10 A5.out).mono ?_); (case sideK => exact (blk_cell (bkp BK290) 0).trans rfl); (case side1 => exact kcb); (case side2 => exact HC0_1.out); (case side3 => exact kcb); (case side4 => exact HC0_2.out); (case side5 => exact kcb); (case side6 => exact HC0_4.out); (case side7 => exact kcb); (case side8 => exact HC0_5.out); (case side9 => exact kcb); (case side10 => exact HC1.out); rintro e w13 ⟨v293, rfl, ho0, hb⟩; refine ⟨_, rfl, ?_⟩; have HO294 := Aside0.mk (Kd.S_lower (Kd.S_newB ho0 (g := gb290) (o := .cells #[.slice A1 l1.length c1] 52 (0, 0)) (bkp BK290)) (below_size bel)); replace BK289 := Aside0.mk (blb BK289 hb); replace BK290 := Aside0.mk (blb BK290 hb); replace HB := bst hb; (try clear hb); (try clear hb2); (try clear hk); (try clear hi); (try clear ho0)))
  go_ret
  exact ⟨_, rz_, by (with_reducible repeat (first | apply Kd.S_alloc | apply Kd.S_drewN | apply Kd.S_drew)); exact Kd.S_mono HO294.out (fun _ hk => trivial), bel⟩
 replace c4 := Bool.eq_false_iff.mpr c4
 subst c4
 have H1 : (some ([] : List (List Int))) = some r := by rw [if_neg (show ¬ (false = true) by decide)] at H; exact H
 clear H
 have H := H1
 clear H1
 obtain rfl := Option.some.inj H
 go_enter Try.func46, Try.ntmps46
 go_wp2_with (first | ((with_reducible refine gate_dst (N := 2) rfl ?_); refine bx_ 2 #[.int .i64 a0_0, .slice A0_1 l0_1.length c0_1, .slice A0_2 l0_2.length c0_2, .int .i64 a0_3, .slice A0_4 l0_4.length c0_4, .slice A0_5 l0_5.length c0_5] 35 (h := ?_); intro gb289 hg w14 hbox hb; have BK289 := Aside0.mk (hbox); have GW289 := Aside0.mk ((by rw [hg]; exact (below_size bel) : w.heap.size ≤ gb289)); have GE289 := GW289; replace HB := bst hb; clear hb hbox hg) | ((with_reducible refine gate_dst (N := 3) rfl ?_); refine bx_ 3 #[.slice A1 l1.length c1] 52 (h := ?_); intro gb290 hg w15 hbox hb; have BK290 := Aside0.mk (hbox); have GW290 := Aside0.mk ((by rw [hg]; exact (below_size bel) : w.heap.size ≤ gb290)); have GE290 := GW290; have NB289_290 := Aside0.mk ((by rw [hg]; exact Nat.ne_of_lt (blt BK289) : gb289 ≠ gb290)); have NB290_289 := Aside0.mk NB289_290.out.symm; replace BK289 := Aside0.mk (blb BK289 hb); replace HB := bst hb; clear hb hbox hg; have hnb16 := NB289_290.out; have hnc16 := NB290_289.out; obtain ⟨C17_0, C17_1, C17_2, C17_3, C17_4, C17_5, -⟩ := cells_6 BK289.out trivial; obtain ⟨F17_0, F17_1, F17_2, F17_3, F17_4, F17_5, -⟩ := frz_6 BK289.out) | ((with_reducible refine gate_callee (f := 18) rfl ?_); refine gl_ (some 6) Try.func18 #[.agg #[.int .i64 a0_0, .slice A0_1 l0_1.length c0_1, .slice A0_2 l0_2.length c0_2, .int .i64 a0_3, .slice A0_4 l0_4.length c0_4, .slice A0_5 l0_5.length c0_5]] (h := ?_); (with_reducible refine (impl_StateOk.calls k a0_0 _ _ l0_1 _ _ l0_2 a0_3 _ _ l0_4 _ _ l0_5 false _ ?side1 ?side2 ?side3 ?side4 ?side5 ?side6 ?side7 ?side8 A3.out).mono ?_); (case side1 => exact kcb); (case side2 => exact HC0_1.out); (case side3 => exact kcb); (case side4 => exact HC0_2.out); (case side5 => exact kcb); (case side6 => exact HC0_4.out); (case side7 => exact kcb); (case side8 => exact HC0_5.out); rintro e w18 ⟨rfl, hb⟩; refine ⟨_, rfl, ?_⟩; replace BK289 := Aside0.mk (blb BK289 hb); replace BK290 := Aside0.mk (blb BK290 hb); replace HB := bst hb; (try clear hb); (try clear hb2); (try clear hk); (try clear hi)))
 go_ret
 exact ⟨_, rz_, by first | exact Kd.S_nil _ _ _ _ _ | exact Kd.N_nil _ _ _ _ _ | exact Kd.V_nil _ _ _ _ _ | exact Kd.Q_nil _ _ _ _ _ | exact Kd.R_nil _ _ _ _ _, bel⟩

/-! ### laws_eqByteSS: function 56 -/
def laws_eqByteSS.l0 : Nat → List (List Int) → List (List Int) → Int → Option (Bool)
 | 0, _, _, _ => none
 | k + 1, x0, x1, x5 => if x5 < (x0.length : Int) then (if 0 ≤ x5 then (if x5 < (x1.length : Int) then ((laws_eqByteS.f k (rd_L1 x0 x5) (rd_L1 x1 x5)).bind fun t297 => (if t297 = true then (laws_eqByteSS.l0 k x0 x1 (wrap64 (x5 + 1))) else (some false))) else (none)) else (none)) else (some true)
def laws_eqByteSS.f (k : Nat) (l0 : List (List Int)) (l1 : List (List Int)) : Option (Bool) := if (l0.length : Int) = (l1.length : Int) then (laws_eqByteSS.l0 k l0 l1 0) else (some false)
set_option maxHeartbeats 8000000 in
set_option maxRecDepth 100000 in
theorem laws_eqByteSS.calls (k : Nat) (A0 : Option Addr) (c0 : Nat) (l0 : List (List Int)) (A1 : Option Addr) (c1 : Nat) (l1 : List (List Int)) (r : Bool) (w : World) (hr0 : Kd.C (Kd.slice 5 (Kd.int .u8)) w A0 l0.length l0) (hc0 : l0.length ≤ c0) (hr1 : Kd.C (Kd.slice 5 (Kd.int .u8)) w A1 l1.length l1) (hc1 : l1.length ≤ c1) (h : laws_eqByteSS.f k l0 l1 = some r) :
  Calls Try.prog 56 #[.slice A0 l0.length c0, .slice A1 l1.length c1] w fun e w' => e = .returned (.bool r) ∧ Drawn0 w w' := by
 have HR0 := Aside0.mk hr0
 have HC0 := Aside0.mk hc0
 clear hr0 hc0
 have HR1 := Aside0.mk hr1
 have HC1 := Aside0.mk hc1
 clear hr1 hc1
 have H : (if (l0.length : Int) = (l1.length : Int) then (laws_eqByteSS.l0 k l0 l1 0) else (some false)) = some r := h
 clear h
 by_cases c3 : (l0.length : Int) = (l1.length : Int)
 ·rw [if_pos c3] at H
  have c3b0 : ((l0.length : Int) == (l1.length : Int)) = true := beq_iff_eq.mpr c3
  have c3b1 : ((l0.length : Int) != (l1.length : Int)) = false := bne_eq_false_iff_eq.mpr c3
  have c3b2 : (l0.length == l1.length) = true := by first | simpa using c3 | (simp at c3 ⊢; omega)
  clear c3
  have H' := Aside0.mk H
  clear H
  go_enter Try.func56, Try.ntmps56
  go_wp2
  repeat (go_quiet (fail); try go_wp2)
  go_loopg [5] k (fun kq v5 w' => ∃ (x5_1 : Int), v5 = .int .i64 x5_1 ∧ Aside0 (laws_eqByteSS.l0 kq l0 l1 x5_1 = some r) ∧ Aside0 (kq ≤ k) ∧ Drawn0 w w')
  case atStart => exact ⟨(0), rs_, H', ⟨Nat.le_refl _⟩, by repeat (first | exact Drawn0.refl _ | apply Drawn0.step)⟩
  case round =>
   clear H'
   try clear c1; try clear p2; try clear c3; try clear c3b0; try clear c3b1; try clear c3b2
   obtain ⟨x5_1, rfl, HA, HK1, ⟨m1, rfl⟩⟩ := hrel
   cases gk with
   | zero => exact absurd HA.out (by simp [laws_eqByteSS.l0])
   | succ k1 =>
    have H := HA.out
    clear HA
    simp only [laws_eqByteSS.l0] at H
    by_cases c4 : x5_1 < (l0.length : Int)
    ·rw [if_pos c4] at H
     have c4b0 : decide (x5_1 < (l0.length : Int)) = true := decide_eq_true c4
     clear c4
     by_cases c5 : 0 ≤ x5_1
     ·rw [if_pos c5] at H
      have c5b0 : decide (0 ≤ x5_1) = true := decide_eq_true c5
      clear c5
      by_cases c6 : x5_1 < (l1.length : Int)
      ·rw [if_pos c6] at H
       have c6b0 : decide (x5_1 < (l1.length : Int)) = true := decide_eq_true c6
       clear c6
       replace H := Option.bind_eq_some_iff.mp H
       obtain ⟨t297, A70, H⟩ := H
       replace H : (if t297 = true then (laws_eqByteSS.l0 k1 l0 l1 (wrap64 (x5_1 + 1))) else (some false)) = some r := H
       have A7 := Aside0.mk A70
       clear A70
       by_cases c8 : t297 = true
       ·subst c8
        have H1 : (laws_eqByteSS.l0 k1 l0 l1 (wrap64 (x5_1 + 1))) = some r := by rw [if_pos rfl] at H; exact H
        clear H
        have H := H1
        clear H1
        have H' := Aside0.mk H
        clear H
        have p295 : 0 ≤ (x5_1 : Int) := od
        have q295 : x5_1 < (l0.length : Int) := od
        obtain ⟨ad295, A295_0, c295_0, e295, hx295_0, hl295_0, hi295_0⟩ := at_L1 HR0.out x5_1 p295 q295
        cases e295
        have HR295_0 := Aside0.mk hi295_0
        have HC295_0 := Aside0.mk hl295_0
        clear hi295_0 hl295_0
        replace p295 := eq_true p295
        replace q295 := eq_true q295
        have p296 : 0 ≤ (x5_1 : Int) := od
        have q296 : x5_1 < (l1.length : Int) := od
        obtain ⟨ad296, A296_0, c296_0, e296, hx296_0, hl296_0, hi296_0⟩ := at_L1 HR1.out x5_1 p296 q296
        cases e296
        have HR296_0 := Aside0.mk hi296_0
        have HC296_0 := Aside0.mk hl296_0
        clear hi296_0 hl296_0
        replace p296 := eq_true p296
        replace q296 := eq_true q296
        go_wp2_with (first | (go_at_call 35; (with_reducible refine (laws_eqByteS.calls k1 _ _ (rd_L1 l0 x5_1) _ _ (rd_L1 l1 x5_1) true _ ?side1 ?side2 ?side3 ?side4 A7.out).mono ?_); (case side1 => repeat (first | exact HR295_0.out | (with_reducible refine Kd.C_alloc ?_ _) | (with_reducible refine Kd.C_drewN ?_ _) | (with_reducible refine Kd.C_drew ?_))); (case side2 => exact HC295_0.out); (case side3 => repeat (first | exact HR296_0.out | (with_reducible refine Kd.C_alloc ?_ _) | (with_reducible refine Kd.C_drewN ?_ _) | (with_reducible refine Kd.C_drew ?_))); (case side4 => exact HC296_0.out); rintro e w' ⟨rfl, ⟨nd, rfl⟩⟩; (try first | exact ⟨rfl, _, World.drewN_drewN _ _ _⟩ | exact ⟨rfl, _, Eq.trans (World.drewN_drewN _ _ _) (congrArg (World.drewN _) (Nat.add_assoc _ _ _))⟩)))
        repeat (go_quiet (first | (go_at_call 35; (with_reducible refine (laws_eqByteS.calls k1 _ _ (rd_L1 l0 x5_1) _ _ (rd_L1 l1 x5_1) true _ ?side1 ?side2 ?side3 ?side4 A7.out).mono ?_); (case side1 => repeat (first | exact HR295_0.out | (with_reducible refine Kd.C_alloc ?_ _) | (with_reducible refine Kd.C_drewN ?_ _) | (with_reducible refine Kd.C_drew ?_))); (case side2 => exact HC295_0.out); (case side3 => repeat (first | exact HR296_0.out | (with_reducible refine Kd.C_alloc ?_ _) | (with_reducible refine Kd.C_drewN ?_ _) | (with_reducible refine Kd.C_drew ?_))); (case side4 => exact HC296_0.out); rintro e w' ⟨rfl, ⟨nd, rfl⟩⟩; (try first | exact ⟨rfl, _, World.drewN_drewN _ _ _⟩ | exact ⟨rfl, _, Eq.trans (World.drewN_drewN _ _ _) (congrArg (World.drewN _) (Nat.add_assoc _ _ _))⟩))); try go_wp2_with (first | (go_at_call 35; (with_reducible refine (laws_eqByteS.calls k1 _ _ (rd_L1 l0 x5_1) _ _ (rd_L1 l1 x5_1) true _ ?side1 ?side2 ?side3 ?side4 A7.out).mono ?_); (case side1 => repeat (first | exact HR295_0.out | (with_reducible refine Kd.C_alloc ?_ _) | (with_reducible refine Kd.C_drewN ?_ _) | (with_reducible refine Kd.C_drew ?_))); (case side2 => exact HC295_0.out); (case side3 => repeat (first | exact HR296_0.out | (with_reducible refine Kd.C_alloc ?_ _) | (with_reducible refine Kd.C_drewN ?_ _) | (with_reducible refine Kd.C_drew ?_))); (case side4 => exact HC296_0.out); rintro e w' ⟨rfl, ⟨nd, rfl⟩⟩; (try first | exact ⟨rfl, _, World.drewN_drewN _ _ _⟩ | exact ⟨rfl, _, Eq.trans (World.drewN_drewN _ _ _) (congrArg (World.drewN _) (Nat.add_assoc _ _ _))⟩))))
        go_roundg k1
        case measure => have := HK1.out; omega
        case rel => exact ⟨(wrap64 (x5_1 + 1)), rs_, H', ⟨by have := HK1.out; omega⟩, by repeat (first | exact Drawn0.refl _ | apply Drawn0.step)⟩
       replace c8 := Bool.eq_false_iff.mpr c8
       subst c8
       have H1 : (some false) = some r := by rw [if_neg (show ¬ (false = true) by decide)] at H; exact H
       clear H
       have H := H1
       clear H1
       obtain rfl := Option.some.inj H
       have p295 : 0 ≤ (x5_1 : Int) := od
       have q295 : x5_1 < (l0.length : Int) := od
       obtain ⟨ad295, A295_0, c295_0, e295, hx295_0, hl295_0, hi295_0⟩ := at_L1 HR0.out x5_1 p295 q295
       cases e295
       have HR295_0 := Aside0.mk hi295_0
       have HC295_0 := Aside0.mk hl295_0
       clear hi295_0 hl295_0
       replace p295 := eq_true p295
       replace q295 := eq_true q295
       have p296 : 0 ≤ (x5_1 : Int) := od
       have q296 : x5_1 < (l1.length : Int) := od
       obtain ⟨ad296, A296_0, c296_0, e296, hx296_0, hl296_0, hi296_0⟩ := at_L1 HR1.out x5_1 p296 q296
       cases e296
       have HR296_0 := Aside0.mk hi296_0
       have HC296_0 := Aside0.mk hl296_0
       clear hi296_0 hl296_0
       replace p296 := eq_true p296
       replace q296 := eq_true q296
       go_wp2_with (first | (go_at_call 35; (with_reducible refine (laws_eqByteS.calls k1 _ _ (rd_L1 l0 x5_1) _ _ (rd_L1 l1 x5_1) false _ ?side1 ?side2 ?side3 ?side4 A7.out).mono ?_); (case side1 => repeat (first | exact HR295_0.out | (with_reducible refine Kd.C_alloc ?_ _) | (with_reducible refine Kd.C_drewN ?_ _) | (with_reducible refine Kd.C_drew ?_))); (case side2 => exact HC295_0.out); (case side3 => repeat (first | exact HR296_0.out | (with_reducible refine Kd.C_alloc ?_ _) | (with_reducible refine Kd.C_drewN ?_ _) | (with_reducible refine Kd.C_drew ?_))); (case side4 => exact HC296_0.out); rintro e w' ⟨rfl, ⟨nd, rfl⟩⟩; (try first | exact ⟨rfl, _, World.drewN_drewN _ _ _⟩ | exact ⟨rfl, _, Eq.trans (World.drewN_drewN _ _ _) (congrArg (World.drewN _) (Nat.add_assoc _ _ _))⟩)))
       repeat (go_quiet (first | (go_at_call 35; (with_reducible refine (laws_eqByteS.calls k1 _ _ (rd_L1 l0 x5_1) _ _ (rd_L1 l1 x5_1) false _ ?side1 ?side2 ?side3 ?side4 A7.out).mono ?_); (case side1 => repeat (first | exact HR295_0.out | (with_reducible refine Kd.C_alloc ?_ _) | (with_reducible refine Kd.C_drewN ?_ _) | (with_reducible refine Kd.C_drew ?_))); (case side2 => exact HC295_0.out); (case side3 => repeat (first | exact HR296_0.out | (with_reducible refine Kd.C_alloc ?_ _) | (with_reducible refine Kd.C_drewN ?_ _) | (with_reducible refine Kd.C_drew ?_))); (case side4 => exact HC296_0.out); rintro e w' ⟨rfl, ⟨nd, rfl⟩⟩; (try first | exact ⟨rfl, _, World.drewN_drewN _ _ _⟩ | exact ⟨rfl, _, Eq.trans (World.drewN_drewN _ _ _) (congrArg (World.drewN _) (Nat.add_assoc _ _ _))⟩))); try go_wp2_with (first | (go_at_call 35; (with_reducible refine (laws_eqByteS.calls k1 _ _ (rd_L1 l0 x5_1) _ _ (rd_L1 l1 x5_1) false _ ?side1 ?side2 ?side3 ?side4 A7.out).mono ?_); (case side1 => repeat (first | exact HR295_0.out | (with_reducible refine Kd.C_alloc ?_ _) | (with_reducible refine Kd.C_drewN ?_ _) | (with_reducible refine Kd.C_drew ?_))); (case side2 => exact HC295_0.out); (case side3 => repeat (first | exact HR296_0.out | (with_reducible refine Kd.C_alloc ?_ _) | (with_reducible refine Kd.C_drewN ?_ _) | (with_reducible refine Kd.C_drew ?_))); (case side4 => exact HC296_0.out); rintro e w' ⟨rfl, ⟨nd, rfl⟩⟩; (try first | exact ⟨rfl, _, World.drewN_drewN _ _ _⟩ | exact ⟨rfl, _, Eq.trans (World.drewN_drewN _ _ _) (congrArg (World.drewN _) (Nat.add_assoc _ _ _))⟩))))
       go_ret
       exact ⟨by first | rfl | (simp; done) | (simp [*]; done), by repeat (first | exact Drawn0.refl _ | apply Drawn0.step)⟩
      rw [if_neg c6] at H
      exact absurd H (by simp)
     rw [if_neg c5] at H
     exact absurd H (by simp)
    rw [if_neg c4] at H
    have c4b0 : decide (x5_1 < (l0.length : Int)) = false := decide_eq_false c4
    clear c4
    obtain rfl := Option.some.inj H
    go_wp2
    repeat (go_quiet (fail); try go_wp2)
    go_ret
    exact ⟨by first | rfl | (simp; done) | (simp [*]; done), by repeat (first | exact Drawn0.refl _ | apply Drawn0.step)⟩
 rw [if_neg c3] at H
 have c3b0 : ((l0.length : Int) == (l1.length : Int)) = false := beq_eq_false_iff_ne.mpr c3
 have c3b1 : ((l0.length : Int) != (l1.length : Int)) = true := bne_iff_ne.mpr c3
 have c3b2 : (l0.length == l1.length) = false := by first | simpa using c3 | (simp at c3 ⊢; omega)
 obtain rfl := Option.some.inj H
 go_enter Try.func56, Try.ntmps56
 go_wp2
 repeat (go_quiet (fail); try go_wp2)
 go_ret
 exact ⟨by first | rfl | (simp; done) | (simp [*]; done), by repeat (first | exact Drawn0.refl _ | apply Drawn0.step)⟩

end Go.Proofs.Ytdgegnakiljfjaa.PY
