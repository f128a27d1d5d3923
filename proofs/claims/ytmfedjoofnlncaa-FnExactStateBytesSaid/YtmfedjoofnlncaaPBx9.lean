-- Written for this claim by the session's program pp.py, out of the kit's print and the seat's translation.
import Derived.Test.YtmfedjoofnlncaaPBx0
namespace Go.Proofs.Ytmfedjoofnlncaa.PB
open Go.RowKit Go.Proofs.YtmfedjoofnlncaaW.PrintWords Go.Proofs.YtmfedjoofnlncaaW.PrintLast Go.Proofs.YtmfedjoofnlncaaW.PrintMore
attribute [local go_sem] max2_int min2_int max_two min_two max_three min_three max_four min_four   -- for this text's walks alone
set_option linter.unusedVariables false
set_option linter.unusedSimpArgs false

/-! ### impl_putNum: function 68 -/
def impl_putNum.l0 : Nat → List Int → Int → Option (List Int)
 | 0, _, _ => none
 | k + 1, x0, x1 => if x1 ≥ 128 then (if x0.length < 140737488355328 then (impl_putNum.l0 k (x0 ++ [((Int.tmod x1 128) + 128) % 256]) (wrap64 (Int.tdiv x1 128))) else (none)) else (if x0.length < 140737488355328 then (some (x0 ++ [(x1) % 256])) else (none))
def impl_putNum.f (k : Nat) (l0 : List Int) (a1 : Int) : Option (List Int) := impl_putNum.l0 k l0 a1
set_option maxHeartbeats 8000000 in
set_option maxRecDepth 100000 in
theorem impl_putNum.calls (k : Nat) (P0_ : Nat → Prop) (u9000_ : Value) (l0 : List Int) (a1 : Int) (r : List Int) (w0 w : World) (hB : Below w0.heap.size w0 w) (ho0 : Kd.R (Kd.int .u8) 5 w w0.heap.size P0_ u9000_ l0) (h : impl_putNum.f k l0 a1 = some r) :
  Calls Try.prog 68 #[u9000_, .int .i64 a1] w fun e w' => ∃ v0_ : Value, e = .returned (v0_) ∧ Kd.R (Kd.int .u8) 5 w' w0.heap.size (fun k_ => (P0_ k_ ∨ w.heap.size ≤ k_)) v0_ r ∧ Below w0.heap.size w0 w' ∧ Kept w w' (fun k_ => P0_ k_) := by
 have HO0 := Aside0.mk (show Kd.R (Kd.int .u8) 5 w w0.heap.size (fun k_ => (P0_ k_ ∨ w.heap.size ≤ k_)) u9000_ l0 from Kd.R_mono ho0 (fun k_ hk => (.inl hk)))
 have HK := Aside0.mk (Kept.refl w (fun k_ => P0_ k_))
 have HW0 := Aside0.mk hB.size
 have HB := Aside0.mk hB
 clear hB
 have H : (impl_putNum.l0 k l0 a1) = some r := h
 clear h
 have H' := Aside0.mk H
 clear H
 go_enter Try.func68, Try.ntmps68
 go_wp2
 go_loopg [0, 1] k (fun kq v0 v1 w' => ∃ (x0_1 : List Int) (x1_1 : Int), v1 = .int .i64 x1_1 ∧ Aside0 (impl_putNum.l0 kq x0_1 x1_1 = some r) ∧ Aside0 (kq ≤ k) ∧ Aside0 (Kd.R (Kd.int .u8) 5 w' w0.heap.size (fun k_ => (P0_ k_ ∨ w.heap.size ≤ k_)) v0 x0_1) ∧ Aside0 (Kept w w' (fun k_ => P0_ k_)) ∧ Aside0 (Below w0.heap.size w0 w'))
 case atStart => exact ⟨(l0), (a1), rs_, H', ⟨Nat.le_refl _⟩, ⟨rkp HO0⟩, ⟨by repeat (first | (with_reducible first | exact HK.out | apply Kept.alloc | apply Kept.drewN | apply Kept.drew) | exact HK.out)⟩, ⟨bel⟩⟩
 case round =>
  clear H'
  try clear p2
  obtain ⟨x0_1, x1_1, rfl, HA, HK1, HO_0, HK, HB⟩ := hrel
  cases gk with
  | zero => exact absurd HA.out (by simp [impl_putNum.l0])
  | succ k1 =>
   have H := HA.out
   clear HA
   simp only [impl_putNum.l0] at H
   by_cases c3 : x1_1 ≥ 128
   ·rw [if_pos c3] at H
    have c3b0 : decide (128 ≤ x1_1) = true := decide_eq_true c3
    clear c3
    by_cases c4 : x0_1.length < 140737488355328
    ·rw [if_pos c4] at H
     have LMc4 := Aside0.mk c4
     clear c4
     obtain ⟨y371, hy371⟩ : ∃ y_ : List Int, y_ = (x0_1 ++ [((Int.tmod x1_1 128) + 128) % 256]) := ⟨_, rfl⟩
     replace H : (impl_putNum.l0 k1 y371 (wrap64 (Int.tdiv x1_1 128))) = some r := by first | (rw [hy371]; with_reducible exact H) | (have H2_ := (Option.bind_some _ _).symm.trans H; rw [hy371]; with_reducible exact H2_) | (have H2_ := (Option.bind_some _ _).symm.trans H; with_reducible exact H2_) | with_reducible exact H | (rw [hy371]; exact H) | exact H
     have Ny371 := Aside0.mk hy371
     clear hy371
     have H' := Aside0.mk H
     clear H
     go_wp2_with (first | ((with_reducible refine gate_builtin (b := .append) (xs := #[.tmp 7, .tmp 12]) rfl ?_); at_builtin; refine Kd.R_append (Kd.int .u8) (w0 := w0) w0.heap.size rfl (.tmp 7) (.tmp 12) 29 5 (.int .u8 0) 1 rfl Try.underlying29 info5 rfl (by decide) (by omega) u0 x0_1 (((Int.tmod x1_1 128) + 128) % 256) [.int .u8 (((Int.tmod x1_1 128) + 128) % 256)] (fun k_ => (P0_ k_ ∨ w.heap.size ≤ k_)) (fun _ => False) rfl rfl ?aP (fun _ hk => hk.elim) ?aF ?aO ?aB ?aS ?aL ?_; (case aP => exact rfl); (case aB => exact bel); (case aF => exact (fun k_ hk => (.inr (Nat.le_trans (by first | exact HK.out.1 | exact (show Kept w _ (fun k_ => P0_ k_) from by repeat (first | (with_reducible first | exact HK.out | apply Kept.alloc | apply Kept.drewN | apply Kept.drew) | exact HK.out)).1) hk)))); (case aO => exact (rkp HO_0)); (case aS => exact (below_size bel)); (case aL => have := LMc4.out; omega); intro v372 w5 ho hb hg hat; rw [← Ny371.out] at ho; have n0_ := Aside0.mk (hb); have n1_ := Aside0.mk (Kept.of_grown (S := (fun k_ => P0_ k_)) hg (by repeat (first | (with_reducible first | exact HK.out | apply Kept.alloc | apply Kept.drewN | apply Kept.drew) | exact HK.out)) (fun k_ e_ => (HO_0.out.1 k_ e_))); have n2_ := Aside0.mk (ho); clear HB; clear HK; clear HO_0; have HB := n0_; have HK := n1_; have HO373 := n2_; clear n0_ n1_ n2_; clear ho hb hg hat))
     go_roundg k1
     case measure => have := HK1.out; omega
     case rel => exact ⟨(y371), (wrap64 (Int.tdiv x1_1 128)), rs_, H', ⟨by have := HK1.out; omega⟩, ⟨rkp HO373⟩, ⟨by repeat (first | (with_reducible first | exact HK.out | apply Kept.alloc | apply Kept.drewN | apply Kept.drew) | exact HK.out)⟩, ⟨bel⟩⟩
    rw [if_neg c4] at H
    exact absurd H (by simp)
   rw [if_neg c3] at H
   have c3b0 : decide (128 ≤ x1_1) = false := decide_eq_false c3
   clear c3
   by_cases c6 : x0_1.length < 140737488355328
   ·rw [if_pos c6] at H
    have LMc6 := Aside0.mk c6
    clear c6
    obtain ⟨y374, hy374⟩ : ∃ y_ : List Int, y_ = (x0_1 ++ [(x1_1) % 256]) := ⟨_, rfl⟩
    replace H : (some y374) = some r := by first | (rw [hy374]; with_reducible exact H) | (have H2_ := (Option.bind_some _ _).symm.trans H; rw [hy374]; with_reducible exact H2_) | (have H2_ := (Option.bind_some _ _).symm.trans H; with_reducible exact H2_) | with_reducible exact H | (rw [hy374]; exact H) | exact H
    have Ny374 := Aside0.mk hy374
    clear hy374
    obtain rfl := Option.some.inj H
    go_wp2_with (first | ((with_reducible refine gate_builtin (b := .append) (xs := #[.tmp 16, .tmp 19]) rfl ?_); at_builtin; refine Kd.R_append (Kd.int .u8) (w0 := w0) w0.heap.size rfl (.tmp 16) (.tmp 19) 29 5 (.int .u8 0) 1 rfl Try.underlying29 info5 rfl (by decide) (by omega) u0 x0_1 ((x1_1) % 256) [.int .u8 ((x1_1) % 256)] (fun k_ => (P0_ k_ ∨ w.heap.size ≤ k_)) (fun _ => False) rfl rfl ?aP (fun _ hk => hk.elim) ?aF ?aO ?aB ?aS ?aL ?_; (case aP => exact rfl); (case aB => exact bel); (case aF => exact (fun k_ hk => (.inr (Nat.le_trans (by first | exact HK.out.1 | exact (show Kept w _ (fun k_ => P0_ k_) from by repeat (first | (with_reducible first | exact HK.out | apply Kept.alloc | apply Kept.drewN | apply Kept.drew) | exact HK.out)).1) hk)))); (case aO => exact (rkp HO_0)); (case aS => exact (below_size bel)); (case aL => have := LMc6.out; omega); intro v375 w7 ho hb hg hat; rw [← Ny374.out] at ho; have n0_ := Aside0.mk (hb); have n1_ := Aside0.mk (Kept.of_grown (S := (fun k_ => P0_ k_)) hg (by repeat (first | (with_reducible first | exact HK.out | apply Kept.alloc | apply Kept.drewN | apply Kept.drew) | exact HK.out)) (fun k_ e_ => (HO_0.out.1 k_ e_))); have n2_ := Aside0.mk (ho); clear HB; clear HK; clear HO_0; have HB := n0_; have HK := n1_; have HO376 := n2_; clear n0_ n1_ n2_; clear ho hb hg hat))
    go_ret
    exact ⟨_, rz_, by (with_reducible repeat (first | apply Kd.R_alloc | apply Kd.R_drewN | apply Kd.R_drew)); exact HO376.out, by repeat (first | (with_reducible first | exact HB.out | apply below_alloc | apply pw_below_drewN | apply below_drew1) | exact HB.out), by repeat (first | (with_reducible first | exact HK.out | apply Kept.alloc | apply Kept.drewN | apply Kept.drew) | exact HK.out)⟩
   rw [if_neg c6] at H
   exact absurd H (by simp)

/-! ### impl_putText: function 69 -/
def impl_putText.f (k : Nat) (l0 : List Int) (l1 : List Int) : Option (List Int) := (impl_putNum.f k l0 (l1.length : Int)).bind fun t377 => (if t377.length + l1.length < 140737488355328 then (some (t377 ++ l1)) else (none))
set_option maxHeartbeats 8000000 in
set_option maxRecDepth 100000 in
theorem impl_putText.calls (k : Nat) (P0_ : Nat → Prop) (u9000_ : Value) (l0 : List Int) (A1 : Option Addr) (c1 : Nat) (l1 : List Int) (r : List Int) (w0 w : World) (hB : Below w0.heap.size w0 w) (ho0 : Kd.R (Kd.int .u8) 5 w w0.heap.size P0_ u9000_ l0) (hr1 : ∀ W_, Kept w W_ (fun k_ => P0_ k_) → Kd.C (Kd.int .u8) W_ A1 l1.length l1) (hc1 : l1.length ≤ c1) (h : impl_putText.f k l0 l1 = some r) :
  Calls Try.prog 69 #[u9000_, .slice A1 l1.length c1] w fun e w' => ∃ v0_ : Value, e = .returned (v0_) ∧ Kd.R (Kd.int .u8) 5 w' w0.heap.size (fun k_ => (P0_ k_ ∨ w.heap.size ≤ k_)) v0_ r ∧ Below w0.heap.size w0 w' ∧ Kept w w' (fun k_ => P0_ k_) := by
 have HO0 := Aside0.mk (show Kd.R (Kd.int .u8) 5 w w0.heap.size (fun k_ => (P0_ k_ ∨ w.heap.size ≤ k_)) u9000_ l0 from Kd.R_mono ho0 (fun k_ hk => (.inl hk)))
 have HR1 := Aside0.mk hr1
 have HC1 := Aside0.mk hc1
 clear hr1 hc1
 have HK := Aside0.mk (Kept.refl w (fun k_ => P0_ k_))
 have HW0 := Aside0.mk hB.size
 have HB := Aside0.mk hB
 clear hB
 have H : ((impl_putNum.f k l0 (l1.length : Int)).bind fun t377 => (if t377.length + l1.length < 140737488355328 then (some (t377 ++ l1)) else (none))) = some r := h
 clear h
 replace H := Option.bind_eq_some_iff.mp H
 obtain ⟨t377, A30, H⟩ := H
 replace H : (if t377.length + l1.length < 140737488355328 then (some (t377 ++ l1)) else (none)) = some r := H
 have A3 := Aside0.mk A30
 clear A30
 by_cases c4 : t377.length + l1.length < 140737488355328
 ·rw [if_pos c4] at H
  have LMc4 := Aside0.mk c4
  clear c4
  obtain ⟨y380, hy380⟩ : ∃ y_ : List Int, y_ = (t377 ++ l1) := ⟨_, rfl⟩
  replace H : (some y380) = some r := by first | (rw [hy380]; with_reducible exact H) | (have H2_ := (Option.bind_some _ _).symm.trans H; rw [hy380]; with_reducible exact H2_) | (have H2_ := (Option.bind_some _ _).symm.trans H; with_reducible exact H2_) | with_reducible exact H | (rw [hy380]; exact H) | exact H
  have Ny380 := Aside0.mk hy380
  clear hy380
  obtain rfl := Option.some.inj H
  obtain ⟨Ao5, co5, eo5⟩ := Kd.R_slice HO0.out
  subst eo5
  go_enter Try.func69, Try.ntmps69
  go_wp2_with (first | ((with_reducible refine gate_callee (f := 68) rfl ?_); refine gl_ (some 8) Try.func68 #[.slice Ao5 l0.length co5, .int .i64 (l1.length : Int)] (h := ?_); (with_reducible refine (impl_putNum.calls k (fun k_ => some k_ = (.slice Ao5 l0.length co5 : Value).ownBlock) (.slice Ao5 l0.length co5) l0 (l1.length : Int) t377 w0 _ ?side1 ?side2 A3.out).mono ?_); (case side1 => repeat (first | (with_reducible first | exact HB.out | apply below_alloc | apply pw_below_drewN | apply below_drew1) | exact HB.out)); (case side2 => exact Kd.R_tight rfl HO0.out); rintro e w6 ⟨v378, rfl, ho0, hb, hkp⟩; refine ⟨_, rfl, ?_⟩; have n0_ := Aside0.mk (Kd.R_mono (ok' := fun k_ => (P0_ k_ ∨ w.heap.size ≤ k_)) ho0 (fun k_ hk_ => Or.elim hk_ (fun hs_ => (HO0.out.1 k_ (hs_).symm)) (fun hn_ => (.inr (Nat.le_trans (by first | exact HK.out.1 | exact (show Kept w _ (fun k_ => P0_ k_) from by repeat (first | (with_reducible first | exact HK.out | apply Kept.alloc | apply Kept.drewN | apply Kept.drew) | exact HK.out)).1) hn_))))); have n1_ := Aside0.mk (Kept.then_ (S := (fun k_ => P0_ k_)) (by repeat (first | (with_reducible first | exact HK.out | apply Kept.alloc | apply Kept.drewN | apply Kept.drew) | exact HK.out)) hkp (fun k_ hs_ => (fun e_ => (HO0.out.1 k_ e_.symm)) hs_)); have n2_ := Aside0.mk (hb); clear HK; clear HB; clear HO0; have HO379 := n0_; have HK := n1_; have HB := n2_; clear n0_ n1_ n2_; (try clear hb); (try clear hkp); (try clear ho0)) | ((with_reducible refine gate_builtin (b := .append) (xs := #[.tmp 8, .tmp 9]) rfl ?_); at_builtin; refine Kd.R_append_rows (Kd.int .u8) (w0 := w0) w0.heap.size rfl (.tmp 8) (.tmp 9) 29 5 (.int .u8 0) 1 rfl Try.underlying29 info5 rfl (by decide) (by omega) v378 t377 l1 _ _ _ (fun k_ => (P0_ k_ ∨ w.heap.size ≤ k_)) (fun _ => False) rfl rfl ?aO ?aR (fun _ _ h => h) (fun _ h => h.elim) ?aF ?aB ?aS ?aL ?_; (case aR => exact Kd.C_kept_now HR1.out (by repeat (first | (with_reducible first | exact HK.out | apply Kept.alloc | apply Kept.drewN | apply Kept.drew) | exact HK.out))); (case aB => exact bel); (case aF => exact (fun k_ hk => (.inr (Nat.le_trans (by first | exact HK.out.1 | exact (show Kept w _ (fun k_ => P0_ k_) from by repeat (first | (with_reducible first | exact HK.out | apply Kept.alloc | apply Kept.drewN | apply Kept.drew) | exact HK.out)).1) hk)))); (case aO => exact (rkp HO379)); (case aS => exact (below_size bel)); (case aL => have := LMc4.out; omega); intro v381 w7 ho hb hg hat; rw [← Ny380.out] at ho; have n0_ := Aside0.mk (hb); have n1_ := Aside0.mk (Kept.of_grown (S := (fun k_ => P0_ k_)) hg (by repeat (first | (with_reducible first | exact HK.out | apply Kept.alloc | apply Kept.drewN | apply Kept.drew) | exact HK.out)) (fun k_ e_ => (HO379.out.1 k_ e_))); have n2_ := Aside0.mk (ho); clear HB; clear HK; clear HO379; have HB := n0_; have HK := n1_; have HO382 := n2_; clear n0_ n1_ n2_; clear ho hb hg hat))
  go_ret
  exact ⟨_, rz_, by (with_reducible repeat (first | apply Kd.R_alloc | apply Kd.R_drewN | apply Kd.R_drew)); exact HO382.out, by repeat (first | (with_reducible first | exact HB.out | apply below_alloc | apply pw_below_drewN | apply below_drew1) | exact HB.out), by repeat (first | (with_reducible first | exact HK.out | apply Kept.alloc | apply Kept.drewN | apply Kept.drew) | exact HK.out)⟩
 rw [if_neg c4] at H
 exact absurd H (by simp)

/-! ### impl_truth: function 70 -/
def impl_truth.f (a0 : Bool) : Option (Int) := if a0 = true then (some 1) else (some 0)
set_option maxHeartbeats 8000000 in
set_option maxRecDepth 100000 in
theorem impl_truth.calls (a0 : Bool) (r : Int) (w : World) (h : impl_truth.f a0 = some r) :
  Calls Try.prog 70 #[.bool a0] w fun e w' => e = .returned (.int .i64 r) ∧ Drawn0 w w' := by
 have H : (if a0 = true then (some 1) else (some 0)) = some r := h
 clear h
 by_cases c2 : a0 = true
 ·subst c2
  have H1 : (some 1) = some r := by rw [if_pos rfl] at H; exact H
  clear H
  have H := H1
  clear H1
  obtain rfl := Option.some.inj H
  go_enter Try.func70, Try.ntmps70
  go_wp2
  go_ret
  exact ⟨by first | rfl | (simp; done) | (simp [*]; done), by repeat (first | exact Drawn0.refl _ | apply Drawn0.step)⟩
 replace c2 := Bool.eq_false_iff.mpr c2
 subst c2
 have H1 : (some 0) = some r := by rw [if_neg (show ¬ (false = true) by decide)] at H; exact H
 clear H
 have H := H1
 clear H1
 obtain rfl := Option.some.inj H
 go_enter Try.func70, Try.ntmps70
 go_wp2
 go_ret
 exact ⟨by first | rfl | (simp; done) | (simp [*]; done), by repeat (first | exact Drawn0.refl _ | apply Drawn0.step)⟩

/-! ### virtual_put: function 108 -/
def virtual_put.f (k : Nat) : List Int → List Int → Option (List Int)
 | b, [] => some b
 | b, n :: ns => (impl_putNum.f k b n).bind fun b' => virtual_put.f k b' ns
theorem virtual_put.glc_ {P : Program} {ops : Array Oper} {Q : Exit → Act → World → Prop} {rest : List Oper} {oi : Oper} {a : Act} {w : World} (N : Option Tmp) {f : FuncId} {fn : Func} (hf : P.funcs[f]? = some fn) (args : Array Value) {c : Value} {q : Tmp} {ar : Array Operand} {ts : Array TypeId} (hd : oi.dst = N := by exact rfl) (hg : oi.guard = none := by exact rfl) (hname : (fn.name == "runtime.NumGoroutine") = false := by kernel_rfl) (hb : fn.body.isSome = true := by exact rfl)
  (hop : oi.op = .call { callee := .value (.tmp q), args := ar, argTypes := ts } := by exact rfl) (hv : a.eval (.tmp q) = .func (.func f) #[] #[c] := by rfl) (hargs : ar.map a.eval ++ #[c] = args := by ((try simp only [List.map_toArray, List.map_cons, List.map_nil]); first | done | rfl | (simp only [List.length_drop, List.length_take]; rfl)))
  (h : Calls P f args w fun e w' => ∃ v, e = .returned v ∧ wpList P ops Q rest (a.put N v) w') : wpList P ops Q (oi :: rest) a w := by
 refine wpList_plain hg fun K hK => ?_
 have he := enters_ hf hname hb args w
 have hrun : (execOp a.eval oi).run P w = .ok (.enter f args) w := by
  unfold execOp
  have hargs' : (ar.map a.eval).push c = args := by simpa using hargs
  simp [hop, resolve, Deferred.ofValue, invoke, hv, hargs', hargs, he]
 unfold Oper.wp
 rw [hrun, Oper.upon_enter]
 refine h.mono fun e w'' hh => ?_
 obtain ⟨v, rfl, hk⟩ := hh
 subst hd
 exact hK _ _ hk
theorem virtual_put.gsc_ {P : Program} {ops : Array Oper} {Q : Exit → Act → World → Prop} {oi : Oper} {N : Option Tmp} {a : Act} {w : World} {K : Act → World → Prop} {f : FuncId} {fn : Func} (hf : P.funcs[f]? = some fn) (args : Array Value) {c : Value} {q : Tmp} {ar : Array Operand} {ts : Array TypeId} (hname : (fn.name == "runtime.NumGoroutine") = false := by kernel_rfl) (hb : fn.body.isSome = true := by exact rfl)
  (hw : Region.wanted oi (yielded ops a.tmps) = true := by rfl) (hN : oi.dst = N := by exact rfl) (hop : oi.op = .call { callee := .value (.tmp q), args := ar, argTypes := ts } := by exact rfl) (hv : a.eval (.tmp q) = .func (.func f) #[] #[c] := by rfl) (hargs : ar.map a.eval ++ #[c] = args := by ((try simp only [List.map_toArray, List.map_cons, List.map_nil]); first | done | rfl | (simp only [List.length_drop, List.length_take]; rfl)))
  (h : Calls P f args w fun e w' => ∃ v, e = .returned v ∧ K (a.put N v) w') : if Region.wanted oi (yielded ops a.tmps) = true then Oper.wp P oi a w K Q else K (a.put N undef) w := by
 refine call_ f args hw hN ?_ h
 have he := enters_ hf hname hb args w
 unfold execOp
 have hargs' : (ar.map a.eval).push c = args := by simpa using hargs
 simp [hop, resolve, Deferred.ofValue, invoke, hv, hargs', hargs, he]
theorem virtual_put.back {w : World} {g t : Nat} {u u0 : Value} (h : w.heap[g]? = some (.cells #[u] t (0, 0))) : w = (w.setCell ⟨g, 0, none⟩ u0).setCell ⟨g, 0, none⟩ u := by
 have e : ((w.setCell ⟨g, 0, none⟩ u0).setCell ⟨g, 0, none⟩ u).heap = w.heap := by
  apply Array.ext_getElem?
  intro i
  by_cases hi : i = g
  ·subst hi
   rw [blk_put (blk_put h 0 u0 rfl) 0 u rfl, h]
   rfl
  rw [Below.heap_setCell _ _ _ _ hi, Below.heap_setCell _ _ _ _ hi]
 have e2 : (w.setCell ⟨g, 0, none⟩ u0).setCell ⟨g, 0, none⟩ u = { w with heap := ((w.setCell ⟨g, 0, none⟩ u0).setCell ⟨g, 0, none⟩ u).heap } := rfl
 rw [e2, e]
theorem virtual_put.kept {w W : World} {g t : Nat} {u u0 : Value} {S : Nat → Prop} (h0 : w.heap[g]? = some (.cells #[u0] t (0, 0))) (h : W.heap[g]? = some (.cells #[u] t (0, 0))) (hk : Kept w W (fun k => S k ∨ k = g)) : Kept w (W.setCell ⟨g, 0, none⟩ u0) S := by
 refine ⟨by simpa [World.setCell] using hk.1, fun i hi hn => ?_⟩
 by_cases e : i = g
 ·subst e
  rw [blk_put h 0 u0 rfl, h0]
  rfl
 rw [Below.heap_setCell _ _ _ _ e]
 exact hk.2 i hi (fun h2 => h2.elim hn e)
theorem virtual_put.at_ {W : World} {g t : Nat} {u u0 : Value} (hu : ∃ A n c, u0 = .slice A n c) {A : Option Addr} {xs : List Int} (h : W.heap[g]? = some (.cells #[u] t (0, 0))) (hC : (Kd.int .i64).C (W.setCell ⟨g, 0, none⟩ u0) A xs.length xs) (i : Int) (p : 0 ≤ i) (q : i < xs.length) :
  ∃ ad, A = some ad ∧ W.cell? (ad.add i.toNat) = some (.int .i64 (rd xs i)) := by
 obtain ⟨ad, e, hx⟩ := Kd.at_int hC i p q
 refine ⟨ad, e, ?_⟩
 by_cases hg : (ad.add i.toNat).block = g
 ·exfalso
  obtain ⟨A', n', c', rfl⟩ := hu
  have h2 := blk_put h 0 (.slice A' n' c') rfl
  unfold World.cell? at hx
  rw [hg, h2] at hx
  simp only [List.setIfInBounds_toArray, List.set_cons_zero] at hx
  split at hx
  ·cases hx
  ·cases hz : (ad.add i.toNat).off with
   | zero => rw [hz] at hx; simp at hx
   | succ j => rw [hz] at hx; simp at hx
 unfold World.cell? at hx ⊢
 rw [Below.heap_setCell _ _ _ _ hg] at hx
 exact hx
set_option maxHeartbeats 4000000 in
theorem virtual_put.calls (k : Nat) (u0 : Value) (l0 : List Int) (A1 : Option Addr) (c1 : Nat) (l1 : List Int) (r : List Int) (w0 w : World) (gb : Nat) (hbx : w.heap[gb]? = some (.cells #[u0] 29 (0, 0))) (hgb : w0.heap.size ≤ gb) (hB : Below w0.heap.size w0 w) (ho0 : Kd.R (Kd.int .u8) 5 w w0.heap.size (fun k_ => some k_ = u0.ownBlock) u0 l0) (hr1 : ∀ W', Kept w W' (fun k_ => some k_ = u0.ownBlock) → Kd.C (Kd.int .i64) W' A1 l1.length l1) (hc1 : l1.length ≤ c1) (hlen : l1.length < 1000) (h : virtual_put.f k l0 l1 = some r) :
  Calls Try.prog 67 #[.slice A1 l1.length c1, .pointer (some ⟨gb, 0, none⟩)] w fun e w' => ∃ w1 v0_, e = .returned (.tuple #[]) ∧ w' = w1.setCell ⟨gb, 0, none⟩ v0_ ∧ Kd.R (Kd.int .u8) 5 w1 w0.heap.size (fun k_ => (some k_ = u0.ownBlock ∨ w.heap.size ≤ k_)) v0_ r ∧ Below w0.heap.size w0 w1 ∧ Kept w w1 (fun k_ => some k_ = u0.ownBlock) := by
 have hnp : some gb ≠ u0.ownBlock := Kd.R_ne ho0 hbx (by decide)
 have hglt := blk_lt hbx
 have hsl : ∃ A n c, u0 = .slice A n c := by
  obtain ⟨A, c, e⟩ := Kd.R_slice ho0
  exact ⟨A, _, c, e⟩
 have HR := Aside0.mk hr1
 have HBX0 := Aside0.mk hbx
 have HO0 := Aside0.mk (show Kd.R (Kd.int .u8) 5 w w0.heap.size (fun k_ => (some k_ = u0.ownBlock ∨ w.heap.size ≤ k_)) u0 l0 from Kd.R_mono ho0 (fun k_ hk => (.inl hk)))
 have HB := Aside0.mk hB
 have H0 := Aside0.mk h
 clear hr1 hbx ho0 hB h
 go_enter Try.func67, Try.ntmps67
 go_wp2
 go_loopg [4, 7] l1.length (fun gg _ s7 wr => ∃ (x : Int) (u : Value) (b : List Int), s7 = .int .i64 x ∧ 0 ≤ x ∧ x ≤ (l1.length : Int) ∧ l1.length - x.toNat ≤ gg ∧ Aside0 (virtual_put.f k b (l1.drop x.toNat) = some r) ∧ Aside0 (wr.heap[gb]? = some (.cells #[u] 29 (0, 0))) ∧ Aside0 (Kd.R (Kd.int .u8) 5 wr w0.heap.size (fun k_ => (some k_ = u0.ownBlock ∨ w.heap.size ≤ k_)) u b) ∧ Aside0 (Below w0.heap.size w0 wr) ∧ Aside0 (Kept w wr (fun k_ => some k_ = u0.ownBlock ∨ k_ = gb)))
 case atStart => exact ⟨0, u0, l0, rfl, by omega, by omega, by omega, H0, HBX0, HO0, HB, ⟨Kept.refl _ _⟩⟩
 case round =>
  obtain ⟨x, u, b, rfl, hx0, hx1, hg, HF, HBX, HU, HBr, HK⟩ := hrel
  by_cases hlt : x < (l1.length : Int)
  ·obtain ⟨ad, e, hx⟩ := virtual_put.at_ hsl HBX.out (HR.out _ (virtual_put.kept HBX0.out HBX.out HK.out)) x hx0 hlt
   cases e
   have hd : l1.drop x.toNat = rd l1 x :: l1.drop (x.toNat + 1) := by
    rw [List.drop_eq_getElem_cons (by omega)]
    congr 1
    unfold rd
    simp [List.getD, show x.toNat < l1.length by omega]
   have hf := HF.out
   rw [hd, virtual_put.f] at hf
   obtain ⟨b', hb', hf'⟩ := Option.bind_eq_some_iff.mp hf
   have HF' := Aside0.mk hf'
   have HP := Aside0.mk hb'
   clear hf hf' hb' hd
   obtain ⟨Au, cu, eu⟩ := Kd.R_slice HU.out
   subst eu
   have hcz : wr.cell? ⟨gb, 0, none⟩ = some (.slice Au b.length cu) := (blk_cell HBX.out 0).trans rfl
   have hfz := blk_frozen HBX.out 0
   have p0 := eq_true hx0
   have q0 := eq_true hlt
   go_wp2_with (go_at_call 68; refine (impl_putNum.calls k (fun k_ => (some k_ = u0.ownBlock ∨ w.heap.size ≤ k_) ∧ k_ ≠ gb) (.slice Au b.length cu) b (rd l1 x) b' w0 _ HBr.out (Kd.R_types HU.out HBX.out (by decide)) HP.out).mono ?_; rintro e w3 ⟨v, rfl, ho, hb3, hk3⟩; have HO3 := Aside0.mk ho; have HB3 := Aside0.mk hb3; have HK3 := Aside0.mk hk3; have HX3 := Aside0.mk (blk_kept HBX.out hk3 (fun h_ => h_.2 rfl)); clear ho hb3 hk3; obtain ⟨Av, cv, ev⟩ := Kd.R_slice HO3.out; subst ev; have C3 : w3.cell? ⟨gb, 0, none⟩ = some (.slice Au b.length cu) := (blk_cell HX3.out 0).trans rfl; have F3 := blk_frozen HX3.out 0)
   go_roundg (l1.length - (x.toNat + 1))
   case measure => omega
   case rel =>
    have ex : (x + 1).toNat = x.toNat + 1 := by omega
    have hsz := HK.out.1
    refine ⟨x + 1, .slice Av b'.length cv, b', by go_num, by omega, by omega, by omega, ⟨by rw [ex]; exact HF'.out⟩, ⟨blk_put HX3.out 0 _ rfl⟩, ⟨?_⟩, ⟨below_set HB3.out hgb⟩, ⟨?_⟩⟩
    ·refine Kd.R_mono (Kd.R_set HO3.out HX3.out (by decide) 0 _) (fun k_ hk => ?_)
     rcases hk with hk | hk
     ·exact hk.1
     ·exact .inr (by omega)
    ·refine Kept.setCell (HK.out.then_ HK3.out (fun k_ hk => ?_)) (.inl (.inr rfl)) _
     rcases hk.1 with hk | hk
     ·exact .inl (.inl hk)
     ·exact .inr hk
  have hx : x.toNat = l1.length := by omega
  have hf := HF.out
  rw [hx, List.drop_length, virtual_put.f] at hf
  obtain rfl := Option.some.inj hf
  go_wp2
  first | go_end0 | ((try simp only [Exit.inBlock, Exit.then]); refine bodyPost_ret (results_none rfl _ _ _) rfl ?_)
  refine ⟨rfl, wr.setCell ⟨gb, 0, none⟩ u0, u, virtual_put.back HBX.out, ?_, below_set HBr.out hgb, virtual_put.kept HBX0.out HBX.out HK.out⟩
  exact Kd.R_set HU.out HBX.out (by decide) 0 u0

end Go.Proofs.Ytmfedjoofnlncaa.PB
