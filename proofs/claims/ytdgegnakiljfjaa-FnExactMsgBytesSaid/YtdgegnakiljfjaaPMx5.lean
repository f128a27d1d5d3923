-- Written for this claim by the session's program pp.py, out of the kit's print and the seat's translation.
import Derived.Test.YtdgegnakiljfjaaPMx0
import Derived.Test.YtdgegnakiljfjaaPMx4
namespace Go.Proofs.Ytdgegnakiljfjaa.PM
open Go.RowKit Go.Proofs.YtdgegnakiljfjaaW.PrintWords Go.Proofs.YtdgegnakiljfjaaW.PrintLast Go.Proofs.YtdgegnakiljfjaaW.PrintMore
attribute [local go_sem] max2_int min2_int max_two min_two max_three min_three max_four min_four   -- for this text's walks alone
set_option linter.unusedVariables false
set_option linter.unusedSimpArgs false

/-! ### impl_putNum: function 168 -/
def impl_putNum.l0 : Nat → List Int → Int → Option (List Int)
 | 0, _, _ => none
 | k + 1, x0, x1 => if x1 ≥ 128 then (if x0.length < 140737488355328 then (impl_putNum.l0 k (x0 ++ [((Int.tmod x1 128) + 128) % 256]) (wrap64 (Int.tdiv x1 128))) else (none)) else (if x0.length < 140737488355328 then (some (x0 ++ [(x1) % 256])) else (none))
def impl_putNum.f (k : Nat) (l0 : List Int) (a1 : Int) : Option (List Int) := impl_putNum.l0 k l0 a1
set_option maxHeartbeats 8000000 in
set_option maxRecDepth 100000 in
theorem impl_putNum.calls (k : Nat) (P0_ : Nat → Prop) (u9000_ : Value) (l0 : List Int) (a1 : Int) (r : List Int) (w0 w : World) (hB : Below w0.heap.size w0 w) (ho0 : Kd.R (Kd.int .u8) 5 w w0.heap.size P0_ u9000_ l0) (h : impl_putNum.f k l0 a1 = some r) :
  Calls Try.prog 168 #[u9000_, .int .i64 a1] w fun e w' => ∃ v0_ : Value, e = .returned (v0_) ∧ Kd.R (Kd.int .u8) 5 w' w0.heap.size (fun k_ => (P0_ k_ ∨ w.heap.size ≤ k_)) v0_ r ∧ Below w0.heap.size w0 w' ∧ Kept w w' (fun k_ => P0_ k_) := by
 have HO0 := Aside0.mk (show Kd.R (Kd.int .u8) 5 w w0.heap.size (fun k_ => (P0_ k_ ∨ w.heap.size ≤ k_)) u9000_ l0 from Kd.R_mono ho0 (fun k_ hk => (.inl hk)))
 have HK := Aside0.mk (Kept.refl w (fun k_ => P0_ k_))
 have HW0 := Aside0.mk hB.size
 have HB := Aside0.mk hB
 clear hB
 have H : (impl_putNum.l0 k l0 a1) = some r := h
 clear h
 have H' := Aside0.mk H
 clear H
 go_enter Try.func168, Try.ntmps168
 go_wp2
 go_loopg [0, 1] k (fun kq v0 v1 w' => ∃ (x0_1 : List Int) (x1_1 : Int), v1 = .int .i64 x1_1 ∧ Aside0 (impl_putNum.l0 kq x0_1 x1_1 = some r) ∧ Aside0 (kq ≤ k) ∧ Aside0 (Kd.R (Kd.int .u8) 5 w' w0.heap.size (fun k_ => (P0_ k_ ∨ w.heap.size ≤ k_)) v0 x0_1) ∧ Aside0 (Kept w w' (fun k_ => P0_ k_)) ∧ Aside0 (Below w0.heap.size w0 w'))
 case atStart => exact ⟨(l0), (a1), rs_, H', ⟨Nat.le_refl _⟩, ⟨by (with_reducible repeat (first | apply Kd.R_alloc | apply Kd.R_drewN | apply Kd.R_drew)); exact HO0.out⟩, ⟨by repeat (first | (with_reducible first | exact HK.out | apply Kept.alloc | apply Kept.drewN | apply Kept.drew) | exact HK.out)⟩, ⟨bel⟩⟩
 case round =>
  clear H'
  try clear c1; try clear p2
  obtain ⟨x0_1, x1_1, rfl, HA, HK1, HO_0, HK, HB⟩ := hrel
  cases gk with
  | zero => exact absurd HA.out (by simp [impl_putNum.l0])
  | succ k1 =>
   have H := HA.out
   clear HA
   simp only [impl_putNum.l0] at H
   by_cases c3 : x1_1 ≥ 128
   ·rw [if_pos c3] at H
    have c3b0 : decide (128 ≤ x1_1) = true := decide_eq_true c3
    clear c3
    by_cases c4 : x0_1.length < 140737488355328
    ·rw [if_pos c4] at H
     have LMc4 := Aside0.mk c4
     clear c4
     obtain ⟨y161, hy161⟩ : ∃ y_ : List Int, y_ = (x0_1 ++ [((Int.tmod x1_1 128) + 128) % 256]) := ⟨_, rfl⟩
     replace H : (impl_putNum.l0 k1 y161 (wrap64 (Int.tdiv x1_1 128))) = some r := by first | (rw [hy161]; with_reducible exact H) | (have H2_ := (Option.bind_some _ _).symm.trans H; rw [hy161]; with_reducible exact H2_) | (have H2_ := (Option.bind_some _ _).symm.trans H; with_reducible exact H2_) | with_reducible exact H | (rw [hy161]; exact H) | exact H
     have Ny161 := Aside0.mk hy161
     clear hy161
     have H' := Aside0.mk H
     clear H
     go_wp2_with (first | ((with_reducible refine gate_builtin (b := .append) (xs := #[.tmp 7, .tmp 12]) rfl ?_); at_builtin; refine Kd.R_append (Kd.int .u8) (w0 := w0) w0.heap.size rfl (.tmp 7) (.tmp 12) 52 5 (.int .u8 0) 1 rfl Try.underlying52 info5 rfl (by decide) (by omega) u0 x0_1 (((Int.tmod x1_1 128) + 128) % 256) [.int .u8 (((Int.tmod x1_1 128) + 128) % 256)] (fun k_ => (P0_ k_ ∨ w.heap.size ≤ k_)) (fun _ => False) rfl rfl ?aP (fun _ hk => hk.elim) ?aF ?aO ?aB ?aS ?aL ?_; (case aP => exact rfl); (case aB => exact bel); (case aF => exact (fun k_ hk => (.inr (Nat.le_trans (by first | exact HK.out.1 | exact (show Kept w _ (fun k_ => P0_ k_) from by repeat (first | (with_reducible first | exact HK.out | apply Kept.alloc | apply Kept.drewN | apply Kept.drew) | exact HK.out)).1) hk)))); (case aO => exact (by (with_reducible repeat (first | apply Kd.R_alloc | apply Kd.R_drewN | apply Kd.R_drew)); exact HO_0.out)); (case aS => exact (below_size bel)); (case aL => have := LMc4.out; omega); intro v162 w5 ho hb hg hat; rw [← Ny161.out] at ho; have n0_ := Aside0.mk (hb); have n1_ := Aside0.mk (Kept.of_grown (S := (fun k_ => P0_ k_)) hg (by repeat (first | (with_reducible first | exact HK.out | apply Kept.alloc | apply Kept.drewN | apply Kept.drew) | exact HK.out)) (fun k_ e_ => (HO_0.out.1 k_ e_))); have n2_ := Aside0.mk (ho); clear HB; clear HK; clear HO_0; have HB := n0_; have HK := n1_; have HO163 := n2_; clear n0_ n1_ n2_; clear ho hb hg hat))
     go_roundg k1
     case measure => have := HK1.out; omega
     case rel => exact ⟨(y161), (wrap64 (Int.tdiv x1_1 128)), rs_, H', ⟨by have := HK1.out; omega⟩, ⟨by (with_reducible repeat (first | apply Kd.R_alloc | apply Kd.R_drewN | apply Kd.R_drew)); exact HO163.out⟩, ⟨by repeat (first | (with_reducible first | exact HK.out | apply Kept.alloc | apply Kept.drewN | apply Kept.drew) | exact HK.out)⟩, ⟨bel⟩⟩
    rw [if_neg c4] at H
    exact absurd H (by simp)
   rw [if_neg c3] at H
   have c3b0 : decide (128 ≤ x1_1) = false := decide_eq_false c3
   clear c3
   by_cases c6 : x0_1.length < 140737488355328
   ·rw [if_pos c6] at H
    have LMc6 := Aside0.mk c6
    clear c6
    obtain ⟨y164, hy164⟩ : ∃ y_ : List Int, y_ = (x0_1 ++ [(x1_1) % 256]) := ⟨_, rfl⟩
    replace H : (some y164) = some r := by first | (rw [hy164]; with_reducible exact H) | (have H2_ := (Option.bind_some _ _).symm.trans H; rw [hy164]; with_reducible exact H2_) | (have H2_ := (Option.bind_some _ _).symm.trans H; with_reducible exact H2_) | with_reducible exact H | (rw [hy164]; exact H) | exact H
    have Ny164 := Aside0.mk hy164
    clear hy164
    obtain rfl := Option.some.inj H
    go_wp2_with (first | ((with_reducible refine gate_builtin (b := .append) (xs := #[.tmp 16, .tmp 19]) rfl ?_); at_builtin; refine Kd.R_append (Kd.int .u8) (w0 := w0) w0.heap.size rfl (.tmp 16) (.tmp 19) 52 5 (.int .u8 0) 1 rfl Try.underlying52 info5 rfl (by decide) (by omega) u0 x0_1 ((x1_1) % 256) [.int .u8 ((x1_1) % 256)] (fun k_ => (P0_ k_ ∨ w.heap.size ≤ k_)) (fun _ => False) rfl rfl ?aP (fun _ hk => hk.elim) ?aF ?aO ?aB ?aS ?aL ?_; (case aP => exact rfl); (case aB => exact bel); (case aF => exact (fun k_ hk => (.inr (Nat.le_trans (by first | exact HK.out.1 | exact (show Kept w _ (fun k_ => P0_ k_) from by repeat (first | (with_reducible first | exact HK.out | apply Kept.alloc | apply Kept.drewN | apply Kept.drew) | exact HK.out)).1) hk)))); (case aO => exact (by (with_reducible repeat (first | apply Kd.R_alloc | apply Kd.R_drewN | apply Kd.R_drew)); exact HO_0.out)); (case aS => exact (below_size bel)); (case aL => have := LMc6.out; omega); intro v165 w7 ho hb hg hat; rw [← Ny164.out] at ho; have n0_ := Aside0.mk (hb); have n1_ := Aside0.mk (Kept.of_grown (S := (fun k_ => P0_ k_)) hg (by repeat (first | (with_reducible first | exact HK.out | apply Kept.alloc | apply Kept.drewN | apply Kept.drew) | exact HK.out)) (fun k_ e_ => (HO_0.out.1 k_ e_))); have n2_ := Aside0.mk (ho); clear HB; clear HK; clear HO_0; have HB := n0_; have HK := n1_; have HO166 := n2_; clear n0_ n1_ n2_; clear ho hb hg hat))
    go_ret
    exact ⟨_, rz_, by (with_reducible repeat (first | apply Kd.R_alloc | apply Kd.R_drewN | apply Kd.R_drew)); exact HO166.out, by repeat (first | (with_reducible first | exact HB.out | apply below_alloc | apply pw_below_drewN | apply below_drew1) | exact HB.out), by repeat (first | (with_reducible first | exact HK.out | apply Kept.alloc | apply Kept.drewN | apply Kept.drew) | exact HK.out)⟩
   rw [if_neg c6] at H
   exact absurd H (by simp)

/-! ### impl_putText: function 170 -/
def impl_putText.f (k : Nat) (l0 : List Int) (l1 : List Int) : Option (List Int) := (impl_putNum.f k l0 (l1.length : Int)).bind fun t167 => (if t167.length + l1.length < 140737488355328 then (some (t167 ++ l1)) else (none))
set_option maxHeartbeats 8000000 in
set_option maxRecDepth 100000 in
theorem impl_putText.calls (k : Nat) (P0_ : Nat → Prop) (u9000_ : Value) (l0 : List Int) (A1 : Option Addr) (c1 : Nat) (l1 : List Int) (r : List Int) (w0 w : World) (hB : Below w0.heap.size w0 w) (ho0 : Kd.R (Kd.int .u8) 5 w w0.heap.size P0_ u9000_ l0) (hr1 : ∀ W_, Kept w W_ (fun k_ => P0_ k_) → Kd.C (Kd.int .u8) W_ A1 l1.length l1) (hc1 : l1.length ≤ c1) (h : impl_putText.f k l0 l1 = some r) :
  Calls Try.prog 170 #[u9000_, .slice A1 l1.length c1] w fun e w' => ∃ v0_ : Value, e = .returned (v0_) ∧ Kd.R (Kd.int .u8) 5 w' w0.heap.size (fun k_ => (P0_ k_ ∨ w.heap.size ≤ k_)) v0_ r ∧ Below w0.heap.size w0 w' ∧ Kept w w' (fun k_ => P0_ k_) := by
 have HO0 := Aside0.mk (show Kd.R (Kd.int .u8) 5 w w0.heap.size (fun k_ => (P0_ k_ ∨ w.heap.size ≤ k_)) u9000_ l0 from Kd.R_mono ho0 (fun k_ hk => (.inl hk)))
 have HR1 := Aside0.mk hr1
 have HC1 := Aside0.mk hc1
 clear hr1 hc1
 have HK := Aside0.mk (Kept.refl w (fun k_ => P0_ k_))
 have HW0 := Aside0.mk hB.size
 have HB := Aside0.mk hB
 clear hB
 have H : ((impl_putNum.f k l0 (l1.length : Int)).bind fun t167 => (if t167.length + l1.length < 140737488355328 then (some (t167 ++ l1)) else (none))) = some r := h
 clear h
 replace H := Option.bind_eq_some_iff.mp H
 obtain ⟨t167, A30, H⟩ := H
 replace H : (if t167.length + l1.length < 140737488355328 then (some (t167 ++ l1)) else (none)) = some r := H
 have A3 := Aside0.mk A30
 clear A30
 by_cases c4 : t167.length + l1.length < 140737488355328
 ·rw [if_pos c4] at H
  have LMc4 := Aside0.mk c4
  clear c4
  obtain ⟨y170, hy170⟩ : ∃ y_ : List Int, y_ = (t167 ++ l1) := ⟨_, rfl⟩
  replace H : (some y170) = some r := by first | (rw [hy170]; with_reducible exact H) | (have H2_ := (Option.bind_some _ _).symm.trans H; rw [hy170]; with_reducible exact H2_) | (have H2_ := (Option.bind_some _ _).symm.trans H; with_reducible exact H2_) | with_reducible exact H | (rw [hy170]; exact H) | exact H
  have Ny170 := Aside0.mk hy170
  clear hy170
  obtain rfl := Option.some.inj H
  obtain ⟨Ao5, co5, eo5⟩ := Kd.R_slice HO0.out
  subst eo5
  go_enter Try.func170, Try.ntmps170
  go_wp2_with (first | ((with_reducible refine gate_callee (f := 168) rfl ?_); refine gl_ (some 8) Try.func168 #[.slice Ao5 l0.length co5, .int .i64 (l1.length : Int)] (h := ?_); (with_reducible refine (impl_putNum.calls k (fun k_ => some k_ = (.slice Ao5 l0.length co5 : Value).ownBlock) (.slice Ao5 l0.length co5) l0 (l1.length : Int) t167 w0 _ ?side1 ?side2 A3.out).mono ?_); (case side1 => repeat (first | (with_reducible first | exact HB.out | apply below_alloc | apply pw_below_drewN | apply below_drew1) | exact HB.out)); (case side2 => exact Kd.R_tight rfl HO0.out); rintro e w6 ⟨v168, rfl, ho0, hb, hkp⟩; refine ⟨_, rfl, ?_⟩; have n0_ := Aside0.mk (Kd.R_mono (ok' := fun k_ => (P0_ k_ ∨ w.heap.size ≤ k_)) ho0 (fun k_ hk_ => Or.elim hk_ (fun hs_ => (HO0.out.1 k_ (hs_).symm)) (fun hn_ => (.inr (Nat.le_trans (by first | exact HK.out.1 | exact (show Kept w _ (fun k_ => P0_ k_) from by repeat (first | (with_reducible first | exact HK.out | apply Kept.alloc | apply Kept.drewN | apply Kept.drew) | exact HK.out)).1) hn_))))); have n1_ := Aside0.mk (Kept.then_ (S := (fun k_ => P0_ k_)) (by repeat (first | (with_reducible first | exact HK.out | apply Kept.alloc | apply Kept.drewN | apply Kept.drew) | exact HK.out)) hkp (fun k_ hs_ => (fun e_ => (HO0.out.1 k_ e_.symm)) hs_)); have n2_ := Aside0.mk (hb); clear HK; clear HB; clear HO0; have HO169 := n0_; have HK := n1_; have HB := n2_; clear n0_ n1_ n2_; (try clear hb); (try clear hkp); (try clear ho0)) | ((with_reducible refine gate_builtin (b := .append) (xs := #[.tmp 8, .tmp 9]) rfl ?_); at_builtin; refine Kd.R_append_rows (Kd.int .u8) (w0 := w0) w0.heap.size rfl (.tmp 8) (.tmp 9) 52 5 (.int .u8 0) 1 rfl Try.underlying52 info5 rfl (by decide) (by omega) v168 t167 l1 _ _ _ (fun k_ => (P0_ k_ ∨ w.heap.size ≤ k_)) (fun _ => False) rfl rfl ?aO ?aR (fun _ _ h => h) (fun _ h => h.elim) ?aF ?aB ?aS ?aL ?_; (case aR => exact Kd.C_kept_now HR1.out (by repeat (first | (with_reducible first | exact HK.out | apply Kept.alloc | apply Kept.drewN | apply Kept.drew) | exact HK.out))); (case aB => exact bel); (case aF => exact (fun k_ hk => (.inr (Nat.le_trans (by first | exact HK.out.1 | exact (show Kept w _ (fun k_ => P0_ k_) from by repeat (first | (with_reducible first | exact HK.out | apply Kept.alloc | apply Kept.drewN | apply Kept.drew) | exact HK.out)).1) hk)))); (case aO => exact (by (with_reducible repeat (first | apply Kd.R_alloc | apply Kd.R_drewN | apply Kd.R_drew)); exact HO169.out)); (case aS => exact (below_size bel)); (case aL => have := LMc4.out; omega); intro v171 w7 ho hb hg hat; rw [← Ny170.out] at ho; have n0_ := Aside0.mk (hb); have n1_ := Aside0.mk (Kept.of_grown (S := (fun k_ => P0_ k_)) hg (by repeat (first | (with_reducible first | exact HK.out | apply Kept.alloc | apply Kept.drewN | apply Kept.drew) | exact HK.out)) (fun k_ e_ => (HO169.out.1 k_ e_))); have n2_ := Aside0.mk (ho); clear HB; clear HK; clear HO169; have HB := n0_; have HK := n1_; have HO172 := n2_; clear n0_ n1_ n2_; clear ho hb hg hat))
  go_ret
  exact ⟨_, rz_, by (with_reducible repeat (first | apply Kd.R_alloc | apply Kd.R_drewN | apply Kd.R_drew)); exact HO172.out, by repeat (first | (with_reducible first | exact HB.out | apply below_alloc | apply pw_below_drewN | apply below_drew1) | exact HB.out), by repeat (first | (with_reducible first | exact HK.out | apply Kept.alloc | apply Kept.drewN | apply Kept.drew) | exact HK.out)⟩
 rw [if_neg c4] at H
 exact absurd H (by simp)

/-! ### virtual_put: function 226 -/
def virtual_put.f (k : Nat) : List Int → List Int → Option (List Int)
 | b, [] => some b
 | b, n :: ns => (impl_putNum.f k b n).bind fun b' => virtual_put.f k b' ns
theorem virtual_put.glc_ {P : Program} {ops : Array Oper} {Q : Exit → Act → World → Prop} {rest : List Oper} {oi : Oper} {a : Act} {w : World} (N : Option Tmp) {f : FuncId} {fn : Func} (hf : P.funcs[f]? = some fn) (args : Array Value) {c : Value} {q : Tmp} {ar : Array Operand} {ts : Array TypeId} (hd : oi.dst = N := by exact rfl) (hg : oi.guard = none := by exact rfl) (hname : (fn.name == "runtime.NumGoroutine") = false := by kernel_rfl) (hb : fn.body.isSome = true := by exact rfl)
  (hop : oi.op = .call { callee := .value (.tmp q), args := ar, argTypes := ts } := by exact rfl) (hv : a.eval (.tmp q) = .func (.func f) #[] #[c] := by rfl) (hargs : ar.map a.eval ++ #[c] = args := by ((try simp only [List.map_toArray, List.map_cons, List.map_nil]); first | done | rfl | (simp only [List.length_drop, List.length_take]; rfl)))
  (h : Calls P f args w fun e w' => ∃ v, e = .returned v ∧ wpList P ops Q rest (a.put N v) w') : wpList P ops Q (oi :: rest) a w := by
 refine wpList_plain hg fun K hK => ?_
 have he := enters_ hf hname hb args w
 have hrun : (execOp a.eval oi).run P w = .ok (.enter f args) w := by
  unfold execOp
  have hargs' : (ar.map a.eval).push c = args := by simpa using hargs
  simp [hop, resolve, Deferred.ofValue, invoke, hv, hargs', hargs, he]
 unfold Oper.wp
 rw [hrun, Oper.upon_enter]
 refine h.mono fun e w'' hh => ?_
 obtain ⟨v, rfl, hk⟩ := hh
 subst hd
 exact hK _ _ hk
theorem virtual_put.gsc_ {P : Program} {ops : Array Oper} {Q : Exit → Act → World → Prop} {oi : Oper} {N : Option Tmp} {a : Act} {w : World} {K : Act → World → Prop} {f : FuncId} {fn : Func} (hf : P.funcs[f]? = some fn) (args : Array Value) {c : Value} {q : Tmp} {ar : Array Operand} {ts : Array TypeId} (hname : (fn.name == "runtime.NumGoroutine") = false := by kernel_rfl) (hb : fn.body.isSome = true := by exact rfl)
  (hw : Region.wanted oi (yielded ops a.tmps) = true := by rfl) (hN : oi.dst = N := by exact rfl) (hop : oi.op = .call { callee := .value (.tmp q), args := ar, argTypes := ts } := by exact rfl) (hv : a.eval (.tmp q) = .func (.func f) #[] #[c] := by rfl) (hargs : ar.map a.eval ++ #[c] = args := by ((try simp only [List.map_toArray, List.map_cons, List.map_nil]); first | done | rfl | (simp only [List.length_drop, List.length_take]; rfl)))
  (h : Calls P f args w fun e w' => ∃ v, e = .returned v ∧ K (a.put N v) w') : if Region.wanted oi (yielded ops a.tmps) = true then Oper.wp P oi a w K Q else K (a.put N undef) w := by
 refine call_ f args hw hN ?_ h
 have he := enters_ hf hname hb args w
 unfold execOp
 have hargs' : (ar.map a.eval).push c = args := by simpa using hargs
 simp [hop, resolve, Deferred.ofValue, invoke, hv, hargs', hargs, he]
theorem virtual_put.back {w : World} {g t : Nat} {u u0 : Value} (h : w.heap[g]? = some (.cells #[u] t (0, 0))) : w = (w.setCell ⟨g, 0, none⟩ u0).setCell ⟨g, 0, none⟩ u := by
 have e : ((w.setCell ⟨g, 0, none⟩ u0).setCell ⟨g, 0, none⟩ u).heap = w.heap := by
  apply Array.ext_getElem?
  intro i
  by_cases hi : i = g
  ·subst hi
   rw [blk_put (blk_put h 0 u0 rfl) 0 u rfl, h]
   rfl
  rw [Below.heap_setCell _ _ _ _ hi, Below.heap_setCell _ _ _ _ hi]
 have e2 : (w.setCell ⟨g, 0, none⟩ u0).setCell ⟨g, 0, none⟩ u = { w with heap := ((w.setCell ⟨g, 0, none⟩ u0).setCell ⟨g, 0, none⟩ u).heap } := rfl
 rw [e2, e]
theorem virtual_put.kept {w W : World} {g t : Nat} {u u0 : Value} {S : Nat → Prop} (h0 : w.heap[g]? = some (.cells #[u0] t (0, 0))) (h : W.heap[g]? = some (.cells #[u] t (0, 0))) (hk : Kept w W (fun k => S k ∨ k = g)) : Kept w (W.setCell ⟨g, 0, none⟩ u0) S := by
 refine ⟨by simpa [World.setCell] using hk.1, fun i hi hn => ?_⟩
 by_cases e : i = g
 ·subst e
  rw [blk_put h 0 u0 rfl, h0]
  rfl
 rw [Below.heap_setCell _ _ _ _ e]
 exact hk.2 i hi (fun h2 => h2.elim hn e)
theorem virtual_put.at_ {W : World} {g t : Nat} {u u0 : Value} (hu : ∃ A n c, u0 = .slice A n c) {A : Option Addr} {xs : List Int} (h : W.heap[g]? = some (.cells #[u] t (0, 0))) (hC : (Kd.int .i64).C (W.setCell ⟨g, 0, none⟩ u0) A xs.length xs) (i : Int) (p : 0 ≤ i) (q : i < xs.length) :
  ∃ ad, A = some ad ∧ W.cell? (ad.add i.toNat) = some (.int .i64 (rd xs i)) := by
 obtain ⟨ad, e, hx⟩ := Kd.at_int hC i p q
 refine ⟨ad, e, ?_⟩
 by_cases hg : (ad.add i.toNat).block = g
 ·exfalso
  obtain ⟨A', n', c', rfl⟩ := hu
  have h2 := blk_put h 0 (.slice A' n' c') rfl
  unfold World.cell? at hx
  rw [hg, h2] at hx
  simp only [List.setIfInBounds_toArray, List.set_cons_zero] at hx
  split at hx
  ·cases hx
  ·cases hz : (ad.add i.toNat).off with
   | zero => rw [hz] at hx; simp at hx
   | succ j => rw [hz] at hx; simp at hx
 unfold World.cell? at hx ⊢
 rw [Below.heap_setCell _ _ _ _ hg] at hx
 exact hx
set_option maxHeartbeats 4000000 in
theorem virtual_put.calls (k : Nat) (u0 : Value) (l0 : List Int) (A1 : Option Addr) (c1 : Nat) (l1 : List Int) (r : List Int) (w0 w : World) (gb : Nat) (hbx : w.heap[gb]? = some (.cells #[u0] 52 (0, 0))) (hgb : w0.heap.size ≤ gb) (hB : Below w0.heap.size w0 w) (ho0 : Kd.R (Kd.int .u8) 5 w w0.heap.size (fun k_ => some k_ = u0.ownBlock) u0 l0) (hr1 : ∀ W', Kept w W' (fun k_ => some k_ = u0.ownBlock) → Kd.C (Kd.int .i64) W' A1 l1.length l1) (hc1 : l1.length ≤ c1) (hlen : l1.length < 1000) (h : virtual_put.f k l0 l1 = some r) :
  Calls Try.prog 167 #[.slice A1 l1.length c1, .pointer (some ⟨gb, 0, none⟩)] w fun e w' => ∃ w1 v0_, e = .returned (.tuple #[]) ∧ w' = w1.setCell ⟨gb, 0, none⟩ v0_ ∧ Kd.R (Kd.int .u8) 5 w1 w0.heap.size (fun k_ => (some k_ = u0.ownBlock ∨ w.heap.size ≤ k_)) v0_ r ∧ Below w0.heap.size w0 w1 ∧ Kept w w1 (fun k_ => some k_ = u0.ownBlock) := by
 have hnp : some gb ≠ u0.ownBlock := Kd.R_ne ho0 hbx (by decide)
 have hglt := blk_lt hbx
 have hsl : ∃ A n c, u0 = .slice A n c := by
  obtain ⟨A, c, e⟩ := Kd.R_slice ho0
  exact ⟨A, _, c, e⟩
 have HR := Aside0.mk hr1
 have HBX0 := Aside0.mk hbx
 have HO0 := Aside0.mk (show Kd.R (Kd.int .u8) 5 w w0.heap.size (fun k_ => (some k_ = u0.ownBlock ∨ w.heap.size ≤ k_)) u0 l0 from Kd.R_mono ho0 (fun k_ hk => (.inl hk)))
 have HB := Aside0.mk hB
 have H0 := Aside0.mk h
 clear hr1 hbx ho0 hB h
 go_enter Try.func167, Try.ntmps167
 go_wp2
 go_loopg [4, 7] l1.length (fun gg _ s7 wr => ∃ (x : Int) (u : Value) (b : List Int), s7 = .int .i64 x ∧ 0 ≤ x ∧ x ≤ (l1.length : Int) ∧ l1.length - x.toNat ≤ gg ∧ Aside0 (virtual_put.f k b (l1.drop x.toNat) = some r) ∧ Aside0 (wr.heap[gb]? = some (.cells #[u] 52 (0, 0))) ∧ Aside0 (Kd.R (Kd.int .u8) 5 wr w0.heap.size (fun k_ => (some k_ = u0.ownBlock ∨ w.heap.size ≤ k_)) u b) ∧ Aside0 (Below w0.heap.size w0 wr) ∧ Aside0 (Kept w wr (fun k_ => some k_ = u0.ownBlock ∨ k_ = gb)))
 case atStart => exact ⟨0, u0, l0, rfl, by omega, by omega, by omega, H0, HBX0, HO0, HB, ⟨Kept.refl _ _⟩⟩
 case round =>
  obtain ⟨x, u, b, rfl, hx0, hx1, hg, HF, HBX, HU, HBr, HK⟩ := hrel
  by_cases hlt : x < (l1.length : Int)
  ·obtain ⟨ad, e, hx⟩ := virtual_put.at_ hsl HBX.out (HR.out _ (virtual_put.kept HBX0.out HBX.out HK.out)) x hx0 hlt
   cases e
   have hd : l1.drop x.toNat = rd l1 x :: l1.drop (x.toNat + 1) := by
    rw [List.drop_eq_getElem_cons (by omega)]
    congr 1
    unfold rd
    simp [List.getD, show x.toNat < l1.length by omega]
   have hf := HF.out
   rw [hd, virtual_put.f] at hf
   obtain ⟨b', hb', hf'⟩ := Option.bind_eq_some_iff.mp hf
   have HF' := Aside0.mk hf'
   have HP := Aside0.mk hb'
   clear hf hf' hb' hd
   obtain ⟨Au, cu, eu⟩ := Kd.R_slice HU.out
   subst eu
   have hcz : wr.cell? ⟨gb, 0, none⟩ = some (.slice Au b.length cu) := (blk_cell HBX.out 0).trans rfl
   have hfz := blk_frozen HBX.out 0
   have p0 := eq_true hx0
   have q0 := eq_true hlt
   go_wp2_with (go_at_call 168; refine (impl_putNum.calls k (fun k_ => (some k_ = u0.ownBlock ∨ w.heap.size ≤ k_) ∧ k_ ≠ gb) (.slice Au b.length cu) b (rd l1 x) b' w0 _ HBr.out (Kd.R_types HU.out HBX.out (by decide)) HP.out).mono ?_; rintro e w3 ⟨v, rfl, ho, hb3, hk3⟩; have HO3 := Aside0.mk ho; have HB3 := Aside0.mk hb3; have HK3 := Aside0.mk hk3; have HX3 := Aside0.mk (blk_kept HBX.out hk3 (fun h_ => h_.2 rfl)); clear ho hb3 hk3; obtain ⟨Av, cv, ev⟩ := Kd.R_slice HO3.out; subst ev; have hcz3 : w3.cell? ⟨gb, 0, none⟩ = some (.slice Au b.length cu) := (blk_cell HX3.out 0).trans rfl; have hfz3 := blk_frozen HX3.out 0)
   go_roundg (l1.length - (x.toNat + 1))
   case measure => omega
   case rel =>
    have ex : (x + 1).toNat = x.toNat + 1 := by omega
    have hsz := HK.out.1
    refine ⟨x + 1, .slice Av b'.length cv, b', by go_num, by omega, by omega, by omega, ⟨by rw [ex]; exact HF'.out⟩, ⟨blk_put HX3.out 0 _ rfl⟩, ⟨?_⟩, ⟨below_set HB3.out hgb⟩, ⟨?_⟩⟩
    ·refine Kd.R_mono (Kd.R_set HO3.out HX3.out (by decide) 0 _) (fun k_ hk => ?_)
     rcases hk with hk | hk
     ·exact hk.1
     ·exact .inr (by omega)
    ·refine Kept.setCell (HK.out.then_ HK3.out (fun k_ hk => ?_)) (.inl (.inr rfl)) _
     rcases hk.1 with hk | hk
     ·exact .inl (.inl hk)
     ·exact .inr hk
  have hx : x.toNat = l1.length := by omega
  have hf := HF.out
  rw [hx, List.drop_length, virtual_put.f] at hf
  obtain rfl := Option.some.inj hf
  go_wp2
  first | go_end0 | ((try simp only [Exit.inBlock, Exit.then]); refine bodyPost_ret (results_none rfl _ _ _) rfl ?_)
  refine ⟨rfl, wr.setCell ⟨gb, 0, none⟩ u0, u, virtual_put.back HBX.out, ?_, below_set HBr.out hgb, virtual_put.kept HBX0.out HBX.out HK.out⟩
  exact Kd.R_set HU.out HBX.out (by decide) 0 u0

/-! ### impl_msgBytes: function 106 -/
def impl_msgBytes.l0 : Nat → List (S147) → Int → Int → List Int → Option (List Int)
 | 0, _, _, _, _ => none
 | k + 1, x34, x35, x36, x175000 => if x36 < x35 then (if 0 ≤ x36 then (if x36 < (x34.length : Int) then ((virtual_put.f k x175000 (([(rd_T147 x34 x36).f0, wrap64 (((rd_T147 x34 x36).f1.f0) + 1), (rd_T147 x34 x36).f1.f1, (rd_T147 x34 x36).f1.f2.f0] : List Int))).bind fun t212 => ((impl_putText.f k t212 ((rd_T147 x34 x36).f1.f2.f1)).bind fun t215 => ((impl_putText.f k t215 ((rd_T147 x34 x36).f1.f2.f2)).bind fun t218 => ((virtual_put.f k t218 (([(rd_T147 x34 x36).f1.f2.f3] : List Int))).bind fun t224 => (impl_msgBytes.l0 k x34 x35 (wrap64 (x36 + 1)) t224))))) else (none)) else (none)) else (some x175000)
def impl_msgBytes.f (k : Nat) (a0_0 : Int) (a0_1 : Int) (a0_2 : Int) (a0_3 : Int) (a0_4 : Int) (a0_5 : Int) (l0_6 : List (S147)) (a0_7 : Int) (a0_8 : Bool) : Option (List Int) := (virtual_put.f k ([] : List Int) (([a0_0, a0_1, a0_2, a0_3] : List Int))).bind fun t178 => (if a0_0 = 0 then ((virtual_put.f k t178 (([a0_4, a0_5] : List Int))).bind fun t184 => (some t184)) else (if a0_0 = 1 then ((impl_truth.f a0_8).bind fun t187 => ((virtual_put.f k t178 (([t187] : List Int))).bind fun t191 => (some t191))) else (if a0_0 = 3 then ((impl_truth.f a0_8).bind fun t194 => ((virtual_put.f k t178 (([a0_4, t194] : List Int))).bind fun t198 => (some t198))) else ((virtual_put.f k t178 (([a0_4, a0_5, a0_7, (l0_6.length : Int)] : List Int))).bind fun t204 => (impl_msgBytes.l0 k l0_6 (l0_6.length : Int) 0 t204)))))
def impl_msgBytes.T10 : Bool × List (List Nat × List Nat) := (true, [([], []), ([], []), ([1], [1]), ([2], [2]), ([3], [3]), ([0, 4], [0, 4]), ([], []), ([6], [6]), ([7], [7]), ([8], [8]), ([5, 9, 5], [5, 9]), ([10, 10, 0, 1, 2, 3, 4, 5, 6, 7, 8, 9, 10], [10])])
def impl_msgBytes.B10 : List Nat := [0, 0, 2, 6, 14, 31, 0, 64, 192, 448, 1023, 2047]
theorem impl_msgBytes.tab10 : rtab .any (opsOf Try.f106 10) = impl_msgBytes.T10 := by kernel_rfl
theorem impl_msgBytes.bits10 : waitsOk impl_msgBytes.T10.2 impl_msgBytes.B10 = true := by kernel_rfl
def impl_msgBytes.T18 : Bool × List (List Nat × List Nat) := (true, [([], []), ([], []), ([1], [1]), ([], []), ([3], [3]), ([4], [4]), ([2, 5], [2, 5]), ([0, 6, 5], [0, 6])])
def impl_msgBytes.B18 : List Nat := [0, 0, 2, 0, 8, 24, 62, 127]
theorem impl_msgBytes.tab18 : rtab .any (opsOf Try.f106 18) = impl_msgBytes.T18 := by kernel_rfl
theorem impl_msgBytes.bits18 : waitsOk impl_msgBytes.T18.2 impl_msgBytes.B18 = true := by kernel_rfl
set_option maxHeartbeats 8000000 in
set_option maxRecDepth 100000 in
theorem impl_msgBytes.calls (k : Nat) (a0_0 : Int) (a0_1 : Int) (a0_2 : Int) (a0_3 : Int) (a0_4 : Int) (a0_5 : Int) (A0_6 : Option Addr) (c0_6 : Nat) (l0_6 : List (S147)) (a0_7 : Int) (a0_8 : Bool) (r : List Int) (w : World) (hr0_6 : Kd.C k147 w A0_6 l0_6.length l0_6) (hc0_6 : l0_6.length ≤ c0_6) (h : impl_msgBytes.f k a0_0 a0_1 a0_2 a0_3 a0_4 a0_5 l0_6 a0_7 a0_8 = some r) :
  Calls Try.prog 106 #[.agg #[.int .i64 a0_0, .int .i64 a0_1, .int .i64 a0_2, .int .i64 a0_3, .int .i64 a0_4, .int .i64 a0_5, .slice A0_6 l0_6.length c0_6, .int .i64 a0_7, .bool a0_8]] w fun e w' => ∃ v0_ : Value, e = .returned (v0_) ∧ Kd.R (Kd.int .u8) 5 w' w.heap.size (fun _ => True) v0_ r ∧ Below w.heap.size w w' := by
 have hu54 := Try.underlying54
 have hu147 := Try.underlying147
 have HR0_6 := Aside0.mk hr0_6
 have HC0_6 := Aside0.mk hc0_6
 clear hr0_6 hc0_6
 have HB := Aside0.mk (Below.refl w.heap.size w)
 have H : ((virtual_put.f k ([] : List Int) (([a0_0, a0_1, a0_2, a0_3] : List Int))).bind fun t178 => (if a0_0 = 0 then ((virtual_put.f k t178 (([a0_4, a0_5] : List Int))).bind fun t184 => (some t184)) else (if a0_0 = 1 then ((impl_truth.f a0_8).bind fun t187 => ((virtual_put.f k t178 (([t187] : List Int))).bind fun t191 => (some t191))) else (if a0_0 = 3 then ((impl_truth.f a0_8).bind fun t194 => ((virtual_put.f k t178 (([a0_4, t194] : List Int))).bind fun t198 => (some t198))) else ((virtual_put.f k t178 (([a0_4, a0_5, a0_7, (l0_6.length : Int)] : List Int))).bind fun t204 => (impl_msgBytes.l0 k l0_6 (l0_6.length : Int) 0 t204)))))) = some r := h
 clear h
 obtain ⟨y175, hy175⟩ : ∃ y_ : List Int, y_ = (([a0_0, a0_1, a0_2, a0_3] : List Int)) := ⟨_, rfl⟩
 replace H : ((virtual_put.f k ([] : List Int) y175).bind fun t178 => (if a0_0 = 0 then ((virtual_put.f k t178 (([a0_4, a0_5] : List Int))).bind fun t184 => (some t184)) else (if a0_0 = 1 then ((impl_truth.f a0_8).bind fun t187 => ((virtual_put.f k t178 (([t187] : List Int))).bind fun t191 => (some t191))) else (if a0_0 = 3 then ((impl_truth.f a0_8).bind fun t194 => ((virtual_put.f k t178 (([a0_4, t194] : List Int))).bind fun t198 => (some t198))) else ((virtual_put.f k t178 (([a0_4, a0_5, a0_7, (l0_6.length : Int)] : List Int))).bind fun t204 => (impl_msgBytes.l0 k l0_6 (l0_6.length : Int) 0 t204)))))) = some r := by first | (rw [hy175]; with_reducible exact H) | (have H2_ := (Option.bind_some _ _).symm.trans H; rw [hy175]; with_reducible exact H2_) | (have H2_ := (Option.bind_some _ _).symm.trans H; with_reducible exact H2_) | with_reducible exact H | (rw [hy175]; exact H) | exact H
 have Ny175 := Aside0.mk hy175
 clear hy175
 replace H := Option.bind_eq_some_iff.mp H
 obtain ⟨t178, A20, H⟩ := H
 replace H : (if a0_0 = 0 then ((virtual_put.f k t178 (([a0_4, a0_5] : List Int))).bind fun t184 => (some t184)) else (if a0_0 = 1 then ((impl_truth.f a0_8).bind fun t187 => ((virtual_put.f k t178 (([t187] : List Int))).bind fun t191 => (some t191))) else (if a0_0 = 3 then ((impl_truth.f a0_8).bind fun t194 => ((virtual_put.f k t178 (([a0_4, t194] : List Int))).bind fun t198 => (some t198))) else ((virtual_put.f k t178 (([a0_4, a0_5, a0_7, (l0_6.length : Int)] : List Int))).bind fun t204 => (impl_msgBytes.l0 k l0_6 (l0_6.length : Int) 0 t204))))) = some r := H
 have A2 := Aside0.mk A20
 clear A20
 by_cases c3 : a0_0 = 0
 ·rw [if_pos c3] at H
  have c3b0 : (a0_0 == 0) = true := beq_iff_eq.mpr c3
  have c3b1 : (a0_0 != 0) = false := bne_eq_false_iff_eq.mpr c3
  clear c3
  obtain ⟨y181, hy181⟩ : ∃ y_ : List Int, y_ = (([a0_4, a0_5] : List Int)) := ⟨_, rfl⟩
  replace H : ((virtual_put.f k t178 y181).bind fun t184 => (some t184)) = some r := by first | (rw [hy181]; with_reducible exact H) | (have H2_ := (Option.bind_some _ _).symm.trans H; rw [hy181]; with_reducible exact H2_) | (have H2_ := (Option.bind_some _ _).symm.trans H; with_reducible exact H2_) | with_reducible exact H | (rw [hy181]; exact H) | exact H
  have Ny181 := Aside0.mk hy181
  clear hy181
  replace H := Option.bind_eq_some_iff.mp H
  obtain ⟨t184, A40, H⟩ := H
  replace H : (some t184) = some r := H
  have A4 := Aside0.mk A40
  clear A40
  obtain rfl := Option.some.inj H
  go_enter Try.func106, Try.ntmps106
  go_wp2_with (first | ((with_reducible refine gate_dst (N := 1) rfl ?_); refine bx_ 1 #[.int .i64 a0_0, .int .i64 a0_1, .int .i64 a0_2, .int .i64 a0_3, .int .i64 a0_4, .int .i64 a0_5, .slice A0_6 l0_6.length c0_6, .int .i64 a0_7, .bool a0_8] 54 (h := ?_); intro gb173 hg w5 hbox hb; have BK173 := Aside0.mk (hbox); have GW173 := Aside0.mk ((by rw [hg]; exact (below_size bel) : w.heap.size ≤ gb173)); have GE173 := GW173; replace HB := Aside0.mk (below_step bel hb); clear hb hbox hg) | ((with_reducible refine gate_dst (N := 3) rfl ?_); refine bx_ 3 #[.slice none 0 0] 52 (h := ?_); intro gb174 hg w6 hbox hb; have BK174 := Aside0.mk (hbox); have GW174 := Aside0.mk ((by rw [hg]; exact (below_size bel) : w.heap.size ≤ gb174)); have GE174 := GW174; have NB173_174 := Aside0.mk ((by rw [hg]; exact Nat.ne_of_lt (blt BK173) : gb173 ≠ gb174)); have NB174_173 := Aside0.mk NB173_174.out.symm; replace BK173 := Aside0.mk (blb BK173 hb); replace HB := Aside0.mk (below_step bel hb); clear hb hbox hg; have hnb7 := NB173_174.out; have hnc7 := NB174_173.out; obtain ⟨hcz8_0, hcz8_1, hcz8_2, hcz8_3, hcz8_4, hcz8_5, hcz8_6, hcz8_7, hcz8_8, -⟩ := cells_9 BK173.out trivial; obtain ⟨hfz8_0, hfz8_1, hfz8_2, hfz8_3, hfz8_4, hfz8_5, hfz8_6, hfz8_7, hfz8_8, -⟩ := frz_9 BK173.out) | ((with_reducible refine gate_dst (N := 17) rfl ?_); refine Kd.R_lit (Kd.int .i64) _ 3 ?hg (N := 17) ?hd (xs := ([a0_0, a0_1, a0_2, a0_3] : List Int)) (inner := [.int .i64 a0_0, .int .i64 a0_1, .int .i64 a0_2, .int .i64 a0_3]) (ok := fun _ => True) (okp := fun _ => True) ?hr ?hp (fun _ hk => hk) trivial (Below.refl _ _) (Nat.le_refl _) (by simp) ?_; (case hd => rfl); (case hg => rfl); (case hr => first | (go_simp; done) | (go_simp; rfl)); (case hp => exact (Reps.one (show Kd.M (Kd.int .i64) _ _ _ a0_0 [.int .i64 a0_0] from rfl) (Reps.one (show Kd.M (Kd.int .i64) _ _ _ a0_1 [.int .i64 a0_1] from rfl) (Reps.one (show Kd.M (Kd.int .i64) _ _ _ a0_2 [.int .i64 a0_2] from rfl) (Reps.one (show Kd.M (Kd.int .i64) _ _ _ a0_3 [.int .i64 a0_3] from rfl) (Reps.none _ _)))))); intro v176 w9 ho10 hb hg_ hnew_; clear hg_ hnew_; (first | rw [← Ny175.out] at ho10 | (simp only [Int.reduceToNat] at ho10; rw [← Ny175.out] at ho10)); have HO177 := Aside0.mk (Kd.R_lower ho10 (below_size bel)); replace BK173 := Aside0.mk (blb BK173 hb); replace BK174 := Aside0.mk (blb BK174 hb); replace HB := Aside0.mk (below_step bel hb); clear hb ho10; have hcz11_0 : w9.cell? ⟨gb174, 0, none⟩ = some (.slice none 0 0) := (blk_cell BK174.out 0).trans rfl; have hfz11_0 := blk_frozen BK174.out 0; obtain ⟨Ao12, co12, eo12⟩ := Kd.R_slice HO177.out; subst eo12) | ((with_reducible refine gate_dst (N := 18) rfl ?_); refine virtual_put.glc_ (some 18) Try.func167 #[.slice Ao12 y175.length co12, .pointer (some ⟨gb174, 0, none⟩)] (c := .pointer (some ⟨gb174, 0, none⟩)) (h := ?_); (refine (virtual_put.calls k (.slice none 0 0) ([] : List Int) _ _ y175 t178 w _ gb174 (by (with_reducible repeat (first | refine blk_drewN ?_ _ | refine blk_drew ?_ | refine blk_alloc ?_ _)); exact BK174.out) GE174.out ?side1 ?side2 ?side3 ?side4 (by rw [Ny175.out]; simp) A2.out).mono ?_); (case side1 => repeat (first | (with_reducible first | exact HB.out | apply below_alloc | apply pw_below_drewN | apply below_drew1 | refine below_set ?_ GE173.out | refine below_set ?_ GE174.out) | exact HB.out)); (case side2 => exact Kd.R_nil _ _ _ _ _); (case side3 => exact Kd.C_kept_own (HO177.out) (fun k_ hk_ hs_ => (fun e_ => by simp [Value.ownBlock] at e_) hs_)); (case side4 => exact (Kd.R_reads' HO177.out).2.1); rintro e _ ⟨w13, v179, rfl, rfl, ho0, hb, hkp⟩; refine ⟨_, rfl, ?_⟩; have HO180 := Aside0.mk (Kd.R_mono (ok' := fun k_ => True) ho0 (fun k_ hk_ => trivial)); replace BK173 := Aside0.mk (blk_kept (by (with_reducible repeat (first | refine blk_drewN ?_ _ | refine blk_drew ?_ | refine blk_alloc ?_ _)); exact BK173.out) hkp (fun hs_ => (fun e_ => by simp [Value.ownBlock] at e_) hs_)); replace BK174 := Aside0.mk (blk_kept (by (with_reducible repeat (first | refine blk_drewN ?_ _ | refine blk_drew ?_ | refine blk_alloc ?_ _)); exact BK174.out) hkp (fun hs_ => (fun e_ => by simp [Value.ownBlock] at e_) hs_)); replace HO177 := Aside0.mk (Kd.R_mono (ok' := fun k_ => True) (Kd.R_keptB (HO177.out) hkp (fun k_ hk_ hs_ => (fun e_ => by simp [Value.ownBlock] at e_) hs_)) (fun k_ hk_ => trivial)); replace HB := Aside0.mk (hb); (try clear hb); (try clear hkp); (try clear ho0); obtain ⟨Ao14, co14, eo14⟩ := Kd.R_slice HO180.out; subst eo14; have hcz15_0 : w13.cell? ⟨gb174, 0, none⟩ = some (.slice none 0 0) := (blk_cell BK174.out 0).trans rfl; have hfz15_0 := blk_frozen BK174.out 0; obtain ⟨hcz16_0, hcz16_1, hcz16_2, hcz16_3, hcz16_4, hcz16_5, hcz16_6, hcz16_7, hcz16_8, -⟩ := cells_9 BK173.out trivial; obtain ⟨hfz16_0, hfz16_1, hfz16_2, hfz16_3, hfz16_4, hfz16_5, hfz16_6, hfz16_7, hfz16_8, -⟩ := frz_9 BK173.out) | ((with_reducible refine gate_dst (N := 82) rfl ?_); refine Kd.R_lit (Kd.int .i64) _ 3 ?hg (N := 82) ?hd (xs := ([a0_4, a0_5] : List Int)) (inner := [.int .i64 a0_4, .int .i64 a0_5]) (ok := fun _ => True) (okp := fun _ => True) ?hr ?hp (fun _ hk => hk) trivial (Below.refl _ _) (Nat.le_refl _) (by simp) ?_; (case hd => rfl); (case hg => rfl); (case hr => first | (go_simp; done) | (go_simp; rfl)); (case hp => exact (Reps.one (show Kd.M (Kd.int .i64) _ _ _ a0_4 [.int .i64 a0_4] from rfl) (Reps.one (show Kd.M (Kd.int .i64) _ _ _ a0_5 [.int .i64 a0_5] from rfl) (Reps.none _ _)))); intro v182 w17 ho18 hb hg_ hnew_; clear hg_ hnew_; (first | rw [← Ny181.out] at ho18 | (simp only [Int.reduceToNat] at ho18; rw [← Ny181.out] at ho18)); have HO183 := Aside0.mk (Kd.R_lower (Kd.R_new' ho18 (Kd.R_lt (by (with_reducible repeat (first | apply Kd.R_alloc | apply Kd.R_drewN | apply Kd.R_drew)); exact (Kd.R_mono (Kd.R_far (p := ⟨gb174, 0, none⟩) (Kd.R_types HO177.out BK174.out (by decide)) (fun _ hk => hk.2) (.slice Ao14 t178.length co14)) (fun _ h_ => h_.1))))) (below_size bel)); replace HO177 := Aside0.mk (Kd.R_elder' (by (with_reducible repeat (first | apply Kd.R_alloc | apply Kd.R_drewN | apply Kd.R_drew)); exact (Kd.R_mono (Kd.R_far (p := ⟨gb174, 0, none⟩) (Kd.R_types HO177.out BK174.out (by decide)) (fun _ hk => hk.2) (.slice Ao14 t178.length co14)) (fun _ h_ => h_.1))) (Kd.R_base ho18) hb); replace HO180 := Aside0.mk (Kd.R_below (by (with_reducible repeat (first | apply Kd.R_alloc | apply Kd.R_drewN | apply Kd.R_drew)); exact (Kd.R_mono (Kd.R_far (p := ⟨gb174, 0, none⟩) (Kd.R_types HO180.out BK174.out (by decide)) (fun _ hk => hk.2) (.slice Ao14 t178.length co14)) (fun _ h_ => h_.1))) hb); replace BK173 := Aside0.mk (blk_below (g := gb173) (o := .cells #[.int .i64 a0_0, .int .i64 a0_1, .int .i64 a0_2, .int .i64 a0_3, .int .i64 a0_4, .int .i64 a0_5, .slice A0_6 l0_6.length c0_6, .int .i64 a0_7, .bool a0_8] 54 (0, 0)) (by (with_reducible repeat (first | refine blk_drewN ?_ _ | refine blk_drew ?_ | refine blk_alloc ?_ _)); refine blk_far ?_ NB173_174.out _; (with_reducible repeat (first | refine blk_drewN ?_ _ | refine blk_drew ?_ | refine blk_alloc ?_ _)); exact BK173.out) hb); replace BK174 := Aside0.mk (blk_below (g := gb174) (o := .cells #[.slice Ao14 t178.length co14] 52 (0, 0)) (by (with_reducible repeat (first | refine blk_drewN ?_ _ | refine blk_drew ?_ | refine blk_alloc ?_ _)); refine blk_put (cs := #[.slice none 0 0]) ?_ 0 _ rfl; (with_reducible repeat (first | refine blk_drewN ?_ _ | refine blk_drew ?_ | refine blk_alloc ?_ _)); exact BK174.out) hb); replace HB := Aside0.mk (below_step bel hb); clear hb ho18; have hcz19_0 : w17.cell? ⟨gb174, 0, none⟩ = some (.slice Ao14 t178.length co14) := (blk_cell BK174.out 0).trans rfl; have hfz19_0 := blk_frozen BK174.out 0; obtain ⟨Ao20, co20, eo20⟩ := Kd.R_slice HO183.out; subst eo20) | ((with_reducible refine gate_dst (N := 83) rfl ?_); refine virtual_put.glc_ (some 83) Try.func167 #[.slice Ao20 y181.length co20, .pointer (some ⟨gb174, 0, none⟩)] (c := .pointer (some ⟨gb174, 0, none⟩)) (h := ?_); (with_reducible refine (virtual_put.calls k (.slice Ao14 t178.length co14) t178 _ _ y181 t184 w _ gb174 (by (with_reducible repeat (first | refine blk_drewN ?_ _ | refine blk_drew ?_ | refine blk_alloc ?_ _)); exact BK174.out) GE174.out ?side1 ?side2 ?side3 ?side4 (by rw [Ny181.out]; simp) A4.out).mono ?_); (case side1 => repeat (first | (with_reducible first | exact HB.out | apply below_alloc | apply pw_below_drewN | apply below_drew1 | refine below_set ?_ GE173.out | refine below_set ?_ GE174.out) | exact HB.out)); (case side2 => exact Kd.R_tight rfl HO180.out); (case side3 => exact Kd.C_kept_own ((Kd.R_apart' HO183.out (Kd.R_typed HO180.out) (by decide))) (fun k_ hk_ hs_ => (hk_.2) hs_)); (case side4 => exact (Kd.R_reads' HO183.out).2.1); rintro e _ ⟨w21, v185, rfl, rfl, ho0, hb, hkp⟩; refine ⟨_, rfl, ?_⟩; have n0_ := Aside0.mk (blk_kept (by (with_reducible repeat (first | refine blk_drewN ?_ _ | refine blk_drew ?_ | refine blk_alloc ?_ _)); exact BK173.out) hkp (fun hs_ => (fun e_ => (Kd.R_ne HO180.out BK173.out (by decide)) e_) hs_)); have n1_ := Aside0.mk (blk_kept (by (with_reducible repeat (first | refine blk_drewN ?_ _ | refine blk_drew ?_ | refine blk_alloc ?_ _)); exact BK174.out) hkp (fun hs_ => (fun e_ => (Kd.R_ne HO180.out BK174.out (by decide)) e_) hs_)); have n2_ := Aside0.mk (Kd.R_mono (ok' := fun k_ => some k_ ≠ (.slice Ao20 y181.length co20 : Value).ownBlock) (Kd.R_keptB ((Kd.R_apart' HO177.out (Kd.R_typed HO180.out) (by decide))) hkp (fun k_ hk_ hs_ => (hk_.2) hs_)) (fun k_ hk_ => hk_.1.1.2)); have n3_ := Aside0.mk (Kd.R_mono (ok' := fun k_ => some k_ ≠ (.slice Ao12 y175.length co12 : Value).ownBlock) (Kd.R_keptB ((Kd.R_apart' HO183.out (Kd.R_typed HO180.out) (by decide))) hkp (fun k_ hk_ hs_ => (hk_.2) hs_)) (fun k_ hk_ => hk_.1.1.2)); have n4_ := Aside0.mk (Kd.R_mono (ok' := fun k_ => True) ho0 (fun k_ hk_ => trivial)); have n5_ := Aside0.mk (hb); clear BK173; clear BK174; clear HO177; clear HO183; clear HB; clear HO180; have BK173 := n0_; have BK174 := n1_; have HO177 := n2_; have HO183 := n3_; have HO186 := n4_; have HB := n5_; clear n0_ n1_ n2_ n3_ n4_ n5_; (try clear hb); (try clear hkp); (try clear ho0); obtain ⟨Ao22, co22, eo22⟩ := Kd.R_slice HO186.out; subst eo22; have hcz23_0 : w21.cell? ⟨gb174, 0, none⟩ = some (.slice Ao14 t178.length co14) := (blk_cell BK174.out 0).trans rfl; have hfz23_0 := blk_frozen BK174.out 0))
  go_ret
  exact ⟨_, rz_, by (with_reducible repeat (first | apply Kd.R_alloc | apply Kd.R_drewN | apply Kd.R_drew)); exact Kd.R_mono (Kd.R_far (p := ⟨gb174, 0, none⟩) (Kd.R_types HO186.out BK174.out (by decide)) (fun _ hk => hk.2) (.slice Ao22 t184.length co22)) (fun _ hk => trivial), bel⟩
 rw [if_neg c3] at H
 have c3b0 : (a0_0 == 0) = false := beq_eq_false_iff_ne.mpr c3
 have c3b1 : (a0_0 != 0) = true := bne_iff_ne.mpr c3
 by_cases c24 : a0_0 = 1
 ·rw [if_pos c24] at H
  have c24b0 : (a0_0 == 1) = true := beq_iff_eq.mpr c24
  have c24b1 : (a0_0 != 1) = false := bne_eq_false_iff_eq.mpr c24
  clear c24
  replace H := Option.bind_eq_some_iff.mp H
  obtain ⟨t187, A250, H⟩ := H
  replace H : ((virtual_put.f k t178 (([t187] : List Int))).bind fun t191 => (some t191)) = some r := H
  have A25 := Aside0.mk A250
  clear A250
  obtain ⟨y188, hy188⟩ : ∃ y_ : List Int, y_ = (([t187] : List Int)) := ⟨_, rfl⟩
  replace H : ((virtual_put.f k t178 y188).bind fun t191 => (some t191)) = some r := by first | (rw [hy188]; with_reducible exact H) | (have H2_ := (Option.bind_some _ _).symm.trans H; rw [hy188]; with_reducible exact H2_) | (have H2_ := (Option.bind_some _ _).symm.trans H; with_reducible exact H2_) | with_reducible exact H | (rw [hy188]; exact H) | exact H
  have Ny188 := Aside0.mk hy188
  clear hy188
  replace H := Option.bind_eq_some_iff.mp H
  obtain ⟨t191, A260, H⟩ := H
  replace H : (some t191) = some r := H
  have A26 := Aside0.mk A260
  clear A260
  obtain rfl := Option.some.inj H
  go_enter Try.func106, Try.ntmps106
  go_wp2_with (first | ((with_reducible refine gate_dst (N := 1) rfl ?_); refine bx_ 1 #[.int .i64 a0_0, .int .i64 a0_1, .int .i64 a0_2, .int .i64 a0_3, .int .i64 a0_4, .int .i64 a0_5, .slice A0_6 l0_6.length c0_6, .int .i64 a0_7, .bool a0_8] 54 (h := ?_); intro gb173 hg w27 hbox hb; have BK173 := Aside0.mk (hbox); have GW173 := Aside0.mk ((by rw [hg]; exact (below_size bel) : w.heap.size ≤ gb173)); have GE173 := GW173; replace HB := Aside0.mk (below_step bel hb); clear hb hbox hg) | ((with_reducible refine gate_dst (N := 3) rfl ?_); refine bx_ 3 #[.slice none 0 0] 52 (h := ?_); intro gb174 hg w28 hbox hb; have BK174 := Aside0.mk (hbox); have GW174 := Aside0.mk ((by rw [hg]; exact (below_size bel) : w.heap.size ≤ gb174)); have GE174 := GW174; have NB173_174 := Aside0.mk ((by rw [hg]; exact Nat.ne_of_lt (blt BK173) : gb173 ≠ gb174)); have NB174_173 := Aside0.mk NB173_174.out.symm; replace BK173 := Aside0.mk (blb BK173 hb); replace HB := Aside0.mk (below_step bel hb); clear hb hbox hg; have hnb29 := NB173_174.out; have hnc29 := NB174_173.out; obtain ⟨hcz30_0, hcz30_1, hcz30_2, hcz30_3, hcz30_4, hcz30_5, hcz30_6, hcz30_7, hcz30_8, -⟩ := cells_9 BK173.out trivial; obtain ⟨hfz30_0, hfz30_1, hfz30_2, hfz30_3, hfz30_4, hfz30_5, hfz30_6, hfz30_7, hfz30_8, -⟩ := frz_9 BK173.out) | ((with_reducible refine gate_dst (N := 17) rfl ?_); refine Kd.R_lit (Kd.int .i64) _ 3 ?hg (N := 17) ?hd (xs := ([a0_0, a0_1, a0_2, a0_3] : List Int)) (inner := [.int .i64 a0_0, .int .i64 a0_1, .int .i64 a0_2, .int .i64 a0_3]) (ok := fun _ => True) (okp := fun _ => True) ?hr ?hp (fun _ hk => hk) trivial (Below.refl _ _) (Nat.le_refl _) (by simp) ?_; (case hd => rfl); (case hg => rfl); (case hr => first | (go_simp; done) | (go_simp; rfl)); (case hp => exact (Reps.one (show Kd.M (Kd.int .i64) _ _ _ a0_0 [.int .i64 a0_0] from rfl) (Reps.one (show Kd.M (Kd.int .i64) _ _ _ a0_1 [.int .i64 a0_1] from rfl) (Reps.one (show Kd.M (Kd.int .i64) _ _ _ a0_2 [.int .i64 a0_2] from rfl) (Reps.one (show Kd.M (Kd.int .i64) _ _ _ a0_3 [.int .i64 a0_3] from rfl) (Reps.none _ _)))))); intro v176 w31 ho32 hb hg_ hnew_; clear hg_ hnew_; (first | rw [← Ny175.out] at ho32 | (simp only [Int.reduceToNat] at ho32; rw [← Ny175.out] at ho32)); have HO177 := Aside0.mk (Kd.R_lower ho32 (below_size bel)); replace BK173 := Aside0.mk (blb BK173 hb); replace BK174 := Aside0.mk (blb BK174 hb); replace HB := Aside0.mk (below_step bel hb); clear hb ho32; have hcz33_0 : w31.cell? ⟨gb174, 0, none⟩ = some (.slice none 0 0) := (blk_cell BK174.out 0).trans rfl; have hfz33_0 := blk_frozen BK174.out 0; obtain ⟨Ao34, co34, eo34⟩ := Kd.R_slice HO177.out; subst eo34) | ((with_reducible refine gate_dst (N := 18) rfl ?_); refine virtual_put.glc_ (some 18) Try.func167 #[.slice Ao34 y175.length co34, .pointer (some ⟨gb174, 0, none⟩)] (c := .pointer (some ⟨gb174, 0, none⟩)) (h := ?_); (refine (virtual_put.calls k (.slice none 0 0) ([] : List Int) _ _ y175 t178 w _ gb174 (by (with_reducible repeat (first | refine blk_drewN ?_ _ | refine blk_drew ?_ | refine blk_alloc ?_ _)); exact BK174.out) GE174.out ?side1 ?side2 ?side3 ?side4 (by rw [Ny175.out]; simp) A2.out).mono ?_); (case side1 => repeat (first | (with_reducible first | exact HB.out | apply below_alloc | apply pw_below_drewN | apply below_drew1 | refine below_set ?_ GE173.out | refine below_set ?_ GE174.out) | exact HB.out)); (case side2 => exact Kd.R_nil _ _ _ _ _); (case side3 => exact Kd.C_kept_own (HO177.out) (fun k_ hk_ hs_ => (fun e_ => by simp [Value.ownBlock] at e_) hs_)); (case side4 => exact (Kd.R_reads' HO177.out).2.1); rintro e _ ⟨w35, v179, rfl, rfl, ho0, hb, hkp⟩; refine ⟨_, rfl, ?_⟩; have HO180 := Aside0.mk (Kd.R_mono (ok' := fun k_ => True) ho0 (fun k_ hk_ => trivial)); replace BK173 := Aside0.mk (blk_kept (by (with_reducible repeat (first | refine blk_drewN ?_ _ | refine blk_drew ?_ | refine blk_alloc ?_ _)); exact BK173.out) hkp (fun hs_ => (fun e_ => by simp [Value.ownBlock] at e_) hs_)); replace BK174 := Aside0.mk (blk_kept (by (with_reducible repeat (first | refine blk_drewN ?_ _ | refine blk_drew ?_ | refine blk_alloc ?_ _)); exact BK174.out) hkp (fun hs_ => (fun e_ => by simp [Value.ownBlock] at e_) hs_)); replace HO177 := Aside0.mk (Kd.R_mono (ok' := fun k_ => True) (Kd.R_keptB (HO177.out) hkp (fun k_ hk_ hs_ => (fun e_ => by simp [Value.ownBlock] at e_) hs_)) (fun k_ hk_ => trivial)); replace HB := Aside0.mk (hb); (try clear hb); (try clear hkp); (try clear ho0); obtain ⟨Ao36, co36, eo36⟩ := Kd.R_slice HO180.out; subst eo36; have hcz37_0 : w35.cell? ⟨gb174, 0, none⟩ = some (.slice none 0 0) := (blk_cell BK174.out 0).trans rfl; have hfz37_0 := blk_frozen BK174.out 0; obtain ⟨hcz38_0, hcz38_1, hcz38_2, hcz38_3, hcz38_4, hcz38_5, hcz38_6, hcz38_7, hcz38_8, -⟩ := cells_9 BK173.out trivial; obtain ⟨hfz38_0, hfz38_1, hfz38_2, hfz38_3, hfz38_4, hfz38_5, hfz38_6, hfz38_7, hfz38_8, -⟩ := frz_9 BK173.out) | ((with_reducible refine gate_callee (f := 169) rfl ?_); refine gl_ (some 89) Try.func169 #[.bool a0_8] (h := ?_); (with_reducible refine (impl_truth.calls a0_8 t187 _ A25.out).mono ?_); rintro e w' ⟨rfl, ⟨nd, rfl⟩⟩; refine ⟨_, rfl, ?_⟩) | ((with_reducible refine gate_dst (N := 90) rfl ?_); refine Kd.R_lit (Kd.int .i64) _ 3 ?hg (N := 90) ?hd (xs := ([t187] : List Int)) (inner := [.int .i64 t187]) (ok := fun _ => True) (okp := fun _ => True) ?hr ?hp (fun _ hk => hk) trivial (Below.refl _ _) (Nat.le_refl _) (by simp) ?_; (case hd => rfl); (case hg => rfl); (case hr => first | (go_simp; done) | (go_simp; rfl)); (case hp => exact (Reps.one (show Kd.M (Kd.int .i64) _ _ _ t187 [.int .i64 t187] from rfl) (Reps.none _ _))); intro v189 w39 ho40 hb hg_ hnew_; clear hg_ hnew_; (first | rw [← Ny188.out] at ho40 | (simp only [Int.reduceToNat] at ho40; rw [← Ny188.out] at ho40)); have HO190 := Aside0.mk (Kd.R_lower (Kd.R_new' ho40 (Kd.R_lt (by (with_reducible repeat (first | apply Kd.R_alloc | apply Kd.R_drewN | apply Kd.R_drew)); exact (Kd.R_mono (Kd.R_far (p := ⟨gb174, 0, none⟩) (Kd.R_types HO177.out BK174.out (by decide)) (fun _ hk => hk.2) (.slice Ao36 t178.length co36)) (fun _ h_ => h_.1))))) (below_size bel)); replace HO177 := Aside0.mk (Kd.R_elder' (by (with_reducible repeat (first | apply Kd.R_alloc | apply Kd.R_drewN | apply Kd.R_drew)); exact (Kd.R_mono (Kd.R_far (p := ⟨gb174, 0, none⟩) (Kd.R_types HO177.out BK174.out (by decide)) (fun _ hk => hk.2) (.slice Ao36 t178.length co36)) (fun _ h_ => h_.1))) (Kd.R_base ho40) hb); replace HO180 := Aside0.mk (Kd.R_below (by (with_reducible repeat (first | apply Kd.R_alloc | apply Kd.R_drewN | apply Kd.R_drew)); exact (Kd.R_mono (Kd.R_far (p := ⟨gb174, 0, none⟩) (Kd.R_types HO180.out BK174.out (by decide)) (fun _ hk => hk.2) (.slice Ao36 t178.length co36)) (fun _ h_ => h_.1))) hb); replace BK173 := Aside0.mk (blk_below (g := gb173) (o := .cells #[.int .i64 a0_0, .int .i64 a0_1, .int .i64 a0_2, .int .i64 a0_3, .int .i64 a0_4, .int .i64 a0_5, .slice A0_6 l0_6.length c0_6, .int .i64 a0_7, .bool a0_8] 54 (0, 0)) (by (with_reducible repeat (first | refine blk_drewN ?_ _ | refine blk_drew ?_ | refine blk_alloc ?_ _)); refine blk_far ?_ NB173_174.out _; (with_reducible repeat (first | refine blk_drewN ?_ _ | refine blk_drew ?_ | refine blk_alloc ?_ _)); exact BK173.out) hb); replace BK174 := Aside0.mk (blk_below (g := gb174) (o := .cells #[.slice Ao36 t178.length co36] 52 (0, 0)) (by (with_reducible repeat (first | refine blk_drewN ?_ _ | refine blk_drew ?_ | refine blk_alloc ?_ _)); refine blk_put (cs := #[.slice none 0 0]) ?_ 0 _ rfl; (with_reducible repeat (first | refine blk_drewN ?_ _ | refine blk_drew ?_ | refine blk_alloc ?_ _)); exact BK174.out) hb); replace HB := Aside0.mk (below_step bel hb); clear hb ho40; have hcz41_0 : w39.cell? ⟨gb174, 0, none⟩ = some (.slice Ao36 t178.length co36) := (blk_cell BK174.out 0).trans rfl; have hfz41_0 := blk_frozen BK174.out 0; obtain ⟨Ao42, co42, eo42⟩ := Kd.R_slice HO190.out; subst eo42) | ((with_reducible refine gate_dst (N := 91) rfl ?_); refine virtual_put.glc_ (some 91) Try.func167 #[.slice Ao42 y188.length co42, .pointer (some ⟨gb174, 0, none⟩)] (c := .pointer (some ⟨gb174, 0, none⟩)) (h := ?_); (with_reducible refine (virtual_put.calls k (.slice Ao36 t178.length co36) t178 _ _ y188 t191 w _ gb174 (by (with_reducible repeat (first | refine blk_drewN ?_ _ | refine blk_drew ?_ | refine blk_alloc ?_ _)); exact BK174.out) GE174.out ?side1 ?side2 ?side3 ?side4 (by rw [Ny188.out]; simp) A26.out).mono ?_); (case side1 => repeat (first | (with_reducible first | exact HB.out | apply below_alloc | apply pw_below_drewN | apply below_drew1 | refine below_set ?_ GE173.out | refine below_set ?_ GE174.out) | exact HB.out)); (case side2 => exact Kd.R_tight rfl HO180.out); (case side3 => exact Kd.C_kept_own ((Kd.R_apart' HO190.out (Kd.R_typed HO180.out) (by decide))) (fun k_ hk_ hs_ => (hk_.2) hs_)); (case side4 => exact (Kd.R_reads' HO190.out).2.1); rintro e _ ⟨w43, v192, rfl, rfl, ho0, hb, hkp⟩; refine ⟨_, rfl, ?_⟩; have n0_ := Aside0.mk (blk_kept (by (with_reducible repeat (first | refine blk_drewN ?_ _ | refine blk_drew ?_ | refine blk_alloc ?_ _)); exact BK173.out) hkp (fun hs_ => (fun e_ => (Kd.R_ne HO180.out BK173.out (by decide)) e_) hs_)); have n1_ := Aside0.mk (blk_kept (by (with_reducible repeat (first | refine blk_drewN ?_ _ | refine blk_drew ?_ | refine blk_alloc ?_ _)); exact BK174.out) hkp (fun hs_ => (fun e_ => (Kd.R_ne HO180.out BK174.out (by decide)) e_) hs_)); have n2_ := Aside0.mk (Kd.R_mono (ok' := fun k_ => some k_ ≠ (.slice Ao42 y188.length co42 : Value).ownBlock) (Kd.R_keptB ((Kd.R_apart' HO177.out (Kd.R_typed HO180.out) (by decide))) hkp (fun k_ hk_ hs_ => (hk_.2) hs_)) (fun k_ hk_ => hk_.1.1.2)); have n3_ := Aside0.mk (Kd.R_mono (ok' := fun k_ => some k_ ≠ (.slice Ao34 y175.length co34 : Value).ownBlock) (Kd.R_keptB ((Kd.R_apart' HO190.out (Kd.R_typed HO180.out) (by decide))) hkp (fun k_ hk_ hs_ => (hk_.2) hs_)) (fun k_ hk_ => hk_.1.1.2)); have n4_ := Aside0.mk (Kd.R_mono (ok' := fun k_ => True) ho0 (fun k_ hk_ => trivial)); have n5_ := Aside0.mk (hb); clear BK173; clear BK174; clear HO177; clear HO190; clear HB; clear HO180; have BK173 := n0_; have BK174 := n1_; have HO177 := n2_; have HO190 := n3_; have HO193 := n4_; have HB := n5_; clear n0_ n1_ n2_ n3_ n4_ n5_; (try clear hb); (try clear hkp); (try clear ho0); obtain ⟨Ao44, co44, eo44⟩ := Kd.R_slice HO193.out; subst eo44; have hcz45_0 : w43.cell? ⟨gb174, 0, none⟩ = some (.slice Ao36 t178.length co36) := (blk_cell BK174.out 0).trans rfl; have hfz45_0 := blk_frozen BK174.out 0))
  go_ret
  exact ⟨_, rz_, by (with_reducible repeat (first | apply Kd.R_alloc | apply Kd.R_drewN | apply Kd.R_drew)); exact Kd.R_mono (Kd.R_far (p := ⟨gb174, 0, none⟩) (Kd.R_types HO193.out BK174.out (by decide)) (fun _ hk => hk.2) (.slice Ao44 t191.length co44)) (fun _ hk => trivial), bel⟩
 rw [if_neg c24] at H
 have c24b0 : (a0_0 == 1) = false := beq_eq_false_iff_ne.mpr c24
 have c24b1 : (a0_0 != 1) = true := bne_iff_ne.mpr c24
 by_cases c46 : a0_0 = 3
 ·rw [if_pos c46] at H
  have c46b0 : (a0_0 == 3) = true := beq_iff_eq.mpr c46
  have c46b1 : (a0_0 != 3) = false := bne_eq_false_iff_eq.mpr c46
  clear c46
  replace H := Option.bind_eq_some_iff.mp H
  obtain ⟨t194, A470, H⟩ := H
  replace H : ((virtual_put.f k t178 (([a0_4, t194] : List Int))).bind fun t198 => (some t198)) = some r := H
  have A47 := Aside0.mk A470
  clear A470
  obtain ⟨y195, hy195⟩ : ∃ y_ : List Int, y_ = (([a0_4, t194] : List Int)) := ⟨_, rfl⟩
  replace H : ((virtual_put.f k t178 y195).bind fun t198 => (some t198)) = some r := by first | (rw [hy195]; with_reducible exact H) | (have H2_ := (Option.bind_some _ _).symm.trans H; rw [hy195]; with_reducible exact H2_) | (have H2_ := (Option.bind_some _ _).symm.trans H; with_reducible exact H2_) | with_reducible exact H | (rw [hy195]; exact H) | exact H
  have Ny195 := Aside0.mk hy195
  clear hy195
  replace H := Option.bind_eq_some_iff.mp H
  obtain ⟨t198, A480, H⟩ := H
  replace H : (some t198) = some r := H
  have A48 := Aside0.mk A480
  clear A480
  obtain rfl := Option.some.inj H
  go_enter Try.func106, Try.ntmps106
  try go_wp2_with (first | ((with_reducible refine gate_dst (N := 1) rfl ?_); refine bx_ 1 #[.int .i64 a0_0, .int .i64 a0_1, .int .i64 a0_2, .int .i64 a0_3, .int .i64 a0_4, .int .i64 a0_5, .slice A0_6 l0_6.length c0_6, .int .i64 a0_7, .bool a0_8] 54 (h := ?_); intro gb173 hg w49 hbox hb; have BK173 := Aside0.mk (hbox); have GW173 := Aside0.mk ((by rw [hg]; exact (below_size bel) : w.heap.size ≤ gb173)); have GE173 := GW173; replace HB := Aside0.mk (below_step bel hb); clear hb hbox hg) | ((with_reducible refine gate_dst (N := 3) rfl ?_); refine bx_ 3 #[.slice none 0 0] 52 (h := ?_); intro gb174 hg w50 hbox hb; have BK174 := Aside0.mk (hbox); have GW174 := Aside0.mk ((by rw [hg]; exact (below_size bel) : w.heap.size ≤ gb174)); have GE174 := GW174; have NB173_174 := Aside0.mk ((by rw [hg]; exact Nat.ne_of_lt (blt BK173) : gb173 ≠ gb174)); have NB174_173 := Aside0.mk NB173_174.out.symm; replace BK173 := Aside0.mk (blb BK173 hb); replace HB := Aside0.mk (below_step bel hb); clear hb hbox hg; have hnb51 := NB173_174.out; have hnc51 := NB174_173.out; obtain ⟨hcz52_0, hcz52_1, hcz52_2, hcz52_3, hcz52_4, hcz52_5, hcz52_6, hcz52_7, hcz52_8, -⟩ := cells_9 BK173.out trivial; obtain ⟨hfz52_0, hfz52_1, hfz52_2, hfz52_3, hfz52_4, hfz52_5, hfz52_6, hfz52_7, hfz52_8, -⟩ := frz_9 BK173.out) | ((with_reducible refine gate_dst (N := 17) rfl ?_); refine Kd.R_lit (Kd.int .i64) _ 3 ?hg (N := 17) ?hd (xs := ([a0_0, a0_1, a0_2, a0_3] : List Int)) (inner := [.int .i64 a0_0, .int .i64 a0_1, .int .i64 a0_2, .int .i64 a0_3]) (ok := fun _ => True) (okp := fun _ => True) ?hr ?hp (fun _ hk => hk) trivial (Below.refl _ _) (Nat.le_refl _) (by simp) ?_; (case hd => rfl); (case hg => rfl); (case hr => first | (go_simp; done) | (go_simp; rfl)); (case hp => exact (Reps.one (show Kd.M (Kd.int .i64) _ _ _ a0_0 [.int .i64 a0_0] from rfl) (Reps.one (show Kd.M (Kd.int .i64) _ _ _ a0_1 [.int .i64 a0_1] from rfl) (Reps.one (show Kd.M (Kd.int .i64) _ _ _ a0_2 [.int .i64 a0_2] from rfl) (Reps.one (show Kd.M (Kd.int .i64) _ _ _ a0_3 [.int .i64 a0_3] from rfl) (Reps.none _ _)))))); intro v176 w53 ho54 hb hg_ hnew_; clear hg_ hnew_; (first | rw [← Ny175.out] at ho54 | (simp only [Int.reduceToNat] at ho54; rw [← Ny175.out] at ho54)); have HO177 := Aside0.mk (Kd.R_lower ho54 (below_size bel)); replace BK173 := Aside0.mk (blb BK173 hb); replace BK174 := Aside0.mk (blb BK174 hb); replace HB := Aside0.mk (below_step bel hb); clear hb ho54; have hcz55_0 : w53.cell? ⟨gb174, 0, none⟩ = some (.slice none 0 0) := (blk_cell BK174.out 0).trans rfl; have hfz55_0 := blk_frozen BK174.out 0; obtain ⟨Ao56, co56, eo56⟩ := Kd.R_slice HO177.out; subst eo56) | ((with_reducible refine gate_dst (N := 18) rfl ?_); refine virtual_put.glc_ (some 18) Try.func167 #[.slice Ao56 y175.length co56, .pointer (some ⟨gb174, 0, none⟩)] (c := .pointer (some ⟨gb174, 0, none⟩)) (h := ?_); (refine (virtual_put.calls k (.slice none 0 0) ([] : List Int) _ _ y175 t178 w _ gb174 (by (with_reducible repeat (first | refine blk_drewN ?_ _ | refine blk_drew ?_ | refine blk_alloc ?_ _)); exact BK174.out) GE174.out ?side1 ?side2 ?side3 ?side4 (by rw [Ny175.out]; simp) A2.out).mono ?_); (case side1 => repeat (first | (with_reducible first | exact HB.out | apply below_alloc | apply pw_below_drewN | apply below_drew1 | refine below_set ?_ GE173.out | refine below_set ?_ GE174.out) | exact HB.out)); (case side2 => exact Kd.R_nil _ _ _ _ _); (case side3 => exact Kd.C_kept_own (HO177.out) (fun k_ hk_ hs_ => (fun e_ => by simp [Value.ownBlock] at e_) hs_)); (case side4 => exact (Kd.R_reads' HO177.out).2.1); rintro e _ ⟨w57, v179, rfl, rfl, ho0, hb, hkp⟩; refine ⟨_, rfl, ?_⟩; have HO180 := Aside0.mk (Kd.R_mono (ok' := fun k_ => True) ho0 (fun k_ hk_ => trivial)); replace BK173 := Aside0.mk (blk_kept (by (with_reducible repeat (first | refine blk_drewN ?_ _ | refine blk_drew ?_ | refine blk_alloc ?_ _)); exact BK173.out) hkp (fun hs_ => (fun e_ => by simp [Value.ownBlock] at e_) hs_)); replace BK174 := Aside0.mk (blk_kept (by (with_reducible repeat (first | refine blk_drewN ?_ _ | refine blk_drew ?_ | refine blk_alloc ?_ _)); exact BK174.out) hkp (fun hs_ => (fun e_ => by simp [Value.ownBlock] at e_) hs_)); replace HO177 := Aside0.mk (Kd.R_mono (ok' := fun k_ => True) (Kd.R_keptB (HO177.out) hkp (fun k_ hk_ hs_ => (fun e_ => by simp [Value.ownBlock] at e_) hs_)) (fun k_ hk_ => trivial)); replace HB := Aside0.mk (hb); (try clear hb); (try clear hkp); (try clear ho0); obtain ⟨Ao58, co58, eo58⟩ := Kd.R_slice HO180.out; subst eo58; have hcz59_0 : w57.cell? ⟨gb174, 0, none⟩ = some (.slice none 0 0) := (blk_cell BK174.out 0).trans rfl; have hfz59_0 := blk_frozen BK174.out 0; obtain ⟨hcz60_0, hcz60_1, hcz60_2, hcz60_3, hcz60_4, hcz60_5, hcz60_6, hcz60_7, hcz60_8, -⟩ := cells_9 BK173.out trivial; obtain ⟨hfz60_0, hfz60_1, hfz60_2, hfz60_3, hfz60_4, hfz60_5, hfz60_6, hfz60_7, hfz60_8, -⟩ := frz_9 BK173.out))
  have n0_ : Aside0 (Kd.R (Kd.int .i64) 3 (w57.setCell ⟨gb174, 0, none⟩ (.slice Ao58 t178.length co58)) w.heap.size (fun _ => True) (.slice Ao56 y175.length co56) y175) := ⟨by (with_reducible repeat (first | apply Kd.R_alloc | apply Kd.R_drewN | apply Kd.R_drew)); exact Kd.R_mono (Kd.R_far (p := ⟨gb174, 0, none⟩) (Kd.R_types HO177.out BK174.out (by decide)) (fun _ hk => hk.2) (.slice Ao58 t178.length co58)) (fun _ hk => trivial)⟩
  have n1_ : Aside0 (Kd.R (Kd.int .u8) 5 (w57.setCell ⟨gb174, 0, none⟩ (.slice Ao58 t178.length co58)) w.heap.size (fun _ => True) (.slice Ao58 t178.length co58) t178) := ⟨by (with_reducible repeat (first | apply Kd.R_alloc | apply Kd.R_drewN | apply Kd.R_drew)); exact Kd.R_mono (Kd.R_far (p := ⟨gb174, 0, none⟩) (Kd.R_types HO180.out BK174.out (by decide)) (fun _ hk => hk.2) (.slice Ao58 t178.length co58)) (fun _ hk => trivial)⟩
  have n2_ : Aside0 ((w57.setCell ⟨gb174, 0, none⟩ (.slice Ao58 t178.length co58)).heap[gb173]? = some (.cells #[.int .i64 a0_0, .int .i64 a0_1, .int .i64 a0_2, .int .i64 a0_3, .int .i64 a0_4, .int .i64 a0_5, .slice A0_6 l0_6.length c0_6, .int .i64 a0_7, .bool a0_8] 54 (0, 0))) := ⟨by (with_reducible repeat (first | refine blk_drewN ?_ _ | refine blk_drew ?_ | refine blk_alloc ?_ _)); refine blk_far ?_ NB173_174.out _; (with_reducible repeat (first | refine blk_drewN ?_ _ | refine blk_drew ?_ | refine blk_alloc ?_ _)); exact BK173.out⟩
  have n3_ : Aside0 ((w57.setCell ⟨gb174, 0, none⟩ (.slice Ao58 t178.length co58)).heap[gb174]? = some (.cells #[.slice Ao58 t178.length co58] 52 (0, 0))) := ⟨by (with_reducible repeat (first | refine blk_drewN ?_ _ | refine blk_drew ?_ | refine blk_alloc ?_ _)); refine blk_put (cs := #[.slice none 0 0]) ?_ 0 _ rfl; (with_reducible repeat (first | refine blk_drewN ?_ _ | refine blk_drew ?_ | refine blk_alloc ?_ _)); exact BK174.out⟩
  have n4_ : Aside0 (Below w.heap.size w (w57.setCell ⟨gb174, 0, none⟩ (.slice Ao58 t178.length co58))) := ⟨bel⟩
  (try clear HO177)
  (try clear HO180)
  (try clear BK173)
  (try clear BK174)
  (try clear HB)
  generalize (w57.setCell ⟨gb174, 0, none⟩ (.slice Ao58 t178.length co58)) = w61 at n0_ n1_ n2_ n3_ n4_ ⊢
  have HO177 := n0_
  have HO180 := n1_
  have BK173 := n2_
  have BK174 := n3_
  have HB := n4_
  clear n0_ n1_ n2_ n3_ n4_
  replace HO177 := Aside0.mk (Kd.R_drew HO177.out)
  replace HO180 := Aside0.mk (Kd.R_drew HO180.out)
  replace BK173 := Aside0.mk (blk_drew BK173.out)
  replace BK174 := Aside0.mk (blk_drew BK174.out)
  replace HB := Aside0.mk (below_drew1 HB.out)
  refine start_ (n := 8) (S := fun w' => w'.cell? ⟨gb173, 0, none⟩ = some (.int .i64 a0_0) ∧ w'.cell? ⟨gb173, 1, none⟩ = some (.int .i64 a0_1) ∧ w'.cell? ⟨gb173, 2, none⟩ = some (.int .i64 a0_2) ∧ w'.cell? ⟨gb173, 3, none⟩ = some (.int .i64 a0_3) ∧ w'.cell? ⟨gb173, 4, none⟩ = some (.int .i64 a0_4) ∧ w'.cell? ⟨gb173, 5, none⟩ = some (.int .i64 a0_5) ∧ w'.cell? ⟨gb173, 6, none⟩ = some (.slice A0_6 l0_6.length c0_6) ∧ w'.cell? ⟨gb173, 7, none⟩ = some (.int .i64 a0_7) ∧ w'.cell? ⟨gb173, 8, none⟩ = some (.bool a0_8) ∧ w'.cell? ⟨gb174, 0, none⟩ = some (.slice Ao58 t178.length co58)) (ds := [7]) (tf 0 8) (by kernel_rfl) rfl rfl (cells_9 BK173.out ((blk_cell BK174.out 0).trans rfl)) (fun hHeld => ?_); refine with_tabW impl_msgBytes.tab18 impl_msgBytes.bits18 (fun HT_ HW_ => ?_)
  generalize w61.drew = w62 at HO177 HO180 BK173 BK174 HB hHeld ⊢
  iterate 2 (refine pvn_ HT_ (h := ?_))
  refine pv_ HT_ 3 (some 97) (tb 8 11) (h := ?_)
  refine tv_ HT_ HW_ hHeld 2 (some 96) (tf 4 4) (h := ?_)
  refine tvn_ HT_ HW_ hHeld (h := ?_)
  refine one_ (i := 5) (N := some 99) (tf 6 2) rfl rfl (one_of HT_.out (by kernel_rfl)) (by decide) (fun K hK => ?_)
  refine gs_ Try.func169 #[.bool a0_8] (h := ?_)
  with_reducible refine (impl_truth.calls a0_8 t194 _ A47.out).mono ?_
  rintro e w' ⟨rfl, ⟨nd, rfl⟩⟩
  refine ⟨_, rfl, ?_⟩
  refine hK.out _ _ (cells_9 BK173.out ((blk_cell BK174.out 0).trans rfl)) (fun hHeld => ?_)
  clear hK K
  refine nrm_ (some 99) (h := ?_)
  refine one_ (i := 6) (N := some 100) (tf 7 1) rfl rfl (one_of HT_.out (by kernel_rfl)) (by decide) (fun K hK => ?_)
  refine Kd.R_lit_step (Kd.int .i64) _ 3 ?hg (N := 100) ?hd (xs := ([a0_4, t194] : List Int)) (inner := [.int .i64 a0_4, .int .i64 t194]) (ok := fun _ => True) (okp := fun _ => True) ?hr ?hp (fun _ hk => hk) trivial (Below.refl _ _) (Nat.le_refl _) (by simp) ?_; (case hd => rfl); (case hg => rfl); (case hr => first | (go_simp; done) | (go_simp; rfl)); (case hp => exact (Reps.one (show Kd.M (Kd.int .i64) _ _ _ a0_4 [.int .i64 a0_4] from rfl) (Reps.one (show Kd.M (Kd.int .i64) _ _ _ t194 [.int .i64 t194] from rfl) (Reps.none _ _))))
  intro v196 w63 ho64 hb hg_ hnew_
  clear hg_ hnew_
  (first | rw [← Ny195.out] at ho64 | (simp only [Int.reduceToNat] at ho64; rw [← Ny195.out] at ho64))
  have HO197 := Aside0.mk (Kd.R_lower (Kd.R_new' ho64 (Kd.R_lt (by (with_reducible repeat (first | apply Kd.R_alloc | apply Kd.R_drewN | apply Kd.R_drew)); exact HO177.out))) (below_size bel))
  replace HO177 := Aside0.mk (Kd.R_elder' (by (with_reducible repeat (first | apply Kd.R_alloc | apply Kd.R_drewN | apply Kd.R_drew)); exact HO177.out) (Kd.R_base ho64) hb)
  replace HO180 := Aside0.mk (rbl HO180 hb)
  replace BK173 := Aside0.mk (blb BK173 hb)
  replace BK174 := Aside0.mk (blb BK174 hb)
  replace HB := Aside0.mk (below_step bel hb)
  clear hb ho64
  obtain ⟨Ao65, co65, eo65⟩ := Kd.R_slice HO197.out
  (first | subst eo65 | (injection eo65 with f1_ f2_ f3_; have f4_ := f1_.symm; have f5_ := f3_.symm; clear f1_ f2_ f3_; subst f4_; subst f5_))
  refine hK.out _ _ (cells_9 BK173.out ((blk_cell BK174.out 0).trans rfl)) (fun hHeld => ?_)
  clear hK K
  refine nrm_ (some 100) (h := ?_)
  refine last_ (i := 7) (N := some 101) (tf 8 0) rfl rfl (one_of HT_.out (by kernel_rfl)) (by decide) (fun K hK => ?_)
  refine virtual_put.gsc_ Try.func167 #[.slice Ao65 y195.length co65, .pointer (some ⟨gb174, 0, none⟩)] (c := .pointer (some ⟨gb174, 0, none⟩)) (h := ?_)
  with_reducible refine (virtual_put.calls k (.slice Ao58 t178.length co58) t178 _ _ y195 t198 w _ gb174 (by (with_reducible repeat (first | refine blk_drewN ?_ _ | refine blk_drew ?_ | refine blk_alloc ?_ _)); exact BK174.out) GE174.out ?side1 ?side2 ?side3 ?side4 (by rw [Ny195.out]; simp) A48.out).mono ?_
  (case side1 => repeat (first | (with_reducible first | exact HB.out | apply below_alloc | apply pw_below_drewN | apply below_drew1 | refine below_set ?_ GE173.out | refine below_set ?_ GE174.out) | exact HB.out))
  (case side2 => exact Kd.R_tight rfl HO180.out)
  (case side3 => exact Kd.C_kept_own ((Kd.R_apart' HO197.out (Kd.R_typed HO180.out) (by decide))) (fun k_ hk_ hs_ => (hk_.2) hs_))
  (case side4 => exact (Kd.R_reads' HO197.out).2.1)
  rintro e _ ⟨w66, v199, rfl, rfl, ho0, hb, hkp⟩
  refine ⟨_, rfl, ?_⟩
  have n0_ := Aside0.mk (blk_kept (by (with_reducible repeat (first | refine blk_drewN ?_ _ | refine blk_drew ?_ | refine blk_alloc ?_ _)); exact BK173.out) hkp (fun hs_ => (fun e_ => (Kd.R_ne HO180.out BK173.out (by decide)) e_) hs_))
  have n1_ := Aside0.mk (blk_kept (by (with_reducible repeat (first | refine blk_drewN ?_ _ | refine blk_drew ?_ | refine blk_alloc ?_ _)); exact BK174.out) hkp (fun hs_ => (fun e_ => (Kd.R_ne HO180.out BK174.out (by decide)) e_) hs_))
  have n2_ := Aside0.mk (Kd.R_mono (ok' := fun k_ => some k_ ≠ (.slice Ao65 y195.length co65 : Value).ownBlock) (Kd.R_keptB ((Kd.R_apart' HO177.out (Kd.R_typed HO180.out) (by decide))) hkp (fun k_ hk_ hs_ => (hk_.2) hs_)) (fun k_ hk_ => hk_.1.1.2))
  have n3_ := Aside0.mk (Kd.R_mono (ok' := fun k_ => some k_ ≠ (.slice Ao56 y175.length co56 : Value).ownBlock) (Kd.R_keptB ((Kd.R_apart' HO197.out (Kd.R_typed HO180.out) (by decide))) hkp (fun k_ hk_ hs_ => (hk_.2) hs_)) (fun k_ hk_ => hk_.1.1.2))
  have n4_ := Aside0.mk (Kd.R_mono (ok' := fun k_ => True) ho0 (fun k_ hk_ => trivial))
  have n5_ := Aside0.mk (hb)
  clear BK173
  clear BK174
  clear HO177
  clear HO197
  clear HB
  clear HO180
  have BK173 := n0_
  have BK174 := n1_
  have HO177 := n2_
  have HO197 := n3_
  have HO200 := n4_
  have HB := n5_
  clear n0_ n1_ n2_ n3_ n4_ n5_
  (try clear hb)
  (try clear hkp)
  (try clear ho0)
  obtain ⟨Ao67, co67, eo67⟩ := Kd.R_slice HO200.out
  (first | subst eo67 | (injection eo67 with f1_ f2_ f3_; have f4_ := f1_.symm; have f5_ := f3_.symm; clear f1_ f2_ f3_; subst f4_; subst f5_))
  refine hK.out _ _ ?_
  clear hK K
  refine done_ (done_of HT_.out (by kernel_rfl)) ?_
  have hcz69_0 : w66.cell? ⟨gb174, 0, none⟩ = some (.slice Ao58 t178.length co58) := (blk_cell BK174.out 0).trans rfl
  have hfz69_0 := blk_frozen BK174.out 0
  try go_wp2
  go_ret
  exact ⟨_, rz_, by (with_reducible repeat (first | apply Kd.R_alloc | apply Kd.R_drewN | apply Kd.R_drew)); exact Kd.R_mono (Kd.R_far (p := ⟨gb174, 0, none⟩) (Kd.R_types HO200.out BK174.out (by decide)) (fun _ hk => hk.2) (.slice Ao67 t198.length co67)) (fun _ hk => trivial), bel⟩
 rw [if_neg c46] at H
 have c46b0 : (a0_0 == 3) = false := beq_eq_false_iff_ne.mpr c46
 have c46b1 : (a0_0 != 3) = true := bne_iff_ne.mpr c46
 obtain ⟨y201, hy201⟩ : ∃ y_ : List Int, y_ = (([a0_4, a0_5, a0_7, (l0_6.length : Int)] : List Int)) := ⟨_, rfl⟩
 replace H : ((virtual_put.f k t178 y201).bind fun t204 => (impl_msgBytes.l0 k l0_6 (l0_6.length : Int) 0 t204)) = some r := by first | (rw [hy201]; with_reducible exact H) | (have H2_ := (Option.bind_some _ _).symm.trans H; rw [hy201]; with_reducible exact H2_) | (have H2_ := (Option.bind_some _ _).symm.trans H; with_reducible exact H2_) | with_reducible exact H | (rw [hy201]; exact H) | exact H
 have Ny201 := Aside0.mk hy201
 clear hy201
 replace H := Option.bind_eq_some_iff.mp H
 obtain ⟨t204, A700, H⟩ := H
 replace H : (impl_msgBytes.l0 k l0_6 (l0_6.length : Int) 0 t204) = some r := H
 have A70 := Aside0.mk A700
 clear A700
 have H' := Aside0.mk H
 clear H
 go_enter Try.func106, Try.ntmps106
 go_wp2_with (first | ((with_reducible refine gate_dst (N := 1) rfl ?_); refine bx_ 1 #[.int .i64 a0_0, .int .i64 a0_1, .int .i64 a0_2, .int .i64 a0_3, .int .i64 a0_4, .int .i64 a0_5, .slice A0_6 l0_6.length c0_6, .int .i64 a0_7, .bool a0_8] 54 (h := ?_); intro gb173 hg w71 hbox hb; have BK173 := Aside0.mk (hbox); have GW173 := Aside0.mk ((by rw [hg]; exact (below_size bel) : w.heap.size ≤ gb173)); have GE173 := GW173; replace HB := Aside0.mk (below_step bel hb); clear hb hbox hg) | ((with_reducible refine gate_dst (N := 3) rfl ?_); refine bx_ 3 #[.slice none 0 0] 52 (h := ?_); intro gb174 hg w72 hbox hb; have BK174 := Aside0.mk (hbox); have GW174 := Aside0.mk ((by rw [hg]; exact (below_size bel) : w.heap.size ≤ gb174)); have GE174 := GW174; have NB173_174 := Aside0.mk ((by rw [hg]; exact Nat.ne_of_lt (blt BK173) : gb173 ≠ gb174)); have NB174_173 := Aside0.mk NB173_174.out.symm; replace BK173 := Aside0.mk (blb BK173 hb); replace HB := Aside0.mk (below_step bel hb); clear hb hbox hg; have hnb73 := NB173_174.out; have hnc73 := NB174_173.out; obtain ⟨hcz74_0, hcz74_1, hcz74_2, hcz74_3, hcz74_4, hcz74_5, hcz74_6, hcz74_7, hcz74_8, -⟩ := cells_9 BK173.out trivial; obtain ⟨hfz74_0, hfz74_1, hfz74_2, hfz74_3, hfz74_4, hfz74_5, hfz74_6, hfz74_7, hfz74_8, -⟩ := frz_9 BK173.out) | ((with_reducible refine gate_dst (N := 17) rfl ?_); refine Kd.R_lit (Kd.int .i64) _ 3 ?hg (N := 17) ?hd (xs := ([a0_0, a0_1, a0_2, a0_3] : List Int)) (inner := [.int .i64 a0_0, .int .i64 a0_1, .int .i64 a0_2, .int .i64 a0_3]) (ok := fun _ => True) (okp := fun _ => True) ?hr ?hp (fun _ hk => hk) trivial (Below.refl _ _) (Nat.le_refl _) (by simp) ?_; (case hd => rfl); (case hg => rfl); (case hr => first | (go_simp; done) | (go_simp; rfl)); (case hp => exact (Reps.one (show Kd.M (Kd.int .i64) _ _ _ a0_0 [.int .i64 a0_0] from rfl) (Reps.one (show Kd.M (Kd.int .i64) _ _ _ a0_1 [.int .i64 a0_1] from rfl) (Reps.one (show Kd.M (Kd.int .i64) _ _ _ a0_2 [.int .i64 a0_2] from rfl) (Reps.one (show Kd.M (Kd.int .i64) _ _ _ a0_3 [.int .i64 a0_3] from rfl) (Reps.none _ _)))))); intro v176 w75 ho76 hb hg_ hnew_; clear hg_ hnew_; (first | rw [← Ny175.out] at ho76 | (simp only [Int.reduceToNat] at ho76; rw [← Ny175.out] at ho76)); have HO177 := Aside0.mk (Kd.R_lower ho76 (below_size bel)); replace BK173 := Aside0.mk (blb BK173 hb); replace BK174 := Aside0.mk (blb BK174 hb); replace HB := Aside0.mk (below_step bel hb); clear hb ho76; have hcz77_0 : w75.cell? ⟨gb174, 0, none⟩ = some (.slice none 0 0) := (blk_cell BK174.out 0).trans rfl; have hfz77_0 := blk_frozen BK174.out 0; obtain ⟨Ao78, co78, eo78⟩ := Kd.R_slice HO177.out; subst eo78) | ((with_reducible refine gate_dst (N := 18) rfl ?_); refine virtual_put.glc_ (some 18) Try.func167 #[.slice Ao78 y175.length co78, .pointer (some ⟨gb174, 0, none⟩)] (c := .pointer (some ⟨gb174, 0, none⟩)) (h := ?_); (refine (virtual_put.calls k (.slice none 0 0) ([] : List Int) _ _ y175 t178 w _ gb174 (by (with_reducible repeat (first | refine blk_drewN ?_ _ | refine blk_drew ?_ | refine blk_alloc ?_ _)); exact BK174.out) GE174.out ?side1 ?side2 ?side3 ?side4 (by rw [Ny175.out]; simp) A2.out).mono ?_); (case side1 => repeat (first | (with_reducible first | exact HB.out | apply below_alloc | apply pw_below_drewN | apply below_drew1 | refine below_set ?_ GE173.out | refine below_set ?_ GE174.out) | exact HB.out)); (case side2 => exact Kd.R_nil _ _ _ _ _); (case side3 => exact Kd.C_kept_own (HO177.out) (fun k_ hk_ hs_ => (fun e_ => by simp [Value.ownBlock] at e_) hs_)); (case side4 => exact (Kd.R_reads' HO177.out).2.1); rintro e _ ⟨w79, v179, rfl, rfl, ho0, hb, hkp⟩; refine ⟨_, rfl, ?_⟩; have HO180 := Aside0.mk (Kd.R_mono (ok' := fun k_ => True) ho0 (fun k_ hk_ => trivial)); replace BK173 := Aside0.mk (blk_kept (by (with_reducible repeat (first | refine blk_drewN ?_ _ | refine blk_drew ?_ | refine blk_alloc ?_ _)); exact BK173.out) hkp (fun hs_ => (fun e_ => by simp [Value.ownBlock] at e_) hs_)); replace BK174 := Aside0.mk (blk_kept (by (with_reducible repeat (first | refine blk_drewN ?_ _ | refine blk_drew ?_ | refine blk_alloc ?_ _)); exact BK174.out) hkp (fun hs_ => (fun e_ => by simp [Value.ownBlock] at e_) hs_)); replace HO177 := Aside0.mk (Kd.R_mono (ok' := fun k_ => True) (Kd.R_keptB (HO177.out) hkp (fun k_ hk_ hs_ => (fun e_ => by simp [Value.ownBlock] at e_) hs_)) (fun k_ hk_ => trivial)); replace HB := Aside0.mk (hb); (try clear hb); (try clear hkp); (try clear ho0); obtain ⟨Ao80, co80, eo80⟩ := Kd.R_slice HO180.out; subst eo80; have hcz81_0 : w79.cell? ⟨gb174, 0, none⟩ = some (.slice none 0 0) := (blk_cell BK174.out 0).trans rfl; have hfz81_0 := blk_frozen BK174.out 0; obtain ⟨hcz82_0, hcz82_1, hcz82_2, hcz82_3, hcz82_4, hcz82_5, hcz82_6, hcz82_7, hcz82_8, -⟩ := cells_9 BK173.out trivial; obtain ⟨hfz82_0, hfz82_1, hfz82_2, hfz82_3, hfz82_4, hfz82_5, hfz82_6, hfz82_7, hfz82_8, -⟩ := frz_9 BK173.out) | ((with_reducible refine gate_dst (N := 31) rfl ?_); refine Kd.R_lit (Kd.int .i64) _ 3 ?hg (N := 31) ?hd (xs := ([a0_4, a0_5, a0_7, (l0_6.length : Int)] : List Int)) (inner := [.int .i64 a0_4, .int .i64 a0_5, .int .i64 a0_7, .int .i64 (l0_6.length : Int)]) (ok := fun _ => True) (okp := fun _ => True) ?hr ?hp (fun _ hk => hk) trivial (Below.refl _ _) (Nat.le_refl _) (by simp) ?_; (case hd => rfl); (case hg => rfl); (case hr => first | (go_simp; done) | (go_simp; rfl)); (case hp => exact (Reps.one (show Kd.M (Kd.int .i64) _ _ _ a0_4 [.int .i64 a0_4] from rfl) (Reps.one (show Kd.M (Kd.int .i64) _ _ _ a0_5 [.int .i64 a0_5] from rfl) (Reps.one (show Kd.M (Kd.int .i64) _ _ _ a0_7 [.int .i64 a0_7] from rfl) (Reps.one (show Kd.M (Kd.int .i64) _ _ _ (l0_6.length : Int) [.int .i64 (l0_6.length : Int)] from rfl) (Reps.none _ _)))))); intro v202 w83 ho84 hb hg_ hnew_; clear hg_ hnew_; (first | rw [← Ny201.out] at ho84 | (simp only [Int.reduceToNat] at ho84; rw [← Ny201.out] at ho84)); have HO203 := Aside0.mk (Kd.R_lower (Kd.R_new' ho84 (Kd.R_lt (by (with_reducible repeat (first | apply Kd.R_alloc | apply Kd.R_drewN | apply Kd.R_drew)); exact (Kd.R_mono (Kd.R_far (p := ⟨gb174, 0, none⟩) (Kd.R_types HO177.out BK174.out (by decide)) (fun _ hk => hk.2) (.slice Ao80 t178.length co80)) (fun _ h_ => h_.1))))) (below_size bel)); replace HO177 := Aside0.mk (Kd.R_elder' (by (with_reducible repeat (first | apply Kd.R_alloc | apply Kd.R_drewN | apply Kd.R_drew)); exact (Kd.R_mono (Kd.R_far (p := ⟨gb174, 0, none⟩) (Kd.R_types HO177.out BK174.out (by decide)) (fun _ hk => hk.2) (.slice Ao80 t178.length co80)) (fun _ h_ => h_.1))) (Kd.R_base ho84) hb); replace HO180 := Aside0.mk (Kd.R_below (by (with_reducible repeat (first | apply Kd.R_alloc | apply Kd.R_drewN | apply Kd.R_drew)); exact (Kd.R_mono (Kd.R_far (p := ⟨gb174, 0, none⟩) (Kd.R_types HO180.out BK174.out (by decide)) (fun _ hk => hk.2) (.slice Ao80 t178.length co80)) (fun _ h_ => h_.1))) hb); replace BK173 := Aside0.mk (blk_below (g := gb173) (o := .cells #[.int .i64 a0_0, .int .i64 a0_1, .int .i64 a0_2, .int .i64 a0_3, .int .i64 a0_4, .int .i64 a0_5, .slice A0_6 l0_6.length c0_6, .int .i64 a0_7, .bool a0_8] 54 (0, 0)) (by (with_reducible repeat (first | refine blk_drewN ?_ _ | refine blk_drew ?_ | refine blk_alloc ?_ _)); refine blk_far ?_ NB173_174.out _; (with_reducible repeat (first | refine blk_drewN ?_ _ | refine blk_drew ?_ | refine blk_alloc ?_ _)); exact BK173.out) hb); replace BK174 := Aside0.mk (blk_below (g := gb174) (o := .cells #[.slice Ao80 t178.length co80] 52 (0, 0)) (by (with_reducible repeat (first | refine blk_drewN ?_ _ | refine blk_drew ?_ | refine blk_alloc ?_ _)); refine blk_put (cs := #[.slice none 0 0]) ?_ 0 _ rfl; (with_reducible repeat (first | refine blk_drewN ?_ _ | refine blk_drew ?_ | refine blk_alloc ?_ _)); exact BK174.out) hb); replace HB := Aside0.mk (below_step bel hb); clear hb ho84; have hcz85_0 : w83.cell? ⟨gb174, 0, none⟩ = some (.slice Ao80 t178.length co80) := (blk_cell BK174.out 0).trans rfl; have hfz85_0 := blk_frozen BK174.out 0; obtain ⟨Ao86, co86, eo86⟩ := Kd.R_slice HO203.out; subst eo86) | ((with_reducible refine gate_dst (N := 32) rfl ?_); refine virtual_put.glc_ (some 32) Try.func167 #[.slice Ao86 y201.length co86, .pointer (some ⟨gb174, 0, none⟩)] (c := .pointer (some ⟨gb174, 0, none⟩)) (h := ?_); (with_reducible refine (virtual_put.calls k (.slice Ao80 t178.length co80) t178 _ _ y201 t204 w _ gb174 (by (with_reducible repeat (first | refine blk_drewN ?_ _ | refine blk_drew ?_ | refine blk_alloc ?_ _)); exact BK174.out) GE174.out ?side1 ?side2 ?side3 ?side4 (by rw [Ny201.out]; simp) A70.out).mono ?_); (case side1 => repeat (first | (with_reducible first | exact HB.out | apply below_alloc | apply pw_below_drewN | apply below_drew1 | refine below_set ?_ GE173.out | refine below_set ?_ GE174.out) | exact HB.out)); (case side2 => exact Kd.R_tight rfl HO180.out); (case side3 => exact Kd.C_kept_own ((Kd.R_apart' HO203.out (Kd.R_typed HO180.out) (by decide))) (fun k_ hk_ hs_ => (hk_.2) hs_)); (case side4 => exact (Kd.R_reads' HO203.out).2.1); rintro e _ ⟨w87, v205, rfl, rfl, ho0, hb, hkp⟩; refine ⟨_, rfl, ?_⟩; have n0_ := Aside0.mk (blk_kept (by (with_reducible repeat (first | refine blk_drewN ?_ _ | refine blk_drew ?_ | refine blk_alloc ?_ _)); exact BK173.out) hkp (fun hs_ => (fun e_ => (Kd.R_ne HO180.out BK173.out (by decide)) e_) hs_)); have n1_ := Aside0.mk (blk_kept (by (with_reducible repeat (first | refine blk_drewN ?_ _ | refine blk_drew ?_ | refine blk_alloc ?_ _)); exact BK174.out) hkp (fun hs_ => (fun e_ => (Kd.R_ne HO180.out BK174.out (by decide)) e_) hs_)); have n2_ := Aside0.mk (Kd.R_mono (ok' := fun k_ => some k_ ≠ (.slice Ao86 y201.length co86 : Value).ownBlock) (Kd.R_keptB ((Kd.R_apart' HO177.out (Kd.R_typed HO180.out) (by decide))) hkp (fun k_ hk_ hs_ => (hk_.2) hs_)) (fun k_ hk_ => hk_.1.1.2)); have n3_ := Aside0.mk (Kd.R_mono (ok' := fun k_ => some k_ ≠ (.slice Ao78 y175.length co78 : Value).ownBlock) (Kd.R_keptB ((Kd.R_apart' HO203.out (Kd.R_typed HO180.out) (by decide))) hkp (fun k_ hk_ hs_ => (hk_.2) hs_)) (fun k_ hk_ => hk_.1.1.2)); have n4_ := Aside0.mk (Kd.R_mono (ok' := fun k_ => True) ho0 (fun k_ hk_ => trivial)); have n5_ := Aside0.mk (hb); clear BK173; clear BK174; clear HO177; clear HO203; clear HB; clear HO180; have BK173 := n0_; have BK174 := n1_; have HO177 := n2_; have HO203 := n3_; have HO206 := n4_; have HB := n5_; clear n0_ n1_ n2_ n3_ n4_ n5_; (try clear hb); (try clear hkp); (try clear ho0); obtain ⟨Ao88, co88, eo88⟩ := Kd.R_slice HO206.out; subst eo88; have hcz89_0 : w87.cell? ⟨gb174, 0, none⟩ = some (.slice Ao80 t178.length co80) := (blk_cell BK174.out 0).trans rfl; have hfz89_0 := blk_frozen BK174.out 0; obtain ⟨hcz90_0, hcz90_1, hcz90_2, hcz90_3, hcz90_4, hcz90_5, hcz90_6, hcz90_7, hcz90_8, -⟩ := cells_9 BK173.out trivial; obtain ⟨hfz90_0, hfz90_1, hfz90_2, hfz90_3, hfz90_4, hfz90_5, hfz90_6, hfz90_7, hfz90_8, -⟩ := frz_9 BK173.out))
 go_loopg [36] k (fun kq v36 w' => ∃ (x36_1 : Int) (x175000_1 : List Int) (u175000 : Value), v36 = .int .i64 x36_1 ∧ Aside0 (impl_msgBytes.l0 kq l0_6 (l0_6.length : Int) x36_1 x175000_1 = some r) ∧ Aside0 (kq ≤ k) ∧ Aside0 (Kd.R (Kd.int .u8) 5 w' w.heap.size (fun _ => True) u175000 x175000_1) ∧ Aside0 (w'.heap[gb173]? = some (.cells #[.int .i64 a0_0, .int .i64 a0_1, .int .i64 a0_2, .int .i64 a0_3, .int .i64 a0_4, .int .i64 a0_5, (.slice A0_6 l0_6.length c0_6), .int .i64 a0_7, .bool a0_8] 54 (0, 0))) ∧ Aside0 (w'.heap[gb174]? = some (.cells #[u175000] 52 (0, 0))) ∧ Aside0 (Below w.heap.size w w'))
 case atStart => exact ⟨(0), (t204), (.slice Ao88 t204.length co88), rs_, H', ⟨Nat.le_refl _⟩, ⟨by (with_reducible repeat (first | apply Kd.R_alloc | apply Kd.R_drewN | apply Kd.R_drew)); exact Kd.R_mono (Kd.R_far (p := ⟨gb174, 0, none⟩) (Kd.R_types HO206.out BK174.out (by decide)) (fun _ hk => hk.2) (.slice Ao88 t204.length co88)) (fun _ hk => trivial)⟩, ⟨by (with_reducible repeat (first | refine blk_drewN ?_ _ | refine blk_drew ?_ | refine blk_alloc ?_ _)); refine blk_far ?_ NB173_174.out _; (with_reducible repeat (first | refine blk_drewN ?_ _ | refine blk_drew ?_ | refine blk_alloc ?_ _)); exact BK173.out⟩, ⟨by (with_reducible repeat (first | refine blk_drewN ?_ _ | refine blk_drew ?_ | refine blk_alloc ?_ _)); refine blk_put (cs := #[.slice Ao80 t178.length co80]) ?_ 0 _ rfl; (with_reducible repeat (first | refine blk_drewN ?_ _ | refine blk_drew ?_ | refine blk_alloc ?_ _)); exact BK174.out⟩, ⟨bel⟩⟩
 case round =>
  clear H'
  try clear c1; try clear c2; try clear p2; try clear c3; try clear c3b0; try clear c3b1; try clear c4; try clear c5; try clear c7; try clear c10; try clear c16; try clear c22; try clear c24; try clear c24b0; try clear c24b1; try clear c29; try clear c46; try clear c46b0; try clear c46b1; try clear c51; try clear c73; try clear hcz11_0; try clear hcz15_0; try clear hcz16_0; try clear hcz16_1; try clear hcz16_2; try clear hcz16_3; try clear hcz16_4; try clear hcz16_5; try clear hcz16_6; try clear hcz16_7; try clear hcz16_8; try clear hcz19_0; try clear hcz23_0; try clear hcz30_0; try clear hcz30_1; try clear hcz30_2; try clear hcz30_3; try clear hcz30_4; try clear hcz30_5; try clear hcz30_6; try clear hcz30_7; try clear hcz30_8; try clear hcz33_0; try clear hcz37_0; try clear hcz38_0; try clear hcz38_1; try clear hcz38_2; try clear hcz38_3; try clear hcz38_4; try clear hcz38_5; try clear hcz38_6; try clear hcz38_7; try clear hcz38_8; try clear hcz41_0; try clear hcz45_0; try clear hcz52_0; try clear hcz52_1; try clear hcz52_2; try clear hcz52_3; try clear hcz52_4; try clear hcz52_5; try clear hcz52_6; try clear hcz52_7; try clear hcz52_8; try clear hcz55_0; try clear hcz59_0; try clear hcz60_0; try clear hcz60_1; try clear hcz60_2; try clear hcz60_3; try clear hcz60_4; try clear hcz60_5; try clear hcz60_6; try clear hcz60_7; try clear hcz60_8; try clear hcz69_0; try clear hcz74_0; try clear hcz74_1; try clear hcz74_2; try clear hcz74_3; try clear hcz74_4; try clear hcz74_5; try clear hcz74_6; try clear hcz74_7; try clear hcz74_8; try clear hcz77_0; try clear hcz81_0; try clear hcz82_0; try clear hcz82_1; try clear hcz82_2; try clear hcz82_3; try clear hcz82_4; try clear hcz82_5; try clear hcz82_6; try clear hcz82_7; try clear hcz82_8; try clear hcz85_0; try clear hcz89_0; try clear hcz8_0; try clear hcz8_1; try clear hcz8_2; try clear hcz8_3; try clear hcz8_4; try clear hcz8_5; try clear hcz8_6; try clear hcz8_7; try clear hcz8_8; try clear hcz90_0; try clear hcz90_1; try clear hcz90_2; try clear hcz90_3; try clear hcz90_4; try clear hcz90_5; try clear hcz90_6; try clear hcz90_7; try clear hcz90_8; try clear hfz11_0; try clear hfz15_0; try clear hfz16_0; try clear hfz16_1; try clear hfz16_2; try clear hfz16_3; try clear hfz16_4; try clear hfz16_5; try clear hfz16_6; try clear hfz16_7; try clear hfz16_8; try clear hfz19_0; try clear hfz23_0; try clear hfz30_0; try clear hfz30_1; try clear hfz30_2; try clear hfz30_3; try clear hfz30_4; try clear hfz30_5; try clear hfz30_6; try clear hfz30_7; try clear hfz30_8; try clear hfz33_0; try clear hfz37_0; try clear hfz38_0; try clear hfz38_1; try clear hfz38_2; try clear hfz38_3; try clear hfz38_4; try clear hfz38_5; try clear hfz38_6; try clear hfz38_7; try clear hfz38_8; try clear hfz41_0; try clear hfz45_0; try clear hfz52_0; try clear hfz52_1; try clear hfz52_2; try clear hfz52_3; try clear hfz52_4; try clear hfz52_5; try clear hfz52_6; try clear hfz52_7; try clear hfz52_8; try clear hfz55_0; try clear hfz59_0; try clear hfz60_0; try clear hfz60_1; try clear hfz60_2; try clear hfz60_3; try clear hfz60_4; try clear hfz60_5; try clear hfz60_6; try clear hfz60_7; try clear hfz60_8; try clear hfz69_0; try clear hfz74_0; try clear hfz74_1; try clear hfz74_2; try clear hfz74_3; try clear hfz74_4; try clear hfz74_5; try clear hfz74_6; try clear hfz74_7; try clear hfz74_8; try clear hfz77_0; try clear hfz81_0; try clear hfz82_0; try clear hfz82_1; try clear hfz82_2; try clear hfz82_3; try clear hfz82_4; try clear hfz82_5; try clear hfz82_6; try clear hfz82_7; try clear hfz82_8; try clear hfz85_0; try clear hfz89_0; try clear hfz8_0; try clear hfz8_1; try clear hfz8_2; try clear hfz8_3; try clear hfz8_4; try clear hfz8_5; try clear hfz8_6; try clear hfz8_7; try clear hfz8_8; try clear hfz90_0; try clear hfz90_1; try clear hfz90_2; try clear hfz90_3; try clear hfz90_4; try clear hfz90_5; try clear hfz90_6; try clear hfz90_7; try clear hfz90_8
  obtain ⟨x36_1, x175000_1, u175000, rfl, HA, HK1, HO_175000, BK173, BK174, HB⟩ := hrel
  cases gk with
  | zero => exact absurd HA.out (by simp [impl_msgBytes.l0])
  | succ k1 =>
   have H := HA.out
   clear HA
   simp only [impl_msgBytes.l0] at H
   by_cases c91 : x36_1 < (l0_6.length : Int)
   ·rw [if_pos c91] at H
    have c91b0 : decide (x36_1 < (l0_6.length : Int)) = true := decide_eq_true c91
    clear c91
    by_cases c92 : 0 ≤ x36_1
    ·rw [if_pos c92] at H
     have c92b0 : decide (0 ≤ x36_1) = true := decide_eq_true c92
     clear c92
     by_cases c93 : x36_1 < (l0_6.length : Int)
     ·rw [if_pos c93] at H
      have c93b0 : decide (x36_1 < (l0_6.length : Int)) = true := decide_eq_true c93
      clear c93
      obtain ⟨y209, hy209⟩ : ∃ y_ : List Int, y_ = (([(rd_T147 l0_6 x36_1).f0, wrap64 (((rd_T147 l0_6 x36_1).f1.f0) + 1), (rd_T147 l0_6 x36_1).f1.f1, (rd_T147 l0_6 x36_1).f1.f2.f0] : List Int)) := ⟨_, rfl⟩
      replace H : ((virtual_put.f k1 x175000_1 y209).bind fun t212 => ((impl_putText.f k1 t212 ((rd_T147 l0_6 x36_1).f1.f2.f1)).bind fun t215 => ((impl_putText.f k1 t215 ((rd_T147 l0_6 x36_1).f1.f2.f2)).bind fun t218 => ((virtual_put.f k1 t218 (([(rd_T147 l0_6 x36_1).f1.f2.f3] : List Int))).bind fun t224 => (impl_msgBytes.l0 k1 l0_6 (l0_6.length : Int) (wrap64 (x36_1 + 1)) t224))))) = some r := by first | (rw [hy209]; with_reducible exact H) | (have H2_ := (Option.bind_some _ _).symm.trans H; rw [hy209]; with_reducible exact H2_) | (have H2_ := (Option.bind_some _ _).symm.trans H; with_reducible exact H2_) | with_reducible exact H | (rw [hy209]; exact H) | exact H
      have Ny209 := Aside0.mk hy209
      clear hy209
      replace H := Option.bind_eq_some_iff.mp H
      obtain ⟨t212, A940, H⟩ := H
      replace H : ((impl_putText.f k1 t212 ((rd_T147 l0_6 x36_1).f1.f2.f1)).bind fun t215 => ((impl_putText.f k1 t215 ((rd_T147 l0_6 x36_1).f1.f2.f2)).bind fun t218 => ((virtual_put.f k1 t218 (([(rd_T147 l0_6 x36_1).f1.f2.f3] : List Int))).bind fun t224 => (impl_msgBytes.l0 k1 l0_6 (l0_6.length : Int) (wrap64 (x36_1 + 1)) t224)))) = some r := H
      have A94 := Aside0.mk A940
      clear A940
      replace H := Option.bind_eq_some_iff.mp H
      obtain ⟨t215, A950, H⟩ := H
      replace H : ((impl_putText.f k1 t215 ((rd_T147 l0_6 x36_1).f1.f2.f2)).bind fun t218 => ((virtual_put.f k1 t218 (([(rd_T147 l0_6 x36_1).f1.f2.f3] : List Int))).bind fun t224 => (impl_msgBytes.l0 k1 l0_6 (l0_6.length : Int) (wrap64 (x36_1 + 1)) t224))) = some r := H
      have A95 := Aside0.mk A950
      clear A950
      replace H := Option.bind_eq_some_iff.mp H
      obtain ⟨t218, A960, H⟩ := H
      replace H : ((virtual_put.f k1 t218 (([(rd_T147 l0_6 x36_1).f1.f2.f3] : List Int))).bind fun t224 => (impl_msgBytes.l0 k1 l0_6 (l0_6.length : Int) (wrap64 (x36_1 + 1)) t224)) = some r := H
      have A96 := Aside0.mk A960
      clear A960
      obtain ⟨y221, hy221⟩ : ∃ y_ : List Int, y_ = (([(rd_T147 l0_6 x36_1).f1.f2.f3] : List Int)) := ⟨_, rfl⟩
      replace H : ((virtual_put.f k1 t218 y221).bind fun t224 => (impl_msgBytes.l0 k1 l0_6 (l0_6.length : Int) (wrap64 (x36_1 + 1)) t224)) = some r := by first | (rw [hy221]; with_reducible exact H) | (have H2_ := (Option.bind_some _ _).symm.trans H; rw [hy221]; with_reducible exact H2_) | (have H2_ := (Option.bind_some _ _).symm.trans H; with_reducible exact H2_) | with_reducible exact H | (rw [hy221]; exact H) | exact H
      have Ny221 := Aside0.mk hy221
      clear hy221
      replace H := Option.bind_eq_some_iff.mp H
      obtain ⟨t224, A970, H⟩ := H
      replace H : (impl_msgBytes.l0 k1 l0_6 (l0_6.length : Int) (wrap64 (x36_1 + 1)) t224) = some r := H
      have A97 := Aside0.mk A970
      clear A970
      have H' := Aside0.mk H
      clear H
      have p207 : 0 ≤ (x36_1 : Int) := od
      have q207 : x36_1 < (l0_6.length : Int) := od
      obtain ⟨ad207, A207_4, c207_4, A207_5, c207_5, e207, hx207_0, hx207_1, hx207_2, hx207_3, hx207_4, hx207_5, hx207_6, hl207_4, hi207_4, hl207_5, hi207_5⟩ := at_T147 HR0_6.out x36_1 p207 q207
      cases e207
      replace hx207_0 := hxb HB hx207_0
      replace hx207_1 := hxb HB hx207_1
      replace hx207_2 := hxb HB hx207_2
      replace hx207_3 := hxb HB hx207_3
      replace hx207_4 := hxb HB hx207_4
      replace hx207_5 := hxb HB hx207_5
      replace hx207_6 := hxb HB hx207_6
      have HR207_4 := Aside0.mk hi207_4
      have HC207_4 := Aside0.mk hl207_4
      clear hi207_4 hl207_4
      have HR207_5 := Aside0.mk hi207_5
      have HC207_5 := Aside0.mk hl207_5
      clear hi207_5 hl207_5
      replace p207 := eq_true p207
      replace q207 := eq_true q207
      try go_wp2_with (first | ((with_reducible refine gate_dst (N := 6) rfl ?_); refine bx_ 6 #[.int .i64 0, .int .i64 0, .int .i64 0, .int .i64 0, .slice none 0 0, .slice none 0 0, .int .i64 0] 147 (h := ?_); intro gb208 hg w98 hbox hb; have BK208 := Aside0.mk (hbox); have GW208 := Aside0.mk ((by rw [hg]; exact (below_size bel) : w.heap.size ≤ gb208)); have GE208 := GW208; have NB173_208 := Aside0.mk ((by rw [hg]; exact Nat.ne_of_lt (blt BK173) : gb173 ≠ gb208)); have NB208_173 := Aside0.mk NB173_208.out.symm; have NB174_208 := Aside0.mk ((by rw [hg]; exact Nat.ne_of_lt (blt BK174) : gb174 ≠ gb208)); have NB208_174 := Aside0.mk NB174_208.out.symm; replace HO_175000 := Aside0.mk (rbl HO_175000 hb); replace BK173 := Aside0.mk (blb BK173 hb); replace BK174 := Aside0.mk (blb BK174 hb); replace HB := Aside0.mk (below_step bel hb); clear hb hbox hg; have hnb99 := NB208_173.out; have hnc99 := NB173_208.out; have hnb100 := NB208_174.out; have hnc100 := NB174_208.out; obtain ⟨hcz101_0, hcz101_1, hcz101_2, hcz101_3, hcz101_4, hcz101_5, hcz101_6, -⟩ := cells_7 BK208.out trivial; obtain ⟨hfz101_0, hfz101_1, hfz101_2, hfz101_3, hfz101_4, hfz101_5, hfz101_6, -⟩ := frz_7 BK208.out) | ((with_reducible refine gate_dst (N := 54) rfl ?_); refine Kd.R_lit (Kd.int .i64) _ 3 ?hg (N := 54) ?hd (xs := ([(rd_T147 l0_6 x36_1).f0, wrap64 (((rd_T147 l0_6 x36_1).f1.f0) + 1), (rd_T147 l0_6 x36_1).f1.f1, (rd_T147 l0_6 x36_1).f1.f2.f0] : List Int)) (inner := [.int .i64 ((rd_T147 l0_6 x36_1).f0), .int .i64 (wrap64 (((rd_T147 l0_6 x36_1).f1.f0) + 1)), .int .i64 ((rd_T147 l0_6 x36_1).f1.f1), .int .i64 ((rd_T147 l0_6 x36_1).f1.f2.f0)]) (ok := fun _ => True) (okp := fun _ => True) ?hr ?hp (fun _ hk => hk) trivial (Below.refl _ _) (Nat.le_refl _) (by simp) ?_; (case hd => rfl); (case hg => rfl); (case hr => first | (go_simp; done) | (go_simp; rfl)); (case hp => exact (Reps.one (show Kd.M (Kd.int .i64) _ _ _ ((rd_T147 l0_6 x36_1).f0) [.int .i64 ((rd_T147 l0_6 x36_1).f0)] from rfl) (Reps.one (show Kd.M (Kd.int .i64) _ _ _ (wrap64 (((rd_T147 l0_6 x36_1).f1.f0) + 1)) [.int .i64 (wrap64 (((rd_T147 l0_6 x36_1).f1.f0) + 1))] from rfl) (Reps.one (show Kd.M (Kd.int .i64) _ _ _ ((rd_T147 l0_6 x36_1).f1.f1) [.int .i64 ((rd_T147 l0_6 x36_1).f1.f1)] from rfl) (Reps.one (show Kd.M (Kd.int .i64) _ _ _ ((rd_T147 l0_6 x36_1).f1.f2.f0) [.int .i64 ((rd_T147 l0_6 x36_1).f1.f2.f0)] from rfl) (Reps.none _ _)))))); intro v210 w102 ho103 hb hg_ hnew_; clear hg_ hnew_; (first | rw [← Ny209.out] at ho103 | (simp only [Int.reduceToNat] at ho103; rw [← Ny209.out] at ho103)); have HO211 := Aside0.mk (Kd.R_lower ho103 (below_size bel)); replace HO_175000 := Aside0.mk (Kd.R_below (by (with_reducible repeat (first | apply Kd.R_alloc | apply Kd.R_drewN | apply Kd.R_drew)); exact (Kd.R_mono (Kd.R_far (p := ⟨gb208, 6, none⟩) (Kd.R_far (p := ⟨gb208, 5, none⟩) (Kd.R_far (p := ⟨gb208, 4, none⟩) (Kd.R_far (p := ⟨gb208, 3, none⟩) (Kd.R_far (p := ⟨gb208, 2, none⟩) (Kd.R_far (p := ⟨gb208, 1, none⟩) (Kd.R_far (p := ⟨gb208, 0, none⟩) (Kd.R_types HO_175000.out BK208.out (by decide)) (fun _ hk => hk.2) (.int .i64 ((rd_T147 l0_6 x36_1).f0))) (fun _ hk => hk.2) (.int .i64 ((rd_T147 l0_6 x36_1).f1.f0))) (fun _ hk => hk.2) (.int .i64 ((rd_T147 l0_6 x36_1).f1.f1))) (fun _ hk => hk.2) (.int .i64 ((rd_T147 l0_6 x36_1).f1.f2.f0))) (fun _ hk => hk.2) (.slice A207_4 ((rd_T147 l0_6 x36_1).f1.f2.f1).length c207_4)) (fun _ hk => hk.2) (.slice A207_5 ((rd_T147 l0_6 x36_1).f1.f2.f2).length c207_5)) (fun _ hk => hk.2) (.int .i64 ((rd_T147 l0_6 x36_1).f1.f2.f3))) (fun _ h_ => h_.1))) hb); replace BK173 := Aside0.mk (blk_below (g := gb173) (o := .cells #[.int .i64 a0_0, .int .i64 a0_1, .int .i64 a0_2, .int .i64 a0_3, .int .i64 a0_4, .int .i64 a0_5, .slice (some ad207) l0_6.length c0_6, .int .i64 a0_7, .bool a0_8] 54 (0, 0)) (by (with_reducible repeat (first | refine blk_drewN ?_ _ | refine blk_drew ?_ | refine blk_alloc ?_ _)); refine blk_far ?_ NB173_208.out _; (with_reducible repeat (first | refine blk_drewN ?_ _ | refine blk_drew ?_ | refine blk_alloc ?_ _)); refine blk_far ?_ NB173_208.out _; (with_reducible repeat (first | refine blk_drewN ?_ _ | refine blk_drew ?_ | refine blk_alloc ?_ _)); refine blk_far ?_ NB173_208.out _; (with_reducible repeat (first | refine blk_drewN ?_ _ | refine blk_drew ?_ | refine blk_alloc ?_ _)); refine blk_far ?_ NB173_208.out _; (with_reducible repeat (first | refine blk_drewN ?_ _ | refine blk_drew ?_ | refine blk_alloc ?_ _)); refine blk_far ?_ NB173_208.out _; (with_reducible repeat (first | refine blk_drewN ?_ _ | refine blk_drew ?_ | refine blk_alloc ?_ _)); refine blk_far ?_ NB173_208.out _; (with_reducible repeat (first | refine blk_drewN ?_ _ | refine blk_drew ?_ | refine blk_alloc ?_ _)); refine blk_far ?_ NB173_208.out _; (with_reducible repeat (first | refine blk_drewN ?_ _ | refine blk_drew ?_ | refine blk_alloc ?_ _)); exact BK173.out) hb); replace BK174 := Aside0.mk (blk_below (g := gb174) (o := .cells #[u175000] 52 (0, 0)) (by (with_reducible repeat (first | refine blk_drewN ?_ _ | refine blk_drew ?_ | refine blk_alloc ?_ _)); refine blk_far ?_ NB174_208.out _; (with_reducible repeat (first | refine blk_drewN ?_ _ | refine blk_drew ?_ | refine blk_alloc ?_ _)); refine blk_far ?_ NB174_208.out _; (with_reducible repeat (first | refine blk_drewN ?_ _ | refine blk_drew ?_ | refine blk_alloc ?_ _)); refine blk_far ?_ NB174_208.out _; (with_reducible repeat (first | refine blk_drewN ?_ _ | refine blk_drew ?_ | refine blk_alloc ?_ _)); refine blk_far ?_ NB174_208.out _; (with_reducible repeat (first | refine blk_drewN ?_ _ | refine blk_drew ?_ | refine blk_alloc ?_ _)); refine blk_far ?_ NB174_208.out _; (with_reducible repeat (first | refine blk_drewN ?_ _ | refine blk_drew ?_ | refine blk_alloc ?_ _)); refine blk_far ?_ NB174_208.out _; (with_reducible repeat (first | refine blk_drewN ?_ _ | refine blk_drew ?_ | refine blk_alloc ?_ _)); refine blk_far ?_ NB174_208.out _; (with_reducible repeat (first | refine blk_drewN ?_ _ | refine blk_drew ?_ | refine blk_alloc ?_ _)); exact BK174.out) hb); replace BK208 := Aside0.mk (blk_below (g := gb208) (o := .cells #[.int .i64 ((rd_T147 l0_6 x36_1).f0), .int .i64 ((rd_T147 l0_6 x36_1).f1.f0), .int .i64 ((rd_T147 l0_6 x36_1).f1.f1), .int .i64 ((rd_T147 l0_6 x36_1).f1.f2.f0), .slice A207_4 ((rd_T147 l0_6 x36_1).f1.f2.f1).length c207_4, .slice A207_5 ((rd_T147 l0_6 x36_1).f1.f2.f2).length c207_5, .int .i64 ((rd_T147 l0_6 x36_1).f1.f2.f3)] 147 (0, 0)) (by (with_reducible repeat (first | refine blk_drewN ?_ _ | refine blk_drew ?_ | refine blk_alloc ?_ _)); refine blk_put (cs := #[.int .i64 ((rd_T147 l0_6 x36_1).f0), .int .i64 ((rd_T147 l0_6 x36_1).f1.f0), .int .i64 ((rd_T147 l0_6 x36_1).f1.f1), .int .i64 ((rd_T147 l0_6 x36_1).f1.f2.f0), .slice A207_4 ((rd_T147 l0_6 x36_1).f1.f2.f1).length c207_4, .slice A207_5 ((rd_T147 l0_6 x36_1).f1.f2.f2).length c207_5, .int .i64 0]) ?_ 6 _ rfl; (with_reducible repeat (first | refine blk_drewN ?_ _ | refine blk_drew ?_ | refine blk_alloc ?_ _)); refine blk_put (cs := #[.int .i64 ((rd_T147 l0_6 x36_1).f0), .int .i64 ((rd_T147 l0_6 x36_1).f1.f0), .int .i64 ((rd_T147 l0_6 x36_1).f1.f1), .int .i64 ((rd_T147 l0_6 x36_1).f1.f2.f0), .slice A207_4 ((rd_T147 l0_6 x36_1).f1.f2.f1).length c207_4, .slice none 0 0, .int .i64 0]) ?_ 5 _ rfl; (with_reducible repeat (first | refine blk_drewN ?_ _ | refine blk_drew ?_ | refine blk_alloc ?_ _)); refine blk_put (cs := #[.int .i64 ((rd_T147 l0_6 x36_1).f0), .int .i64 ((rd_T147 l0_6 x36_1).f1.f0), .int .i64 ((rd_T147 l0_6 x36_1).f1.f1), .int .i64 ((rd_T147 l0_6 x36_1).f1.f2.f0), .slice none 0 0, .slice none 0 0, .int .i64 0]) ?_ 4 _ rfl; (with_reducible repeat (first | refine blk_drewN ?_ _ | refine blk_drew ?_ | refine blk_alloc ?_ _)); refine blk_put (cs := #[.int .i64 ((rd_T147 l0_6 x36_1).f0), .int .i64 ((rd_T147 l0_6 x36_1).f1.f0), .int .i64 ((rd_T147 l0_6 x36_1).f1.f1), .int .i64 0, .slice none 0 0, .slice none 0 0, .int .i64 0]) ?_ 3 _ rfl; (with_reducible repeat (first | refine blk_drewN ?_ _ | refine blk_drew ?_ | refine blk_alloc ?_ _)); refine blk_put (cs := #[.int .i64 ((rd_T147 l0_6 x36_1).f0), .int .i64 ((rd_T147 l0_6 x36_1).f1.f0), .int .i64 0, .int .i64 0, .slice none 0 0, .slice none 0 0, .int .i64 0]) ?_ 2 _ rfl; (with_reducible repeat (first | refine blk_drewN ?_ _ | refine blk_drew ?_ | refine blk_alloc ?_ _)); refine blk_put (cs := #[.int .i64 ((rd_T147 l0_6 x36_1).f0), .int .i64 0, .int .i64 0, .int .i64 0, .slice none 0 0, .slice none 0 0, .int .i64 0]) ?_ 1 _ rfl; (with_reducible repeat (first | refine blk_drewN ?_ _ | refine blk_drew ?_ | refine blk_alloc ?_ _)); refine blk_put (cs := #[.int .i64 0, .int .i64 0, .int .i64 0, .int .i64 0, .slice none 0 0, .slice none 0 0, .int .i64 0]) ?_ 0 _ rfl; (with_reducible repeat (first | refine blk_drewN ?_ _ | refine blk_drew ?_ | refine blk_alloc ?_ _)); exact BK208.out) hb); replace HB := Aside0.mk (below_step bel hb); clear hb ho103; have hnb104 := NB174_173.out; have hnc104 := NB173_174.out; have hcz105_0 : w102.cell? ⟨gb174, 0, none⟩ = some (u175000) := (blk_cell BK174.out 0).trans rfl; have hfz105_0 := blk_frozen BK174.out 0; obtain ⟨Ao106, co106, eo106⟩ := Kd.R_slice HO_175000.out; subst eo106; obtain ⟨Ao107, co107, eo107⟩ := Kd.R_slice HO211.out; subst eo107) | ((with_reducible refine gate_dst (N := 55) rfl ?_); refine virtual_put.glc_ (some 55) Try.func167 #[.slice Ao107 y209.length co107, .pointer (some ⟨gb174, 0, none⟩)] (c := .pointer (some ⟨gb174, 0, none⟩)) (h := ?_); (with_reducible refine (virtual_put.calls k1 (.slice Ao106 x175000_1.length co106) x175000_1 _ _ y209 t212 w _ gb174 (by (with_reducible repeat (first | refine blk_drewN ?_ _ | refine blk_drew ?_ | refine blk_alloc ?_ _)); exact BK174.out) GE174.out ?side1 ?side2 ?side3 ?side4 (by rw [Ny209.out]; simp) A94.out).mono ?_); (case side1 => repeat (first | (with_reducible first | exact HB.out | apply below_alloc | apply pw_below_drewN | apply below_drew1 | refine below_set ?_ GE173.out | refine below_set ?_ GE174.out | refine below_set ?_ GE208.out) | exact HB.out)); (case side2 => exact Kd.R_tight rfl HO_175000.out); (case side3 => exact Kd.C_kept_own ((Kd.R_apart' HO211.out (Kd.R_typed HO_175000.out) (by decide))) (fun k_ hk_ hs_ => (hk_.2) hs_)); (case side4 => exact (Kd.R_reads' HO211.out).2.1); rintro e _ ⟨w108, v213, rfl, rfl, ho0, hb, hkp⟩; refine ⟨_, rfl, ?_⟩; have n0_ := Aside0.mk (blk_kept (by (with_reducible repeat (first | refine blk_drewN ?_ _ | refine blk_drew ?_ | refine blk_alloc ?_ _)); exact BK173.out) hkp (fun hs_ => (fun e_ => (Kd.R_ne HO_175000.out BK173.out (by decide)) e_) hs_)); have n1_ := Aside0.mk (blk_kept (by (with_reducible repeat (first | refine blk_drewN ?_ _ | refine blk_drew ?_ | refine blk_alloc ?_ _)); exact BK174.out) hkp (fun hs_ => (fun e_ => (Kd.R_ne HO_175000.out BK174.out (by decide)) e_) hs_)); have n2_ := Aside0.mk (blk_kept (by (with_reducible repeat (first | refine blk_drewN ?_ _ | refine blk_drew ?_ | refine blk_alloc ?_ _)); exact BK208.out) hkp (fun hs_ => (fun e_ => (Kd.R_ne HO_175000.out BK208.out (by decide)) e_) hs_)); have n3_ := Aside0.mk (Kd.R_mono (ok' := fun k_ => True) (Kd.R_keptB ((Kd.R_apart' HO211.out (Kd.R_typed HO_175000.out) (by decide))) hkp (fun k_ hk_ hs_ => (hk_.2) hs_)) (fun k_ hk_ => trivial)); have n4_ := Aside0.mk (Kd.R_mono (ok' := fun k_ => True) ho0 (fun k_ hk_ => trivial)); have n5_ := Aside0.mk (hb); clear BK173; clear BK174; clear BK208; clear HO211; clear HB; clear HO_175000; have BK173 := n0_; have BK174 := n1_; have BK208 := n2_; have HO211 := n3_; have HO214 := n4_; have HB := n5_; clear n0_ n1_ n2_ n3_ n4_ n5_; (try clear hb); (try clear hkp); (try clear ho0); obtain ⟨Ao109, co109, eo109⟩ := Kd.R_slice HO214.out; subst eo109; have hcz110_0 : w108.cell? ⟨gb174, 0, none⟩ = some (.slice Ao106 x175000_1.length co106) := (blk_cell BK174.out 0).trans rfl; have hfz110_0 := blk_frozen BK174.out 0))
      have n0_ : Aside0 (Kd.R (Kd.int .i64) 3 (w108.setCell ⟨gb174, 0, none⟩ (.slice Ao109 t212.length co109)) w.heap.size (fun _ => True) (.slice Ao107 y209.length co107) y209) := ⟨by (with_reducible repeat (first | apply Kd.R_alloc | apply Kd.R_drewN | apply Kd.R_drew)); exact Kd.R_mono (Kd.R_far (p := ⟨gb174, 0, none⟩) (Kd.R_types HO211.out BK174.out (by decide)) (fun _ hk => hk.2) (.slice Ao109 t212.length co109)) (fun _ hk => trivial)⟩
      have n1_ : Aside0 (Kd.R (Kd.int .u8) 5 (w108.setCell ⟨gb174, 0, none⟩ (.slice Ao109 t212.length co109)) w.heap.size (fun _ => True) (.slice Ao109 t212.length co109) t212) := ⟨by (with_reducible repeat (first | apply Kd.R_alloc | apply Kd.R_drewN | apply Kd.R_drew)); exact Kd.R_mono (Kd.R_far (p := ⟨gb174, 0, none⟩) (Kd.R_types HO214.out BK174.out (by decide)) (fun _ hk => hk.2) (.slice Ao109 t212.length co109)) (fun _ hk => trivial)⟩
      have n2_ : Aside0 ((w108.setCell ⟨gb174, 0, none⟩ (.slice Ao109 t212.length co109)).heap[gb173]? = some (.cells #[.int .i64 a0_0, .int .i64 a0_1, .int .i64 a0_2, .int .i64 a0_3, .int .i64 a0_4, .int .i64 a0_5, .slice (some ad207) l0_6.length c0_6, .int .i64 a0_7, .bool a0_8] 54 (0, 0))) := ⟨by (with_reducible repeat (first | refine blk_drewN ?_ _ | refine blk_drew ?_ | refine blk_alloc ?_ _)); refine blk_far ?_ NB173_174.out _; (with_reducible repeat (first | refine blk_drewN ?_ _ | refine blk_drew ?_ | refine blk_alloc ?_ _)); exact BK173.out⟩
      have n3_ : Aside0 ((w108.setCell ⟨gb174, 0, none⟩ (.slice Ao109 t212.length co109)).heap[gb174]? = some (.cells #[.slice Ao109 t212.length co109] 52 (0, 0))) := ⟨by (with_reducible repeat (first | refine blk_drewN ?_ _ | refine blk_drew ?_ | refine blk_alloc ?_ _)); refine blk_put (cs := #[.slice Ao106 x175000_1.length co106]) ?_ 0 _ rfl; (with_reducible repeat (first | refine blk_drewN ?_ _ | refine blk_drew ?_ | refine blk_alloc ?_ _)); exact BK174.out⟩
      have n4_ : Aside0 ((w108.setCell ⟨gb174, 0, none⟩ (.slice Ao109 t212.length co109)).heap[gb208]? = some (.cells #[.int .i64 ((rd_T147 l0_6 x36_1).f0), .int .i64 ((rd_T147 l0_6 x36_1).f1.f0), .int .i64 ((rd_T147 l0_6 x36_1).f1.f1), .int .i64 ((rd_T147 l0_6 x36_1).f1.f2.f0), .slice A207_4 ((rd_T147 l0_6 x36_1).f1.f2.f1).length c207_4, .slice A207_5 ((rd_T147 l0_6 x36_1).f1.f2.f2).length c207_5, .int .i64 ((rd_T147 l0_6 x36_1).f1.f2.f3)] 147 (0, 0))) := ⟨by (with_reducible repeat (first | refine blk_drewN ?_ _ | refine blk_drew ?_ | refine blk_alloc ?_ _)); refine blk_far ?_ NB208_174.out _; (with_reducible repeat (first | refine blk_drewN ?_ _ | refine blk_drew ?_ | refine blk_alloc ?_ _)); exact BK208.out⟩
      have n5_ : Aside0 (Below w.heap.size w (w108.setCell ⟨gb174, 0, none⟩ (.slice Ao109 t212.length co109))) := ⟨bel⟩
      (try clear HO211)
      (try clear HO214)
      (try clear BK173)
      (try clear BK174)
      (try clear BK208)
      (try clear HB)
      generalize (w108.setCell ⟨gb174, 0, none⟩ (.slice Ao109 t212.length co109)) = w111 at n0_ n1_ n2_ n3_ n4_ n5_ ⊢
      have HO211 := n0_
      have HO214 := n1_
      have BK173 := n2_
      have BK174 := n3_
      have BK208 := n4_
      have HB := n5_
      clear n0_ n1_ n2_ n3_ n4_ n5_
      replace HO211 := Aside0.mk (Kd.R_drew HO211.out)
      replace HO214 := Aside0.mk (Kd.R_drew HO214.out)
      replace BK173 := Aside0.mk (blk_drew BK173.out)
      replace BK174 := Aside0.mk (blk_drew BK174.out)
      replace BK208 := Aside0.mk (blk_drew BK208.out)
      replace HB := Aside0.mk (below_drew1 HB.out)
      refine start_ (n := 12) (S := fun w' => w'.cell? ⟨gb174, 0, none⟩ = some (.slice Ao109 t212.length co109) ∧ w'.cell? ⟨gb208, 0, none⟩ = some (.int .i64 ((rd_T147 l0_6 x36_1).f0)) ∧ w'.cell? ⟨gb208, 1, none⟩ = some (.int .i64 ((rd_T147 l0_6 x36_1).f1.f0)) ∧ w'.cell? ⟨gb208, 2, none⟩ = some (.int .i64 ((rd_T147 l0_6 x36_1).f1.f1)) ∧ w'.cell? ⟨gb208, 3, none⟩ = some (.int .i64 ((rd_T147 l0_6 x36_1).f1.f2.f0)) ∧ w'.cell? ⟨gb208, 4, none⟩ = some (.slice A207_4 ((rd_T147 l0_6 x36_1).f1.f2.f1).length c207_4) ∧ w'.cell? ⟨gb208, 5, none⟩ = some (.slice A207_5 ((rd_T147 l0_6 x36_1).f1.f2.f2).length c207_5) ∧ w'.cell? ⟨gb208, 6, none⟩ = some (.int .i64 ((rd_T147 l0_6 x36_1).f1.f2.f3))) (ds := [11]) (tf 0 12) (by kernel_rfl) rfl rfl ⟨(blk_cell BK174.out 0).trans rfl, (blk_cell BK208.out 0).trans rfl, (blk_cell BK208.out 1).trans rfl, (blk_cell BK208.out 2).trans rfl, (blk_cell BK208.out 3).trans rfl, (blk_cell BK208.out 4).trans rfl, (blk_cell BK208.out 5).trans rfl, (blk_cell BK208.out 6).trans rfl⟩ (fun hHeld => ?_); refine with_tabW impl_msgBytes.tab10 impl_msgBytes.bits10 (fun HT_ HW_ => ?_)
      generalize w111.drew = w112 at HO211 HO214 BK173 BK174 BK208 HB hHeld ⊢
      refine pv_ HT_ 1 (some 57) (tb 12 2) (h := ?_)
      refine pv_ HT_ 2 (some 58) (tb 12 6) (h := ?_)
      refine pv_ HT_ 3 (some 59) (tb 12 14) (h := ?_)
      refine pv_ HT_ 6 (some 62) (tb 12 78) (h := ?_)
      refine pv_ HT_ 7 (some 63) (tb 12 206) (h := ?_)
      refine pv_ HT_ 8 (some 64) (tb 12 462) (h := ?_)
      refine tv_ HT_ HW_ hHeld 0 (some 56) (tb 12 463) (h := ?_)
      refine tv_ HT_ HW_ hHeld 4 (some 60) (tb 12 479) (h := ?_)
      refine tv_ HT_ HW_ hHeld 9 (some 65) (tb 12 991) (h := ?_)
      refine one_ (i := 5) (N := some 61) (tf 10 2) rfl rfl (one_of HT_.out (by kernel_rfl)) (by decide) (fun K hK => ?_)
      refine gs_ Try.func170 #[.slice Ao109 t212.length co109, .slice A207_4 ((rd_T147 l0_6 x36_1).f1.f2.f1).length c207_4] (h := ?_)
      with_reducible refine (impl_putText.calls k1 (fun k_ => some k_ = (.slice Ao109 t212.length co109 : Value).ownBlock) (.slice Ao109 t212.length co109) t212 _ _ ((rd_T147 l0_6 x36_1).f1.f2.f1) t215 w _ ?side1 ?side2 ?side3 ?side4 A95.out).mono ?_
      (case side1 => repeat (first | (with_reducible first | exact HB.out | apply below_alloc | apply pw_below_drewN | apply below_drew1 | refine below_set ?_ GE173.out | refine below_set ?_ GE174.out | refine below_set ?_ GE208.out) | exact HB.out))
      (case side2 => exact Kd.R_tight rfl HO214.out)
      (case side3 => exact Kd.C_kept_came (Kd.heap_int .u8) HR207_4.out bel (fun k_ hs_ => (fun e_ => Kd.R_base HO214.out k_ e_.symm) hs_))
      (case side4 => exact HC207_4.out)
      rintro e w113 ⟨v216, rfl, ho0, hb, hkp⟩
      refine ⟨_, rfl, ?_⟩
      have n0_ := Aside0.mk (blk_kept (by (with_reducible repeat (first | refine blk_drewN ?_ _ | refine blk_drew ?_ | refine blk_alloc ?_ _)); exact BK173.out) hkp (fun hs_ => (fun e_ => (Kd.R_ne HO214.out BK173.out (by decide)) e_) hs_))
      have n1_ := Aside0.mk (blk_kept (by (with_reducible repeat (first | refine blk_drewN ?_ _ | refine blk_drew ?_ | refine blk_alloc ?_ _)); exact BK174.out) hkp (fun hs_ => (fun e_ => (Kd.R_ne HO214.out BK174.out (by decide)) e_) hs_))
      have n2_ := Aside0.mk (blk_kept (by (with_reducible repeat (first | refine blk_drewN ?_ _ | refine blk_drew ?_ | refine blk_alloc ?_ _)); exact BK208.out) hkp (fun hs_ => (fun e_ => (Kd.R_ne HO214.out BK208.out (by decide)) e_) hs_))
      have n3_ := Aside0.mk (Kd.R_mono (ok' := fun k_ => True) (Kd.R_keptB ((Kd.R_apart' HO211.out (Kd.R_typed HO214.out) (by decide))) hkp (fun k_ hk_ hs_ => (hk_.2) hs_)) (fun k_ hk_ => trivial))
      have n4_ := Aside0.mk (Kd.R_mono (ok' := fun k_ => True) ho0 (fun k_ hk_ => trivial))
      have n5_ := Aside0.mk (hb)
      clear BK173
      clear BK174
      clear BK208
      clear HO211
      clear HB
      clear HO214
      have BK173 := n0_
      have BK174 := n1_
      have BK208 := n2_
      have HO211 := n3_
      have HO217 := n4_
      have HB := n5_
      clear n0_ n1_ n2_ n3_ n4_ n5_
      (try clear hb)
      (try clear hkp)
      (try clear ho0)
      obtain ⟨Ao114, co114, eo114⟩ := Kd.R_slice HO217.out
      (first | subst eo114 | (injection eo114 with f1_ f2_ f3_; have f4_ := f1_.symm; have f5_ := f3_.symm; clear f1_ f2_ f3_; subst f4_; subst f5_))
      refine hK.out _ _ ⟨(blk_cell BK174.out 0).trans rfl, (blk_cell BK208.out 0).trans rfl, (blk_cell BK208.out 1).trans rfl, (blk_cell BK208.out 2).trans rfl, (blk_cell BK208.out 3).trans rfl, (blk_cell BK208.out 4).trans rfl, (blk_cell BK208.out 5).trans rfl, (blk_cell BK208.out 6).trans rfl⟩ (fun hHeld => ?_)
      clear hK K
      refine nrm_ (some 61) (h := ?_)
      refine one_ (i := 10) (N := some 66) (tf 11 1) rfl rfl (one_of HT_.out (by kernel_rfl)) (by decide) (fun K hK => ?_)
      refine gs_ Try.func170 #[.slice Ao114 t215.length co114, .slice A207_5 ((rd_T147 l0_6 x36_1).f1.f2.f2).length c207_5] (h := ?_)
      with_reducible refine (impl_putText.calls k1 (fun k_ => some k_ = (.slice Ao114 t215.length co114 : Value).ownBlock) (.slice Ao114 t215.length co114) t215 _ _ ((rd_T147 l0_6 x36_1).f1.f2.f2) t218 w _ ?side1 ?side2 ?side3 ?side4 A96.out).mono ?_
      (case side1 => repeat (first | (with_reducible first | exact HB.out | apply below_alloc | apply pw_below_drewN | apply below_drew1 | refine below_set ?_ GE173.out | refine below_set ?_ GE174.out | refine below_set ?_ GE208.out) | exact HB.out))
      (case side2 => exact Kd.R_tight rfl HO217.out)
      (case side3 => exact Kd.C_kept_came (Kd.heap_int .u8) HR207_5.out bel (fun k_ hs_ => (fun e_ => Kd.R_base HO217.out k_ e_.symm) hs_))
      (case side4 => exact HC207_5.out)
      rintro e w115 ⟨v219, rfl, ho0, hb, hkp⟩
      refine ⟨_, rfl, ?_⟩
      have n0_ := Aside0.mk (blk_kept (by (with_reducible repeat (first | refine blk_drewN ?_ _ | refine blk_drew ?_ | refine blk_alloc ?_ _)); exact BK173.out) hkp (fun hs_ => (fun e_ => (Kd.R_ne HO217.out BK173.out (by decide)) e_) hs_))
      have n1_ := Aside0.mk (blk_kept (by (with_reducible repeat (first | refine blk_drewN ?_ _ | refine blk_drew ?_ | refine blk_alloc ?_ _)); exact BK174.out) hkp (fun hs_ => (fun e_ => (Kd.R_ne HO217.out BK174.out (by decide)) e_) hs_))
      have n2_ := Aside0.mk (blk_kept (by (with_reducible repeat (first | refine blk_drewN ?_ _ | refine blk_drew ?_ | refine blk_alloc ?_ _)); exact BK208.out) hkp (fun hs_ => (fun e_ => (Kd.R_ne HO217.out BK208.out (by decide)) e_) hs_))
      have n3_ := Aside0.mk (Kd.R_mono (ok' := fun k_ => True) (Kd.R_keptB ((Kd.R_apart' HO211.out (Kd.R_typed HO217.out) (by decide))) hkp (fun k_ hk_ hs_ => (hk_.2) hs_)) (fun k_ hk_ => trivial))
      have n4_ := Aside0.mk (Kd.R_mono (ok' := fun k_ => True) ho0 (fun k_ hk_ => trivial))
      have n5_ := Aside0.mk (hb)
      clear BK173
      clear BK174
      clear BK208
      clear HO211
      clear HB
      clear HO217
      have BK173 := n0_
      have BK174 := n1_
      have BK208 := n2_
      have HO211 := n3_
      have HO220 := n4_
      have HB := n5_
      clear n0_ n1_ n2_ n3_ n4_ n5_
      (try clear hb)
      (try clear hkp)
      (try clear ho0)
      obtain ⟨Ao116, co116, eo116⟩ := Kd.R_slice HO220.out
      (first | subst eo116 | (injection eo116 with f1_ f2_ f3_; have f4_ := f1_.symm; have f5_ := f3_.symm; clear f1_ f2_ f3_; subst f4_; subst f5_))
      refine hK.out _ _ ⟨(blk_cell BK174.out 0).trans rfl, (blk_cell BK208.out 0).trans rfl, (blk_cell BK208.out 1).trans rfl, (blk_cell BK208.out 2).trans rfl, (blk_cell BK208.out 3).trans rfl, (blk_cell BK208.out 4).trans rfl, (blk_cell BK208.out 5).trans rfl, (blk_cell BK208.out 6).trans rfl⟩ (fun hHeld => ?_)
      clear hK K
      refine nrm_ (some 66) (h := ?_)
      refine last_ (i := 11) (N := none) (tf 12 0) rfl rfl (one_of HT_.out (by kernel_rfl)) (by decide) (fun K hK => ?_)
      have hs117 : w115.cell? ⟨gb174, 0, none⟩ = some (.slice Ao109 t212.length co109) := (blk_cell BK174.out 0).trans rfl
      have hfs117 := blk_frozen BK174.out 0
      have hns117_0 := NB173_174.out
      have hns117_2 := NB208_174.out
      have hms117_0 := NB174_173.out
      have hms117_2 := NB174_208.out
      refine skip_ (w1 := ?_) (by rfl) rfl ?_ ?_
      rotate_left
      ·go_simp
       rfl
      refine hK.out _ _ ?_
      clear hK K
      refine done_ (done_of HT_.out (by kernel_rfl)) ?_
      have hcz118_0 : w115.cell? ⟨gb208, 0, none⟩ = some (.int .i64 ((rd_T147 l0_6 x36_1).f0)) := (blk_cell BK208.out 0).trans rfl
      have hcz118_1 : w115.cell? ⟨gb208, 1, none⟩ = some (.int .i64 ((rd_T147 l0_6 x36_1).f1.f0)) := (blk_cell BK208.out 1).trans rfl
      have hcz118_2 : w115.cell? ⟨gb208, 2, none⟩ = some (.int .i64 ((rd_T147 l0_6 x36_1).f1.f1)) := (blk_cell BK208.out 2).trans rfl
      have hcz118_3 : w115.cell? ⟨gb208, 3, none⟩ = some (.int .i64 ((rd_T147 l0_6 x36_1).f1.f2.f0)) := (blk_cell BK208.out 3).trans rfl
      have hcz118_4 : w115.cell? ⟨gb208, 4, none⟩ = some (.slice A207_4 ((rd_T147 l0_6 x36_1).f1.f2.f1).length c207_4) := (blk_cell BK208.out 4).trans rfl
      have hcz118_5 : w115.cell? ⟨gb208, 5, none⟩ = some (.slice A207_5 ((rd_T147 l0_6 x36_1).f1.f2.f2).length c207_5) := (blk_cell BK208.out 5).trans rfl
      have hcz118_6 : w115.cell? ⟨gb208, 6, none⟩ = some (.int .i64 ((rd_T147 l0_6 x36_1).f1.f2.f3)) := (blk_cell BK208.out 6).trans rfl
      obtain ⟨hfz118_0, hfz118_1, hfz118_2, hfz118_3, hfz118_4, hfz118_5, hfz118_6, -⟩ := frz_7 BK208.out
      try go_wp2_with (first | ((with_reducible refine gate_dst (N := 72) rfl ?_); refine Kd.R_lit (Kd.int .i64) _ 3 ?hg (N := 72) ?hd (xs := ([(rd_T147 l0_6 x36_1).f1.f2.f3] : List Int)) (inner := [.int .i64 ((rd_T147 l0_6 x36_1).f1.f2.f3)]) (ok := fun _ => True) (okp := fun _ => True) ?hr ?hp (fun _ hk => hk) trivial (Below.refl _ _) (Nat.le_refl _) (by simp) ?_; (case hd => rfl); (case hg => rfl); (case hr => first | (go_simp; done) | (go_simp; rfl)); (case hp => exact (Reps.one (show Kd.M (Kd.int .i64) _ _ _ ((rd_T147 l0_6 x36_1).f1.f2.f3) [.int .i64 ((rd_T147 l0_6 x36_1).f1.f2.f3)] from rfl) (Reps.none _ _))); intro v222 w119 ho120 hb hg_ hnew_; clear hg_ hnew_; (first | rw [← Ny221.out] at ho120 | (simp only [Int.reduceToNat] at ho120; rw [← Ny221.out] at ho120)); have HO223 := Aside0.mk (Kd.R_lower (Kd.R_new' ho120 (Kd.R_lt (by (with_reducible repeat (first | apply Kd.R_alloc | apply Kd.R_drewN | apply Kd.R_drew)); exact (Kd.R_mono (Kd.R_far (p := ⟨gb174, 0, none⟩) (Kd.R_types HO211.out BK174.out (by decide)) (fun _ hk => hk.2) (.slice Ao116 t218.length co116)) (fun _ h_ => h_.1))))) (below_size bel)); replace HO211 := Aside0.mk (Kd.R_elder' (by (with_reducible repeat (first | apply Kd.R_alloc | apply Kd.R_drewN | apply Kd.R_drew)); exact (Kd.R_mono (Kd.R_far (p := ⟨gb174, 0, none⟩) (Kd.R_types HO211.out BK174.out (by decide)) (fun _ hk => hk.2) (.slice Ao116 t218.length co116)) (fun _ h_ => h_.1))) (Kd.R_base ho120) hb); replace HO220 := Aside0.mk (Kd.R_below (by (with_reducible repeat (first | apply Kd.R_alloc | apply Kd.R_drewN | apply Kd.R_drew)); exact (Kd.R_mono (Kd.R_far (p := ⟨gb174, 0, none⟩) (Kd.R_types HO220.out BK174.out (by decide)) (fun _ hk => hk.2) (.slice Ao116 t218.length co116)) (fun _ h_ => h_.1))) hb); replace BK173 := Aside0.mk (blk_below (g := gb173) (o := .cells #[.int .i64 a0_0, .int .i64 a0_1, .int .i64 a0_2, .int .i64 a0_3, .int .i64 a0_4, .int .i64 a0_5, .slice (some ad207) l0_6.length c0_6, .int .i64 a0_7, .bool a0_8] 54 (0, 0)) (by (with_reducible repeat (first | refine blk_drewN ?_ _ | refine blk_drew ?_ | refine blk_alloc ?_ _)); refine blk_far ?_ NB173_174.out _; (with_reducible repeat (first | refine blk_drewN ?_ _ | refine blk_drew ?_ | refine blk_alloc ?_ _)); exact BK173.out) hb); replace BK174 := Aside0.mk (blk_below (g := gb174) (o := .cells #[.slice Ao116 t218.length co116] 52 (0, 0)) (by (with_reducible repeat (first | refine blk_drewN ?_ _ | refine blk_drew ?_ | refine blk_alloc ?_ _)); refine blk_put (cs := #[.slice Ao109 t212.length co109]) ?_ 0 _ rfl; (with_reducible repeat (first | refine blk_drewN ?_ _ | refine blk_drew ?_ | refine blk_alloc ?_ _)); exact BK174.out) hb); replace BK208 := Aside0.mk (blk_below (g := gb208) (o := .cells #[.int .i64 ((rd_T147 l0_6 x36_1).f0), .int .i64 ((rd_T147 l0_6 x36_1).f1.f0), .int .i64 ((rd_T147 l0_6 x36_1).f1.f1), .int .i64 ((rd_T147 l0_6 x36_1).f1.f2.f0), .slice A207_4 ((rd_T147 l0_6 x36_1).f1.f2.f1).length c207_4, .slice A207_5 ((rd_T147 l0_6 x36_1).f1.f2.f2).length c207_5, .int .i64 ((rd_T147 l0_6 x36_1).f1.f2.f3)] 147 (0, 0)) (by (with_reducible repeat (first | refine blk_drewN ?_ _ | refine blk_drew ?_ | refine blk_alloc ?_ _)); refine blk_far ?_ NB208_174.out _; (with_reducible repeat (first | refine blk_drewN ?_ _ | refine blk_drew ?_ | refine blk_alloc ?_ _)); exact BK208.out) hb); replace HB := Aside0.mk (below_step bel hb); clear hb ho120; have hcz121_0 : w119.cell? ⟨gb174, 0, none⟩ = some (.slice Ao116 t218.length co116) := (blk_cell BK174.out 0).trans rfl; have hfz121_0 := blk_frozen BK174.out 0; obtain ⟨Ao122, co122, eo122⟩ := Kd.R_slice HO223.out; subst eo122) | ((with_reducible refine gate_dst (N := 73) rfl ?_); refine virtual_put.glc_ (some 73) Try.func167 #[.slice Ao122 y221.length co122, .pointer (some ⟨gb174, 0, none⟩)] (c := .pointer (some ⟨gb174, 0, none⟩)) (h := ?_); (with_reducible refine (virtual_put.calls k1 (.slice Ao116 t218.length co116) t218 _ _ y221 t224 w _ gb174 (by (with_reducible repeat (first | refine blk_drewN ?_ _ | refine blk_drew ?_ | refine blk_alloc ?_ _)); exact BK174.out) GE174.out ?side1 ?side2 ?side3 ?side4 (by rw [Ny221.out]; simp) A97.out).mono ?_); (case side1 => repeat (first | (with_reducible first | exact HB.out | apply below_alloc | apply pw_below_drewN | apply below_drew1 | refine below_set ?_ GE173.out | refine below_set ?_ GE174.out | refine below_set ?_ GE208.out) | exact HB.out)); (case side2 => exact Kd.R_tight rfl HO220.out); (case side3 => exact Kd.C_kept_own ((Kd.R_apart' HO223.out (Kd.R_typed HO220.out) (by decide))) (fun k_ hk_ hs_ => (hk_.2) hs_)); (case side4 => exact (Kd.R_reads' HO223.out).2.1); rintro e _ ⟨w123, v225, rfl, rfl, ho0, hb, hkp⟩; refine ⟨_, rfl, ?_⟩; have n0_ := Aside0.mk (blk_kept (by (with_reducible repeat (first | refine blk_drewN ?_ _ | refine blk_drew ?_ | refine blk_alloc ?_ _)); exact BK173.out) hkp (fun hs_ => (fun e_ => (Kd.R_ne HO220.out BK173.out (by decide)) e_) hs_)); have n1_ := Aside0.mk (blk_kept (by (with_reducible repeat (first | refine blk_drewN ?_ _ | refine blk_drew ?_ | refine blk_alloc ?_ _)); exact BK174.out) hkp (fun hs_ => (fun e_ => (Kd.R_ne HO220.out BK174.out (by decide)) e_) hs_)); have n2_ := Aside0.mk (blk_kept (by (with_reducible repeat (first | refine blk_drewN ?_ _ | refine blk_drew ?_ | refine blk_alloc ?_ _)); exact BK208.out) hkp (fun hs_ => (fun e_ => (Kd.R_ne HO220.out BK208.out (by decide)) e_) hs_)); have n3_ := Aside0.mk (Kd.R_mono (ok' := fun k_ => some k_ ≠ (.slice Ao122 y221.length co122 : Value).ownBlock) (Kd.R_keptB ((Kd.R_apart' HO211.out (Kd.R_typed HO220.out) (by decide))) hkp (fun k_ hk_ hs_ => (hk_.2) hs_)) (fun k_ hk_ => hk_.1.1.2)); have n4_ := Aside0.mk (Kd.R_mono (ok' := fun k_ => some k_ ≠ (.slice Ao107 y209.length co107 : Value).ownBlock) (Kd.R_keptB ((Kd.R_apart' HO223.out (Kd.R_typed HO220.out) (by decide))) hkp (fun k_ hk_ hs_ => (hk_.2) hs_)) (fun k_ hk_ => hk_.1.1.2)); have n5_ := Aside0.mk (Kd.R_mono (ok' := fun k_ => True) ho0 (fun k_ hk_ => trivial)); have n6_ := Aside0.mk (hb); clear BK173; clear BK174; clear BK208; clear HO211; clear HO223; clear HB; clear HO220; have BK173 := n0_; have BK174 := n1_; have BK208 := n2_; have HO211 := n3_; have HO223 := n4_; have HO226 := n5_; have HB := n6_; clear n0_ n1_ n2_ n3_ n4_ n5_ n6_; (try clear hb); (try clear hkp); (try clear ho0); obtain ⟨Ao124, co124, eo124⟩ := Kd.R_slice HO226.out; subst eo124; have hcz125_0 : w123.cell? ⟨gb174, 0, none⟩ = some (.slice Ao116 t218.length co116) := (blk_cell BK174.out 0).trans rfl; have hfz125_0 := blk_frozen BK174.out 0))
      go_roundg k1
      case measure => have := HK1.out; omega
      case rel => exact ⟨(wrap64 (x36_1 + 1)), (t224), (.slice Ao124 t224.length co124), rs_, H', ⟨by have := HK1.out; omega⟩, ⟨by (with_reducible repeat (first | apply Kd.R_alloc | apply Kd.R_drewN | apply Kd.R_drew)); exact Kd.R_mono (Kd.R_far (p := ⟨gb174, 0, none⟩) (Kd.R_types HO226.out BK174.out (by decide)) (fun _ hk => hk.2) (.slice Ao124 t224.length co124)) (fun _ hk => trivial)⟩, ⟨by (with_reducible repeat (first | refine blk_drewN ?_ _ | refine blk_drew ?_ | refine blk_alloc ?_ _)); refine blk_far ?_ NB173_174.out _; (with_reducible repeat (first | refine blk_drewN ?_ _ | refine blk_drew ?_ | refine blk_alloc ?_ _)); exact BK173.out⟩, ⟨by (with_reducible repeat (first | refine blk_drewN ?_ _ | refine blk_drew ?_ | refine blk_alloc ?_ _)); refine blk_put (cs := #[.slice Ao116 t218.length co116]) ?_ 0 _ rfl; (with_reducible repeat (first | refine blk_drewN ?_ _ | refine blk_drew ?_ | refine blk_alloc ?_ _)); exact BK174.out⟩, ⟨bel⟩⟩
     rw [if_neg c93] at H
     exact absurd H (by simp)
    rw [if_neg c92] at H
    exact absurd H (by simp)
   rw [if_neg c91] at H
   have c91b0 : decide (x36_1 < (l0_6.length : Int)) = false := decide_eq_false c91
   clear c91
   obtain rfl := Option.some.inj H
   have hnb126 := NB174_173.out
   have hnc126 := NB173_174.out
   have hcz127_0 : wr.cell? ⟨gb174, 0, none⟩ = some (u175000) := (blk_cell BK174.out 0).trans rfl
   have hfz127_0 := blk_frozen BK174.out 0
   go_wp2
   go_ret
   exact ⟨_, rz_, by (with_reducible repeat (first | apply Kd.R_alloc | apply Kd.R_drewN | apply Kd.R_drew)); exact HO_175000.out, bel⟩

/-! ### impl_MsgBytes: function 26 -/
def impl_MsgBytes.f (k : Nat) (a0_0 : Int) (a0_1 : Int) (a0_2 : Int) (a0_3 : Int) (a0_4 : Int) (a0_5 : Int) (l0_6 : List (S147)) (a0_7 : Int) (a0_8 : Bool) : Option (List Int × Bool) := (impl_MsgOk.f k a0_0 a0_1 a0_2 a0_3 a0_4 a0_5 l0_6 a0_7 a0_8).bind fun t228 => (if t228 = true then ((impl_msgBytes.f k a0_0 a0_1 a0_2 a0_3 a0_4 a0_5 l0_6 a0_7 a0_8).bind fun t229 => (some (t229, true))) else (some (([] : List Int), false)))
set_option maxHeartbeats 8000000 in
set_option maxRecDepth 100000 in
theorem impl_MsgBytes.calls (k : Nat) (a0_0 : Int) (a0_1 : Int) (a0_2 : Int) (a0_3 : Int) (a0_4 : Int) (a0_5 : Int) (A0_6 : Option Addr) (c0_6 : Nat) (l0_6 : List (S147)) (a0_7 : Int) (a0_8 : Bool) (r1 : List Int) (r2 : Bool) (w : World) (hr0_6 : Kd.C k147 w A0_6 l0_6.length l0_6) (hc0_6 : l0_6.length ≤ c0_6) (h : impl_MsgBytes.f k a0_0 a0_1 a0_2 a0_3 a0_4 a0_5 l0_6 a0_7 a0_8 = some (r1, r2)) :
  Calls Try.prog 26 #[.agg #[.int .i64 a0_0, .int .i64 a0_1, .int .i64 a0_2, .int .i64 a0_3, .int .i64 a0_4, .int .i64 a0_5, .slice A0_6 l0_6.length c0_6, .int .i64 a0_7, .bool a0_8]] w fun e w' => ∃ v0_ : Value, e = .returned (.tuple #[v0_, .bool r2]) ∧ Kd.R (Kd.int .u8) 5 w' w.heap.size (fun _ => True) v0_ r1 ∧ Below w.heap.size w w' := by
 have hu54 := Try.underlying54
 have HR0_6 := Aside0.mk hr0_6
 have HC0_6 := Aside0.mk hc0_6
 clear hr0_6 hc0_6
 have HB := Aside0.mk (Below.refl w.heap.size w)
 have H : ((impl_MsgOk.f k a0_0 a0_1 a0_2 a0_3 a0_4 a0_5 l0_6 a0_7 a0_8).bind fun t228 => (if t228 = true then ((impl_msgBytes.f k a0_0 a0_1 a0_2 a0_3 a0_4 a0_5 l0_6 a0_7 a0_8).bind fun t229 => (some (t229, true))) else (some (([] : List Int), false)))) = some (r1, r2) := h
 clear h
 replace H := Option.bind_eq_some_iff.mp H
 obtain ⟨t228, A20, H⟩ := H
 replace H : (if t228 = true then ((impl_msgBytes.f k a0_0 a0_1 a0_2 a0_3 a0_4 a0_5 l0_6 a0_7 a0_8).bind fun t229 => (some (t229, true))) else (some (([] : List Int), false))) = some (r1, r2) := H
 have A2 := Aside0.mk A20
 clear A20
 by_cases c3 : t228 = true
 ·subst c3
  have H1 : ((impl_msgBytes.f k a0_0 a0_1 a0_2 a0_3 a0_4 a0_5 l0_6 a0_7 a0_8).bind fun t229 => (some (t229, true))) = some (r1, r2) := by rw [if_pos rfl] at H; exact H
  clear H
  have H := H1
  clear H1
  replace H := Option.bind_eq_some_iff.mp H
  obtain ⟨t229, A40, H⟩ := H
  replace H : (some (t229, true)) = some (r1, r2) := H
  have A4 := Aside0.mk A40
  clear A40
  simp only [Option.some.injEq, Prod.mk.injEq] at H
  obtain ⟨rfl, rfl⟩ := H
  go_enter Try.func26, Try.ntmps26
  go_wp2_with (first | ((with_reducible refine gate_dst (N := 1) rfl ?_); refine bx_ 1 #[.int .i64 a0_0, .int .i64 a0_1, .int .i64 a0_2, .int .i64 a0_3, .int .i64 a0_4, .int .i64 a0_5, .slice A0_6 l0_6.length c0_6, .int .i64 a0_7, .bool a0_8] 54 (h := ?_); intro gb227 hg w5 hbox hb; have BK227 := Aside0.mk (hbox); have GW227 := Aside0.mk ((by rw [hg]; exact (below_size bel) : w.heap.size ≤ gb227)); have GE227 := GW227; replace HB := Aside0.mk (below_step bel hb); clear hb hbox hg; obtain ⟨hcz6_0, hcz6_1, hcz6_2, hcz6_3, hcz6_4, hcz6_5, hcz6_6, hcz6_7, hcz6_8, -⟩ := cells_9 BK227.out trivial; obtain ⟨hfz6_0, hfz6_1, hfz6_2, hfz6_3, hfz6_4, hfz6_5, hfz6_6, hfz6_7, hfz6_8, -⟩ := frz_9 BK227.out) | ((with_reducible refine gate_callee (f := 28) rfl ?_); refine gl_ (some 5) Try.func28 #[.agg #[.int .i64 a0_0, .int .i64 a0_1, .int .i64 a0_2, .int .i64 a0_3, .int .i64 a0_4, .int .i64 a0_5, .slice A0_6 l0_6.length c0_6, .int .i64 a0_7, .bool a0_8]] (h := ?_); (with_reducible refine (impl_MsgOk.calls k a0_0 a0_1 a0_2 a0_3 a0_4 a0_5 _ _ l0_6 a0_7 a0_8 true _ ?side1 ?side2 A2.out).mono ?_); (case side1 => exact kcb); (case side2 => exact HC0_6.out); rintro e w7 ⟨rfl, hb⟩; refine ⟨_, rfl, ?_⟩; replace BK227 := Aside0.mk (blb BK227 hb); replace HB := Aside0.mk (below_step bel hb); (try clear hb); (try clear hb2); (try clear hk); (try clear hi); obtain ⟨hcz8_0, hcz8_1, hcz8_2, hcz8_3, hcz8_4, hcz8_5, hcz8_6, hcz8_7, hcz8_8, -⟩ := cells_9 BK227.out trivial; obtain ⟨hfz8_0, hfz8_1, hfz8_2, hfz8_3, hfz8_4, hfz8_5, hfz8_6, hfz8_7, hfz8_8, -⟩ := frz_9 BK227.out) | ((with_reducible refine gate_callee (f := 106) rfl ?_); refine gl_ (some 8) Try.func106 #[.agg #[.int .i64 a0_0, .int .i64 a0_1, .int .i64 a0_2, .int .i64 a0_3, .int .i64 a0_4, .int .i64 a0_5, .slice A0_6 l0_6.length c0_6, .int .i64 a0_7, .bool a0_8]] (h := ?_); (with_reducible refine (impl_msgBytes.calls k a0_0 a0_1 a0_2 a0_3 a0_4 a0_5 _ _ l0_6 a0_7 a0_8 t229 _ ?side1 ?side2 A4.out).mono ?_); (case side1 => exact kcb); (case side2 => exact HC0_6.out); rintro e w9 ⟨v230, rfl, ho0, hb⟩; refine ⟨_, rfl, ?_⟩; have HO231 := Aside0.mk (Kd.R_lower ho0 (below_size bel)); replace BK227 := Aside0.mk (blb BK227 hb); replace HB := Aside0.mk (below_step bel hb); (try clear hb); (try clear hb2); (try clear hk); (try clear hi); (try clear ho0)))
  go_ret2
  exact ⟨_, rz_, by (with_reducible repeat (first | apply Kd.R_alloc | apply Kd.R_drewN | apply Kd.R_drew)); exact HO231.out, bel⟩
 replace c3 := Bool.eq_false_iff.mpr c3
 subst c3
 have H1 : (some (([] : List Int), false)) = some (r1, r2) := by rw [if_neg (show ¬ (false = true) by decide)] at H; exact H
 clear H
 have H := H1
 clear H1
 simp only [Option.some.injEq, Prod.mk.injEq] at H
 obtain ⟨rfl, rfl⟩ := H
 go_enter Try.func26, Try.ntmps26
 go_wp2_with (first | ((with_reducible refine gate_dst (N := 1) rfl ?_); refine bx_ 1 #[.int .i64 a0_0, .int .i64 a0_1, .int .i64 a0_2, .int .i64 a0_3, .int .i64 a0_4, .int .i64 a0_5, .slice A0_6 l0_6.length c0_6, .int .i64 a0_7, .bool a0_8] 54 (h := ?_); intro gb227 hg w10 hbox hb; have BK227 := Aside0.mk (hbox); have GW227 := Aside0.mk ((by rw [hg]; exact (below_size bel) : w.heap.size ≤ gb227)); have GE227 := GW227; replace HB := Aside0.mk (below_step bel hb); clear hb hbox hg; obtain ⟨hcz11_0, hcz11_1, hcz11_2, hcz11_3, hcz11_4, hcz11_5, hcz11_6, hcz11_7, hcz11_8, -⟩ := cells_9 BK227.out trivial; obtain ⟨hfz11_0, hfz11_1, hfz11_2, hfz11_3, hfz11_4, hfz11_5, hfz11_6, hfz11_7, hfz11_8, -⟩ := frz_9 BK227.out) | ((with_reducible refine gate_callee (f := 28) rfl ?_); refine gl_ (some 5) Try.func28 #[.agg #[.int .i64 a0_0, .int .i64 a0_1, .int .i64 a0_2, .int .i64 a0_3, .int .i64 a0_4, .int .i64 a0_5, .slice A0_6 l0_6.length c0_6, .int .i64 a0_7, .bool a0_8]] (h := ?_); (with_reducible refine (impl_MsgOk.calls k a0_0 a0_1 a0_2 a0_3 a0_4 a0_5 _ _ l0_6 a0_7 a0_8 false _ ?side1 ?side2 A2.out).mono ?_); (case side1 => exact kcb); (case side2 => exact HC0_6.out); rintro e w12 ⟨rfl, hb⟩; refine ⟨_, rfl, ?_⟩; replace BK227 := Aside0.mk (blb BK227 hb); replace HB := Aside0.mk (below_step bel hb); (try clear hb); (try clear hb2); (try clear hk); (try clear hi)))
 go_ret2
 exact ⟨_, rz_, by first | exact Kd.R_nil _ _ _ _ _ | exact Kd.N_nil _ _ _ _ _ | exact Kd.V_nil _ _ _ _ _ | exact Kd.Q_nil _ _ _ _ _ | exact Kd.S_nil _ _ _ _ _, bel⟩

/-! ### laws_szByteS: function 182 -/
def laws_szByteS.f (l0 : List Int) (a1 : Int) : Option (Int) := if (wrap64 (a1 - (l0.length : Int))) < 0 then (some (-1)) else (some (wrap64 (a1 - (l0.length : Int))))
set_option maxHeartbeats 8000000 in
set_option maxRecDepth 100000 in
theorem laws_szByteS.calls (A0 : Option Addr) (c0 : Nat) (l0 : List Int) (a1 : Int) (r : Int) (w : World) (hr0 : Kd.C (Kd.int .u8) w A0 l0.length l0) (hc0 : l0.length ≤ c0) (h : laws_szByteS.f l0 a1 = some r) :
  Calls Try.prog 182 #[.slice A0 l0.length c0, .int .i64 a1] w fun e w' => e = .returned (.int .i64 r) ∧ Drawn0 w w' := by
 have HR0 := Aside0.mk hr0
 have HC0 := Aside0.mk hc0
 clear hr0 hc0
 have H : (if (wrap64 (a1 - (l0.length : Int))) < 0 then (some (-1)) else (some (wrap64 (a1 - (l0.length : Int))))) = some r := h
 clear h
 by_cases c3 : (wrap64 (a1 - (l0.length : Int))) < 0
 ·rw [if_pos c3] at H
  have c3b0 : decide ((wrap64 (a1 - (l0.length : Int))) < 0) = true := decide_eq_true c3
  clear c3
  obtain rfl := Option.some.inj H
  go_enter Try.func182, Try.ntmps182
  go_wp2
  go_ret
  exact ⟨by first | rfl | (simp; done) | (simp [*]; done), by repeat (first | exact Drawn0.refl _ | apply Drawn0.step)⟩
 rw [if_neg c3] at H
 have c3b0 : decide ((wrap64 (a1 - (l0.length : Int))) < 0) = false := decide_eq_false c3
 clear c3
 obtain rfl := Option.some.inj H
 go_enter Try.func182, Try.ntmps182
 go_wp2
 go_ret
 exact ⟨by first | rfl | (simp; done) | (simp [*]; done), by repeat (first | exact Drawn0.refl _ | apply Drawn0.step)⟩

end Go.Proofs.Ytdgegnakiljfjaa.PM
