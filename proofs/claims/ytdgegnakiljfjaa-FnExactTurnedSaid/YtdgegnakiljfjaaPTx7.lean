-- Written for this claim by the session's program pp.py, out of the kit's print and the seat's translation.
import Derived.Test.YtdgegnakiljfjaaPTx0
import Derived.Test.YtdgegnakiljfjaaPTx2
import Derived.Test.YtdgegnakiljfjaaPTx6
namespace Go.Proofs.Ytdgegnakiljfjaa.PT
open Go.RowKit Go.Proofs.YtdgegnakiljfjaaW.PrintWords Go.Proofs.YtdgegnakiljfjaaW.PrintLast Go.Proofs.YtdgegnakiljfjaaW.PrintMore
attribute [local go_sem] max2_int min2_int max_two min_two max_three min_three max_four min_four   -- for this text's walks alone
set_option linter.unusedVariables false
set_option linter.unusedSimpArgs false

/-! ### slices_Clone_byte_byte: function 128 -/
def slices_Clone_byte_byte.f (l0 : List Int) : Option (List Int) := if l0.length < 140737488355328 then some l0 else none
set_option maxHeartbeats 8000000 in
set_option maxRecDepth 100000 in
theorem slices_Clone_byte_byte.calls (A0 : Option Addr) (c0 : Nat) (l0 : List Int) (r : List Int) (w : World) (hr0 : Kd.C (Kd.int .u8) w A0 l0.length l0) (hc0 : l0.length ≤ c0) (h : slices_Clone_byte_byte.f l0 = some r) :
  Calls Try.prog 128 #[.slice A0 l0.length c0] w fun e w' => ∃ v0_ : Value, e = .returned (v0_) ∧ Kd.R (Kd.int .u8) 5 w' w.heap.size (fun _ => True) v0_ r ∧ Below w.heap.size w w' := by
 unfold slices_Clone_byte_byte.f at h
 by_cases hl : l0.length < 140737488355328
 ·rw [if_pos hl] at h
  obtain rfl := Option.some.inj h
  clear h
  have LM := Aside0.mk hl
  clear hl
  have HB := Aside0.mk (Below.refl w.heap.size w)
  cases A0 with
  | none =>
   have hz : l0.length = 0 := by
    rcases Nat.eq_zero_or_pos l0.length with h | h
    ·exact h
    ·obtain ⟨ad, e, _⟩ := hr0.2.2 h
     cases e
   obtain rfl := List.eq_nil_of_length_eq_zero hz
   clear hr0 hc0 hz LM
   have hq := Lib.run_eql_slice_nil (P := Try.prog) w 52 5 none 0 c0 0 0 Try.underlying52
   go_enter Try.func128, Try.ntmps128
   go_wp2
   go_ret
   exact ⟨_, rfl, Kd.R_nil _ _ _ _ _, Below.refl _ _⟩
  | some ad =>
   have HR0 := Aside0.mk hr0
   have HC0 := Aside0.mk hc0
   clear hr0 hc0
   obtain ⟨m, hm⟩ : ∃ m, m = l0.length := ⟨_, rfl⟩
   have HM := Aside0.mk hm
   have hq := Lib.run_eql_slice_nil (P := Try.prog) w 52 5 (some ad) l0.length c0 0 0 Try.underlying52
   go_enter Try.func128, Try.ntmps128
   go_wp2_with (first | ((with_reducible refine gate_dst (N := 5) rfl ?_); refine Kd.R_lit (Kd.int .u8) _ 5 ?hg (N := 5) ?hd (xs := ([] : List Int)) (inner := []) (ok := fun _ => True) (okp := fun _ => True) ?hr ?hp (fun _ hk => hk) trivial (Below.refl _ _) (Nat.le_refl _) (by simp) ?_; (case hd => rfl); (case hg => rfl); (case hr => first | (go_simp; done) | (go_simp; rfl)); (case hp => exact (Reps.none _ _)); intro v111 w5 ho6 hb hg_ hnew_; clear hg_ hnew_; have HO112 := Aside0.mk ho6; have n1_ := Aside0.mk (below_step (by repeat (first | (with_reducible first | exact HB.out | apply below_alloc | apply pw_below_drewN | apply below_drew1) | exact HB.out)) hb); clear HB; have HB := n1_; clear n1_; clear hb ho6) | ((with_reducible refine gate_builtin (b := .append) (xs := #[.tmp 5, .tmp 6]) rfl ?_); at_builtin; refine Kd.R_append_rows (Kd.int .u8) (w0 := w) w.heap.size rfl (.tmp 5) (.tmp 6) 52 5 (.int .u8 0) 1 rfl Try.underlying52 info5 rfl (by decide) (by omega) v111 [] l0 _ _ _ (fun _ => True) (fun _ => False) rfl rfl ?aO ?aR (fun _ _ h => h) (fun _ h => h.elim) ?aF ?aB ?aS ?aL ?_; (case aR => repeat (first | exact (Kd.C_below HR0.out HB.out) | (with_reducible refine Kd.C_alloc ?_ _) | (with_reducible refine Kd.C_drewN ?_ _) | (with_reducible refine Kd.C_drew ?_))); (case aB => exact (by repeat (first | (with_reducible first | exact HB.out | apply below_alloc | apply pw_below_drewN | apply below_drew1) | exact HB.out))); (case aF => exact (fun _ _ => trivial)); (case aO => exact (rkp HO112)); (case aS => exact (below_size (by repeat (first | (with_reducible first | exact HB.out | apply below_alloc | apply pw_below_drewN | apply below_drew1) | exact HB.out)))); (case aL => have := LM.out; simp; omega); intro v114 w7 ho hb hg hat; have n0_ := Aside0.mk (hb); have n1_ := Aside0.mk (ho); clear HB; clear HO112; have HB := n0_; have HO115 := n1_; clear n0_ n1_; clear ho hb hg hat))
   go_ret
   exact ⟨_, rfl, Kd.R_lower HO115.out (Nat.le_refl _), HB.out⟩
 rw [if_neg hl] at h
 exact absurd h (by simp)

/-! ### virtual_asked_Turned: function 227 -/
theorem virtual_asked_Turned.glc_ {P : Program} {ops : Array Oper} {Q : Exit → Act → World → Prop} {rest : List Oper} {oi : Oper} {a : Act} {w : World} (N : Option Tmp) {f : FuncId} {fn : Func} (hf : P.funcs[f]? = some fn) (args : Array Value) {c : Value} {q : Tmp} {ar : Array Operand} {ts : Array TypeId} (hd : oi.dst = N := by exact rfl) (hg : oi.guard = none := by exact rfl) (hname : (fn.name == "runtime.NumGoroutine") = false := by kernel_rfl) (hb : fn.body.isSome = true := by exact rfl)
  (hop : oi.op = .call { callee := .value (.tmp q), args := ar, argTypes := ts } := by exact rfl) (hv : a.eval (.tmp q) = .func (.func f) #[] #[c] := by rfl) (hargs : ar.map a.eval ++ #[c] = args := by ((try simp only [List.map_toArray, List.map_cons, List.map_nil]); first | done | rfl | (simp only [List.length_drop, List.length_take]; rfl)))
  (h : Calls P f args w fun e w' => ∃ v, e = .returned v ∧ wpList P ops Q rest (a.put N v) w') : wpList P ops Q (oi :: rest) a w := by
 refine wpList_plain hg fun K hK => ?_
 have he := enters_ hf hname hb args w
 have hrun : (execOp a.eval oi).run P w = .ok (.enter f args) w := by
  unfold execOp
  have hargs' : (ar.map a.eval).push c = args := by simpa using hargs
  simp [hop, resolve, Deferred.ofValue, invoke, hv, hargs', hargs, he]
 unfold Oper.wp
 rw [hrun, Oper.upon_enter]
 refine h.mono fun e w'' hh => ?_
 obtain ⟨v, rfl, hk⟩ := hh
 subst hd
 exact hK _ _ hk
def virtual_asked_Turned.f (a0 : List Int) (a1 : List Int) (a2 : Int) (a3 : Int) (id : Int) : Option Bool := some (decide (a2 > id))
set_option maxHeartbeats 4000000 in
theorem virtual_asked_Turned.calls (A0 : Option Addr) (c0 : Nat) (l0 : List Int) (A1 : Option Addr) (c1 : Nat) (l1 : List Int) (a2 a3 id : Int) (r : Bool) (w : World) (gcap : Nat) (hcap : w.cell? ⟨gcap, 0, none⟩ = some (.int .i64 id)) (hr0 : Kd.C (Kd.int .u8) w A0 l0.length l0) (hc0 : l0.length ≤ c0) (hr1 : Kd.C (Kd.int .u8) w A1 l1.length l1) (hc1 : l1.length ≤ c1) (h : virtual_asked_Turned.f l0 l1 a2 a3 id = some r) :
  Calls Try.prog 127 #[.agg #[.slice A0 l0.length c0, .slice A1 l1.length c1, .int .i64 a2, .int .i64 a3], .pointer (some ⟨gcap, 0, none⟩)] w fun e w' => e = .returned (.bool r) ∧ Below w.heap.size w w' := by
 obtain rfl := Option.some.inj h
 clear h hr0 hc0 hr1 hc1
 have hB : gcap < w.heap.size := World.block_lt_of_cell? w _ hcap
 have hne : gcap ≠ w.heap.size := by omega
 have hu := Try.underlying92
 go_enter Try.func127, Try.ntmps127
 go_wp2
 all_goals (go_ret; exact ⟨by first | (simp_all; done) | (simp_all; rfl), (Below.refl _ w).alloc (Nat.le_refl _) _⟩)

/-! ### impl_State_keys: function 126 -/
def impl_State_keys.l0 : Nat → Int → List (List Int) → List (S92) → Int → Int → Option ((List (List Int)))
 | 0, _, _, _, _, _ => none
 | k + 1, x1, x5, x9, x10, x11 => if x11 < x10 then (if 0 ≤ x11 then (if x11 < (x9.length : Int) then ((virtual_asked_Turned.f ((rd_T92 x9 x11).f0) ((rd_T92 x9 x11).f1) ((rd_T92 x9 x11).f2) ((rd_T92 x9 x11).f3) x1).bind fun t278 => (if t278 = true then ((slices_Clone_byte_byte.f ((rd_T92 x9 x11).f0)).bind fun t279 => (if x5.length < 5864062014805 then (impl_State_keys.l0 k x1 (x5 ++ [t279]) x9 x10 (wrap64 (x11 + 1))) else (none))) else (impl_State_keys.l0 k x1 x5 x9 x10 (wrap64 (x11 + 1))))) else (none)) else (none)) else (some x5)
def impl_State_keys.f (k : Nat) (a0_0 : Int) (l0_1 : List (S92)) (l0_2 : List (S94)) (a0_3 : Int) (l0_4 : List (S109)) (l0_5 : List (S75)) (a1 : Int) : Option ((List (List Int))) := impl_State_keys.l0 k a1 ([] : List (List Int)) l0_1 (l0_1.length : Int) 0
set_option maxHeartbeats 8000000 in
set_option maxRecDepth 100000 in
theorem impl_State_keys.calls (k : Nat) (a0_0 : Int) (A0_1 : Option Addr) (c0_1 : Nat) (l0_1 : List (S92)) (A0_2 : Option Addr) (c0_2 : Nat) (l0_2 : List (S94)) (a0_3 : Int) (A0_4 : Option Addr) (c0_4 : Nat) (l0_4 : List (S109)) (A0_5 : Option Addr) (c0_5 : Nat) (l0_5 : List (S75)) (a1 : Int) (r : List (List Int)) (w : World) (gcap : Nat) (hcap : w.cell? ⟨gcap, 0, none⟩ = some (.int .i64 a1)) (hr0_1 : Kd.C k92 w A0_1 l0_1.length l0_1) (hc0_1 : l0_1.length ≤ c0_1) (hr0_2 : Kd.C k94 w A0_2 l0_2.length l0_2) (hc0_2 : l0_2.length ≤ c0_2) (hr0_4 : Kd.C k109 w A0_4 l0_4.length l0_4) (hc0_4 : l0_4.length ≤ c0_4) (hr0_5 : Kd.C k75 w A0_5 l0_5.length l0_5) (hc0_5 : l0_5.length ≤ c0_5) (h : impl_State_keys.f k a0_0 l0_1 l0_2 a0_3 l0_4 l0_5 a1 = some r) :
  Calls Try.prog 126 #[.agg #[.int .i64 a0_0, .slice A0_1 l0_1.length c0_1, .slice A0_2 l0_2.length c0_2, .int .i64 a0_3, .slice A0_4 l0_4.length c0_4, .slice A0_5 l0_5.length c0_5], .func (.func 127) #[] #[.pointer (some ⟨gcap, 0, none⟩)]] w fun e w' => ∃ v0_ : Value, e = .returned (v0_) ∧ Kd.S (Kd.slice 5 (Kd.int .u8)) 52 w' w.heap.size (fun _ => True) v0_ r ∧ Below w.heap.size w w' := by
 have HCAP := Aside0.mk hcap
 clear hcap
 have hu35 := Try.underlying35
 have hu92 := Try.underlying92
 have HR0_1 := Aside0.mk hr0_1
 have HC0_1 := Aside0.mk hc0_1
 clear hr0_1 hc0_1
 have HR0_2 := Aside0.mk hr0_2
 have HC0_2 := Aside0.mk hc0_2
 clear hr0_2 hc0_2
 have HR0_4 := Aside0.mk hr0_4
 have HC0_4 := Aside0.mk hc0_4
 clear hr0_4 hc0_4
 have HR0_5 := Aside0.mk hr0_5
 have HC0_5 := Aside0.mk hc0_5
 clear hr0_5 hc0_5
 have HB := Aside0.mk (Below.refl w.heap.size w)
 have H : (impl_State_keys.l0 k a1 ([] : List (List Int)) l0_1 (l0_1.length : Int) 0) = some r := h
 clear h
 have H' := Aside0.mk H
 clear H
 go_enter Try.func126, Try.ntmps126
 go_wp2_with (first | ((with_reducible refine gate_dst (N := 2) rfl ?_); refine bx_ 2 #[.int .i64 a0_0, .slice A0_1 l0_1.length c0_1, .slice A0_2 l0_2.length c0_2, .int .i64 a0_3, .slice A0_4 l0_4.length c0_4, .slice A0_5 l0_5.length c0_5] 35 (h := ?_); intro gb275 hg w3 hbox hb; have BK275 := Aside0.mk (hbox); have GW275 := Aside0.mk ((by rw [hg]; exact (below_size bel) : w.heap.size ≤ gb275)); have GE275 := GW275; replace HB := bst hb; clear hb hbox hg; obtain ⟨C4_0, C4_1, C4_2, C4_3, C4_4, C4_5, -⟩ := cells_6 BK275.out trivial; obtain ⟨F4_0, F4_1, F4_2, F4_3, F4_4, F4_5, -⟩ := frz_6 BK275.out))
 go_loopg [5, 11] k (fun kq v5 v11 w' => ∃ (x5_1 : List (List Int)) (x11_1 : Int), v11 = .int .i64 x11_1 ∧ Aside0 (impl_State_keys.l0 kq a1 x5_1 l0_1 (l0_1.length : Int) x11_1 = some r) ∧ Aside0 (kq ≤ k) ∧ Aside0 (Kd.S (Kd.slice 5 (Kd.int .u8)) 52 w' w.heap.size (fun _ => True) v5 x5_1) ∧ Aside0 (w'.heap[gb275]? = some (.cells #[.int .i64 a0_0, (.slice A0_1 l0_1.length c0_1), (.slice A0_2 l0_2.length c0_2), .int .i64 a0_3, (.slice A0_4 l0_4.length c0_4), (.slice A0_5 l0_5.length c0_5)] 35 (0, 0))) ∧ Aside0 (Below w.heap.size w w'))
 case atStart => exact ⟨(([] : List (List Int))), (0), rs_, H', ⟨Nat.le_refl _⟩, ⟨by first | exact Kd.S_nil _ _ _ _ _ | exact Kd.N_nil _ _ _ _ _ | exact Kd.V_nil _ _ _ _ _ | exact Kd.Q_nil _ _ _ _ _ | exact Kd.R_nil _ _ _ _ _⟩, ⟨bkp BK275⟩, ⟨bel⟩⟩
 case round =>
  clear H'
  try clear c1; try clear p2; try clear C4_0 C4_1 C4_2 C4_3 C4_4 C4_5; try clear F4_0 F4_1 F4_2 F4_3 F4_4 F4_5
  obtain ⟨x5_1, x11_1, rfl, HA, HK1, HO_5, BK275, HB⟩ := hrel
  cases gk with
  | zero => exact absurd HA.out (by simp [impl_State_keys.l0])
  | succ k1 =>
   have H := HA.out
   clear HA
   simp only [impl_State_keys.l0] at H
   by_cases c5 : x11_1 < (l0_1.length : Int)
   ·rw [if_pos c5] at H
    have c5b0 : decide (x11_1 < (l0_1.length : Int)) = true := decide_eq_true c5
    clear c5
    by_cases c6 : 0 ≤ x11_1
    ·rw [if_pos c6] at H
     have c6b0 : decide (0 ≤ x11_1) = true := decide_eq_true c6
     clear c6
     by_cases c7 : x11_1 < (l0_1.length : Int)
     ·rw [if_pos c7] at H
      have c7b0 : decide (x11_1 < (l0_1.length : Int)) = true := decide_eq_true c7
      clear c7
      replace H := Option.bind_eq_some_iff.mp H
      obtain ⟨t278, A80, H⟩ := H
      replace H : (if t278 = true then ((slices_Clone_byte_byte.f ((rd_T92 l0_1 x11_1).f0)).bind fun t279 => (if x5_1.length < 5864062014805 then (impl_State_keys.l0 k1 a1 (x5_1 ++ [t279]) l0_1 (l0_1.length : Int) (wrap64 (x11_1 + 1))) else (none))) else (impl_State_keys.l0 k1 a1 x5_1 l0_1 (l0_1.length : Int) (wrap64 (x11_1 + 1)))) = some r := H
      have A8 := Aside0.mk A80
      clear A80
      by_cases c9 : t278 = true
      ·subst c9
       have H1 : ((slices_Clone_byte_byte.f ((rd_T92 l0_1 x11_1).f0)).bind fun t279 => (if x5_1.length < 5864062014805 then (impl_State_keys.l0 k1 a1 (x5_1 ++ [t279]) l0_1 (l0_1.length : Int) (wrap64 (x11_1 + 1))) else (none))) = some r := by rw [if_pos rfl] at H; exact H
       clear H
       have H := H1
       clear H1
       replace H := Option.bind_eq_some_iff.mp H
       obtain ⟨t279, A100, H⟩ := H
       replace H : (if x5_1.length < 5864062014805 then (impl_State_keys.l0 k1 a1 (x5_1 ++ [t279]) l0_1 (l0_1.length : Int) (wrap64 (x11_1 + 1))) else (none)) = some r := H
       have A10 := Aside0.mk A100
       clear A100
       by_cases c11 : x5_1.length < 5864062014805
       ·rw [if_pos c11] at H
        have LMc11 := Aside0.mk c11
        clear c11
        obtain ⟨y282, hy282⟩ : ∃ y_ : List (List Int), y_ = (x5_1 ++ [t279]) := ⟨_, rfl⟩
        replace H : (impl_State_keys.l0 k1 a1 y282 l0_1 (l0_1.length : Int) (wrap64 (x11_1 + 1))) = some r := by first | (rw [hy282]; with_reducible exact H) | (have H2_ := (Option.bind_some _ _).symm.trans H; rw [hy282]; with_reducible exact H2_) | (have H2_ := (Option.bind_some _ _).symm.trans H; with_reducible exact H2_) | with_reducible exact H | (rw [hy282]; exact H) | exact H
        have Ny282 := Aside0.mk hy282
        clear hy282
        have H' := Aside0.mk H
        clear H
        have p276 : 0 ≤ (x11_1 : Int) := od
        have q276 : x11_1 < (l0_1.length : Int) := od
        obtain ⟨ad276, A276_0, c276_0, A276_1, c276_1, e276, hx276_0, hx276_1, hx276_2, hx276_3, hl276_0, hi276_0, hl276_1, hi276_1⟩ := at_T92 HR0_1.out x11_1 p276 q276
        cases e276
        replace hx276_0 := hxb HB hx276_0
        replace hx276_1 := hxb HB hx276_1
        replace hx276_2 := hxb HB hx276_2
        replace hx276_3 := hxb HB hx276_3
        have HR276_0 := Aside0.mk hi276_0
        have HC276_0 := Aside0.mk hl276_0
        clear hi276_0 hl276_0
        have HR276_1 := Aside0.mk hi276_1
        have HC276_1 := Aside0.mk hl276_1
        clear hi276_1 hl276_1
        replace p276 := eq_true p276
        replace q276 := eq_true q276
        go_wp2_with (first | ((with_reducible refine gate_dst (N := 7) rfl ?_); refine bx_ 7 #[.slice none 0 0, .slice none 0 0, .int .i64 0, .int .i64 0] 92 (h := ?_); intro gb277 hg w12 hbox hb; have BK277 := Aside0.mk (hbox); have GW277 := Aside0.mk ((by rw [hg]; exact (below_size bel) : w.heap.size ≤ gb277)); have GE277 := GW277; have NB275_277 := Aside0.mk ((by rw [hg]; exact Nat.ne_of_lt (blt BK275) : gb275 ≠ gb277)); have NB277_275 := Aside0.mk NB275_277.out.symm; replace HO_5 := Aside0.mk (Kd.S_below (skp HO_5) hb); replace BK275 := Aside0.mk (blb BK275 hb); replace HB := bst hb; clear hb hbox hg; have hnb13 := NB277_275.out; have hnc13 := NB275_277.out; obtain ⟨C14_0, C14_1, C14_2, C14_3, -⟩ := cells_4 BK277.out trivial; obtain ⟨F14_0, F14_1, F14_2, F14_3, -⟩ := frz_4 BK277.out) | ((with_reducible refine gate_dst (N := 17) rfl ?_); refine virtual_asked_Turned.glc_ (some 17) Try.func127 #[.agg #[.slice A276_0 ((rd_T92 l0_1 x11_1).f0).length c276_0, .slice A276_1 ((rd_T92 l0_1 x11_1).f1).length c276_1, .int .i64 ((rd_T92 l0_1 x11_1).f2), .int .i64 ((rd_T92 l0_1 x11_1).f3)], .pointer (some ⟨gcap, 0, none⟩)] (c := .pointer (some ⟨gcap, 0, none⟩)) (h := ?_); (with_reducible refine (virtual_asked_Turned.calls _ _ ((rd_T92 l0_1 x11_1).f0) _ _ ((rd_T92 l0_1 x11_1).f1) ((rd_T92 l0_1 x11_1).f2) ((rd_T92 l0_1 x11_1).f3) a1 true _ gcap ?sideK ?side1 ?side2 ?side3 ?side4 A8.out).mono ?_); (case sideK => exact ((bel : Below w.heap.size w _).cell (World.block_lt_of_cell? w _ HCAP.out)).trans HCAP.out); (case side1 => exact Kd.C_below HR276_0.out bel); (case side2 => exact HC276_0.out); (case side3 => exact Kd.C_below HR276_1.out bel); (case side4 => exact HC276_1.out); rintro e w15 ⟨rfl, hb⟩; refine ⟨_, rfl, ?_⟩; replace HO_5 := Aside0.mk (Kd.S_below (by (with_reducible repeat (first | apply Kd.S_alloc | apply Kd.S_drewN | apply Kd.S_drew)); exact (Kd.S_mono (Kd.S_far (p := ⟨gb277, 3, none⟩) (Kd.S_far (p := ⟨gb277, 2, none⟩) (Kd.S_far (p := ⟨gb277, 1, none⟩) (Kd.S_far (p := ⟨gb277, 0, none⟩) (Kd.S_types HO_5.out BK277.out (by decide)) (fun _ hk => hk.2) (.slice A276_0 ((rd_T92 l0_1 x11_1).f0).length c276_0)) (fun _ hk => hk.2) (.slice A276_1 ((rd_T92 l0_1 x11_1).f1).length c276_1)) (fun _ hk => hk.2) (.int .i64 ((rd_T92 l0_1 x11_1).f2))) (fun _ hk => hk.2) (.int .i64 ((rd_T92 l0_1 x11_1).f3))) (fun _ h_ => h_.1))) hb); replace BK275 := Aside0.mk (blk_below (g := gb275) (o := .cells #[.int .i64 a0_0, .slice (some ad276) l0_1.length c0_1, .slice A0_2 l0_2.length c0_2, .int .i64 a0_3, .slice A0_4 l0_4.length c0_4, .slice A0_5 l0_5.length c0_5] 35 (0, 0)) (by (with_reducible repeat (first | refine blk_drewN ?_ _ | refine blk_drew ?_ | refine blk_alloc ?_ _)); refine blk_far ?_ NB275_277.out _; (with_reducible repeat (first | refine blk_drewN ?_ _ | refine blk_drew ?_ | refine blk_alloc ?_ _)); refine blk_far ?_ NB275_277.out _; (with_reducible repeat (first | refine blk_drewN ?_ _ | refine blk_drew ?_ | refine blk_alloc ?_ _)); refine blk_far ?_ NB275_277.out _; (with_reducible repeat (first | refine blk_drewN ?_ _ | refine blk_drew ?_ | refine blk_alloc ?_ _)); refine blk_far ?_ NB275_277.out _; (with_reducible repeat (first | refine blk_drewN ?_ _ | refine blk_drew ?_ | refine blk_alloc ?_ _)); exact BK275.out) hb); replace BK277 := Aside0.mk (blk_below (g := gb277) (o := .cells #[.slice A276_0 ((rd_T92 l0_1 x11_1).f0).length c276_0, .slice A276_1 ((rd_T92 l0_1 x11_1).f1).length c276_1, .int .i64 ((rd_T92 l0_1 x11_1).f2), .int .i64 ((rd_T92 l0_1 x11_1).f3)] 92 (0, 0)) (by (with_reducible repeat (first | refine blk_drewN ?_ _ | refine blk_drew ?_ | refine blk_alloc ?_ _)); refine blk_put (cs := #[.slice A276_0 ((rd_T92 l0_1 x11_1).f0).length c276_0, .slice A276_1 ((rd_T92 l0_1 x11_1).f1).length c276_1, .int .i64 ((rd_T92 l0_1 x11_1).f2), .int .i64 0]) ?_ 3 _ rfl; (with_reducible repeat (first | refine blk_drewN ?_ _ | refine blk_drew ?_ | refine blk_alloc ?_ _)); refine blk_put (cs := #[.slice A276_0 ((rd_T92 l0_1 x11_1).f0).length c276_0, .slice A276_1 ((rd_T92 l0_1 x11_1).f1).length c276_1, .int .i64 0, .int .i64 0]) ?_ 2 _ rfl; (with_reducible repeat (first | refine blk_drewN ?_ _ | refine blk_drew ?_ | refine blk_alloc ?_ _)); refine blk_put (cs := #[.slice A276_0 ((rd_T92 l0_1 x11_1).f0).length c276_0, .slice none 0 0, .int .i64 0, .int .i64 0]) ?_ 1 _ rfl; (with_reducible repeat (first | refine blk_drewN ?_ _ | refine blk_drew ?_ | refine blk_alloc ?_ _)); refine blk_put (cs := #[.slice none 0 0, .slice none 0 0, .int .i64 0, .int .i64 0]) ?_ 0 _ rfl; (with_reducible repeat (first | refine blk_drewN ?_ _ | refine blk_drew ?_ | refine blk_alloc ?_ _)); exact BK277.out) hb); replace HB := bst hb; (try clear hb); (try clear hb2); (try clear hk); (try clear hi); have C16_0 : w15.cell? ⟨gb277, 0, none⟩ = some (.slice A276_0 ((rd_T92 l0_1 x11_1).f0).length c276_0) := (blk_cell BK277.out 0).trans rfl; have C16_1 : w15.cell? ⟨gb277, 1, none⟩ = some (.slice A276_1 ((rd_T92 l0_1 x11_1).f1).length c276_1) := (blk_cell BK277.out 1).trans rfl; have C16_2 : w15.cell? ⟨gb277, 2, none⟩ = some (.int .i64 ((rd_T92 l0_1 x11_1).f2)) := (blk_cell BK277.out 2).trans rfl; have C16_3 : w15.cell? ⟨gb277, 3, none⟩ = some (.int .i64 ((rd_T92 l0_1 x11_1).f3)) := (blk_cell BK277.out 3).trans rfl; obtain ⟨F16_0, F16_1, F16_2, F16_3, -⟩ := frz_4 BK277.out) | ((with_reducible refine gate_callee (f := 128) rfl ?_); refine gl_ (some 21) Try.func128 #[.slice A276_0 ((rd_T92 l0_1 x11_1).f0).length c276_0] (h := ?_); (with_reducible refine (slices_Clone_byte_byte.calls _ _ ((rd_T92 l0_1 x11_1).f0) t279 _ ?side1 ?side2 A10.out).mono ?_); (case side1 => exact kcb); (case side2 => exact HC276_0.out); rintro e w17 ⟨v280, rfl, ho0, hb⟩; refine ⟨_, rfl, ?_⟩; have HO281 := Aside0.mk (Kd.R_lower ho0 (below_size bel)); replace HO_5 := Aside0.mk (Kd.S_elder' (skp HO_5) (Kd.R_base ho0) hb); replace BK275 := Aside0.mk (blb BK275 hb); replace BK277 := Aside0.mk (blb BK277 hb); replace HB := bst hb; (try clear hb); (try clear hb2); (try clear hk); (try clear hi); (try clear ho0); obtain ⟨Ao19, co19, eo19⟩ := Kd.R_slice HO281.out; subst eo19) | ((with_reducible refine gate_builtin (b := .append) (xs := #[.tmp 18, .tmp 22]) rfl ?_); at_builtin; refine Kd.S_append (Kd.slice 5 (Kd.int .u8)) (w0 := w) w.heap.size rfl (.tmp 18) (.tmp 22) 84 52 (.slice none 0 0) 24 rfl Try.underlying84 info52 rfl (by decide) (by omega) u5 x5_1 t279 [.slice Ao19 t279.length co19] (fun _ => True) (fun k_ => some k_ = (.slice Ao19 t279.length co19 : Value).ownBlock) rfl rfl ?aP (fun k_ hk_ => ((Kd.R_mono (ok' := fun k_ => ((fun _ => True)) k_ ∧ some k_ ≠ (u5 : Value).ownBlock) (Kd.R_apart' (HO281.out) (Kd.S_typed HO_5.out) (by decide)) (fun k_ hk => ⟨trivial, hk.2⟩))).1 k_ hk_.symm) ?aF ?aO ?aB ?aS ?aL ?_; (case aP => exact Kd.M_row (Kd.R_mono (Kd.R_tight rfl (Kd.R_mono (ok' := fun k_ => ((fun _ => True)) k_ ∧ some k_ ≠ (u5 : Value).ownBlock) (Kd.R_apart' (HO281.out) (Kd.S_typed HO_5.out) (by decide)) (fun k_ hk => ⟨trivial, hk.2⟩))) (fun _ h_ => h_))); (case aB => exact bel); (case aF => exact (fun _ _ => trivial)); (case aO => exact (by (with_reducible repeat (first | apply Kd.S_alloc | apply Kd.S_drewN | apply Kd.S_drew)); exact Kd.S_mono HO_5.out (fun k_ hk => ⟨trivial, fun e_ => hk.2 e_⟩))); (case aS => exact (below_size bel)); (case aL => have := LMc11.out; omega); intro v283 w18 ho hb hg hat; rw [← Ny282.out] at ho; have n0_ := Aside0.mk (blk_grown (g := gb275) (o := .cells #[.int .i64 a0_0, .slice (some ad276) l0_1.length c0_1, .slice A0_2 l0_2.length c0_2, .int .i64 a0_3, .slice A0_4 l0_4.length c0_4, .slice A0_5 l0_5.length c0_5] 35 (0, 0)) (bkp BK275) hg (Kd.S_ne HO_5.out BK275.out (by decide))); have n1_ := Aside0.mk (blk_grown (g := gb277) (o := .cells #[.slice A276_0 ((rd_T92 l0_1 x11_1).f0).length c276_0, .slice A276_1 ((rd_T92 l0_1 x11_1).f1).length c276_1, .int .i64 ((rd_T92 l0_1 x11_1).f2), .int .i64 ((rd_T92 l0_1 x11_1).f3)] 92 (0, 0)) (bkp BK277) hg (Kd.S_ne HO_5.out BK277.out (by decide))); have n2_ := Aside0.mk (hb); have n3_ := Aside0.mk (ho); clear BK275; clear BK277; clear HB; clear HO_5; clear HO281; have BK275 := n0_; have BK277 := n1_; have HB := n2_; have HO284 := n3_; clear n0_ n1_ n2_ n3_; clear ho hb hg hat))
        go_roundg k1
        case measure => have := HK1.out; omega
        case rel => exact ⟨(y282), (wrap64 (x11_1 + 1)), rs_, H', ⟨by have := HK1.out; omega⟩, ⟨skp HO284⟩, ⟨bkp BK275⟩, ⟨bel⟩⟩
       rw [if_neg c11] at H
       exact absurd H (by simp)
      replace c9 := Bool.eq_false_iff.mpr c9
      subst c9
      have H1 : (impl_State_keys.l0 k1 a1 x5_1 l0_1 (l0_1.length : Int) (wrap64 (x11_1 + 1))) = some r := by rw [if_neg (show ¬ (false = true) by decide)] at H; exact H
      clear H
      have H := H1
      clear H1
      have H' := Aside0.mk H
      clear H
      have p276 : 0 ≤ (x11_1 : Int) := od
      have q276 : x11_1 < (l0_1.length : Int) := od
      obtain ⟨ad276, A276_0, c276_0, A276_1, c276_1, e276, hx276_0, hx276_1, hx276_2, hx276_3, hl276_0, hi276_0, hl276_1, hi276_1⟩ := at_T92 HR0_1.out x11_1 p276 q276
      cases e276
      replace hx276_0 := hxb HB hx276_0
      replace hx276_1 := hxb HB hx276_1
      replace hx276_2 := hxb HB hx276_2
      replace hx276_3 := hxb HB hx276_3
      have HR276_0 := Aside0.mk hi276_0
      have HC276_0 := Aside0.mk hl276_0
      clear hi276_0 hl276_0
      have HR276_1 := Aside0.mk hi276_1
      have HC276_1 := Aside0.mk hl276_1
      clear hi276_1 hl276_1
      replace p276 := eq_true p276
      replace q276 := eq_true q276
      go_wp2_with (first | ((with_reducible refine gate_dst (N := 7) rfl ?_); refine bx_ 7 #[.slice none 0 0, .slice none 0 0, .int .i64 0, .int .i64 0] 92 (h := ?_); intro gb277 hg w20 hbox hb; have BK277 := Aside0.mk (hbox); have GW277 := Aside0.mk ((by rw [hg]; exact (below_size bel) : w.heap.size ≤ gb277)); have GE277 := GW277; have NB275_277 := Aside0.mk ((by rw [hg]; exact Nat.ne_of_lt (blt BK275) : gb275 ≠ gb277)); have NB277_275 := Aside0.mk NB275_277.out.symm; replace HO_5 := Aside0.mk (Kd.S_below (skp HO_5) hb); replace BK275 := Aside0.mk (blb BK275 hb); replace HB := bst hb; clear hb hbox hg; have hnb21 := NB277_275.out; have hnc21 := NB275_277.out; obtain ⟨C22_0, C22_1, C22_2, C22_3, -⟩ := cells_4 BK277.out trivial; obtain ⟨F22_0, F22_1, F22_2, F22_3, -⟩ := frz_4 BK277.out) | ((with_reducible refine gate_dst (N := 17) rfl ?_); refine virtual_asked_Turned.glc_ (some 17) Try.func127 #[.agg #[.slice A276_0 ((rd_T92 l0_1 x11_1).f0).length c276_0, .slice A276_1 ((rd_T92 l0_1 x11_1).f1).length c276_1, .int .i64 ((rd_T92 l0_1 x11_1).f2), .int .i64 ((rd_T92 l0_1 x11_1).f3)], .pointer (some ⟨gcap, 0, none⟩)] (c := .pointer (some ⟨gcap, 0, none⟩)) (h := ?_); (with_reducible refine (virtual_asked_Turned.calls _ _ ((rd_T92 l0_1 x11_1).f0) _ _ ((rd_T92 l0_1 x11_1).f1) ((rd_T92 l0_1 x11_1).f2) ((rd_T92 l0_1 x11_1).f3) a1 false _ gcap ?sideK ?side1 ?side2 ?side3 ?side4 A8.out).mono ?_); (case sideK => exact ((bel : Below w.heap.size w _).cell (World.block_lt_of_cell? w _ HCAP.out)).trans HCAP.out); (case side1 => exact Kd.C_below HR276_0.out bel); (case side2 => exact HC276_0.out); (case side3 => exact Kd.C_below HR276_1.out bel); (case side4 => exact HC276_1.out); rintro e w23 ⟨rfl, hb⟩; refine ⟨_, rfl, ?_⟩; replace HO_5 := Aside0.mk (Kd.S_below (by (with_reducible repeat (first | apply Kd.S_alloc | apply Kd.S_drewN | apply Kd.S_drew)); exact (Kd.S_mono (Kd.S_far (p := ⟨gb277, 3, none⟩) (Kd.S_far (p := ⟨gb277, 2, none⟩) (Kd.S_far (p := ⟨gb277, 1, none⟩) (Kd.S_far (p := ⟨gb277, 0, none⟩) (Kd.S_types HO_5.out BK277.out (by decide)) (fun _ hk => hk.2) (.slice A276_0 ((rd_T92 l0_1 x11_1).f0).length c276_0)) (fun _ hk => hk.2) (.slice A276_1 ((rd_T92 l0_1 x11_1).f1).length c276_1)) (fun _ hk => hk.2) (.int .i64 ((rd_T92 l0_1 x11_1).f2))) (fun _ hk => hk.2) (.int .i64 ((rd_T92 l0_1 x11_1).f3))) (fun _ h_ => h_.1))) hb); replace BK275 := Aside0.mk (blk_below (g := gb275) (o := .cells #[.int .i64 a0_0, .slice (some ad276) l0_1.length c0_1, .slice A0_2 l0_2.length c0_2, .int .i64 a0_3, .slice A0_4 l0_4.length c0_4, .slice A0_5 l0_5.length c0_5] 35 (0, 0)) (by (with_reducible repeat (first | refine blk_drewN ?_ _ | refine blk_drew ?_ | refine blk_alloc ?_ _)); refine blk_far ?_ NB275_277.out _; (with_reducible repeat (first | refine blk_drewN ?_ _ | refine blk_drew ?_ | refine blk_alloc ?_ _)); refine blk_far ?_ NB275_277.out _; (with_reducible repeat (first | refine blk_drewN ?_ _ | refine blk_drew ?_ | refine blk_alloc ?_ _)); refine blk_far ?_ NB275_277.out _; (with_reducible repeat (first | refine blk_drewN ?_ _ | refine blk_drew ?_ | refine blk_alloc ?_ _)); refine blk_far ?_ NB275_277.out _; (with_reducible repeat (first | refine blk_drewN ?_ _ | refine blk_drew ?_ | refine blk_alloc ?_ _)); exact BK275.out) hb); replace BK277 := Aside0.mk (blk_below (g := gb277) (o := .cells #[.slice A276_0 ((rd_T92 l0_1 x11_1).f0).length c276_0, .slice A276_1 ((rd_T92 l0_1 x11_1).f1).length c276_1, .int .i64 ((rd_T92 l0_1 x11_1).f2), .int .i64 ((rd_T92 l0_1 x11_1).f3)] 92 (0, 0)) (by (with_reducible repeat (first | refine blk_drewN ?_ _ | refine blk_drew ?_ | refine blk_alloc ?_ _)); refine blk_put (cs := #[.slice A276_0 ((rd_T92 l0_1 x11_1).f0).length c276_0, .slice A276_1 ((rd_T92 l0_1 x11_1).f1).length c276_1, .int .i64 ((rd_T92 l0_1 x11_1).f2), .int .i64 0]) ?_ 3 _ rfl; (with_reducible repeat (first | refine blk_drewN ?_ _ | refine blk_drew ?_ | refine blk_alloc ?_ _)); refine blk_put (cs := #[.slice A276_0 ((rd_T92 l0_1 x11_1).f0).length c276_0, .slice A276_1 ((rd_T92 l0_1 x11_1).f1).length c276_1, .int .i64 0, .int .i64 0]) ?_ 2 _ rfl; (with_reducible repeat (first | refine blk_drewN ?_ _ | refine blk_drew ?_ | refine blk_alloc ?_ _)); refine blk_put (cs := #[.slice A276_0 ((rd_T92 l0_1 x11_1).f0).length c276_0, .slice none 0 0, .int .i64 0, .int .i64 0]) ?_ 1 _ rfl; (with_reducible repeat (first | refine blk_drewN ?_ _ | refine blk_drew ?_ | refine blk_alloc ?_ _)); refine blk_put (cs := #[.slice none 0 0, .slice none 0 0, .int .i64 0, .int .i64 0]) ?_ 0 _ rfl; (with_reducible repeat (first | refine blk_drewN ?_ _ | refine blk_drew ?_ | refine blk_alloc ?_ _)); exact BK277.out) hb); replace HB := bst hb; (try clear hb); (try clear hb2); (try clear hk); (try clear hi)))
      go_roundg k1
      case measure => have := HK1.out; omega
      case rel => exact ⟨(x5_1), (wrap64 (x11_1 + 1)), rs_, H', ⟨by have := HK1.out; omega⟩, ⟨skp HO_5⟩, ⟨bkp BK275⟩, ⟨bel⟩⟩
     rw [if_neg c7] at H
     exact absurd H (by simp)
    rw [if_neg c6] at H
    exact absurd H (by simp)
   rw [if_neg c5] at H
   have c5b0 : decide (x11_1 < (l0_1.length : Int)) = false := decide_eq_false c5
   clear c5
   obtain rfl := Option.some.inj H
   go_wp2
   go_ret
   exact ⟨_, rz_, by (with_reducible repeat (first | apply Kd.S_alloc | apply Kd.S_drewN | apply Kd.S_drew)); exact HO_5.out, bel⟩

/-! ### impl_Turned: function 45 -/
mutual
def impl_Turned.j0 : Nat → Bool → Int → List (S92) → List (S94) → Int → List (S109) → List (S75) → Int → Option ((List (List Int)) × Bool)
 | 0, _, _, _, _, _, _, _, _ => none
 | k + 1, x17, x286000, x286001, x286002, x286003, x286004, x286005, x287000 => if x17 = true then (some (([] : List (List Int)), false)) else ((impl_State_keys.f k x286000 x286001 x286002 x286003 x286004 x286005 x287000).bind fun t288 => (impl_Turned.l0 k t288 x286002 (x286002.length : Int) 0 x287000))
def impl_Turned.l0 : Nat → List (List Int) → List (S94) → Int → Int → Int → Option ((List (List Int)) × Bool)
 | 0, _, _, _, _, _ => none
 | k + 1, x6, x22, x23, x24, x287000 => if x24 < x23 then (if 0 ≤ x24 then (if x24 < (x22.length : Int) then (if ((rd_T94 x22 x24).f1) > x287000 then ((slices_Clone_byte_byte.f ((rd_T94 x22 x24).f0)).bind fun t293 => (if x6.length < 5864062014805 then (impl_Turned.l0 k (x6 ++ [t293]) x22 x23 (wrap64 (x24 + 1)) x287000) else (none))) else (impl_Turned.l0 k x6 x22 x23 (wrap64 (x24 + 1)) x287000)) else (none)) else (none)) else (some (x6, true))
end
def impl_Turned.f (k : Nat) (a0_0 : Int) (l0_1 : List (S92)) (l0_2 : List (S94)) (a0_3 : Int) (l0_4 : List (S109)) (l0_5 : List (S75)) (a1 : Int) : Option ((List (List Int)) × Bool) := (impl_StateOk.f k a0_0 l0_1 l0_2 a0_3 l0_4 l0_5).bind fun t287 => (if t287 = true then (impl_Turned.j0 k (decide (a1 < a0_3)) a0_0 l0_1 l0_2 a0_3 l0_4 l0_5 a1) else (impl_Turned.j0 k true a0_0 l0_1 l0_2 a0_3 l0_4 l0_5 a1))
set_option maxHeartbeats 8000000 in
set_option maxRecDepth 100000 in
theorem impl_Turned.calls (k : Nat) (a0_0 : Int) (A0_1 : Option Addr) (c0_1 : Nat) (l0_1 : List (S92)) (A0_2 : Option Addr) (c0_2 : Nat) (l0_2 : List (S94)) (a0_3 : Int) (A0_4 : Option Addr) (c0_4 : Nat) (l0_4 : List (S109)) (A0_5 : Option Addr) (c0_5 : Nat) (l0_5 : List (S75)) (a1 : Int) (r1 : List (List Int)) (r2 : Bool) (w : World) (hr0_1 : Kd.C k92 w A0_1 l0_1.length l0_1) (hc0_1 : l0_1.length ≤ c0_1) (hr0_2 : Kd.C k94 w A0_2 l0_2.length l0_2) (hc0_2 : l0_2.length ≤ c0_2) (hr0_4 : Kd.C k109 w A0_4 l0_4.length l0_4) (hc0_4 : l0_4.length ≤ c0_4) (hr0_5 : Kd.C k75 w A0_5 l0_5.length l0_5) (hc0_5 : l0_5.length ≤ c0_5) (h : impl_Turned.f k a0_0 l0_1 l0_2 a0_3 l0_4 l0_5 a1 = some (r1, r2)) :
  Calls Try.prog 45 #[.agg #[.int .i64 a0_0, .slice A0_1 l0_1.length c0_1, .slice A0_2 l0_2.length c0_2, .int .i64 a0_3, .slice A0_4 l0_4.length c0_4, .slice A0_5 l0_5.length c0_5], .int .i64 a1] w fun e w' => ∃ v0_ : Value, e = .returned (.tuple #[v0_, .bool r2]) ∧ Kd.S (Kd.slice 5 (Kd.int .u8)) 52 w' w.heap.size (fun _ => True) v0_ r1 ∧ Below w.heap.size w w' := by
 have hu35 := Try.underlying35
 have hu94 := Try.underlying94
 have HR0_1 := Aside0.mk hr0_1
 have HC0_1 := Aside0.mk hc0_1
 clear hr0_1 hc0_1
 have HR0_2 := Aside0.mk hr0_2
 have HC0_2 := Aside0.mk hc0_2
 clear hr0_2 hc0_2
 have HR0_4 := Aside0.mk hr0_4
 have HC0_4 := Aside0.mk hc0_4
 clear hr0_4 hc0_4
 have HR0_5 := Aside0.mk hr0_5
 have HC0_5 := Aside0.mk hc0_5
 clear hr0_5 hc0_5
 have HB := Aside0.mk (Below.refl w.heap.size w)
 have H : ((impl_StateOk.f k a0_0 l0_1 l0_2 a0_3 l0_4 l0_5).bind fun t287 => (if t287 = true then (impl_Turned.j0 k (decide (a1 < a0_3)) a0_0 l0_1 l0_2 a0_3 l0_4 l0_5 a1) else (impl_Turned.j0 k true a0_0 l0_1 l0_2 a0_3 l0_4 l0_5 a1))) = some (r1, r2) := h
 clear h
 have HC3 := Aside0.mk H
 clear H
 go_enter Try.func45, Try.ntmps45
 go_upto_region 1 with (first | ((with_reducible refine gate_dst (N := 2) rfl ?_); refine bx_ 2 #[.int .i64 a0_0, .slice A0_1 l0_1.length c0_1, .slice A0_2 l0_2.length c0_2, .int .i64 a0_3, .slice A0_4 l0_4.length c0_4, .slice A0_5 l0_5.length c0_5] 35 (h := ?_); intro gb285 hg w4 hbox hb; have BK285 := Aside0.mk (hbox); have GW285 := Aside0.mk ((by rw [hg]; exact (below_size bel) : w.heap.size ≤ gb285)); have GE285 := GW285; replace HB := bst hb; clear hb hbox hg) | ((with_reducible refine gate_dst (N := 3) rfl ?_); refine bx_ 3 #[.int .i64 a1] 3 (h := ?_); intro gb286 hg w5 hbox hb; have BK286 := Aside0.mk (hbox); have GW286 := Aside0.mk ((by rw [hg]; exact (below_size bel) : w.heap.size ≤ gb286)); have GE286 := GW286; have NB285_286 := Aside0.mk ((by rw [hg]; exact Nat.ne_of_lt (blt BK285) : gb285 ≠ gb286)); have NB286_285 := Aside0.mk NB285_286.out.symm; replace BK285 := Aside0.mk (blb BK285 hb); replace HB := bst hb; clear hb hbox hg))
 (try simp only [Act.put, List.setIfInBounds_toArray, List.set_cons_zero, List.set_cons_succ])
 go_cut [17] (fun v17 wc => ∃ (kq : Nat) (x17_2 : Bool), v17 = .bool x17_2 ∧ Aside0 (impl_Turned.j0 kq x17_2 a0_0 l0_1 l0_2 a0_3 l0_4 l0_5 a1 = some (r1, r2)) ∧ Aside0 (kq ≤ k) ∧ Aside0 (wc.heap[gb285]? = some (.cells #[.int .i64 a0_0, (.slice A0_1 l0_1.length c0_1), (.slice A0_2 l0_2.length c0_2), .int .i64 a0_3, (.slice A0_4 l0_4.length c0_4), (.slice A0_5 l0_5.length c0_5)] 35 (0, 0))) ∧ Aside0 (wc.heap[gb286]? = some (.cells #[.int .i64 a1] 3 (0, 0))) ∧ Aside0 (Below w.heap.size w wc))
 case first =>
  have H := HC3.out
  clear HC3
  replace H := Option.bind_eq_some_iff.mp H
  obtain ⟨t287, A60, H⟩ := H
  replace H : (if t287 = true then (impl_Turned.j0 k (decide (a1 < a0_3)) a0_0 l0_1 l0_2 a0_3 l0_4 l0_5 a1) else (impl_Turned.j0 k true a0_0 l0_1 l0_2 a0_3 l0_4 l0_5 a1)) = some (r1, r2) := H
  have A6 := Aside0.mk A60
  clear A60
  by_cases c7 : t287 = true
  ·subst c7
   have H1 : (impl_Turned.j0 k (decide (a1 < a0_3)) a0_0 l0_1 l0_2 a0_3 l0_4 l0_5 a1) = some (r1, r2) := by rw [if_pos rfl] at H; exact H
   clear H
   have H := H1
   clear H1
   have H' := Aside0.mk H
   clear H
   have hnb8 := NB285_286.out
   have hnc8 := NB286_285.out
   obtain ⟨C9_0, C9_1, C9_2, C9_3, C9_4, C9_5, -⟩ := cells_6 BK285.out trivial
   obtain ⟨F9_0, F9_1, F9_2, F9_3, F9_4, F9_5, -⟩ := frz_6 BK285.out
   go_wp2_with (first | ((with_reducible refine gate_callee (f := 18) rfl ?_); refine gl_ (some 10) Try.func18 #[.agg #[.int .i64 a0_0, .slice A0_1 l0_1.length c0_1, .slice A0_2 l0_2.length c0_2, .int .i64 a0_3, .slice A0_4 l0_4.length c0_4, .slice A0_5 l0_5.length c0_5]] (h := ?_); (with_reducible refine (impl_StateOk.calls k a0_0 _ _ l0_1 _ _ l0_2 a0_3 _ _ l0_4 _ _ l0_5 true _ ?side1 ?side2 ?side3 ?side4 ?side5 ?side6 ?side7 ?side8 A6.out).mono ?_); (case side1 => exact kcb); (case side2 => exact HC0_1.out); (case side3 => exact kcb); (case side4 => exact HC0_2.out); (case side5 => exact kcb); (case side6 => exact HC0_4.out); (case side7 => exact kcb); (case side8 => exact HC0_5.out); rintro e w10 ⟨rfl, hb⟩; refine ⟨_, rfl, ?_⟩; replace BK285 := Aside0.mk (blb BK285 hb); replace BK286 := Aside0.mk (blb BK286 hb); replace HB := bst hb; (try clear hb); (try clear hb2); (try clear hk); (try clear hi); have C11_0 : w10.cell? ⟨gb286, 0, none⟩ = some (.int .i64 a1) := (blk_cell BK286.out 0).trans rfl; have F11_0 := blk_frozen BK286.out 0; obtain ⟨C12_0, C12_1, C12_2, C12_3, C12_4, C12_5, -⟩ := cells_6 BK285.out trivial; obtain ⟨F12_0, F12_1, F12_2, F12_3, F12_4, F12_5, -⟩ := frz_6 BK285.out))
   go_meet
   case rel => exact ⟨_, (decide (a1 < a0_3)), rs_, H', ⟨by first | omega | exact Nat.le_refl _⟩, ⟨bkp BK285⟩, ⟨bkp BK286⟩, ⟨bel⟩⟩
  replace c7 := Bool.eq_false_iff.mpr c7
  subst c7
  have H1 : (impl_Turned.j0 k true a0_0 l0_1 l0_2 a0_3 l0_4 l0_5 a1) = some (r1, r2) := by rw [if_neg (show ¬ (false = true) by decide)] at H; exact H
  clear H
  have H := H1
  clear H1
  have H' := Aside0.mk H
  clear H
  have hnb13 := NB285_286.out
  have hnc13 := NB286_285.out
  obtain ⟨C14_0, C14_1, C14_2, C14_3, C14_4, C14_5, -⟩ := cells_6 BK285.out trivial
  obtain ⟨F14_0, F14_1, F14_2, F14_3, F14_4, F14_5, -⟩ := frz_6 BK285.out
  go_wp2_with (first | ((with_reducible refine gate_callee (f := 18) rfl ?_); refine gl_ (some 10) Try.func18 #[.agg #[.int .i64 a0_0, .slice A0_1 l0_1.length c0_1, .slice A0_2 l0_2.length c0_2, .int .i64 a0_3, .slice A0_4 l0_4.length c0_4, .slice A0_5 l0_5.length c0_5]] (h := ?_); (with_reducible refine (impl_StateOk.calls k a0_0 _ _ l0_1 _ _ l0_2 a0_3 _ _ l0_4 _ _ l0_5 false _ ?side1 ?side2 ?side3 ?side4 ?side5 ?side6 ?side7 ?side8 A6.out).mono ?_); (case side1 => exact kcb); (case side2 => exact HC0_1.out); (case side3 => exact kcb); (case side4 => exact HC0_2.out); (case side5 => exact kcb); (case side6 => exact HC0_4.out); (case side7 => exact kcb); (case side8 => exact HC0_5.out); rintro e w15 ⟨rfl, hb⟩; refine ⟨_, rfl, ?_⟩; replace BK285 := Aside0.mk (blb BK285 hb); replace BK286 := Aside0.mk (blb BK286 hb); replace HB := bst hb; (try clear hb); (try clear hb2); (try clear hk); (try clear hi)))
  go_meet
  case rel => exact ⟨_, (true), rs_, H', ⟨by first | omega | exact Nat.le_refl _⟩, ⟨bkp BK285⟩, ⟨bkp BK286⟩, ⟨bel⟩⟩
 case rest =>
  clear HC3
  try clear c1; try clear p2; try clear c4; try clear c7; try clear c8; try clear c13; try clear C11_0; try clear C12_0 C12_1 C12_2 C12_3 C12_4 C12_5; try clear C14_0 C14_1 C14_2 C14_3 C14_4 C14_5; try clear C9_0 C9_1 C9_2 C9_3 C9_4 C9_5; try clear F11_0; try clear F12_0 F12_1 F12_2 F12_3 F12_4 F12_5; try clear F14_0 F14_1 F14_2 F14_3 F14_4 F14_5; try clear F9_0 F9_1 F9_2 F9_3 F9_4 F9_5
  obtain ⟨kq, x17_2, rfl, HA, HJ2, BK285, BK286, HB⟩ := hcut
  cases kq with
  | zero => exact absurd HA.out (by simp [impl_Turned.j0])
  | succ kj2 =>
   have H := HA.out
   clear HA
   simp only [impl_Turned.j0] at H
   by_cases c16 : x17_2 = true
   ·subst c16
    have H1 : (some (([] : List (List Int)), false)) = some (r1, r2) := by rw [if_pos rfl] at H; exact H
    clear H
    have H := H1
    clear H1
    simp only [Option.some.injEq, Prod.mk.injEq] at H
    obtain ⟨rfl, rfl⟩ := H
    go_wp2
    go_ret2
    exact ⟨_, rz_, by first | exact Kd.S_nil _ _ _ _ _ | exact Kd.N_nil _ _ _ _ _ | exact Kd.V_nil _ _ _ _ _ | exact Kd.Q_nil _ _ _ _ _ | exact Kd.R_nil _ _ _ _ _, bel⟩
   replace c16 := Bool.eq_false_iff.mpr c16
   subst c16
   have H1 : ((impl_State_keys.f kj2 a0_0 l0_1 l0_2 a0_3 l0_4 l0_5 a1).bind fun t288 => (impl_Turned.l0 kj2 t288 l0_2 (l0_2.length : Int) 0 a1)) = some (r1, r2) := by rw [if_neg (show ¬ (false = true) by decide)] at H; exact H
   clear H
   have H := H1
   clear H1
   replace H := Option.bind_eq_some_iff.mp H
   obtain ⟨t288, A170, H⟩ := H
   replace H : (impl_Turned.l0 kj2 t288 l0_2 (l0_2.length : Int) 0 a1) = some (r1, r2) := H
   have A17 := Aside0.mk A170
   clear A170
   have H' := Aside0.mk H
   clear H
   have hnb18 := NB285_286.out
   have hnc18 := NB286_285.out
   obtain ⟨C19_0, C19_1, C19_2, C19_3, C19_4, C19_5, -⟩ := cells_6 BK285.out trivial
   obtain ⟨F19_0, F19_1, F19_2, F19_3, F19_4, F19_5, -⟩ := frz_6 BK285.out
   have C20_0 : wc.cell? ⟨gb286, 0, none⟩ = some (.int .i64 a1) := (blk_cell BK286.out 0).trans rfl
   have F20_0 := blk_frozen BK286.out 0
   go_wp2_with (first | ((with_reducible refine gate_callee (f := 126) rfl ?_); refine gl_ (some 20) Try.func126 #[.agg #[.int .i64 a0_0, .slice A0_1 l0_1.length c0_1, .slice A0_2 l0_2.length c0_2, .int .i64 a0_3, .slice A0_4 l0_4.length c0_4, .slice A0_5 l0_5.length c0_5], .func (.func 127) #[] #[.pointer (some ⟨gb286, 0, none⟩)]] (h := ?_); (with_reducible refine (impl_State_keys.calls kj2 a0_0 _ _ l0_1 _ _ l0_2 a0_3 _ _ l0_4 _ _ l0_5 a1 t288 _ gb286 ?sideK ?side1 ?side2 ?side3 ?side4 ?side5 ?side6 ?side7 ?side8 A17.out).mono ?_); (case sideK => exact (blk_cell (bkp BK286) 0).trans rfl); (case side1 => exact kcb); (case side2 => exact HC0_1.out); (case side3 => exact kcb); (case side4 => exact HC0_2.out); (case side5 => exact kcb); (case side6 => exact HC0_4.out); (case side7 => exact kcb); (case side8 => exact HC0_5.out); rintro e w21 ⟨v289, rfl, ho0, hb⟩; refine ⟨_, rfl, ?_⟩; have HO290 := Aside0.mk (Kd.S_lower ho0 (below_size bel)); replace BK285 := Aside0.mk (blb BK285 hb); replace BK286 := Aside0.mk (blb BK286 hb); replace HB := bst hb; (try clear hb); (try clear hb2); (try clear hk); (try clear hi); (try clear ho0); obtain ⟨C22_0, C22_1, C22_2, C22_3, C22_4, C22_5, -⟩ := cells_6 BK285.out trivial; obtain ⟨F22_0, F22_1, F22_2, F22_3, F22_4, F22_5, -⟩ := frz_6 BK285.out))
   go_loopg [6, 24] kj2 (fun kq v6 v24 w' => ∃ (x6_2 : List (List Int)) (x24_2 : Int), v24 = .int .i64 x24_2 ∧ Aside0 (impl_Turned.l0 kq x6_2 l0_2 (l0_2.length : Int) x24_2 a1 = some (r1, r2)) ∧ Aside0 (kq ≤ kj2) ∧ Aside0 (Kd.S (Kd.slice 5 (Kd.int .u8)) 52 w' w.heap.size (fun _ => True) v6 x6_2) ∧ Aside0 (w'.heap[gb285]? = some (.cells #[.int .i64 a0_0, (.slice A0_1 l0_1.length c0_1), (.slice A0_2 l0_2.length c0_2), .int .i64 a0_3, (.slice A0_4 l0_4.length c0_4), (.slice A0_5 l0_5.length c0_5)] 35 (0, 0))) ∧ Aside0 (w'.heap[gb286]? = some (.cells #[.int .i64 a1] 3 (0, 0))) ∧ Aside0 (Below w.heap.size w w'))
   case atStart => exact ⟨(t288), (0), rs_, H', ⟨Nat.le_refl _⟩, ⟨skp HO290⟩, ⟨bkp BK285⟩, ⟨bkp BK286⟩, ⟨bel⟩⟩
   case round =>
    clear H'
    try clear c1; try clear p2; try clear c4; try clear c7; try clear c8; try clear c12; try clear c13; try clear c16; try clear c18; try clear C11_0; try clear C12_0 C12_1 C12_2 C12_3 C12_4 C12_5; try clear C14_0 C14_1 C14_2 C14_3 C14_4 C14_5; try clear C19_0 C19_1 C19_2 C19_3 C19_4 C19_5; try clear C20_0; try clear C22_0 C22_1 C22_2 C22_3 C22_4 C22_5; try clear C9_0 C9_1 C9_2 C9_3 C9_4 C9_5; try clear F11_0; try clear F12_0 F12_1 F12_2 F12_3 F12_4 F12_5; try clear F14_0 F14_1 F14_2 F14_3 F14_4 F14_5; try clear F19_0 F19_1 F19_2 F19_3 F19_4 F19_5; try clear F20_0; try clear F22_0 F22_1 F22_2 F22_3 F22_4 F22_5; try clear F9_0 F9_1 F9_2 F9_3 F9_4 F9_5; try clear p2
    obtain ⟨x6_2, x24_2, rfl, HA, HK2, HO_6, BK285, BK286, HB⟩ := hrel
    cases gk with
    | zero => exact absurd HA.out (by simp [impl_Turned.l0])
    | succ k2 =>
     have H := HA.out
     clear HA
     simp only [impl_Turned.l0] at H
     by_cases c23 : x24_2 < (l0_2.length : Int)
     ·rw [if_pos c23] at H
      have c23b0 : decide (x24_2 < (l0_2.length : Int)) = true := decide_eq_true c23
      clear c23
      by_cases c24 : 0 ≤ x24_2
      ·rw [if_pos c24] at H
       have c24b0 : decide (0 ≤ x24_2) = true := decide_eq_true c24
       clear c24
       by_cases c25 : x24_2 < (l0_2.length : Int)
       ·rw [if_pos c25] at H
        have c25b0 : decide (x24_2 < (l0_2.length : Int)) = true := decide_eq_true c25
        clear c25
        by_cases c26 : ((rd_T94 l0_2 x24_2).f1) > a1
        ·rw [if_pos c26] at H
         have c26b0 : decide (a1 < ((rd_T94 l0_2 x24_2).f1)) = true := decide_eq_true c26
         clear c26
         replace H := Option.bind_eq_some_iff.mp H
         obtain ⟨t293, A270, H⟩ := H
         replace H : (if x6_2.length < 5864062014805 then (impl_Turned.l0 k2 (x6_2 ++ [t293]) l0_2 (l0_2.length : Int) (wrap64 (x24_2 + 1)) a1) else (none)) = some (r1, r2) := H
         have A27 := Aside0.mk A270
         clear A270
         by_cases c28 : x6_2.length < 5864062014805
         ·rw [if_pos c28] at H
          have LMc28 := Aside0.mk c28
          clear c28
          obtain ⟨y296, hy296⟩ : ∃ y_ : List (List Int), y_ = (x6_2 ++ [t293]) := ⟨_, rfl⟩
          replace H : (impl_Turned.l0 k2 y296 l0_2 (l0_2.length : Int) (wrap64 (x24_2 + 1)) a1) = some (r1, r2) := by first | (rw [hy296]; with_reducible exact H) | (have H2_ := (Option.bind_some _ _).symm.trans H; rw [hy296]; with_reducible exact H2_) | (have H2_ := (Option.bind_some _ _).symm.trans H; with_reducible exact H2_) | with_reducible exact H | (rw [hy296]; exact H) | exact H
          have Ny296 := Aside0.mk hy296
          clear hy296
          have H' := Aside0.mk H
          clear H
          have p291 : 0 ≤ (x24_2 : Int) := od
          have q291 : x24_2 < (l0_2.length : Int) := od
          obtain ⟨ad291, A291_0, c291_0, e291, hx291_0, hx291_1, hl291_0, hi291_0⟩ := at_T94 HR0_2.out x24_2 p291 q291
          cases e291
          replace hx291_0 := hxb HB hx291_0
          replace hx291_1 := hxb HB hx291_1
          have HR291_0 := Aside0.mk hi291_0
          have HC291_0 := Aside0.mk hl291_0
          clear hi291_0 hl291_0
          replace p291 := eq_true p291
          replace q291 := eq_true q291
          go_wp2_with (first | ((with_reducible refine gate_dst (N := 8) rfl ?_); refine bx_ 8 #[.slice none 0 0, .int .i64 0] 94 (h := ?_); intro gb292 hg w29 hbox hb; have BK292 := Aside0.mk (hbox); have GW292 := Aside0.mk ((by rw [hg]; exact (below_size bel) : w.heap.size ≤ gb292)); have GE292 := GW292; have NB285_292 := Aside0.mk ((by rw [hg]; exact Nat.ne_of_lt (blt BK285) : gb285 ≠ gb292)); have NB292_285 := Aside0.mk NB285_292.out.symm; have NB286_292 := Aside0.mk ((by rw [hg]; exact Nat.ne_of_lt (blt BK286) : gb286 ≠ gb292)); have NB292_286 := Aside0.mk NB286_292.out.symm; replace HO_6 := Aside0.mk (Kd.S_below (skp HO_6) hb); replace BK285 := Aside0.mk (blb BK285 hb); replace BK286 := Aside0.mk (blb BK286 hb); replace HB := bst hb; clear hb hbox hg; have hnb30 := NB292_285.out; have hnc30 := NB285_292.out; have hnb31 := NB292_286.out; have hnc31 := NB286_292.out; obtain ⟨C32_0, C32_1, -⟩ := cells_2 BK292.out trivial; obtain ⟨F32_0, F32_1, -⟩ := frz_2 BK292.out; have hnb33 := NB286_285.out; have hnc33 := NB285_286.out; have C34_0 : w29.cell? ⟨gb286, 0, none⟩ = some (.int .i64 a1) := (blk_cell BK286.out 0).trans rfl; have F34_0 := blk_frozen BK286.out 0) | ((with_reducible refine gate_callee (f := 128) rfl ?_); refine gl_ (some 35) Try.func128 #[.slice A291_0 ((rd_T94 l0_2 x24_2).f0).length c291_0] (h := ?_); (with_reducible refine (slices_Clone_byte_byte.calls _ _ ((rd_T94 l0_2 x24_2).f0) t293 _ ?side1 ?side2 A27.out).mono ?_); (case side1 => exact Kd.C_below HR291_0.out bel); (case side2 => exact HC291_0.out); rintro e w35 ⟨v294, rfl, ho0, hb⟩; refine ⟨_, rfl, ?_⟩; have HO295 := Aside0.mk (Kd.R_lower ho0 (below_size bel)); replace HO_6 := Aside0.mk (Kd.S_elder' (by (with_reducible repeat (first | apply Kd.S_alloc | apply Kd.S_drewN | apply Kd.S_drew)); exact (Kd.S_mono (Kd.S_far (p := ⟨gb292, 1, none⟩) (Kd.S_far (p := ⟨gb292, 0, none⟩) (Kd.S_types HO_6.out BK292.out (by decide)) (fun _ hk => hk.2) (.slice A291_0 ((rd_T94 l0_2 x24_2).f0).length c291_0)) (fun _ hk => hk.2) (.int .i64 ((rd_T94 l0_2 x24_2).f1))) (fun _ h_ => h_.1))) (Kd.R_base ho0) hb); replace BK285 := Aside0.mk (blk_below (g := gb285) (o := .cells #[.int .i64 a0_0, .slice A0_1 l0_1.length c0_1, .slice (some ad291) l0_2.length c0_2, .int .i64 a0_3, .slice A0_4 l0_4.length c0_4, .slice A0_5 l0_5.length c0_5] 35 (0, 0)) (by (with_reducible repeat (first | refine blk_drewN ?_ _ | refine blk_drew ?_ | refine blk_alloc ?_ _)); refine blk_far ?_ NB285_292.out _; (with_reducible repeat (first | refine blk_drewN ?_ _ | refine blk_drew ?_ | refine blk_alloc ?_ _)); refine blk_far ?_ NB285_292.out _; (with_reducible repeat (first | refine blk_drewN ?_ _ | refine blk_drew ?_ | refine blk_alloc ?_ _)); exact BK285.out) hb); replace BK286 := Aside0.mk (blk_below (g := gb286) (o := .cells #[.int .i64 a1] 3 (0, 0)) (by (with_reducible repeat (first | refine blk_drewN ?_ _ | refine blk_drew ?_ | refine blk_alloc ?_ _)); refine blk_far ?_ NB286_292.out _; (with_reducible repeat (first | refine blk_drewN ?_ _ | refine blk_drew ?_ | refine blk_alloc ?_ _)); refine blk_far ?_ NB286_292.out _; (with_reducible repeat (first | refine blk_drewN ?_ _ | refine blk_drew ?_ | refine blk_alloc ?_ _)); exact BK286.out) hb); replace BK292 := Aside0.mk (blk_below (g := gb292) (o := .cells #[.slice A291_0 ((rd_T94 l0_2 x24_2).f0).length c291_0, .int .i64 ((rd_T94 l0_2 x24_2).f1)] 94 (0, 0)) (by (with_reducible repeat (first | refine blk_drewN ?_ _ | refine blk_drew ?_ | refine blk_alloc ?_ _)); refine blk_put (cs := #[.slice A291_0 ((rd_T94 l0_2 x24_2).f0).length c291_0, .int .i64 0]) ?_ 1 _ rfl; (with_reducible repeat (first | refine blk_drewN ?_ _ | refine blk_drew ?_ | refine blk_alloc ?_ _)); refine blk_put (cs := #[.slice none 0 0, .int .i64 0]) ?_ 0 _ rfl; (with_reducible repeat (first | refine blk_drewN ?_ _ | refine blk_drew ?_ | refine blk_alloc ?_ _)); exact BK292.out) hb); replace HB := bst hb; (try clear hb); (try clear hb2); (try clear hk); (try clear hi); (try clear ho0); obtain ⟨Ao37, co37, eo37⟩ := Kd.R_slice HO295.out; subst eo37) | ((with_reducible refine gate_builtin (b := .append) (xs := #[.tmp 32, .tmp 36]) rfl ?_); at_builtin; refine Kd.S_append (Kd.slice 5 (Kd.int .u8)) (w0 := w) w.heap.size rfl (.tmp 32) (.tmp 36) 84 52 (.slice none 0 0) 24 rfl Try.underlying84 info52 rfl (by decide) (by omega) u6 x6_2 t293 [.slice Ao37 t293.length co37] (fun _ => True) (fun k_ => some k_ = (.slice Ao37 t293.length co37 : Value).ownBlock) rfl rfl ?aP (fun k_ hk_ => ((Kd.R_mono (ok' := fun k_ => ((fun _ => True)) k_ ∧ some k_ ≠ (u6 : Value).ownBlock) (Kd.R_apart' (HO295.out) (Kd.S_typed HO_6.out) (by decide)) (fun k_ hk => ⟨trivial, hk.2⟩))).1 k_ hk_.symm) ?aF ?aO ?aB ?aS ?aL ?_; (case aP => exact Kd.M_row (Kd.R_mono (Kd.R_tight rfl (Kd.R_mono (ok' := fun k_ => ((fun _ => True)) k_ ∧ some k_ ≠ (u6 : Value).ownBlock) (Kd.R_apart' (HO295.out) (Kd.S_typed HO_6.out) (by decide)) (fun k_ hk => ⟨trivial, hk.2⟩))) (fun _ h_ => h_))); (case aB => exact bel); (case aF => exact (fun _ _ => trivial)); (case aO => exact (by (with_reducible repeat (first | apply Kd.S_alloc | apply Kd.S_drewN | apply Kd.S_drew)); exact Kd.S_mono HO_6.out (fun k_ hk => ⟨trivial, fun e_ => hk.2 e_⟩))); (case aS => exact (below_size bel)); (case aL => have := LMc28.out; omega); intro v297 w36 ho hb hg hat; rw [← Ny296.out] at ho; have n0_ := Aside0.mk (blk_grown (g := gb285) (o := .cells #[.int .i64 a0_0, .slice A0_1 l0_1.length c0_1, .slice (some ad291) l0_2.length c0_2, .int .i64 a0_3, .slice A0_4 l0_4.length c0_4, .slice A0_5 l0_5.length c0_5] 35 (0, 0)) (bkp BK285) hg (Kd.S_ne HO_6.out BK285.out (by decide))); have n1_ := Aside0.mk (blk_grown (g := gb286) (o := .cells #[.int .i64 a1] 3 (0, 0)) (bkp BK286) hg (Kd.S_ne HO_6.out BK286.out (by decide))); have n2_ := Aside0.mk (blk_grown (g := gb292) (o := .cells #[.slice A291_0 ((rd_T94 l0_2 x24_2).f0).length c291_0, .int .i64 ((rd_T94 l0_2 x24_2).f1)] 94 (0, 0)) (bkp BK292) hg (Kd.S_ne HO_6.out BK292.out (by decide))); have n3_ := Aside0.mk (hb); have n4_ := Aside0.mk (ho); clear BK285; clear BK286; clear BK292; clear HB; clear HO_6; clear HO295; have BK285 := n0_; have BK286 := n1_; have BK292 := n2_; have HB := n3_; have HO298 := n4_; clear n0_ n1_ n2_ n3_ n4_; clear ho hb hg hat))
          go_roundg k2
          case measure => have := HJ2.out; have := HK2.out; omega
          case rel => exact ⟨(y296), (wrap64 (x24_2 + 1)), rs_, H', ⟨by have := HJ2.out; have := HK2.out; omega⟩, ⟨skp HO298⟩, ⟨bkp BK285⟩, ⟨bkp BK286⟩, ⟨bel⟩⟩
         rw [if_neg c28] at H
         exact absurd H (by simp)
        rw [if_neg c26] at H
        have c26b0 : decide (a1 < ((rd_T94 l0_2 x24_2).f1)) = false := decide_eq_false c26
        clear c26
        have H' := Aside0.mk H
        clear H
        have p291 : 0 ≤ (x24_2 : Int) := od
        have q291 : x24_2 < (l0_2.length : Int) := od
        obtain ⟨ad291, A291_0, c291_0, e291, hx291_0, hx291_1, hl291_0, hi291_0⟩ := at_T94 HR0_2.out x24_2 p291 q291
        cases e291
        replace hx291_0 := hxb HB hx291_0
        replace hx291_1 := hxb HB hx291_1
        have HR291_0 := Aside0.mk hi291_0
        have HC291_0 := Aside0.mk hl291_0
        clear hi291_0 hl291_0
        replace p291 := eq_true p291
        replace q291 := eq_true q291
        go_wp2_with (first | ((with_reducible refine gate_dst (N := 8) rfl ?_); refine bx_ 8 #[.slice none 0 0, .int .i64 0] 94 (h := ?_); intro gb292 hg w38 hbox hb; have BK292 := Aside0.mk (hbox); have GW292 := Aside0.mk ((by rw [hg]; exact (below_size bel) : w.heap.size ≤ gb292)); have GE292 := GW292; have NB285_292 := Aside0.mk ((by rw [hg]; exact Nat.ne_of_lt (blt BK285) : gb285 ≠ gb292)); have NB292_285 := Aside0.mk NB285_292.out.symm; have NB286_292 := Aside0.mk ((by rw [hg]; exact Nat.ne_of_lt (blt BK286) : gb286 ≠ gb292)); have NB292_286 := Aside0.mk NB286_292.out.symm; replace HO_6 := Aside0.mk (Kd.S_below (skp HO_6) hb); replace BK285 := Aside0.mk (blb BK285 hb); replace BK286 := Aside0.mk (blb BK286 hb); replace HB := bst hb; clear hb hbox hg; have hnb39 := NB292_285.out; have hnc39 := NB285_292.out; have hnb40 := NB292_286.out; have hnc40 := NB286_292.out; obtain ⟨C41_0, C41_1, -⟩ := cells_2 BK292.out trivial; obtain ⟨F41_0, F41_1, -⟩ := frz_2 BK292.out; have hnb42 := NB286_285.out; have hnc42 := NB285_286.out; have C43_0 : w38.cell? ⟨gb286, 0, none⟩ = some (.int .i64 a1) := (blk_cell BK286.out 0).trans rfl; have F43_0 := blk_frozen BK286.out 0))
        go_roundg k2
        case measure => have := HJ2.out; have := HK2.out; omega
        case rel => exact ⟨(x6_2), (wrap64 (x24_2 + 1)), rs_, H', ⟨by have := HJ2.out; have := HK2.out; omega⟩, ⟨by (with_reducible repeat (first | apply Kd.S_alloc | apply Kd.S_drewN | apply Kd.S_drew)); exact Kd.S_mono (Kd.S_far (p := ⟨gb292, 1, none⟩) (Kd.S_far (p := ⟨gb292, 0, none⟩) (Kd.S_types HO_6.out BK292.out (by decide)) (fun _ hk => hk.2) (.slice A291_0 ((rd_T94 l0_2 x24_2).f0).length c291_0)) (fun _ hk => hk.2) (.int .i64 ((rd_T94 l0_2 x24_2).f1))) (fun _ hk => trivial)⟩, ⟨by (with_reducible repeat (first | refine blk_drewN ?_ _ | refine blk_drew ?_ | refine blk_alloc ?_ _)); refine blk_far ?_ NB285_292.out _; (with_reducible repeat (first | refine blk_drewN ?_ _ | refine blk_drew ?_ | refine blk_alloc ?_ _)); refine blk_far ?_ NB285_292.out _; (with_reducible repeat (first | refine blk_drewN ?_ _ | refine blk_drew ?_ | refine blk_alloc ?_ _)); exact BK285.out⟩, ⟨by (with_reducible repeat (first | refine blk_drewN ?_ _ | refine blk_drew ?_ | refine blk_alloc ?_ _)); refine blk_far ?_ NB286_292.out _; (with_reducible repeat (first | refine blk_drewN ?_ _ | refine blk_drew ?_ | refine blk_alloc ?_ _)); refine blk_far ?_ NB286_292.out _; (with_reducible repeat (first | refine blk_drewN ?_ _ | refine blk_drew ?_ | refine blk_alloc ?_ _)); exact BK286.out⟩, ⟨bel⟩⟩
       rw [if_neg c25] at H
       exact absurd H (by simp)
      rw [if_neg c24] at H
      exact absurd H (by simp)
     rw [if_neg c23] at H
     have c23b0 : decide (x24_2 < (l0_2.length : Int)) = false := decide_eq_false c23
     clear c23
     simp only [Option.some.injEq, Prod.mk.injEq] at H
     obtain ⟨rfl, rfl⟩ := H
     go_wp2
     go_ret2
     exact ⟨_, rz_, by (with_reducible repeat (first | apply Kd.S_alloc | apply Kd.S_drewN | apply Kd.S_drew)); exact HO_6.out, bel⟩

/-! ### laws_eqByteSS: function 56 -/
def laws_eqByteSS.l0 : Nat → List (List Int) → List (List Int) → Int → Option (Bool)
 | 0, _, _, _ => none
 | k + 1, x0, x1, x5 => if x5 < (x0.length : Int) then (if 0 ≤ x5 then (if x5 < (x1.length : Int) then ((laws_eqByteS.f k (rd_L1 x0 x5) (rd_L1 x1 x5)).bind fun t301 => (if t301 = true then (laws_eqByteSS.l0 k x0 x1 (wrap64 (x5 + 1))) else (some false))) else (none)) else (none)) else (some true)
def laws_eqByteSS.f (k : Nat) (l0 : List (List Int)) (l1 : List (List Int)) : Option (Bool) := if (l0.length : Int) = (l1.length : Int) then (laws_eqByteSS.l0 k l0 l1 0) else (some false)
set_option maxHeartbeats 8000000 in
set_option maxRecDepth 100000 in
theorem laws_eqByteSS.calls (k : Nat) (A0 : Option Addr) (c0 : Nat) (l0 : List (List Int)) (A1 : Option Addr) (c1 : Nat) (l1 : List (List Int)) (r : Bool) (w : World) (hr0 : Kd.C (Kd.slice 5 (Kd.int .u8)) w A0 l0.length l0) (hc0 : l0.length ≤ c0) (hr1 : Kd.C (Kd.slice 5 (Kd.int .u8)) w A1 l1.length l1) (hc1 : l1.length ≤ c1) (h : laws_eqByteSS.f k l0 l1 = some r) :
  Calls Try.prog 56 #[.slice A0 l0.length c0, .slice A1 l1.length c1] w fun e w' => e = .returned (.bool r) ∧ Drawn0 w w' := by
 have HR0 := Aside0.mk hr0
 have HC0 := Aside0.mk hc0
 clear hr0 hc0
 have HR1 := Aside0.mk hr1
 have HC1 := Aside0.mk hc1
 clear hr1 hc1
 have H : (if (l0.length : Int) = (l1.length : Int) then (laws_eqByteSS.l0 k l0 l1 0) else (some false)) = some r := h
 clear h
 by_cases c3 : (l0.length : Int) = (l1.length : Int)
 ·rw [if_pos c3] at H
  have c3b0 : ((l0.length : Int) == (l1.length : Int)) = true := beq_iff_eq.mpr c3
  have c3b1 : ((l0.length : Int) != (l1.length : Int)) = false := bne_eq_false_iff_eq.mpr c3
  have c3b2 : (l0.length == l1.length) = true := by first | simpa using c3 | (simp at c3 ⊢; omega)
  clear c3
  have H' := Aside0.mk H
  clear H
  go_enter Try.func56, Try.ntmps56
  go_wp2
  repeat (go_quiet (fail); try go_wp2)
  go_loopg [5] k (fun kq v5 w' => ∃ (x5_1 : Int), v5 = .int .i64 x5_1 ∧ Aside0 (laws_eqByteSS.l0 kq l0 l1 x5_1 = some r) ∧ Aside0 (kq ≤ k) ∧ Drawn0 w w')
  case atStart => exact ⟨(0), rs_, H', ⟨Nat.le_refl _⟩, by repeat (first | exact Drawn0.refl _ | apply Drawn0.step)⟩
  case round =>
   clear H'
   try clear c1; try clear p2; try clear c3; try clear c3b0; try clear c3b1; try clear c3b2
   obtain ⟨x5_1, rfl, HA, HK1, ⟨m1, rfl⟩⟩ := hrel
   cases gk with
   | zero => exact absurd HA.out (by simp [laws_eqByteSS.l0])
   | succ k1 =>
    have H := HA.out
    clear HA
    simp only [laws_eqByteSS.l0] at H
    by_cases c4 : x5_1 < (l0.length : Int)
    ·rw [if_pos c4] at H
     have c4b0 : decide (x5_1 < (l0.length : Int)) = true := decide_eq_true c4
     clear c4
     by_cases c5 : 0 ≤ x5_1
     ·rw [if_pos c5] at H
      have c5b0 : decide (0 ≤ x5_1) = true := decide_eq_true c5
      clear c5
      by_cases c6 : x5_1 < (l1.length : Int)
      ·rw [if_pos c6] at H
       have c6b0 : decide (x5_1 < (l1.length : Int)) = true := decide_eq_true c6
       clear c6
       replace H := Option.bind_eq_some_iff.mp H
       obtain ⟨t301, A70, H⟩ := H
       replace H : (if t301 = true then (laws_eqByteSS.l0 k1 l0 l1 (wrap64 (x5_1 + 1))) else (some false)) = some r := H
       have A7 := Aside0.mk A70
       clear A70
       by_cases c8 : t301 = true
       ·subst c8
        have H1 : (laws_eqByteSS.l0 k1 l0 l1 (wrap64 (x5_1 + 1))) = some r := by rw [if_pos rfl] at H; exact H
        clear H
        have H := H1
        clear H1
        have H' := Aside0.mk H
        clear H
        have p299 : 0 ≤ (x5_1 : Int) := od
        have q299 : x5_1 < (l0.length : Int) := od
        obtain ⟨ad299, A299_0, c299_0, e299, hx299_0, hl299_0, hi299_0⟩ := at_L1 HR0.out x5_1 p299 q299
        cases e299
        have HR299_0 := Aside0.mk hi299_0
        have HC299_0 := Aside0.mk hl299_0
        clear hi299_0 hl299_0
        replace p299 := eq_true p299
        replace q299 := eq_true q299
        have p300 : 0 ≤ (x5_1 : Int) := od
        have q300 : x5_1 < (l1.length : Int) := od
        obtain ⟨ad300, A300_0, c300_0, e300, hx300_0, hl300_0, hi300_0⟩ := at_L1 HR1.out x5_1 p300 q300
        cases e300
        have HR300_0 := Aside0.mk hi300_0
        have HC300_0 := Aside0.mk hl300_0
        clear hi300_0 hl300_0
        replace p300 := eq_true p300
        replace q300 := eq_true q300
        go_wp2_with (first | (go_at_call 35; (with_reducible refine (laws_eqByteS.calls k1 _ _ (rd_L1 l0 x5_1) _ _ (rd_L1 l1 x5_1) true _ ?side1 ?side2 ?side3 ?side4 A7.out).mono ?_); (case side1 => repeat (first | exact HR299_0.out | (with_reducible refine Kd.C_alloc ?_ _) | (with_reducible refine Kd.C_drewN ?_ _) | (with_reducible refine Kd.C_drew ?_))); (case side2 => exact HC299_0.out); (case side3 => repeat (first | exact HR300_0.out | (with_reducible refine Kd.C_alloc ?_ _) | (with_reducible refine Kd.C_drewN ?_ _) | (with_reducible refine Kd.C_drew ?_))); (case side4 => exact HC300_0.out); rintro e w' ⟨rfl, ⟨nd, rfl⟩⟩; (try first | exact ⟨rfl, _, World.drewN_drewN _ _ _⟩ | exact ⟨rfl, _, Eq.trans (World.drewN_drewN _ _ _) (congrArg (World.drewN _) (Nat.add_assoc _ _ _))⟩)))
        repeat (go_quiet (first | (go_at_call 35; (with_reducible refine (laws_eqByteS.calls k1 _ _ (rd_L1 l0 x5_1) _ _ (rd_L1 l1 x5_1) true _ ?side1 ?side2 ?side3 ?side4 A7.out).mono ?_); (case side1 => repeat (first | exact HR299_0.out | (with_reducible refine Kd.C_alloc ?_ _) | (with_reducible refine Kd.C_drewN ?_ _) | (with_reducible refine Kd.C_drew ?_))); (case side2 => exact HC299_0.out); (case side3 => repeat (first | exact HR300_0.out | (with_reducible refine Kd.C_alloc ?_ _) | (with_reducible refine Kd.C_drewN ?_ _) | (with_reducible refine Kd.C_drew ?_))); (case side4 => exact HC300_0.out); rintro e w' ⟨rfl, ⟨nd, rfl⟩⟩; (try first | exact ⟨rfl, _, World.drewN_drewN _ _ _⟩ | exact ⟨rfl, _, Eq.trans (World.drewN_drewN _ _ _) (congrArg (World.drewN _) (Nat.add_assoc _ _ _))⟩))); try go_wp2_with (first | (go_at_call 35; (with_reducible refine (laws_eqByteS.calls k1 _ _ (rd_L1 l0 x5_1) _ _ (rd_L1 l1 x5_1) true _ ?side1 ?side2 ?side3 ?side4 A7.out).mono ?_); (case side1 => repeat (first | exact HR299_0.out | (with_reducible refine Kd.C_alloc ?_ _) | (with_reducible refine Kd.C_drewN ?_ _) | (with_reducible refine Kd.C_drew ?_))); (case side2 => exact HC299_0.out); (case side3 => repeat (first | exact HR300_0.out | (with_reducible refine Kd.C_alloc ?_ _) | (with_reducible refine Kd.C_drewN ?_ _) | (with_reducible refine Kd.C_drew ?_))); (case side4 => exact HC300_0.out); rintro e w' ⟨rfl, ⟨nd, rfl⟩⟩; (try first | exact ⟨rfl, _, World.drewN_drewN _ _ _⟩ | exact ⟨rfl, _, Eq.trans (World.drewN_drewN _ _ _) (congrArg (World.drewN _) (Nat.add_assoc _ _ _))⟩))))
        go_roundg k1
        case measure => have := HK1.out; omega
        case rel => exact ⟨(wrap64 (x5_1 + 1)), rs_, H', ⟨by have := HK1.out; omega⟩, by repeat (first | exact Drawn0.refl _ | apply Drawn0.step)⟩
       replace c8 := Bool.eq_false_iff.mpr c8
       subst c8
       have H1 : (some false) = some r := by rw [if_neg (show ¬ (false = true) by decide)] at H; exact H
       clear H
       have H := H1
       clear H1
       obtain rfl := Option.some.inj H
       have p299 : 0 ≤ (x5_1 : Int) := od
       have q299 : x5_1 < (l0.length : Int) := od
       obtain ⟨ad299, A299_0, c299_0, e299, hx299_0, hl299_0, hi299_0⟩ := at_L1 HR0.out x5_1 p299 q299
       cases e299
       have HR299_0 := Aside0.mk hi299_0
       have HC299_0 := Aside0.mk hl299_0
       clear hi299_0 hl299_0
       replace p299 := eq_true p299
       replace q299 := eq_true q299
       have p300 : 0 ≤ (x5_1 : Int) := od
       have q300 : x5_1 < (l1.length : Int) := od
       obtain ⟨ad300, A300_0, c300_0, e300, hx300_0, hl300_0, hi300_0⟩ := at_L1 HR1.out x5_1 p300 q300
       cases e300
       have HR300_0 := Aside0.mk hi300_0
       have HC300_0 := Aside0.mk hl300_0
       clear hi300_0 hl300_0
       replace p300 := eq_true p300
       replace q300 := eq_true q300
       go_wp2_with (first | (go_at_call 35; (with_reducible refine (laws_eqByteS.calls k1 _ _ (rd_L1 l0 x5_1) _ _ (rd_L1 l1 x5_1) false _ ?side1 ?side2 ?side3 ?side4 A7.out).mono ?_); (case side1 => repeat (first | exact HR299_0.out | (with_reducible refine Kd.C_alloc ?_ _) | (with_reducible refine Kd.C_drewN ?_ _) | (with_reducible refine Kd.C_drew ?_))); (case side2 => exact HC299_0.out); (case side3 => repeat (first | exact HR300_0.out | (with_reducible refine Kd.C_alloc ?_ _) | (with_reducible refine Kd.C_drewN ?_ _) | (with_reducible refine Kd.C_drew ?_))); (case side4 => exact HC300_0.out); rintro e w' ⟨rfl, ⟨nd, rfl⟩⟩; (try first | exact ⟨rfl, _, World.drewN_drewN _ _ _⟩ | exact ⟨rfl, _, Eq.trans (World.drewN_drewN _ _ _) (congrArg (World.drewN _) (Nat.add_assoc _ _ _))⟩)))
       repeat (go_quiet (first | (go_at_call 35; (with_reducible refine (laws_eqByteS.calls k1 _ _ (rd_L1 l0 x5_1) _ _ (rd_L1 l1 x5_1) false _ ?side1 ?side2 ?side3 ?side4 A7.out).mono ?_); (case side1 => repeat (first | exact HR299_0.out | (with_reducible refine Kd.C_alloc ?_ _) | (with_reducible refine Kd.C_drewN ?_ _) | (with_reducible refine Kd.C_drew ?_))); (case side2 => exact HC299_0.out); (case side3 => repeat (first | exact HR300_0.out | (with_reducible refine Kd.C_alloc ?_ _) | (with_reducible refine Kd.C_drewN ?_ _) | (with_reducible refine Kd.C_drew ?_))); (case side4 => exact HC300_0.out); rintro e w' ⟨rfl, ⟨nd, rfl⟩⟩; (try first | exact ⟨rfl, _, World.drewN_drewN _ _ _⟩ | exact ⟨rfl, _, Eq.trans (World.drewN_drewN _ _ _) (congrArg (World.drewN _) (Nat.add_assoc _ _ _))⟩))); try go_wp2_with (first | (go_at_call 35; (with_reducible refine (laws_eqByteS.calls k1 _ _ (rd_L1 l0 x5_1) _ _ (rd_L1 l1 x5_1) false _ ?side1 ?side2 ?side3 ?side4 A7.out).mono ?_); (case side1 => repeat (first | exact HR299_0.out | (with_reducible refine Kd.C_alloc ?_ _) | (with_reducible refine Kd.C_drewN ?_ _) | (with_reducible refine Kd.C_drew ?_))); (case side2 => exact HC299_0.out); (case side3 => repeat (first | exact HR300_0.out | (with_reducible refine Kd.C_alloc ?_ _) | (with_reducible refine Kd.C_drewN ?_ _) | (with_reducible refine Kd.C_drew ?_))); (case side4 => exact HC300_0.out); rintro e w' ⟨rfl, ⟨nd, rfl⟩⟩; (try first | exact ⟨rfl, _, World.drewN_drewN _ _ _⟩ | exact ⟨rfl, _, Eq.trans (World.drewN_drewN _ _ _) (congrArg (World.drewN _) (Nat.add_assoc _ _ _))⟩))))
       go_ret
       exact ⟨by first | rfl | (simp; done) | (simp [*]; done), by repeat (first | exact Drawn0.refl _ | apply Drawn0.step)⟩
      rw [if_neg c6] at H
      exact absurd H (by simp)
     rw [if_neg c5] at H
     exact absurd H (by simp)
    rw [if_neg c4] at H
    have c4b0 : decide (x5_1 < (l0.length : Int)) = false := decide_eq_false c4
    clear c4
    obtain rfl := Option.some.inj H
    go_wp2
    repeat (go_quiet (fail); try go_wp2)
    go_ret
    exact ⟨by first | rfl | (simp; done) | (simp [*]; done), by repeat (first | exact Drawn0.refl _ | apply Drawn0.step)⟩
 rw [if_neg c3] at H
 have c3b0 : ((l0.length : Int) == (l1.length : Int)) = false := beq_eq_false_iff_ne.mpr c3
 have c3b1 : ((l0.length : Int) != (l1.length : Int)) = true := bne_iff_ne.mpr c3
 have c3b2 : (l0.length == l1.length) = false := by first | simpa using c3 | (simp at c3 ⊢; omega)
 obtain rfl := Option.some.inj H
 go_enter Try.func56, Try.ntmps56
 go_wp2
 repeat (go_quiet (fail); try go_wp2)
 go_ret
 exact ⟨by first | rfl | (simp; done) | (simp [*]; done), by repeat (first | exact Drawn0.refl _ | apply Drawn0.step)⟩

end Go.Proofs.Ytdgegnakiljfjaa.PT
