-- Written for this claim by the session's program pp.py, out of the kit's print and the seat's translation.
import Derived.Test.YtjbalmbamdmfpaaPOx0
import Derived.Test.YtjbalmbamdmfpaaPOx1
namespace Go.Proofs.Ytjbalmbamdmfpaa.PO
open Go.RowKit Go.Proofs.YtjbalmbamdmfpaaW.PrintWords Go.Proofs.YtjbalmbamdmfpaaW.PrintLast Go.Proofs.YtjbalmbamdmfpaaW.PrintMore
attribute [local go_sem] max2_int min2_int max_two min_two max_three min_three max_four min_four   -- for this text's walks alone
set_option linter.unusedVariables false
set_option linter.unusedSimpArgs false

/-! ### laws_FnExactOpName: function 8 -/
def laws_FnExactOpName.f (k : Nat) (a0 : Int) : Option (Bool) := (spec_OpName.f a0).bind fun t112 => ((impl_OpName.f a0).bind fun t115 => ((laws_eqByteS.f k t115 t112).bind fun t118 => (if t118 = true then ((laws_markByteS.f k t115 1).bind fun bt119 => ((laws_heldByteS.f k bt119.2 1).bind fun t121 => (if t121 < 0 then (some false) else (if t121 = bt119.1 then ((impl_OpName.f a0).bind fun t122 => ((laws_eqByteS.f k t122 t112).bind fun t125 => (if t125 = true then ((laws_heldByteS.f k bt119.2 1).bind fun t126 => (if t126 < 0 then (some false) else (if t126 = bt119.1 then (some true) else (some false)))) else (some false)))) else (some false))))) else (some false))))
set_option maxHeartbeats 8000000 in
set_option maxRecDepth 100000 in
theorem laws_FnExactOpName.calls (k : Nat) (a0 : Int) (w : World) (h : laws_FnExactOpName.f k a0 = some true) :
  Calls Try.prog 8 #[.int .i64 a0] w fun e w' => e = .returned (.bool true) ∧ Below w.heap.size w w' := by
 have HB := Aside0.mk (Below.refl w.heap.size w)
 have H : ((spec_OpName.f a0).bind fun t112 => ((impl_OpName.f a0).bind fun t115 => ((laws_eqByteS.f k t115 t112).bind fun t118 => (if t118 = true then ((laws_markByteS.f k t115 1).bind fun bt119 => ((laws_heldByteS.f k bt119.2 1).bind fun t121 => (if t121 < 0 then (some false) else (if t121 = bt119.1 then ((impl_OpName.f a0).bind fun t122 => ((laws_eqByteS.f k t122 t112).bind fun t125 => (if t125 = true then ((laws_heldByteS.f k bt119.2 1).bind fun t126 => (if t126 < 0 then (some false) else (if t126 = bt119.1 then (some true) else (some false)))) else (some false)))) else (some false))))) else (some false))))) = some true := h
 clear h
 replace H := Option.bind_eq_some_iff.mp H
 obtain ⟨t112, A20, H⟩ := H
 replace H : ((impl_OpName.f a0).bind fun t115 => ((laws_eqByteS.f k t115 t112).bind fun t118 => (if t118 = true then ((laws_markByteS.f k t115 1).bind fun bt119 => ((laws_heldByteS.f k bt119.2 1).bind fun t121 => (if t121 < 0 then (some false) else (if t121 = bt119.1 then ((impl_OpName.f a0).bind fun t122 => ((laws_eqByteS.f k t122 t112).bind fun t125 => (if t125 = true then ((laws_heldByteS.f k bt119.2 1).bind fun t126 => (if t126 < 0 then (some false) else (if t126 = bt119.1 then (some true) else (some false)))) else (some false)))) else (some false))))) else (some false)))) = some true := H
 have A2 := Aside0.mk A20
 clear A20
 replace H := Option.bind_eq_some_iff.mp H
 obtain ⟨t115, A30, H⟩ := H
 replace H : ((laws_eqByteS.f k t115 t112).bind fun t118 => (if t118 = true then ((laws_markByteS.f k t115 1).bind fun bt119 => ((laws_heldByteS.f k bt119.2 1).bind fun t121 => (if t121 < 0 then (some false) else (if t121 = bt119.1 then ((impl_OpName.f a0).bind fun t122 => ((laws_eqByteS.f k t122 t112).bind fun t125 => (if t125 = true then ((laws_heldByteS.f k bt119.2 1).bind fun t126 => (if t126 < 0 then (some false) else (if t126 = bt119.1 then (some true) else (some false)))) else (some false)))) else (some false))))) else (some false))) = some true := H
 have A3 := Aside0.mk A30
 clear A30
 replace H := Option.bind_eq_some_iff.mp H
 obtain ⟨t118, A40, H⟩ := H
 replace H : (if t118 = true then ((laws_markByteS.f k t115 1).bind fun bt119 => ((laws_heldByteS.f k bt119.2 1).bind fun t121 => (if t121 < 0 then (some false) else (if t121 = bt119.1 then ((impl_OpName.f a0).bind fun t122 => ((laws_eqByteS.f k t122 t112).bind fun t125 => (if t125 = true then ((laws_heldByteS.f k bt119.2 1).bind fun t126 => (if t126 < 0 then (some false) else (if t126 = bt119.1 then (some true) else (some false)))) else (some false)))) else (some false))))) else (some false)) = some true := H
 have A4 := Aside0.mk A40
 clear A40
 by_cases c5 : t118 = true
 ·subst c5
  have H1 : ((laws_markByteS.f k t115 1).bind fun bt119 => ((laws_heldByteS.f k bt119.2 1).bind fun t121 => (if t121 < 0 then (some false) else (if t121 = bt119.1 then ((impl_OpName.f a0).bind fun t122 => ((laws_eqByteS.f k t122 t112).bind fun t125 => (if t125 = true then ((laws_heldByteS.f k bt119.2 1).bind fun t126 => (if t126 < 0 then (some false) else (if t126 = bt119.1 then (some true) else (some false)))) else (some false)))) else (some false))))) = some true := by rw [if_pos rfl] at H; exact H
  clear H
  have H := H1
  clear H1
  replace H := Option.bind_eq_some_iff.mp H
  obtain ⟨⟨t119, t120⟩, A60, H⟩ := H
  replace H : ((laws_heldByteS.f k t120 1).bind fun t121 => (if t121 < 0 then (some false) else (if t121 = t119 then ((impl_OpName.f a0).bind fun t122 => ((laws_eqByteS.f k t122 t112).bind fun t125 => (if t125 = true then ((laws_heldByteS.f k t120 1).bind fun t126 => (if t126 < 0 then (some false) else (if t126 = t119 then (some true) else (some false)))) else (some false)))) else (some false)))) = some true := H
  have A6 := Aside0.mk A60
  clear A60
  replace H := Option.bind_eq_some_iff.mp H
  obtain ⟨t121, A70, H⟩ := H
  replace H : (if t121 < 0 then (some false) else (if t121 = t119 then ((impl_OpName.f a0).bind fun t122 => ((laws_eqByteS.f k t122 t112).bind fun t125 => (if t125 = true then ((laws_heldByteS.f k t120 1).bind fun t126 => (if t126 < 0 then (some false) else (if t126 = t119 then (some true) else (some false)))) else (some false)))) else (some false))) = some true := H
  have A7 := Aside0.mk A70
  clear A70
  by_cases c8 : t121 < 0
  ·rw [if_pos c8] at H
   exact absurd H (by simp)
  rw [if_neg c8] at H
  have c8b0 : decide (t121 < 0) = false := decide_eq_false c8
  clear c8
  by_cases c14 : t121 = t119
  ·rw [if_pos c14] at H
   have c14b0 : (t121 == t119) = true := beq_iff_eq.mpr c14
   have c14b1 : (t121 != t119) = false := bne_eq_false_iff_eq.mpr c14
   clear c14
   replace H := Option.bind_eq_some_iff.mp H
   obtain ⟨t122, A150, H⟩ := H
   replace H : ((laws_eqByteS.f k t122 t112).bind fun t125 => (if t125 = true then ((laws_heldByteS.f k t120 1).bind fun t126 => (if t126 < 0 then (some false) else (if t126 = t119 then (some true) else (some false)))) else (some false))) = some true := H
   have A15 := Aside0.mk A150
   clear A150
   replace H := Option.bind_eq_some_iff.mp H
   obtain ⟨t125, A160, H⟩ := H
   replace H : (if t125 = true then ((laws_heldByteS.f k t120 1).bind fun t126 => (if t126 < 0 then (some false) else (if t126 = t119 then (some true) else (some false)))) else (some false)) = some true := H
   have A16 := Aside0.mk A160
   clear A160
   by_cases c17 : t125 = true
   ·subst c17
    have H1 : ((laws_heldByteS.f k t120 1).bind fun t126 => (if t126 < 0 then (some false) else (if t126 = t119 then (some true) else (some false)))) = some true := by rw [if_pos rfl] at H; exact H
    clear H
    have H := H1
    clear H1
    replace H := Option.bind_eq_some_iff.mp H
    obtain ⟨t126, A180, H⟩ := H
    replace H : (if t126 < 0 then (some false) else (if t126 = t119 then (some true) else (some false))) = some true := H
    have A18 := Aside0.mk A180
    clear A180
    by_cases c19 : t126 < 0
    ·rw [if_pos c19] at H
     exact absurd H (by simp)
    rw [if_neg c19] at H
    have c19b0 : decide (t126 < 0) = false := decide_eq_false c19
    clear c19
    by_cases c27 : t126 = t119
    ·rw [if_pos c27] at H
     have c27b0 : (t126 == t119) = true := beq_iff_eq.mpr c27
     have c27b1 : (t126 != t119) = false := bne_eq_false_iff_eq.mpr c27
     clear c27
     clear H
     go_enter Try.func8, Try.ntmps8
     go_wp2_with (first | ((with_reducible refine gate_callee (f := 25) rfl ?_); refine gl_ (some 9) Try.func25 #[.int .i64 a0] (h := ?_); (with_reducible refine (spec_OpName.calls a0 t112 _ A2.out).mono ?_); rintro e w28 ⟨v113, rfl, ho0, hb⟩; refine ⟨_, rfl, ?_⟩; have HO114 := Aside0.mk (RMk_lower ho0 (below_size bel)); replace HB := bst hb; (try clear hb); (try clear hb2); (try clear hk); (try clear hi); (try clear ho0)) | ((with_reducible refine gate_callee (f := 26) rfl ?_); refine gl_ (some 11) Try.func26 #[.int .i64 a0] (h := ?_); (with_reducible refine (impl_OpName.calls a0 t115 _ A3.out).mono ?_); rintro e w29 ⟨v116, rfl, ho0, hb⟩; refine ⟨_, rfl, ?_⟩; have HO117 := Aside0.mk (RMk_lower (RMk_new' ho0 (RMk_lt (rmp HO114))) (below_size bel)); replace HO114 := Aside0.mk (RMk_elder' (rmp HO114) (RMk_base ho0) hb); replace HB := bst hb; (try clear hb); (try clear hb2); (try clear hk); (try clear hi); (try clear ho0); obtain ⟨Ao30, co30, eo30⟩ := RMk_slice HO117.out; subst eo30; obtain ⟨Ao31, co31, eo31⟩ := RMk_slice HO114.out; subst eo31) | ((with_reducible refine gate_callee (f := 18) rfl ?_); refine gl_ (some 14) Try.func18 #[.slice Ao30 t115.length co30, .slice Ao31 t112.length co31] (h := ?_); (with_reducible refine (laws_eqByteS.calls k _ _ t115 _ _ t112 true _ ?side1 ?side2 ?side3 ?side4 A4.out).mono ?_); (case side1 => repeat (first | exact (RMk_reads' HO117.out).2.2 | (with_reducible refine Kd.C_alloc ?_ _) | (with_reducible refine Kd.C_drewN ?_ _) | (with_reducible refine Kd.C_drew ?_))); (case side2 => exact (RMk_reads' HO117.out).2.1); (case side3 => repeat (first | exact (RMk_reads' HO114.out).2.2 | (with_reducible refine Kd.C_alloc ?_ _) | (with_reducible refine Kd.C_drewN ?_ _) | (with_reducible refine Kd.C_drew ?_))); (case side4 => exact (RMk_reads' HO114.out).2.1); rintro e w' ⟨rfl, ⟨nd, rfl⟩⟩; refine ⟨_, rfl, ?_⟩) | ((with_reducible refine gate_callee (f := 27) rfl ?_); refine gl_ (some 18) Try.func27 #[.slice Ao30 t115.length co30, .int .i64 1] (h := ?_); (with_reducible refine (laws_markByteS.calls k (fun k_ => some k_ = (.slice Ao30 t115.length co30 : Value).ownBlock) (.slice Ao30 t115.length co30) t115 1 t119 t120 w _ ?side1 ?side2 A6.out).mono ?_); (case side1 => repeat (first | (with_reducible first | exact HB.out | apply below_alloc | apply pw_below_drewN | apply below_drew1) | exact HB.out)); (case side2 => exact RMk_tight rfl HO117.out); rintro e w32 ⟨rfl, hy0, hb, hkp⟩; refine ⟨_, rfl, ?_⟩; replace HO114 := Aside0.mk (RMk_mono (ok' := fun k_ => some k_ ≠ (.slice Ao30 t115.length co30 : Value).ownBlock) (RMk_keptB (HO114.out) hkp (fun k_ hk_ hs_ => (hk_.2) hs_)) (fun k_ hk_ => hk_.1.2)); replace HO117 := Aside0.mk (RMk_reok rfl hy0 (fun k_ e_ => HO117.out.1 k_ e_)); replace HB := Aside0.mk (hb); (try clear hb); (try clear hkp); (try clear hy0)) | ((with_reducible refine gate_callee (f := 28) rfl ?_); refine goesL_ (some 21) rfl rfl Try.func28 (by kernel_rfl) rfl #[.slice Ao30 t120.length co30, .int .i64 1] rfl (by (try simp only [List.map_toArray, List.map_cons, List.map_nil]); first | done | (rw [show t120.length = t115.length from (RMk_reads' HO117.out).1.symm] <;> rfl) | rfl | (simp only [List.length_drop, List.length_take]; rfl)) ?_; (with_reducible refine (laws_heldByteS.calls k _ _ t120 1 t121 _ ?side1 ?side2 A7.out).mono ?_); (case side1 => repeat (first | exact (RMk_reads' HO117.out).2.2 | (with_reducible refine Kd.C_alloc ?_ _) | (with_reducible refine Kd.C_drewN ?_ _) | (with_reducible refine Kd.C_drew ?_))); (case side2 => rw [show t120.length = t115.length from (RMk_reads' HO117.out).1.symm]; exact (RMk_reads' HO117.out).2.1); rintro e w' ⟨rfl, ⟨nd, rfl⟩⟩; refine ⟨_, rfl, ?_⟩) | ((with_reducible refine gate_callee (f := 26) rfl ?_); refine gl_ (some 28) Try.func26 #[.int .i64 a0] (h := ?_); (with_reducible refine (impl_OpName.calls a0 t122 _ A15.out).mono ?_); rintro e w33 ⟨v123, rfl, ho0, hb⟩; refine ⟨_, rfl, ?_⟩; have HO124 := Aside0.mk (RMk_lower (RMk_new' (RMk_new' ho0 (RMk_lt (rmp HO114))) (RMk_lt (rmp HO117))) (below_size bel)); replace HO114 := Aside0.mk (RMk_elder' (rmp HO114) (RMk_base ho0) hb); replace HO117 := Aside0.mk (RMk_elder' (rmp HO117) (RMk_base ho0) hb); replace HB := bst hb; (try clear hb); (try clear hb2); (try clear hk); (try clear hi); (try clear ho0); obtain ⟨Ao34, co34, eo34⟩ := RMk_slice HO124.out; subst eo34) | ((with_reducible refine gate_callee (f := 18) rfl ?_); refine gl_ (some 31) Try.func18 #[.slice Ao34 t122.length co34, .slice Ao31 t112.length co31] (h := ?_); (with_reducible refine (laws_eqByteS.calls k _ _ t122 _ _ t112 true _ ?side1 ?side2 ?side3 ?side4 A16.out).mono ?_); (case side1 => repeat (first | exact (RMk_reads' HO124.out).2.2 | (with_reducible refine Kd.C_alloc ?_ _) | (with_reducible refine Kd.C_drewN ?_ _) | (with_reducible refine Kd.C_drew ?_))); (case side2 => exact (RMk_reads' HO124.out).2.1); (case side3 => repeat (first | exact (RMk_reads' HO114.out).2.2 | (with_reducible refine Kd.C_alloc ?_ _) | (with_reducible refine Kd.C_drewN ?_ _) | (with_reducible refine Kd.C_drew ?_))); (case side4 => exact (RMk_reads' HO114.out).2.1); rintro e w' ⟨rfl, ⟨nd, rfl⟩⟩; refine ⟨_, rfl, ?_⟩) | ((with_reducible refine gate_callee (f := 28) rfl ?_); refine goesL_ (some 35) rfl rfl Try.func28 (by kernel_rfl) rfl #[.slice Ao30 t120.length co30, .int .i64 1] rfl (by (try simp only [List.map_toArray, List.map_cons, List.map_nil]); first | done | (rw [show t120.length = t115.length from (RMk_reads' HO117.out).1.symm] <;> rfl) | rfl | (simp only [List.length_drop, List.length_take]; rfl)) ?_; (with_reducible refine (laws_heldByteS.calls k _ _ t120 1 t126 _ ?side1 ?side2 A18.out).mono ?_); (case side1 => repeat (first | exact (RMk_reads' HO117.out).2.2 | (with_reducible refine Kd.C_alloc ?_ _) | (with_reducible refine Kd.C_drewN ?_ _) | (with_reducible refine Kd.C_drew ?_))); (case side2 => rw [show t120.length = t115.length from (RMk_reads' HO117.out).1.symm]; exact (RMk_reads' HO117.out).2.1); rintro e w' ⟨rfl, ⟨nd, rfl⟩⟩; refine ⟨_, rfl, ?_⟩))
     go_ret
     exact ⟨rz_, bel⟩
    rw [if_neg c27] at H
    exact absurd H (by simp)
   replace c17 := Bool.eq_false_iff.mpr c17
   subst c17
   have H1 : (some false) = some true := by rw [if_neg (show ¬ (false = true) by decide)] at H; exact H
   exact absurd H1 (by simp)
  rw [if_neg c14] at H
  exact absurd H (by simp)
 replace c5 := Bool.eq_false_iff.mpr c5
 subst c5
 have H1 : (some false) = some true := by rw [if_neg (show ¬ (false = true) by decide)] at H; exact H
 exact absurd H1 (by simp)

/-- THE ONE PURE STATEMENT of laws_FnExactOpName: yours. -/
def laws_FnExactOpName.Pure : Prop := ∀ (a0 : Int), (Lit.int .i64 a0).wf = true → ∃ k, laws_FnExactOpName.f k a0 = some true
theorem laws_FnExactOpName.walk (P : laws_FnExactOpName.Pure) (a0 : Int) (w : World) (w0 : (Lit.int .i64 a0).wf = true) :
  Calls Try.prog 8 #[.int .i64 a0] w fun e w' => e = .returned (.bool true) ∧ Below w.heap.size w w' := by
 obtain ⟨k, h⟩ := P a0 w0
 refine (laws_FnExactOpName.calls k a0 w h).mono ?_
 rintro e w' ⟨rfl, hd⟩
 exact ⟨rfl, hd⟩

end Go.Proofs.Ytjbalmbamdmfpaa.PO
