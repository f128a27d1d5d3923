-- Written for this claim by the session's program pp.py, out of the kit's print and the seat's translation.
import Derived.Test.YtmnjdmmljkahgaaDoorPRx0
import Derived.Test.YtmnjdmmljkahgaaDoorPRx1
import Derived.Test.YtmnjdmmljkahgaaDoorPRx2
namespace Go.Proofs.YtmnjdmmljkahgaaDoor.PR
open Go.RowKit Go.Proofs.YtmnjdmmljkahgaaDoorW.PrintWords Go.Proofs.YtmnjdmmljkahgaaDoorW.PrintLast Go.Proofs.YtmnjdmmljkahgaaDoorW.PrintMore
attribute [local go_sem] max2_int min2_int max_two min_two max_three min_three max_four min_four   -- for this text's walks alone
set_option linter.unusedVariables false
set_option linter.unusedSimpArgs false

/-! ### laws_FnExactReplyText: function 5 -/
def laws_FnExactReplyText.f (k : Nat) (a0_0 : Int) (a0_1 : Int) : Option (Bool) := (laws_toReply.f a0_0 a0_1).bind fun bt166 => ((spec_ReplyText.f k bt166.1 bt166.2).bind fun t168 => ((laws_toReply.f a0_0 a0_1).bind fun bt171 => ((impl_ReplyText.f k bt171.1 bt171.2).bind fun t173 => ((laws_eqByteS.f k t173 t168).bind fun t176 => (if t176 = true then ((laws_markByteS.f k t173 1).bind fun bt177 => ((laws_heldByteS.f k bt177.2 1).bind fun t179 => (if t179 < 0 then (some false) else (if t179 = bt177.1 then ((laws_toReply.f a0_0 a0_1).bind fun bt180 => ((impl_ReplyText.f k bt180.1 bt180.2).bind fun t182 => ((laws_eqByteS.f k t182 t168).bind fun t185 => (if t185 = true then ((laws_heldByteS.f k bt177.2 1).bind fun t186 => (if t186 < 0 then (some false) else (if t186 = bt177.1 then (some true) else (some false)))) else (some false))))) else (some false))))) else (some false))))))
set_option maxHeartbeats 8000000 in
set_option maxRecDepth 100000 in
theorem laws_FnExactReplyText.calls (k : Nat) (a0_0 : Int) (a0_1 : Int) (w : World) (htab : Lib.TabIs Tryd.prog w "internal/strconv.uint64pow10" .u64 Lib.pow10Tab) (h : laws_FnExactReplyText.f k a0_0 a0_1 = some true) :
  Calls Tryd.prog 5 #[.agg #[.int .i64 a0_0, .int .i64 a0_1]] w fun e w' => e = .returned (.bool true) ∧ Below w.heap.size w w' := by
 have HTAB := Aside0.mk htab
 clear htab
 have hu38 := Tryd.underlying38
 have HB := Aside0.mk (Below.refl w.heap.size w)
 have H : ((laws_toReply.f a0_0 a0_1).bind fun bt166 => ((spec_ReplyText.f k bt166.1 bt166.2).bind fun t168 => ((laws_toReply.f a0_0 a0_1).bind fun bt171 => ((impl_ReplyText.f k bt171.1 bt171.2).bind fun t173 => ((laws_eqByteS.f k t173 t168).bind fun t176 => (if t176 = true then ((laws_markByteS.f k t173 1).bind fun bt177 => ((laws_heldByteS.f k bt177.2 1).bind fun t179 => (if t179 < 0 then (some false) else (if t179 = bt177.1 then ((laws_toReply.f a0_0 a0_1).bind fun bt180 => ((impl_ReplyText.f k bt180.1 bt180.2).bind fun t182 => ((laws_eqByteS.f k t182 t168).bind fun t185 => (if t185 = true then ((laws_heldByteS.f k bt177.2 1).bind fun t186 => (if t186 < 0 then (some false) else (if t186 = bt177.1 then (some true) else (some false)))) else (some false))))) else (some false))))) else (some false))))))) = some true := h
 clear h
 replace H := Option.bind_eq_some_iff.mp H
 obtain ⟨⟨t166, t167⟩, A20, H⟩ := H
 replace H : ((spec_ReplyText.f k t166 t167).bind fun t168 => ((laws_toReply.f a0_0 a0_1).bind fun bt171 => ((impl_ReplyText.f k bt171.1 bt171.2).bind fun t173 => ((laws_eqByteS.f k t173 t168).bind fun t176 => (if t176 = true then ((laws_markByteS.f k t173 1).bind fun bt177 => ((laws_heldByteS.f k bt177.2 1).bind fun t179 => (if t179 < 0 then (some false) else (if t179 = bt177.1 then ((laws_toReply.f a0_0 a0_1).bind fun bt180 => ((impl_ReplyText.f k bt180.1 bt180.2).bind fun t182 => ((laws_eqByteS.f k t182 t168).bind fun t185 => (if t185 = true then ((laws_heldByteS.f k bt177.2 1).bind fun t186 => (if t186 < 0 then (some false) else (if t186 = bt177.1 then (some true) else (some false)))) else (some false))))) else (some false))))) else (some false)))))) = some true := H
 have A2 := Aside0.mk A20
 clear A20
 replace H := Option.bind_eq_some_iff.mp H
 obtain ⟨t168, A30, H⟩ := H
 replace H : ((laws_toReply.f a0_0 a0_1).bind fun bt171 => ((impl_ReplyText.f k bt171.1 bt171.2).bind fun t173 => ((laws_eqByteS.f k t173 t168).bind fun t176 => (if t176 = true then ((laws_markByteS.f k t173 1).bind fun bt177 => ((laws_heldByteS.f k bt177.2 1).bind fun t179 => (if t179 < 0 then (some false) else (if t179 = bt177.1 then ((laws_toReply.f a0_0 a0_1).bind fun bt180 => ((impl_ReplyText.f k bt180.1 bt180.2).bind fun t182 => ((laws_eqByteS.f k t182 t168).bind fun t185 => (if t185 = true then ((laws_heldByteS.f k bt177.2 1).bind fun t186 => (if t186 < 0 then (some false) else (if t186 = bt177.1 then (some true) else (some false)))) else (some false))))) else (some false))))) else (some false))))) = some true := H
 have A3 := Aside0.mk A30
 clear A30
 replace H := Option.bind_eq_some_iff.mp H
 obtain ⟨⟨t171, t172⟩, A40, H⟩ := H
 replace H : ((impl_ReplyText.f k t171 t172).bind fun t173 => ((laws_eqByteS.f k t173 t168).bind fun t176 => (if t176 = true then ((laws_markByteS.f k t173 1).bind fun bt177 => ((laws_heldByteS.f k bt177.2 1).bind fun t179 => (if t179 < 0 then (some false) else (if t179 = bt177.1 then ((laws_toReply.f a0_0 a0_1).bind fun bt180 => ((impl_ReplyText.f k bt180.1 bt180.2).bind fun t182 => ((laws_eqByteS.f k t182 t168).bind fun t185 => (if t185 = true then ((laws_heldByteS.f k bt177.2 1).bind fun t186 => (if t186 < 0 then (some false) else (if t186 = bt177.1 then (some true) else (some false)))) else (some false))))) else (some false))))) else (some false)))) = some true := H
 have A4 := Aside0.mk A40
 clear A40
 replace H := Option.bind_eq_some_iff.mp H
 obtain ⟨t173, A50, H⟩ := H
 replace H : ((laws_eqByteS.f k t173 t168).bind fun t176 => (if t176 = true then ((laws_markByteS.f k t173 1).bind fun bt177 => ((laws_heldByteS.f k bt177.2 1).bind fun t179 => (if t179 < 0 then (some false) else (if t179 = bt177.1 then ((laws_toReply.f a0_0 a0_1).bind fun bt180 => ((impl_ReplyText.f k bt180.1 bt180.2).bind fun t182 => ((laws_eqByteS.f k t182 t168).bind fun t185 => (if t185 = true then ((laws_heldByteS.f k bt177.2 1).bind fun t186 => (if t186 < 0 then (some false) else (if t186 = bt177.1 then (some true) else (some false)))) else (some false))))) else (some false))))) else (some false))) = some true := H
 have A5 := Aside0.mk A50
 clear A50
 replace H := Option.bind_eq_some_iff.mp H
 obtain ⟨t176, A60, H⟩ := H
 replace H : (if t176 = true then ((laws_markByteS.f k t173 1).bind fun bt177 => ((laws_heldByteS.f k bt177.2 1).bind fun t179 => (if t179 < 0 then (some false) else (if t179 = bt177.1 then ((laws_toReply.f a0_0 a0_1).bind fun bt180 => ((impl_ReplyText.f k bt180.1 bt180.2).bind fun t182 => ((laws_eqByteS.f k t182 t168).bind fun t185 => (if t185 = true then ((laws_heldByteS.f k bt177.2 1).bind fun t186 => (if t186 < 0 then (some false) else (if t186 = bt177.1 then (some true) else (some false)))) else (some false))))) else (some false))))) else (some false)) = some true := H
 have A6 := Aside0.mk A60
 clear A60
 by_cases c7 : t176 = true
 ·subst c7
  have H1 : ((laws_markByteS.f k t173 1).bind fun bt177 => ((laws_heldByteS.f k bt177.2 1).bind fun t179 => (if t179 < 0 then (some false) else (if t179 = bt177.1 then ((laws_toReply.f a0_0 a0_1).bind fun bt180 => ((impl_ReplyText.f k bt180.1 bt180.2).bind fun t182 => ((laws_eqByteS.f k t182 t168).bind fun t185 => (if t185 = true then ((laws_heldByteS.f k bt177.2 1).bind fun t186 => (if t186 < 0 then (some false) else (if t186 = bt177.1 then (some true) else (some false)))) else (some false))))) else (some false))))) = some true := by rw [if_pos rfl] at H; exact H
  clear H
  have H := H1
  clear H1
  replace H := Option.bind_eq_some_iff.mp H
  obtain ⟨⟨t177, t178⟩, A80, H⟩ := H
  replace H : ((laws_heldByteS.f k t178 1).bind fun t179 => (if t179 < 0 then (some false) else (if t179 = t177 then ((laws_toReply.f a0_0 a0_1).bind fun bt180 => ((impl_ReplyText.f k bt180.1 bt180.2).bind fun t182 => ((laws_eqByteS.f k t182 t168).bind fun t185 => (if t185 = true then ((laws_heldByteS.f k t178 1).bind fun t186 => (if t186 < 0 then (some false) else (if t186 = t177 then (some true) else (some false)))) else (some false))))) else (some false)))) = some true := H
  have A8 := Aside0.mk A80
  clear A80
  replace H := Option.bind_eq_some_iff.mp H
  obtain ⟨t179, A90, H⟩ := H
  replace H : (if t179 < 0 then (some false) else (if t179 = t177 then ((laws_toReply.f a0_0 a0_1).bind fun bt180 => ((impl_ReplyText.f k bt180.1 bt180.2).bind fun t182 => ((laws_eqByteS.f k t182 t168).bind fun t185 => (if t185 = true then ((laws_heldByteS.f k t178 1).bind fun t186 => (if t186 < 0 then (some false) else (if t186 = t177 then (some true) else (some false)))) else (some false))))) else (some false))) = some true := H
  have A9 := Aside0.mk A90
  clear A90
  by_cases c10 : t179 < 0
  ·rw [if_pos c10] at H
   exact absurd H (by simp)
  rw [if_neg c10] at H
  have c10b0 : decide (t179 < 0) = false := decide_eq_false c10
  clear c10
  by_cases c21 : t179 = t177
  ·rw [if_pos c21] at H
   have c21b0 : (t179 == t177) = true := beq_iff_eq.mpr c21
   have c21b1 : (t179 != t177) = false := bne_eq_false_iff_eq.mpr c21
   clear c21
   replace H := Option.bind_eq_some_iff.mp H
   obtain ⟨⟨t180, t181⟩, A220, H⟩ := H
   replace H : ((impl_ReplyText.f k t180 t181).bind fun t182 => ((laws_eqByteS.f k t182 t168).bind fun t185 => (if t185 = true then ((laws_heldByteS.f k t178 1).bind fun t186 => (if t186 < 0 then (some false) else (if t186 = t177 then (some true) else (some false)))) else (some false)))) = some true := H
   have A22 := Aside0.mk A220
   clear A220
   replace H := Option.bind_eq_some_iff.mp H
   obtain ⟨t182, A230, H⟩ := H
   replace H : ((laws_eqByteS.f k t182 t168).bind fun t185 => (if t185 = true then ((laws_heldByteS.f k t178 1).bind fun t186 => (if t186 < 0 then (some false) else (if t186 = t177 then (some true) else (some false)))) else (some false))) = some true := H
   have A23 := Aside0.mk A230
   clear A230
   replace H := Option.bind_eq_some_iff.mp H
   obtain ⟨t185, A240, H⟩ := H
   replace H : (if t185 = true then ((laws_heldByteS.f k t178 1).bind fun t186 => (if t186 < 0 then (some false) else (if t186 = t177 then (some true) else (some false)))) else (some false)) = some true := H
   have A24 := Aside0.mk A240
   clear A240
   by_cases c25 : t185 = true
   ·subst c25
    have H1 : ((laws_heldByteS.f k t178 1).bind fun t186 => (if t186 < 0 then (some false) else (if t186 = t177 then (some true) else (some false)))) = some true := by rw [if_pos rfl] at H; exact H
    clear H
    have H := H1
    clear H1
    replace H := Option.bind_eq_some_iff.mp H
    obtain ⟨t186, A260, H⟩ := H
    replace H : (if t186 < 0 then (some false) else (if t186 = t177 then (some true) else (some false))) = some true := H
    have A26 := Aside0.mk A260
    clear A260
    by_cases c27 : t186 < 0
    ·rw [if_pos c27] at H
     exact absurd H (by simp)
    rw [if_neg c27] at H
    have c27b0 : decide (t186 < 0) = false := decide_eq_false c27
    clear c27
    by_cases c42 : t186 = t177
    ·rw [if_pos c42] at H
     have c42b0 : (t186 == t177) = true := beq_iff_eq.mpr c42
     have c42b1 : (t186 != t177) = false := bne_eq_false_iff_eq.mpr c42
     clear c42
     clear H
     go_enter Tryd.func5, Tryd.ntmps5
     go_wp2_with (first | ((with_reducible refine gate_dst (N := 1) rfl ?_); refine bx_ 1 #[.int .i64 a0_0, .int .i64 a0_1] 38 (h := ?_); intro gb165 hg w43 hbox hb; have BK165 := Aside0.mk (hbox); have GW165 := Aside0.mk ((by rw [hg]; exact (below_size bel) : w.heap.size ≤ gb165)); have GE165 := GW165; replace HB := bst hb; clear hb hbox hg; obtain ⟨C44_0, C44_1, -⟩ := cells_2 BK165.out trivial; obtain ⟨F44_0, F44_1, -⟩ := frz_2 BK165.out) | ((with_reducible refine gate_callee (f := 22) rfl ?_); refine gl_ (some 9) Tryd.func22 #[.agg #[.int .i64 a0_0, .int .i64 a0_1]] (h := ?_); (with_reducible refine (laws_toReply.calls a0_0 a0_1 t166 t167 _ A2.out).mono ?_); rintro e w45 ⟨rfl, hb⟩; refine ⟨_, rfl, ?_⟩; replace BK165 := Aside0.mk (blb BK165 hb); replace HB := bst hb; (try clear hb); (try clear hb2); (try clear hk); (try clear hi)) | ((with_reducible refine gate_callee (f := 21) rfl ?_); refine gl_ (some 10) Tryd.func21 #[.agg #[.int .i64 t166, .int .i64 t167]] (h := ?_); (with_reducible refine (spec_ReplyText.calls k t166 t167 t168 _ A3.out).mono ?_); rintro e w46 ⟨v169, rfl, ho0, hb⟩; refine ⟨_, rfl, ?_⟩; have HO170 := Aside0.mk (RMk_lower ho0 (below_size bel)); replace BK165 := Aside0.mk (blb BK165 hb); replace HB := bst hb; (try clear hb); (try clear hb2); (try clear hk); (try clear hi); (try clear ho0); obtain ⟨C47_0, C47_1, -⟩ := cells_2 BK165.out trivial; obtain ⟨F47_0, F47_1, -⟩ := frz_2 BK165.out) | ((with_reducible refine gate_callee (f := 22) rfl ?_); refine gl_ (some 12) Tryd.func22 #[.agg #[.int .i64 a0_0, .int .i64 a0_1]] (h := ?_); (with_reducible refine (laws_toReply.calls a0_0 a0_1 t171 t172 _ A4.out).mono ?_); rintro e w48 ⟨rfl, hb⟩; refine ⟨_, rfl, ?_⟩; replace HO170 := Aside0.mk (rml HO170 hb); replace BK165 := Aside0.mk (blb BK165 hb); replace HB := bst hb; (try clear hb); (try clear hb2); (try clear hk); (try clear hi)) | ((with_reducible refine gate_callee (f := 23) rfl ?_); refine gl_ (some 13) Tryd.func23 #[.agg #[.int .i64 t171, .int .i64 t172]] (h := ?_); (with_reducible refine (impl_ReplyText.calls k t171 t172 t173 _ (tbl_ HTAB.out bel) A5.out).mono ?_); rintro e w49 ⟨v174, rfl, ho0, hb⟩; refine ⟨_, rfl, ?_⟩; have HNB := Aside0.mk (RMk_neB ho0 (bkp BK165)); have HO175 := Aside0.mk (RMk_lower (RMk_new' ho0 (RMk_lt (rmp HO170))) (below_size bel)); replace HO170 := Aside0.mk (RMk_elder' (rmp HO170) (RMk_base ho0) hb); replace BK165 := Aside0.mk (blb BK165 hb); replace HB := bst hb; (try clear hb); (try clear hb2); (try clear hk); (try clear hi); (try clear ho0); obtain ⟨Ao50, co50, eo50⟩ := RMk_slice HO175.out; subst eo50; obtain ⟨Ao51, co51, eo51⟩ := RMk_slice HO170.out; subst eo51) | ((with_reducible refine gate_callee (f := 17) rfl ?_); refine gl_ (some 16) Tryd.func17 #[.slice Ao50 t173.length co50, .slice Ao51 t168.length co51] (h := ?_); (with_reducible refine (laws_eqByteS.calls k _ _ t173 _ _ t168 true _ ?side1 ?side2 ?side3 ?side4 A6.out).mono ?_); (case side1 => repeat (first | exact (RMk_reads' HO175.out).2.2 | (with_reducible refine Kd.C_alloc ?_ _) | (with_reducible refine Kd.C_drewN ?_ _) | (with_reducible refine Kd.C_drew ?_))); (case side2 => exact (RMk_reads' HO175.out).2.1); (case side3 => repeat (first | exact (RMk_reads' HO170.out).2.2 | (with_reducible refine Kd.C_alloc ?_ _) | (with_reducible refine Kd.C_drewN ?_ _) | (with_reducible refine Kd.C_drew ?_))); (case side4 => exact (RMk_reads' HO170.out).2.1); rintro e w' ⟨rfl, ⟨nd, rfl⟩⟩; refine ⟨_, rfl, ?_⟩) | ((with_reducible refine gate_callee (f := 18) rfl ?_); refine gl_ (some 20) Tryd.func18 #[.slice Ao50 t173.length co50, .int .i64 1] (h := ?_); (with_reducible refine (laws_markByteS.calls k (fun k_ => some k_ = (.slice Ao50 t173.length co50 : Value).ownBlock) (.slice Ao50 t173.length co50) t173 1 t177 t178 w _ ?side1 ?side2 A8.out).mono ?_); (case side1 => repeat (first | (with_reducible first | exact HB.out | apply below_alloc | apply pw_below_drewN | apply below_drew1 | refine below_set ?_ GE165.out) | exact HB.out)); (case side2 => exact RMk_tight rfl HO175.out); rintro e w52 ⟨rfl, hy0, hb, hkp⟩; refine ⟨_, rfl, ?_⟩; replace BK165 := Aside0.mk (blk_kept (bkp BK165) hkp (fun hs_ => (fun e_ => (HNB.out) e_) hs_)); replace HO170 := Aside0.mk (RMk_mono (ok' := fun k_ => some k_ ≠ (.slice Ao50 t173.length co50 : Value).ownBlock) (RMk_keptB (HO170.out) hkp (fun k_ hk_ hs_ => (hk_.2) hs_)) (fun k_ hk_ => hk_.1.2)); replace HO175 := Aside0.mk (RMk_reok rfl hy0 (fun k_ e_ => HO175.out.1 k_ e_)); replace HB := Aside0.mk (hb); (try clear hb); (try clear hkp); (try clear hy0)) | ((with_reducible refine gate_callee (f := 24) rfl ?_); refine goesL_ (some 23) rfl rfl Tryd.func24 (by kernel_rfl) rfl #[.slice Ao50 t178.length co50, .int .i64 1] rfl (by (try simp only [List.map_toArray, List.map_cons, List.map_nil]); first | done | (rw [show t178.length = t173.length from (RMk_reads' HO175.out).1.symm] <;> rfl) | rfl | (simp only [List.length_drop, List.length_take]; rfl)) ?_; (with_reducible refine (laws_heldByteS.calls k _ _ t178 1 t179 _ ?side1 ?side2 A9.out).mono ?_); (case side1 => repeat (first | exact (RMk_reads' HO175.out).2.2 | (with_reducible refine Kd.C_alloc ?_ _) | (with_reducible refine Kd.C_drewN ?_ _) | (with_reducible refine Kd.C_drew ?_))); (case side2 => rw [show t178.length = t173.length from (RMk_reads' HO175.out).1.symm]; exact (RMk_reads' HO175.out).2.1); rintro e w' ⟨rfl, ⟨nd, rfl⟩⟩; refine ⟨_, rfl, ?_⟩; obtain ⟨C53_0, C53_1, -⟩ := cells_2 BK165.out trivial; obtain ⟨F53_0, F53_1, -⟩ := frz_2 BK165.out) | ((with_reducible refine gate_callee (f := 22) rfl ?_); refine gl_ (some 30) Tryd.func22 #[.agg #[.int .i64 a0_0, .int .i64 a0_1]] (h := ?_); (with_reducible refine (laws_toReply.calls a0_0 a0_1 t180 t181 _ A22.out).mono ?_); rintro e w54 ⟨rfl, hb⟩; refine ⟨_, rfl, ?_⟩; replace HO170 := Aside0.mk (rml HO170 hb); replace HO175 := Aside0.mk (rml HO175 hb); replace BK165 := Aside0.mk (blb BK165 hb); replace HB := bst hb; (try clear hb); (try clear hb2); (try clear hk); (try clear hi)) | ((with_reducible refine gate_callee (f := 23) rfl ?_); refine gl_ (some 31) Tryd.func23 #[.agg #[.int .i64 t180, .int .i64 t181]] (h := ?_); (with_reducible refine (impl_ReplyText.calls k t180 t181 t182 _ (tbl_ HTAB.out bel) A23.out).mono ?_); rintro e w55 ⟨v183, rfl, ho0, hb⟩; refine ⟨_, rfl, ?_⟩; have HO184 := Aside0.mk (RMk_lower (RMk_new' (RMk_new' ho0 (RMk_lt (rmp HO170))) (RMk_lt (rmp HO175))) (below_size bel)); replace HO170 := Aside0.mk (RMk_elder' (rmp HO170) (RMk_base ho0) hb); replace HO175 := Aside0.mk (RMk_elder' (rmp HO175) (RMk_base ho0) hb); replace BK165 := Aside0.mk (blb BK165 hb); replace HB := bst hb; (try clear hb); (try clear hb2); (try clear hk); (try clear hi); (try clear ho0); obtain ⟨Ao56, co56, eo56⟩ := RMk_slice HO184.out; subst eo56) | ((with_reducible refine gate_callee (f := 17) rfl ?_); refine gl_ (some 34) Tryd.func17 #[.slice Ao56 t182.length co56, .slice Ao51 t168.length co51] (h := ?_); (with_reducible refine (laws_eqByteS.calls k _ _ t182 _ _ t168 true _ ?side1 ?side2 ?side3 ?side4 A24.out).mono ?_); (case side1 => repeat (first | exact (RMk_reads' HO184.out).2.2 | (with_reducible refine Kd.C_alloc ?_ _) | (with_reducible refine Kd.C_drewN ?_ _) | (with_reducible refine Kd.C_drew ?_))); (case side2 => exact (RMk_reads' HO184.out).2.1); (case side3 => repeat (first | exact (RMk_reads' HO170.out).2.2 | (with_reducible refine Kd.C_alloc ?_ _) | (with_reducible refine Kd.C_drewN ?_ _) | (with_reducible refine Kd.C_drew ?_))); (case side4 => exact (RMk_reads' HO170.out).2.1); rintro e w' ⟨rfl, ⟨nd, rfl⟩⟩; refine ⟨_, rfl, ?_⟩) | ((with_reducible refine gate_callee (f := 24) rfl ?_); refine goesL_ (some 38) rfl rfl Tryd.func24 (by kernel_rfl) rfl #[.slice Ao50 t178.length co50, .int .i64 1] rfl (by (try simp only [List.map_toArray, List.map_cons, List.map_nil]); first | done | (rw [show t178.length = t173.length from (RMk_reads' HO175.out).1.symm] <;> rfl) | rfl | (simp only [List.length_drop, List.length_take]; rfl)) ?_; (with_reducible refine (laws_heldByteS.calls k _ _ t178 1 t186 _ ?side1 ?side2 A26.out).mono ?_); (case side1 => repeat (first | exact (RMk_reads' HO175.out).2.2 | (with_reducible refine Kd.C_alloc ?_ _) | (with_reducible refine Kd.C_drewN ?_ _) | (with_reducible refine Kd.C_drew ?_))); (case side2 => rw [show t178.length = t173.length from (RMk_reads' HO175.out).1.symm]; exact (RMk_reads' HO175.out).2.1); rintro e w' ⟨rfl, ⟨nd, rfl⟩⟩; refine ⟨_, rfl, ?_⟩))
     go_ret
     exact ⟨rz_, bel⟩
    rw [if_neg c42] at H
    exact absurd H (by simp)
   replace c25 := Bool.eq_false_iff.mpr c25
   subst c25
   have H1 : (some false) = some true := by rw [if_neg (show ¬ (false = true) by decide)] at H; exact H
   exact absurd H1 (by simp)
  rw [if_neg c21] at H
  exact absurd H (by simp)
 replace c7 := Bool.eq_false_iff.mpr c7
 subst c7
 have H1 : (some false) = some true := by rw [if_neg (show ¬ (false = true) by decide)] at H; exact H
 exact absurd H1 (by simp)

/-- THE ONE PURE STATEMENT of laws_FnExactReplyText. -/
def laws_FnExactReplyText.Pure : Prop := ∀ (x0 : S38), okS38 x0 → ∃ k, laws_FnExactReplyText.f k x0.f0 x0.f1 = some true
theorem laws_FnExactReplyText.walk (P : laws_FnExactReplyText.Pure) (x0 : S38) (cs0 : List Value) (w : World) (w0 : k38.K w x0 cs0) (o0 : okS38 x0) (htab : Lib.TabIs Tryd.prog w "internal/strconv.uint64pow10" .u64 Lib.pow10Tab) :
  Calls Tryd.prog 5 #[.agg ⟨cs0⟩] w fun e w' => e = .returned (.bool true) ∧ Below w.heap.size w w' := by
 obtain ⟨rfl⟩ := k38_open w0
 obtain ⟨k, h⟩ := P x0 o0
 refine (laws_FnExactReplyText.calls k x0.f0 x0.f1 w htab h).mono ?_
 rintro e w' ⟨rfl, hd⟩
 exact ⟨rfl, hd⟩

end Go.Proofs.YtmnjdmmljkahgaaDoor.PR
