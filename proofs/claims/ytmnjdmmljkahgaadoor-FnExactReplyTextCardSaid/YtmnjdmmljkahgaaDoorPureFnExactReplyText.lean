/- What is proved: the program's ReplyText answers as the reference's, for all arguments; what it answers shares no memory with the result of another call. Conditions: none beyond those of the given statement (start-up tables as the program's text lays them, tied by the card). -/
import Derived.Test.YtmnjdmmljkahgaaDoorPRx0
import Derived.Test.YtmnjdmmljkahgaaDoorPRx1
import Derived.Test.YtmnjdmmljkahgaaDoorPRx2
import Derived.Test.YtmnjdmmljkahgaaDoorPRx3
import Derived.Test.YtmnjdmmljkahgaaDoorLAR
namespace Go.Proofs.YtmnjdmmljkahgaaDoor.Pure
open Go.RowKit Go.Proofs.YtmnjdmmljkahgaaDoor.PR Go.Proofs.YtmnjdmmljkahgaaDoorW.PrintWords Go.Proofs.YtmnjdmmljkahgaaDoorW.PrintLast Go.Proofs.YtmnjdmmljkahgaaDoorW.PrintMore
set_option linter.unusedVariables false
set_option linter.unusedSimpArgs false
def codes6 : List ByteArray := [(⟨#[119, 101, 108, 108]⟩ : ByteArray), (⟨#[110, 111, 110, 101]⟩ : ByteArray), (⟨#[104, 101, 108, 100]⟩ : ByteArray), (⟨#[116, 117, 114, 110, 101, 100]⟩ : ByteArray), (⟨#[102, 117, 108, 108]⟩ : ByteArray), (⟨#[111, 108, 100]⟩ : ByteArray)]
theorem codes6_at (c : Int) (h0 : 0 ≤ c) (h1 : c ≤ 5) : 0 < (rdOf ByteArray.empty codes6 c).data.toList.length ∧ (rdOf ByteArray.empty codes6 c).data.toList.length ≤ 6 ∧ (rdOf ByteArray.empty codes6 c).size ≤ 6 := by
  have h : c = 0 ∨ c = 1 ∨ c = 2 ∨ c = 3 ∨ c = 4 ∨ c = 5 := by omega
  rcases h with rfl | rfl | rfl | rfl | rfl | rfl <;> exact ⟨by decide, by decide, by decide⟩
theorem reply_same (c i : Int) : ∃ r : List Int, r.length ≤ 2000000 ∧ Ev (fun k => spec_ReplyText.f k c i) r ∧ Ev (fun k => impl_ReplyText.f k c i) r := by
  have out : ∀ g : Bool, g = true → Ev (fun k => impl_ReplyText.j0 k g c i) [] := fun g hg => Ev.step (fun k => by rw [impl_ReplyText.j0]) (ev_if_pos hg (Ev.now _))
  unfold spec_ReplyText.f impl_ReplyText.f
  by_cases c1 : c < 0
  · refine ⟨[], by simp, ev_if_pos c1 (Ev.now _), ?_⟩
    refine ev_bind_eq (a := false) (by unfold impl_within.f; rw [if_neg (by omega)]) (ev_if_neg (by simp) (out true rfl))
  by_cases c2 : c > 5
  · refine ⟨[], by simp, ev_if_neg c1 (ev_if_pos c2 (Ev.now _)), ?_⟩
    refine ev_bind_eq (a := false) (by unfold impl_within.f; rw [if_pos (by omega), decide_eq_false (by omega)]) (ev_if_neg (by simp) (out true rfl))
  have hc : impl_within.f c 0 5 = some true := by unfold impl_within.f; rw [if_pos (by omega), decide_eq_true (by omega)]
  by_cases c3 : 0 ≤ i ∧ i ≤ 1000000
  · obtain ⟨n, rfl⟩ := Int.eq_ofNat_of_zero_le c3.1
    have hn : n ≤ 1000000 := by omega
    obtain ⟨s1, s2, s3⟩ := codes6_at c (by omega) (by omega)
    have hl := dec_len n
    have hw1 := l8word_eq (rdOf ByteArray.empty codes6 c).data.toList (Lib.decDigits n) s1 (by omega) (by omega)
    have hw2 := implSpaced2_eq (rdOf ByteArray.empty codes6 c).data.toList (Lib.decDigits n) (by omega) (by omega)
    have hv1 : virtual_bytes.f (rdOf ByteArray.empty codes6 c) = some (nums8 (rdOf ByteArray.empty codes6 c).data.toList) := by
      unfold virtual_bytes.f
      rw [if_pos (by omega)]
      rfl
    have hv2 : virtual_bytesV.f (rdOf ByteArray.empty codes6 c) = some (nums8 (rdOf ByteArray.empty codes6 c).data.toList) := by
      unfold virtual_bytesV.f
      rw [if_pos (by omega)]
      rfl
    refine ⟨nums8 ((rdOf ByteArray.empty codes6 c).data.toList ++ 32 :: Lib.decDigits n), by rw [nums8_length, List.length_append, List.length_cons]; omega, ?_, ?_⟩
    · refine ev_if_neg c1 (ev_if_neg c2 (ev_bind_eq (a := true) (by unfold spec_l2index.f; rw [if_pos (by omega), decide_eq_true (by omega)]) (ev_if_pos rfl (Ev.bind ?_ (Ev.now _)))))
      unfold spec_l8reply.f
      refine ev_bind_eq (a := rdOf ByteArray.empty codes6 c) ?_ (ev_bind_eq hv1 (Ev.bind (l8digits_ev n hn) (ev_bind_eq hw1 (Ev.now _))))
      unfold spec_l8code.f
      show (if 0 ≤ c then (if c < (codes6.length : Int) then some (rdOf ByteArray.empty codes6 c) else none) else none) = _
      rw [if_pos (by omega), if_pos (by show c < 6; omega)]
    · refine ev_bind_eq hc (ev_if_pos rfl (ev_bind_eq (a := true) (by unfold impl_within.f; rw [if_pos (by omega), decide_eq_true (by omega)]) ?_))
      refine Ev.step (fun k => by rw [impl_ReplyText.j0]) (ev_if_neg (by simp) ?_)
      refine ev_bind_eq (a := codes6) rfl (ev_if_pos (by omega) (ev_if_pos (by show c < 6; omega) ?_))
      exact ev_bind_eq hv2 (ev_bind_eq (implDecimal_eq n hn) (ev_bind_eq hw2 (Ev.now _)))
  · refine ⟨[], by simp, ?_, ?_⟩
    · refine ev_if_neg c1 (ev_if_neg c2 (ev_bind_eq (a := false) ?_ (ev_if_neg (by simp) (Ev.now _))))
      unfold spec_l2index.f
      by_cases c4 : i ≥ 0
      · rw [if_pos c4, decide_eq_false (by omega)]
      · rw [if_neg c4]
    · refine ev_bind_eq hc (ev_if_pos rfl (ev_bind_eq (a := false) ?_ (out _ rfl)))
      unfold impl_within.f
      by_cases c4 : 0 ≤ i
      · rw [if_pos c4, decide_eq_false (by omega)]
      · rw [if_neg c4]
theorem FnExactReplyText : laws_FnExactReplyText.Pure := by
  intro x0 _
  refine Ev.rounds ?_
  unfold laws_FnExactReplyText.f
  obtain ⟨r, hr, e1, e2⟩ := reply_same x0.f0 x0.f1
  have et : laws_toReply.f x0.f0 x0.f1 = some (x0.f0, x0.f1) := rfl
  have eb := eqByteS_self r (by omega)
  have mb := markByteS_ev r 1 (by omega) (by omega)
  have hb := heldByteS_ev r.length 1 (by omega) (by omega)
  refine ev_bind_eq et (Ev.bind e1 (ev_bind_eq et (Ev.bind e2 (Ev.bind eb (ev_if_pos rfl (Ev.bind mb (Ev.bind hb (ev_if_neg (by omega) (ev_if_pos rfl (ev_bind_eq et (Ev.bind e2 (Ev.bind eb (ev_if_pos rfl (Ev.bind hb (ev_if_neg (by omega) (ev_if_pos rfl (Ev.now _)))))))))))))))))

end Go.Proofs.YtmnjdmmljkahgaaDoor.Pure
