/- What is proved: the program's OpText answers as the reference's, for all operations; it leaves its argument alone, and what it answers shares no memory with it or with the result of another call. Conditions: none beyond those of the given statement (start-up tables as the program's text lays them, tied by the card). -/
import Derived.Test.YtmnjdmmljkahgaaDoorPEx0
import Derived.Test.YtmnjdmmljkahgaaDoorPEx2
import Derived.Test.YtmnjdmmljkahgaaDoorPEx3
import Derived.Test.YtmnjdmmljkahgaaDoorPEx6
import Derived.Test.YtmnjdmmljkahgaaDoorPEx7
import Derived.Test.YtmnjdmmljkahgaaDoorLAE
namespace Go.Proofs.YtmnjdmmljkahgaaDoor.Pure
open Go.RowKit Go.Proofs.YtmnjdmmljkahgaaDoor.PE Go.Proofs.YtmnjdmmljkahgaaDoorW.PrintWords Go.Proofs.YtmnjdmmljkahgaaDoorW.PrintLast Go.Proofs.YtmnjdmmljkahgaaDoorW.PrintMore
set_option linter.unusedVariables false
set_option linter.unusedSimpArgs false
theorem opText_same (kd : Int) (key val : List Int) (n : Int) (hk : key.length ≤ 1048576) (hv : val.length ≤ 1048576) (hkb : ∀ z ∈ key, 0 ≤ z ∧ z < 256) (hvb : ∀ z ∈ val, 0 ≤ z ∧ z < 256) :
    ∃ (r : List Int) (b : Bool), r.length ≤ 8000000 ∧ Ev (fun k => spec_OpText.f k kd key val n) (r, b) ∧ Ev (fun k => impl_OpText.f k kd key val n) (r, b) := by
  cases hok : opOkP kd key val n with
  | false =>
    refine ⟨[], false, by simp, ?_, ?_⟩
    · have h := specOpOk_ev kd key val n (by omega)
      rw [hok] at h
      unfold spec_OpText.f
      exact Ev.bind h (ev_if_neg (by simp) (Ev.now _))
    · have h := implOpOk_ev kd key val n (by omega)
      rw [hok] at h
      unfold impl_OpText.f
      exact Ev.bind h (ev_if_neg (by simp) (Ev.now _))
  | true =>
    have hok2 := hok
    unfold opOkP at hok2
    have hkp : ∀ l : List Int, keyP l = true → 0 < l.length := by
      intro l hl
      unfold keyP at hl
      simp at hl
      omega
    rcases of_decide_eq_true hok2 with ⟨rfl, h1, h2, rfl⟩ | ⟨rfl, h1, h2, rfl⟩ | ⟨rfl, h1, h2, h3, h4⟩ | ⟨rfl, h1, h2, rfl⟩ | ⟨rfl, h1, h2, h3, h4⟩ | ⟨rfl, h1, h2, h3, h4⟩ | ⟨rfl, h1, h2, h3, h4⟩ | ⟨rfl, h1, h2, h3, h4⟩
    · obtain ⟨r, a, b, c⟩ := opText_go 0 (⟨#[110, 111, 110, 101]⟩ : ByteArray) (⟨#[]⟩ : ByteArray) key val 0 false false rfl rfl (by omega) (by omega) hvb hk hkb rfl rfl (by decide) rfl (by decide) (by simp) (by simp [h1]) hok
      exact ⟨r, true, a, b, c⟩
    · obtain ⟨r, a, b, c⟩ := opText_go 1 (⟨#[115, 101, 116]⟩ : ByteArray) (⟨#[107, 118]⟩ : ByteArray) key val 0 true false rfl rfl (by omega) (by omega) hvb hk hkb rfl rfl (by decide) rfl (by decide) (by simp) (by simp [hkp key h1, pickP]) hok
      exact ⟨r, true, a, b, c⟩
    · obtain ⟨m, rfl⟩ := Int.eq_ofNat_of_zero_le h3
      obtain ⟨r, a, b, c⟩ := opText_go 2 (⟨#[99, 97, 115]⟩ : ByteArray) (⟨#[107, 118, 110]⟩ : ByteArray) key val m true true rfl rfl (by omega) (by omega) hvb hk hkb rfl rfl (by decide) rfl (by decide) (by simp) (by simp [hkp key h1, pickP]) hok
      exact ⟨r, true, a, b, c⟩
    · obtain ⟨r, a, b, c⟩ := opText_go 3 (⟨#[100, 101, 108]⟩ : ByteArray) (⟨#[107]⟩ : ByteArray) key val 0 false false rfl rfl (by omega) (by omega) hvb hk hkb rfl rfl (by decide) rfl (by decide) (by simp) (by simp [hkp key h1, pickP]) hok
      exact ⟨r, true, a, b, c⟩
    · obtain ⟨m, rfl⟩ := Int.eq_ofNat_of_zero_le h3
      obtain ⟨r, a, b, c⟩ := opText_go 4 (⟨#[111, 112, 101, 110]⟩ : ByteArray) (⟨#[110]⟩ : ByteArray) key val m false true rfl rfl (by omega) (by omega) hvb hk hkb rfl rfl (by decide) rfl (by decide) (by simp) (by simp [h1, pickP]) hok
      exact ⟨r, true, a, b, c⟩
    · obtain ⟨m, rfl⟩ := Int.eq_ofNat_of_zero_le (show (0 : Int) ≤ n by omega)
      obtain ⟨r, a, b, c⟩ := opText_go 5 (⟨#[115, 104, 117, 116]⟩ : ByteArray) (⟨#[110]⟩ : ByteArray) key val m false true rfl rfl (by omega) (by omega) hvb hk hkb rfl rfl (by decide) rfl (by decide) (by simp) (by simp [h1, pickP]) hok
      exact ⟨r, true, a, b, c⟩
    · obtain ⟨m, rfl⟩ := Int.eq_ofNat_of_zero_le (show (0 : Int) ≤ n by omega)
      obtain ⟨r, a, b, c⟩ := opText_go 6 (⟨#[116, 97, 107, 101]⟩ : ByteArray) (⟨#[107, 118, 110]⟩ : ByteArray) key val m true true rfl rfl (by omega) (by omega) hvb hk hkb rfl rfl (by decide) rfl (by decide) (by simp) (by simp [hkp key h1, pickP]) hok
      exact ⟨r, true, a, b, c⟩
    · obtain ⟨m, rfl⟩ := Int.eq_ofNat_of_zero_le (show (0 : Int) ≤ n by omega)
      obtain ⟨r, a, b, c⟩ := opText_go 7 (⟨#[102, 114, 101, 101]⟩ : ByteArray) (⟨#[107, 110]⟩ : ByteArray) key val m false true rfl rfl (by omega) (by omega) hvb hk hkb rfl rfl (by decide) rfl (by decide) (by simp) (by simp [hkp key h1, pickP]) hok
      exact ⟨r, true, a, b, c⟩
theorem markOp_ev (kd : Int) (key val : List Int) (n a : Int) (h0 : 0 ≤ a) (h1 : a ≤ 1000) (hk : key.length ≤ 1048576) (hv : val.length ≤ 1048576) : ∃ (x : Int) (y z : List Int), Ev (fun k => laws_markOp.f k kd key val n a) (x, y, z) ∧ 0 ≤ x := by
  unfold laws_markOp.f
  have e1 := markByteS_ev key a h0 (by omega)
  have e2 := markByteS_ev val (a + (key.length : Int)) (by omega) (by omega)
  exact ⟨_, _, _, Ev.bind e1 (Ev.bind e2 (Ev.now _)), by omega⟩
theorem FnExactOpText : laws_FnExactOpText.Pure := by
  intro x0 ⟨h0, ⟨h1, b1⟩, ⟨h2, b2⟩, h3⟩
  refine Ev.rounds ?_
  unfold laws_FnExactOpText.f
  obtain ⟨q, e, hq⟩ := szOp_eq x0.f0 x0.f1 x0.f2 x0.f3 1048576 (by decide) (by decide) h1 h2
  refine ev_bind_eq e ?_
  by_cases c : q < 0
  · exact ev_if_pos c (Ev.now _)
  refine ev_if_neg c ?_
  obtain ⟨hr1, hr2, hr3⟩ := hq (by omega)
  obtain ⟨r, b, hr, es, ei⟩ := opText_same x0.f0 x0.f1 x0.f2 x0.f3 (by omega) (by omega) (byteR b1) (byteR b2)
  have et := toOp_ev x0.f0 x0.f1 x0.f2 x0.f3 (by omega) (by omega)
  have eq := eqOp_self x0.f0 x0.f1 x0.f2 x0.f3 (by omega) (by omega)
  obtain ⟨mx, my, mz, em, hm⟩ := markOp_ev x0.f0 x0.f1 x0.f2 x0.f3 1 (by omega) (by omega) (by omega) (by omega)
  have eb := eqByteS_self r (by omega)
  have mb := markByteS_ev r 1 (by omega) (by omega)
  have hb := heldByteS_ev r.length 1 (by omega) (by omega)
  have nb : ¬ ((b != b) = true) := by simp
  have nm : ¬ (mx < 0) := by omega
  have nr : ¬ ((1 : Int) + (r.length : Int) < 0) := by omega
  refine Ev.bind et (Ev.bind es (Ev.bind et (Ev.bind ei (Ev.bind eb (ev_if_pos rfl ?_)))))
  refine Ev.step (fun k => by rw [laws_FnExactOpText.j0]) (ev_if_neg nb (Ev.bind et (Ev.bind eq (ev_if_pos rfl (Ev.bind em (ev_if_neg nm (Ev.bind eb (ev_if_pos rfl ?_))))))))
  refine Ev.step (fun k => by rw [laws_FnExactOpText.j1]) (ev_if_neg nb (Ev.bind mb (Ev.bind hb (ev_if_neg nr (ev_if_pos rfl (Ev.bind et (Ev.bind ei (Ev.bind eb (ev_if_pos rfl ?_)))))))))
  exact Ev.step (fun k => by rw [laws_FnExactOpText.j2]) (ev_if_neg nb (Ev.bind hb (ev_if_neg nr (ev_if_pos rfl (Ev.now _)))))

end Go.Proofs.YtmnjdmmljkahgaaDoor.Pure
