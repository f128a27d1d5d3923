import Derived.Test.YtmnjdmmljkahgaaPWx0
import Derived.Test.YtmnjdmmljkahgaaPWx2
import Derived.Test.YtmnjdmmljkahgaaPWx3
import Derived.Test.YtmnjdmmljkahgaaPWx4
import Derived.Test.YtmnjdmmljkahgaaLBase
import Derived.Test.YtmnjdmmljkahgaaLTimers
import Derived.Test.YtmnjdmmljkahgaaLWheels
import Derived.Test.YtmnjdmmljkahgaaLWithin
namespace Go.Proofs.Ytmnjdmmljkahgaa.Pure
open Go.RowKit Go.Proofs.Ytmnjdmmljkahgaa.PW Go.Proofs.YtmnjdmmljkahgaaW.PrintWords Go.Proofs.YtmnjdmmljkahgaaW.PrintLast Go.Proofs.YtmnjdmmljkahgaaW.PrintMore
set_option linter.unusedVariables false
set_option linter.unusedSimpArgs false
theorem isId_eq (a : Int) : impl_isId.f a = some (decide (0 ≤ a ∧ a ≤ 2147483647)) := by
  unfold impl_isId.f
  rw [within_eq]
  rfl
theorem compare_eq (a b : Int) : cmp_Compare_int.f a b = some (if a < b then -1 else if a > b then 1 else 0) := by
  unfold cmp_Compare_int.f cmp_isNaN_int.f
  by_cases c : a < b
  · simp [c]
  · by_cases c2 : a > b <;> simp [c, c2]
theorem or2_ev (a b : Int) : Ev (fun k => cmp_Or_int.f k [a, b]) (if a = 0 then b else a) := by
  unfold cmp_Or_int.f
  refine Ev.step (fun k => by rw [cmp_Or_int.l0]) (ev_if_pos (by simp) (ev_if_pos (by omega) (ev_if_pos (by simp) ?_)))
  by_cases c : a = 0
  · refine ev_if_pos (by simpa [rd] using c) ?_
    rw [if_pos c]
    refine Ev.step (fun k => by rw [cmp_Or_int.l0]) ?_
    rw [w64 (x := 0 + 1) (by decide) (by decide), show (0 : Int) + 1 = 1 by decide]
    refine ev_if_pos (by simp) (ev_if_pos (by omega) (ev_if_pos (by simp) ?_))
    by_cases d : b = 0
    · refine ev_if_pos (by simpa [rd] using d) ?_
      refine Ev.step (fun k => by rw [cmp_Or_int.l0]) ?_
      rw [w64 (x := 1 + 1) (by decide) (by decide), show (1 : Int) + 1 = 2 by decide]
      exact ev_if_neg (by simp) (ev_done d.symm)
    · refine ev_if_neg (by simpa [rd] using d) (ev_done ?_)
      simp [rd]
  · refine ev_if_neg (by simpa [rd] using c) (ev_done ?_)
    rw [if_neg c]
    simp [rd]
theorem compareTimers_ev (x y : S93) : ∃ q, Ev (fun k => impl_compareTimers.f k x.f0 x.f1 y.f0 y.f1) q ∧ (q ≥ 0 ↔ ¬ aheadP x y) := by
  unfold impl_compareTimers.f
  refine ⟨_, ev_bind_eq (compare_eq _ _) (ev_bind_eq (compare_eq _ _) (Ev.bind (or2_ev _ _) (Ev.now _))), ?_⟩
  unfold aheadP
  by_cases c1 : x.f1 < y.f1
  · simp [c1]
  · by_cases c2 : x.f1 > y.f1
    · simp [c1, c2]
      omega
    · by_cases c3 : x.f0 < y.f0
      · simp [c1, c2, c3]
        omega
      · by_cases c4 : x.f0 > y.f0 <;> simp [c1, c2, c3, c4]
theorem implWheel_loop (now : Int) (h0 : 0 ≤ now) (h1 : now ≤ 1000000) (l : List S93) (hn : l.length ≤ 1048576) (d : Nat) : ∀ (i : Nat), i ≤ l.length → l.length - i = d →
    ∃ b, Ev (fun k => impl_WheelOk.l0 k l (l.length : Int) (i : Int) now l) b ∧ (b = true ↔ TimersFrom now l i) := by
  induction d with
  | zero =>
    intro i hi hd
    exact ⟨true, Ev.step (fun k => by rw [impl_WheelOk.l0]) (ev_if_neg (by omega) (Ev.now _)), ⟨fun _ => timersFrom_end now l i (by omega), fun _ => rfl⟩⟩
  | succ d ih =>
    intro i hi hd
    have hi' : i < l.length := by omega
    obtain ⟨b, eb, hb⟩ := ih (i + 1) (by omega) (by omega)
    rw [Int.natCast_add, Int.natCast_one] at eb
    have S := timersFrom_step now l i hi'
    have bad : ¬ TimerP now l i hi' → (false = true ↔ TimersFrom now l i) := fun h => ⟨fun z => absurd z (by simp), fun z => absurd (S.1 z).1 h⟩
    have good : TimerP now l i hi' → (b = true ↔ TimersFrom now l i) := fun h => ⟨fun z => S.2 ⟨h, hb.1 z⟩, fun z => hb.2 (S.1 z).2⟩
    have fi := first_is l i hi'
    by_cases a1 : 0 ≤ l[i].f0 ∧ l[i].f0 ≤ 2147483647
    case neg =>
      refine ⟨false, Ev.step (fun k => by rw [impl_WheelOk.l0]) ?_, bad (fun h => a1 ⟨h.1, h.2.1⟩)⟩
      rw [rd_T93_get l i hi']
      refine ev_if_pos (by omega) (ev_if_pos (by omega) (ev_if_pos (by omega) (ev_bind_eq (isId_eq _) ?_)))
      rw [decide_eq_false a1]
      exact ev_if_neg (by simp) (Ev.now _)
    by_cases a2 : impl_Wheel_timer.find l[i].f0 l 0 = (i : Int)
    case neg =>
      refine ⟨false, Ev.step (fun k => by rw [impl_WheelOk.l0]) ?_, bad (fun h => a2 (fi.2 h.2.2.2.2.2))⟩
      rw [rd_T93_get l i hi']
      refine ev_if_pos (by omega) (ev_if_pos (by omega) (ev_if_pos (by omega) (ev_bind_eq (isId_eq _) ?_)))
      rw [decide_eq_true a1]
      exact ev_if_pos rfl (ev_bind_eq (timer_eq _ _ _ hn) (ev_if_neg a2 (Ev.now _)))
    by_cases a3 : now + 1 ≤ l[i].f1 ∧ l[i].f1 ≤ 2000000
    case neg =>
      refine ⟨false, Ev.step (fun k => by rw [impl_WheelOk.l0]) ?_, bad (fun h => a3 ⟨by have := h.2.2.1; omega, h.2.2.2.1⟩)⟩
      rw [rd_T93_get l i hi', w64 (x := now + 1) (by omega) (by omega)]
      refine ev_if_pos (by omega) (ev_if_pos (by omega) (ev_if_pos (by omega) (ev_bind_eq (isId_eq _) ?_)))
      rw [decide_eq_true a1]
      refine ev_if_pos rfl (ev_bind_eq (timer_eq _ _ _ hn) (ev_if_pos a2 (ev_bind_eq (within_eq _ _ _) ?_)))
      rw [decide_eq_false a3]
      exact ev_if_neg (by simp) (Ev.now _)
    have pre : ∀ q : Bool, Ev (fun k => (if (i : Int) > 0 then (if 0 ≤ (wrap64 ((i : Int) - 1)) then (if (wrap64 ((i : Int) - 1)) < (l.length : Int) then ((impl_compareTimers.f k ((rd_T93 l (wrap64 ((i : Int) - 1))).f0) ((rd_T93 l (wrap64 ((i : Int) - 1))).f1) (l[i].f0) (l[i].f1)).bind fun t168 => (if t168 ≥ 0 then (some false) else (impl_WheelOk.l0 k l (l.length : Int) (wrap64 ((i : Int) + 1)) now l))) else (none)) else (none)) else (impl_WheelOk.l0 k l (l.length : Int) (wrap64 ((i : Int) + 1)) now l))) q → Ev (fun k => impl_WheelOk.l0 k l (l.length : Int) (i : Int) now l) q := by
      intro q h
      refine Ev.step (fun k => by rw [impl_WheelOk.l0]) ?_
      rw [rd_T93_get l i hi', w64 (x := now + 1) (by omega) (by omega)]
      refine ev_if_pos (by omega) (ev_if_pos (by omega) (ev_if_pos (by omega) (ev_bind_eq (isId_eq _) ?_)))
      rw [decide_eq_true a1]
      refine ev_if_pos rfl (ev_bind_eq (timer_eq _ _ _ hn) (ev_if_pos a2 (ev_bind_eq (within_eq _ _ _) ?_)))
      rw [decide_eq_true a3]
      exact ev_if_pos rfl h
    have P : (0 < i → aheadP (l[i - 1]'(by omega)) l[i]) → TimerP now l i hi' := fun h => ⟨a1.1, a1.2, by omega, a3.2, h, fi.1 a2⟩
    by_cases i0 : 0 < i
    · have hi1 : i - 1 < l.length := by omega
      have ei : (i : Int) - 1 = ((i - 1 : Nat) : Int) := by omega
      obtain ⟨q, eq, hq⟩ := compareTimers_ev l[i - 1] l[i]
      by_cases a5 : q ≥ 0
      · refine ⟨false, pre _ (ev_if_pos (by omega) ?_), bad (fun h => hq.1 a5 (h.2.2.2.2.1 i0))⟩
        rw [w64 (x := (i : Int) - 1) (by omega) (by omega), ei, rd_T93_get l (i - 1) hi1]
        exact ev_if_pos (by omega) (ev_if_pos (by omega) (Ev.bind eq (ev_if_pos a5 (Ev.now _))))
      · refine ⟨b, pre _ (ev_if_pos (by omega) ?_), good (P (fun _ => Classical.not_not.1 (fun z => a5 (hq.2 z))))⟩
        rw [w64 (x := (i : Int) - 1) (by omega) (by omega), ei, rd_T93_get l (i - 1) hi1, w64 (x := (i : Int) + 1) (by omega) (by omega)]
        exact ev_if_pos (by omega) (ev_if_pos (by omega) (Ev.bind eq (ev_if_neg a5 eb)))
    · refine ⟨b, pre _ (ev_if_neg (by omega) ?_), good (P (fun z => absurd z i0))⟩
      rw [w64 (x := (i : Int) + 1) (by omega) (by omega)]
      exact eb
theorem implWheelOk_ev (now : Int) (l : List S93) (hn : l.length ≤ 1048576) : ∃ b, Ev (fun k => impl_WheelOk.f k now l) b ∧ (b = true ↔ WheelP now l) := by
  have T : Ev (fun k => impl_WheelOk.j0 k true now l) false := Ev.step (fun k => by rw [impl_WheelOk.j0]) (ev_if_pos rfl (Ev.now _))
  unfold impl_WheelOk.f WheelP
  by_cases a1 : 0 ≤ now ∧ now ≤ 1000000
  case neg =>
    refine ⟨false, ev_bind_eq (within_eq _ _ _) ?_, ⟨fun h => absurd h (by simp), fun h => absurd ⟨h.1, h.2.1⟩ a1⟩⟩
    rw [decide_eq_false a1]
    exact ev_if_neg (by simp) T
  by_cases a3 : (l.length : Int) > 40
  · refine ⟨false, ev_bind_eq (within_eq _ _ _) ?_, ⟨fun h => absurd h (by simp), fun h => by have := h.2.2.1; omega⟩⟩
    rw [decide_eq_true a1, decide_eq_true a3]
    exact ev_if_pos rfl T
  · obtain ⟨b, e, hb⟩ := implWheel_loop now a1.1 a1.2 l hn l.length 0 (by omega) (by omega)
    have e : Ev (fun k => impl_WheelOk.l0 k l (l.length : Int) 0 now l) b := e
    refine ⟨b, ev_bind_eq (within_eq _ _ _) ?_, hb.trans ⟨fun h => ⟨a1.1, a1.2, by omega, fun i hi => h i (by omega) hi⟩, fun h j _ hj => h.2.2.2 j hj⟩⟩
    rw [decide_eq_true a1, decide_eq_false a3]
    exact ev_if_pos rfl (Ev.step (fun k => by rw [impl_WheelOk.j0]) (ev_if_neg (by simp) e))
theorem wheels_same (now : Int) (l : List S93) (hn : l.length ≤ 1048576) : ∃ b, Ev (fun k => spec_WheelOk.f k now l) b ∧ Ev (fun k => impl_WheelOk.f k now l) b := by
  obtain ⟨b, e, h⟩ := specWheelOk_ev now l hn
  obtain ⟨v, e', h'⟩ := implWheelOk_ev now l hn
  have same : v = b := by
    have : v = true ↔ b = true := h'.trans h.symm
    cases v <;> cases b <;> simp_all
  exact ⟨b, e, same ▸ e'⟩

end Go.Proofs.Ytmnjdmmljkahgaa.Pure
