import Derived.Test.YtmnjdmmljkahgaaPWx0
import Derived.Test.YtmnjdmmljkahgaaPWx1
import Derived.Test.YtmnjdmmljkahgaaPWx2
import Derived.Test.YtmnjdmmljkahgaaPWx3
import Derived.Test.YtmnjdmmljkahgaaLBase
import Derived.Test.YtmnjdmmljkahgaaLTimers
namespace Go.Proofs.Ytmnjdmmljkahgaa.Pure
open Go.RowKit Go.Proofs.Ytmnjdmmljkahgaa.PW Go.Proofs.YtmnjdmmljkahgaaW.PrintWords Go.Proofs.YtmnjdmmljkahgaaW.PrintLast Go.Proofs.YtmnjdmmljkahgaaW.PrintMore
set_option linter.unusedVariables false
set_option linter.unusedSimpArgs false
theorem find_spec (id : Int) (l : List S93) : ∀ i : Int, 0 ≤ i → (impl_Wheel_timer.find id l i = -1 ∧ ∀ x ∈ l, x.f0 ≠ id) ∨ ∃ j : Nat, ∃ h : j < l.length, impl_Wheel_timer.find id l i = i + (j : Int) ∧ l[j].f0 = id ∧ ∀ k (hk : k < j), l[k].f0 ≠ id := by
  induction l with
  | nil =>
    intro i _
    exact .inl ⟨rfl, fun x hx => absurd hx (by simp)⟩
  | cons x xs ih =>
    intro i hi
    rw [impl_Wheel_timer.find]
    by_cases c : x.f0 = id
    · rw [if_pos c]
      exact .inr ⟨0, by simp, by simp, by simpa using c, fun k hk => absurd hk (by omega)⟩
    · rw [if_neg c]
      rcases ih (i + 1) (by omega) with ⟨e, h⟩ | ⟨j, hj, e, h1, h2⟩
      · refine .inl ⟨e, fun y hy => ?_⟩
        rcases List.mem_cons.1 hy with rfl | hy
        · exact c
        · exact h y hy
      · refine .inr ⟨j + 1, by simpa using hj, by rw [e]; omega, by simpa using h1, fun k hk => ?_⟩
        cases k with
        | zero => simpa using c
        | succ k => simpa using h2 k (by omega)
theorem l7find_loop (id : Int) (l : List S93) (hn : l.length ≤ 1048576) (d : Nat) : ∀ (i : Nat), i ≤ l.length → l.length - i = d → Ev (fun k => spec_l7find.l0 k l id (i : Int)) (impl_Wheel_timer.find id (l.drop i) (i : Int)) := by
  induction d with
  | zero =>
    intro i hi hd
    refine Ev.step (fun k => by rw [spec_l7find.l0]) (ev_if_neg (by omega) (ev_done ?_))
    rw [List.drop_of_length_le (by omega), impl_Wheel_timer.find]
  | succ d ih =>
    intro i hi hd
    have hi' : i < l.length := by omega
    have h := ih (i + 1) (by omega) (by omega)
    refine Ev.step (fun k => by rw [spec_l7find.l0]) ?_
    rw [rd_T93_get l i hi', w64 (x := (i : Int) + 1) (by omega) (by omega), List.drop_eq_getElem_cons hi', impl_Wheel_timer.find]
    rw [Int.natCast_add, Int.natCast_one] at h
    by_cases c : l[i].f0 = id
    · rw [if_pos c]
      exact ev_if_pos (by omega) (ev_if_pos (by omega) (ev_if_pos c (Ev.now _)))
    · rw [if_neg c]
      exact ev_if_pos (by omega) (ev_if_pos (by omega) (ev_if_neg c h))
theorem l7find_ev (id : Int) (l : List S93) (hn : l.length ≤ 1048576) : Ev (fun k => spec_l7find.f k l id) (impl_Wheel_timer.find id l 0) := by
  unfold spec_l7find.f
  exact l7find_loop id l hn l.length 0 (by omega) (by omega)
theorem timer_eq (a : Int) (l : List S93) (id : Int) (hn : l.length ≤ 1048576) : impl_Wheel_timer.f a l id = some (impl_Wheel_timer.find id l 0) := by
  unfold impl_Wheel_timer.f
  rw [if_pos (by omega)]
/-- One timer stands before another. -/
def aheadP (x y : S93) : Prop := x.f1 < y.f1 ∨ x.f1 = y.f1 ∧ x.f0 < y.f0
/-- What is asked of a timer of a wheel. -/
def TimerP (now : Int) (l : List S93) (i : Nat) (h : i < l.length) : Prop :=
  0 ≤ l[i].f0 ∧ l[i].f0 ≤ 2147483647 ∧ now < l[i].f1 ∧ l[i].f1 ≤ 2000000 ∧ (0 < i → aheadP (l[i - 1]'(by omega)) l[i]) ∧ ∀ j, (hj : j < i) → (l[j]'(by omega)).f0 ≠ l[i].f0
def WheelP (now : Int) (l : List S93) : Prop := 0 ≤ now ∧ now ≤ 1000000 ∧ l.length ≤ 40 ∧ ∀ i, (h : i < l.length) → TimerP now l i h
def TimersFrom (now : Int) (l : List S93) (i : Nat) : Prop := ∀ j, i ≤ j → (h : j < l.length) → TimerP now l j h
theorem timersFrom_end (now : Int) (l : List S93) (i : Nat) (h : l.length ≤ i) : TimersFrom now l i := fun j h1 h2 => absurd h2 (by omega)
theorem timersFrom_step (now : Int) (l : List S93) (i : Nat) (h : i < l.length) : TimersFrom now l i ↔ TimerP now l i h ∧ TimersFrom now l (i + 1) := by
  constructor
  · intro g
    exact ⟨g i (Nat.le_refl _) h, fun j h1 h2 => g j (by omega) h2⟩
  · rintro ⟨a, b⟩ j h1 h2
    by_cases e : j = i
    · subst e
      exact a
    · exact b j (by omega) h2
theorem l7ahead_eq (x y : S93) : ∃ b, spec_l7ahead.f x.f0 x.f1 y.f0 y.f1 = some b ∧ (b = true ↔ aheadP x y) := by
  unfold spec_l7ahead.f aheadP
  by_cases c : x.f1 < y.f1
  · rw [if_pos c]
    exact ⟨true, rfl, by simp [c]⟩
  · rw [if_neg c]
    by_cases c2 : x.f1 = y.f1
    · rw [if_pos c2]
      exact ⟨_, rfl, by rw [decide_eq_true_iff]; constructor <;> intro h <;> omega⟩
    · rw [if_neg c2]
      exact ⟨false, rfl, by constructor <;> intro h <;> first | simp at h | omega⟩
theorem seen_before (l : List S93) (i : Nat) (h : i < l.length) : 0 ≤ impl_Wheel_timer.find l[i].f0 (l.take i) 0 ↔ ∃ j, ∃ hj : j < i, (l[j]'(by omega)).f0 = l[i].f0 := by
  rcases find_spec l[i].f0 (l.take i) 0 (by omega) with ⟨e, g⟩ | ⟨j, hj, e, g1, g2⟩
  · rw [e]
    constructor
    · intro z
      exact absurd z (by decide)
    · rintro ⟨j, hj, z⟩
      refine absurd z (g (l[j]'(by omega)) ?_)
      rw [List.mem_take_iff_getElem]
      exact ⟨j, by omega, rfl⟩
  · rw [e]
    rw [List.length_take] at hj
    constructor
    · intro _
      exact ⟨j, by omega, by simpa using g1⟩
    · intro _
      omega
theorem first_is (l : List S93) (i : Nat) (h : i < l.length) : impl_Wheel_timer.find l[i].f0 l 0 = (i : Int) ↔ ∀ j, (hj : j < i) → (l[j]'(by omega)).f0 ≠ l[i].f0 := by
  rcases find_spec l[i].f0 l 0 (by omega) with ⟨e, g⟩ | ⟨j, hj, e, g1, g2⟩
  · exact absurd rfl (g l[i] (List.getElem_mem h))
  · rw [e]
    constructor
    · intro z k hk
      exact g2 k (by omega)
    · intro z
      have a : ¬ j < i := fun q => z j q g1
      have b : ¬ i < j := fun q => g2 i q rfl
      omega
theorem specWheel_loop (now : Int) (l : List S93) (hn : l.length ≤ 1048576) (d : Nat) : ∀ (i : Nat), i ≤ l.length → l.length - i = d →
    ∃ b, Ev (fun k => spec_WheelOk.l0 k (i : Int) now l) b ∧ (b = true ↔ TimersFrom now l i) := by
  induction d with
  | zero =>
    intro i hi hd
    exact ⟨true, Ev.step (fun k => by rw [spec_WheelOk.l0]) (ev_if_neg (by omega) (Ev.now _)), ⟨fun _ => timersFrom_end now l i (by omega), fun _ => rfl⟩⟩
  | succ d ih =>
    intro i hi hd
    have hi' : i < l.length := by omega
    obtain ⟨b, eb, hb⟩ := ih (i + 1) (by omega) (by omega)
    rw [Int.natCast_add, Int.natCast_one] at eb
    have S := timersFrom_step now l i hi'
    have bad : ¬ TimerP now l i hi' → (false = true ↔ TimersFrom now l i) := fun h => ⟨fun z => absurd z (by simp), fun z => absurd (S.1 z).1 h⟩
    have good : TimerP now l i hi' → (b = true ↔ TimersFrom now l i) := fun h => ⟨fun z => S.2 ⟨h, hb.1 z⟩, fun z => hb.2 (S.1 z).2⟩
    have lf := l7find_ev l[i].f0 (l.take i) (by rw [List.length_take]; omega)
    have sb := seen_before l i hi'
    have pre : ∀ q : Bool, Ev (fun k => (if l[i].f0 < 0 then (some false) else (if l[i].f0 > 2147483647 then (some false) else (if l[i].f1 ≤ now then (some false) else (if l[i].f1 > 2000000 then (some false) else (if (i : Int) > 0 then (if 0 ≤ (wrap64 ((i : Int) - 1)) then (if (wrap64 ((i : Int) - 1)) < (l.length : Int) then ((spec_l7ahead.f ((rd_T93 l (wrap64 ((i : Int) - 1))).f0) ((rd_T93 l (wrap64 ((i : Int) - 1))).f1) (l[i].f0) (l[i].f1)).bind fun t134 => (if t134 = true then (if (i : Int) ≤ (l.length : Int) then ((spec_l7find.f k (l.take (i : Int).toNat) (l[i].f0)).bind fun t139 => (if t139 ≥ 0 then (some false) else (spec_WheelOk.l0 k (wrap64 ((i : Int) + 1)) now l))) else (none)) else (some false))) else (none)) else (none)) else (if (i : Int) ≤ (l.length : Int) then ((spec_l7find.f k (l.take (i : Int).toNat) (l[i].f0)).bind fun t144 => (if t144 ≥ 0 then (some false) else (spec_WheelOk.l0 k (wrap64 ((i : Int) + 1)) now l))) else (none))))))) ) q → Ev (fun k => spec_WheelOk.l0 k (i : Int) now l) q := by
      intro q h
      refine Ev.step (fun k => by rw [spec_WheelOk.l0]) ?_
      rw [rd_T93_get l i hi']
      exact ev_if_pos (by omega) (ev_if_pos (by omega) h)
    have post : ∀ (H : ¬ 0 ≤ impl_Wheel_timer.find l[i].f0 (l.take i) 0), Ev (fun k => (if (i : Int) ≤ (l.length : Int) then ((spec_l7find.f k (l.take (i : Int).toNat) (l[i].f0)).bind fun t144 => (if t144 ≥ 0 then (some false) else (spec_WheelOk.l0 k (wrap64 ((i : Int) + 1)) now l))) else none)) b := by
      intro H
      rw [w64 (x := (i : Int) + 1) (by omega) (by omega), Int.toNat_natCast]
      exact ev_if_pos (by omega) (Ev.bind lf (ev_if_neg H eb))
    have postF : ∀ (H : 0 ≤ impl_Wheel_timer.find l[i].f0 (l.take i) 0), Ev (fun k => (if (i : Int) ≤ (l.length : Int) then ((spec_l7find.f k (l.take (i : Int).toNat) (l[i].f0)).bind fun t144 => (if t144 ≥ 0 then (some false) else (spec_WheelOk.l0 k (wrap64 ((i : Int) + 1)) now l))) else none)) false := by
      intro H
      rw [Int.toNat_natCast]
      exact ev_if_pos (by omega) (Ev.bind lf (ev_if_pos H (Ev.now _)))
    by_cases a1 : l[i].f0 < 0
    · exact ⟨false, pre _ (ev_if_pos a1 (Ev.now _)), bad (fun h => by have := h.1; omega)⟩
    by_cases a2 : l[i].f0 > 2147483647
    · exact ⟨false, pre _ (ev_if_neg a1 (ev_if_pos a2 (Ev.now _))), bad (fun h => by have := h.2.1; omega)⟩
    by_cases a3 : l[i].f1 ≤ now
    · exact ⟨false, pre _ (ev_if_neg a1 (ev_if_neg a2 (ev_if_pos a3 (Ev.now _)))), bad (fun h => by have := h.2.2.1; omega)⟩
    by_cases a4 : l[i].f1 > 2000000
    · exact ⟨false, pre _ (ev_if_neg a1 (ev_if_neg a2 (ev_if_neg a3 (ev_if_pos a4 (Ev.now _))))), bad (fun h => by have := h.2.2.2.1; omega)⟩
    by_cases i0 : 0 < i
    · have hi1 : i - 1 < l.length := by omega
      have ei : (i : Int) - 1 = ((i - 1 : Nat) : Int) := by omega
      obtain ⟨t, et, ht⟩ := l7ahead_eq l[i - 1] l[i]
      have step : ∀ q : Bool, Ev (fun k => (if t = true then (if (i : Int) ≤ (l.length : Int) then ((spec_l7find.f k (l.take (i : Int).toNat) (l[i].f0)).bind fun t139 => (if t139 ≥ 0 then (some false) else (spec_WheelOk.l0 k (wrap64 ((i : Int) + 1)) now l))) else (none)) else (some false))) q → Ev (fun k => spec_WheelOk.l0 k (i : Int) now l) q := by
        intro q h
        refine pre q (ev_if_neg a1 (ev_if_neg a2 (ev_if_neg a3 (ev_if_neg a4 (ev_if_pos (by omega) ?_)))))
        rw [w64 (x := (i : Int) - 1) (by omega) (by omega), ei, rd_T93_get l (i - 1) hi1]
        exact ev_if_pos (by omega) (ev_if_pos (by omega) (ev_bind_eq et h))
      by_cases a5 : t = true
      · by_cases a6 : 0 ≤ impl_Wheel_timer.find l[i].f0 (l.take i) 0
        · refine ⟨false, step _ (ev_if_pos a5 (postF a6)), bad (fun h => ?_)⟩
          obtain ⟨j, hj, z⟩ := sb.1 a6
          exact h.2.2.2.2.2 j hj z
        · refine ⟨b, step _ (ev_if_pos a5 (post a6)), good ⟨by omega, by omega, by omega, by omega, fun _ => ht.1 a5, fun j hj z => a6 (sb.2 ⟨j, hj, z⟩)⟩⟩
      · exact ⟨false, step _ (ev_if_neg a5 (Ev.now _)), bad (fun h => a5 (ht.2 (h.2.2.2.2.1 i0)))⟩
    · by_cases a6 : 0 ≤ impl_Wheel_timer.find l[i].f0 (l.take i) 0
      · obtain ⟨j, hj, z⟩ := sb.1 a6
        omega
      · refine ⟨b, pre _ (ev_if_neg a1 (ev_if_neg a2 (ev_if_neg a3 (ev_if_neg a4 (ev_if_neg (by omega) (post a6)))))), good ⟨by omega, by omega, by omega, by omega, fun q => absurd q i0, fun j hj _ => i0 (by omega)⟩⟩
theorem specWheelOk_ev (now : Int) (l : List S93) (hn : l.length ≤ 1048576) : ∃ b, Ev (fun k => spec_WheelOk.f k now l) b ∧ (b = true ↔ WheelP now l) := by
  have T : Ev (fun k => spec_WheelOk.j0 k true now l) false := Ev.step (fun k => by rw [spec_WheelOk.j0]) (ev_if_pos rfl (Ev.now _))
  unfold spec_WheelOk.f WheelP
  by_cases a1 : now < 0
  · exact ⟨false, ev_if_pos a1 T, ⟨fun h => absurd h (by simp), fun h => by have := h.1; omega⟩⟩
  by_cases a2 : now > 1000000
  · exact ⟨false, ev_if_neg a1 (ev_if_pos a2 T), ⟨fun h => absurd h (by simp), fun h => by have := h.2.1; omega⟩⟩
  by_cases a3 : (l.length : Int) > 40
  · refine ⟨false, ev_if_neg a1 (ev_if_neg a2 ?_), ⟨fun h => absurd h (by simp), fun h => by have := h.2.2.1; omega⟩⟩
    rw [decide_eq_true a3]
    exact T
  · obtain ⟨b, e, hb⟩ := specWheel_loop now l hn l.length 0 (by omega) (by omega)
    have e : Ev (fun k => spec_WheelOk.l0 k 0 now l) b := e
    refine ⟨b, ev_if_neg a1 (ev_if_neg a2 ?_), hb.trans ⟨fun h => ⟨by omega, by omega, by omega, fun i hi => h i (by omega) hi⟩, fun h j _ hj => h.2.2.2 j hj⟩⟩
    rw [decide_eq_false a3]
    exact Ev.step (fun k => by rw [spec_WheelOk.j0]) (ev_if_neg (by simp) e)

end Go.Proofs.Ytmnjdmmljkahgaa.Pure
