import Derived.Test.YtmnjdmmljkahgaaPWx0
import Derived.Test.YtmnjdmmljkahgaaPWx1
import Derived.Test.YtmnjdmmljkahgaaPWx3
import Derived.Test.YtmnjdmmljkahgaaPWx5
import Derived.Test.YtmnjdmmljkahgaaLBase
namespace Go.Proofs.Ytmnjdmmljkahgaa.Pure
open Go.RowKit Go.Proofs.Ytmnjdmmljkahgaa.PW Go.Proofs.YtmnjdmmljkahgaaW.PrintWords Go.Proofs.YtmnjdmmljkahgaaW.PrintLast Go.Proofs.YtmnjdmmljkahgaaW.PrintMore
set_option linter.unusedVariables false
set_option linter.unusedSimpArgs false
/-- A timer as the program has it. -/
def cvTimer (x : S104) : S93 := ⟨x.f0, x.f1⟩
theorem rd_T104_get (l : List S104) (i : Nat) (h : i < l.length) : rd_T104 l (i : Int) = l[i] := by
  unfold rd_T104
  rw [Int.toNat_natCast]
  simp [List.getD, h]
theorem rd_T93_get (l : List S93) (i : Nat) (h : i < l.length) : rd_T93 l (i : Int) = l[i] := by
  unfold rd_T93
  rw [Int.toNat_natCast]
  simp [List.getD, h]
theorem szWheel_eq (a : Int) (l : List S104) (left : Int) (h0 : 0 ≤ left) (h1 : left ≤ 1048576) (hl : l.length ≤ maxLen) : ∃ r, laws_szWheel.f a l left = some r ∧ (0 ≤ r → l.length ≤ 1048576) := by
  unfold maxLen at hl
  unfold laws_szWheel.f laws_szTimerS.f
  rw [w64 (x := left - (l.length : Int)) (by omega) (by omega)]
  by_cases c : left - (l.length : Int) < 0
  · rw [if_pos c, Option.bind_some, if_pos (by decide)]
    exact ⟨-1, rfl, fun h => absurd h (by decide)⟩
  · rw [if_neg c, Option.bind_some, if_neg c]
    exact ⟨_, rfl, fun _ => by omega⟩
theorem toTimerS_loop (l : List S104) (hn : l.length ≤ 1048576) (d : Nat) : ∀ (i : Nat), i ≤ l.length → l.length - i = d →
    Ev (fun k => laws_toTimerS.l0 k l ((l.take i).map cvTimer ++ List.replicate (l.length - i) z93) (i : Int)) (l.map cvTimer) := by
  induction d with
  | zero =>
    intro i hi hd
    refine Ev.step (fun k => by rw [laws_toTimerS.l0]) (ev_if_neg (by omega) (ev_done ?_))
    rw [hd, List.replicate_zero, List.append_nil, List.take_of_length_le (by omega)]
  | succ d ih =>
    intro i hi hd
    have hi' : i < l.length := by omega
    have h := ih (i + 1) (by omega) (by omega)
    refine Ev.step (fun k => by rw [laws_toTimerS.l0]) ?_
    rw [rd_T104_get l i hi', w64 (x := (i : Int) + 1) (by omega) (by omega)]
    refine ev_if_pos (by omega) (ev_if_pos (by omega) (ev_bind_eq (a := (l[i].f0, l[i].f1)) rfl ?_))
    refine ev_if_pos (by rw [List.length_append, List.length_map, List.length_take, List.length_replicate]; omega) ?_
    dsimp only
    rw [Int.natCast_add, Int.natCast_one] at h
    have hs : ((l.take i).map cvTimer ++ List.replicate (l.length - i) z93).set ((i : Int).toNat) (cvTimer l[i]) = (l.take (i + 1)).map cvTimer ++ List.replicate (l.length - (i + 1)) z93 := by
      rw [Int.toNat_natCast, List.set_append_right _ _ (by rw [List.length_map, List.length_take]; omega), List.length_map, List.length_take, Nat.min_eq_left hi, Nat.sub_self,
        show l.length - i = (l.length - (i + 1)) + 1 by omega, List.replicate_succ, List.set_cons_zero, List.take_succ_eq_append_getElem hi', List.map_append, List.append_assoc]
      rfl
    rw [← hs] at h
    exact h
theorem toWheel_ev (a : Int) (l : List S104) (hn : l.length ≤ 1048576) : Ev (fun k => laws_toWheel.f k a l) (a, l.map cvTimer) := by
  unfold laws_toWheel.f laws_toTimerS.f
  have h := toTimerS_loop l hn l.length 0 (by omega) (by omega)
  rw [List.take_zero, List.map_nil, List.nil_append, Nat.sub_zero] at h
  refine Ev.bind (a := l.map cvTimer) (ev_if_pos (by omega) (ev_if_pos (by omega) ?_)) (Ev.now _)
  rw [Int.toNat_natCast]
  exact h
theorem eqTimerS_loop (l : List S93) (hn : l.length ≤ 1048576) (d : Nat) : ∀ (i : Nat), i ≤ l.length → l.length - i = d → Ev (fun k => laws_eqTimerS.l0 k l l (i : Int)) true := by
  induction d with
  | zero =>
    intro i hi hd
    exact Ev.step (fun k => by rw [laws_eqTimerS.l0]) (ev_if_neg (by omega) (Ev.now _))
  | succ d ih =>
    intro i hi hd
    have hi' : i < l.length := by omega
    have h := ih (i + 1) (by omega) (by omega)
    refine Ev.step (fun k => by rw [laws_eqTimerS.l0]) ?_
    rw [rd_T93_get l i hi', w64 (x := (i : Int) + 1) (by omega) (by omega)]
    rw [Int.natCast_add, Int.natCast_one] at h
    refine ev_if_pos (by omega) (ev_if_pos (by omega) (ev_if_pos (by omega) (ev_bind_eq (a := true) ?_ (ev_if_pos rfl h))))
    unfold laws_eqTimer.f
    rw [if_pos rfl, if_pos rfl]
theorem eqWheel_self (a : Int) (l : List S93) (hn : l.length ≤ 1048576) : Ev (fun k => laws_eqWheel.f k a l a l) true := by
  unfold laws_eqWheel.f laws_eqTimerS.f
  have e : Ev (fun k => laws_eqTimerS.l0 k l l 0) true := eqTimerS_loop l hn l.length 0 (by omega) (by omega)
  exact ev_if_pos rfl (Ev.bind (ev_if_pos rfl e) (ev_if_pos rfl (Ev.now _)))

end Go.Proofs.Ytmnjdmmljkahgaa.Pure
