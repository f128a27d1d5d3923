import Derived.Test.YtoaddpfoecggpaaPGx0
import Derived.Test.YtoaddpfoecggpaaPGx1
import Derived.Test.YtoaddpfoecggpaaLBase
import Derived.Test.YtoaddpfoecggpaaLSizes
import Derived.Test.YtoaddpfoecggpaaLTrees
namespace Go.Proofs.Ytoaddpfoecggpaa.Pure
open Go.RowKit Go.Proofs.Ytoaddpfoecggpaa.PG Go.Proofs.YtoaddpfoecggpaaW.PrintWords Go.Proofs.YtoaddpfoecggpaaW.PrintLast Go.Proofs.YtoaddpfoecggpaaW.PrintMore
set_option linter.unusedVariables false
set_option linter.unusedSimpArgs false
theorem szTreeS_loop (l : List S25) (hl : l.length ≤ maxLen) (hs : ∀ x ∈ l, ∀ left : Int, 0 ≤ left → left ≤ 1048576 → ∃ r, Ev (fun k => laws_szTree.f k x.f0 x.f1 x.f2 x.f3 left) r ∧ (0 ≤ r → r ≤ left ∧ FitT x)) (d : Nat) : ∀ (i : Nat) (left : Int), i ≤ l.length → l.length - i = d → 0 ≤ left → left ≤ 1048576 →
    ∃ r, Ev (fun k => laws_szTreeS.l0 k l left (i : Int)) r ∧ (0 ≤ r → r ≤ left ∧ ∀ x ∈ l.drop i, FitT x) := by
  induction d with
  | zero =>
    intro i left hi hd h0 h1
    refine ⟨left, Ev.step (fun k => by rw [laws_szTreeS.l0]) (ev_if_neg (by omega) (Ev.now _)), fun _ => ⟨by omega, ?_⟩⟩
    rw [List.drop_of_length_le (by omega)]
    simp
  | succ d ih =>
    intro i left hi hd h0 h1
    have hi' : i < l.length := by omega
    obtain ⟨q, e, hq⟩ := hs l[i] (List.getElem_mem hi') left h0 h1
    by_cases c : q < 0
    · refine ⟨-1, Ev.step (fun k => by rw [laws_szTreeS.l0]) ?_, fun h => absurd h (by decide)⟩
      rw [rd_T25_get l i hi']
      exact ev_if_pos (by omega) (ev_if_pos (by omega) (Ev.bind e (ev_if_pos c (Ev.now _))))
    · obtain ⟨q1, q2⟩ := hq (by omega)
      obtain ⟨r, er, hr⟩ := ih (i + 1) q (by omega) (by omega) (by omega) (by omega)
      refine ⟨r, Ev.step (fun k => by rw [laws_szTreeS.l0]) ?_, fun h => ?_⟩
      · unfold maxLen at hl
        rw [rd_T25_get l i hi', w64 (x := (i : Int) + 1) (by omega) (by omega)]
        refine ev_if_pos (by omega) (ev_if_pos (by omega) (Ev.bind e (ev_if_neg c ?_)))
        rw [Int.natCast_add, Int.natCast_one] at er
        exact er
      · obtain ⟨h2, h3⟩ := hr h
        refine ⟨by omega, fun x hx => ?_⟩
        rw [List.drop_eq_getElem_cons hi'] at hx
        rcases List.mem_cons.1 hx with rfl | hx
        · exact q2
        · exact h3 x hx
theorem szTree_ev {t : S25} (h : okS25 t) : ∀ left : Int, 0 ≤ left → left ≤ 1048576 → ∃ r, Ev (fun k => laws_szTree.f k t.f0 t.f1 t.f2 t.f3 left) r ∧ (0 ≤ r → r ≤ left ∧ FitT t) := by
  induction h with
  | mk t h0 _ _ h3 g3 ih =>
    intro left l0 l1
    obtain ⟨q, e, hq⟩ := szByteS_eq t.f0 left l0 l1 h0.1
    by_cases c : q < 0
    · exact ⟨-1, Ev.step (fun k => by rw [laws_szTree.f]) (ev_bind_eq e (ev_if_pos c (Ev.now _))), fun h => absurd h (by decide)⟩
    · obtain ⟨q1, q2⟩ := hq (by omega)
      have hl' := h3
      unfold maxLen at hl'
      have key : ∃ r, Ev (fun k => laws_szTreeS.f k t.f3 q) r ∧ (0 ≤ r → r ≤ q ∧ (t.f3.length : Int) ≤ q ∧ ∀ x ∈ t.f3, FitT x) := by
        by_cases c2 : q - (t.f3.length : Int) < 0
        · refine ⟨-1, Ev.step (fun k => by rw [laws_szTreeS.f]) ?_, fun h => absurd h (by decide)⟩
          rw [w64 (x := q - (t.f3.length : Int)) (by omega) (by omega)]
          exact ev_if_pos c2 (Ev.now _)
        · obtain ⟨r, er, hr⟩ := szTreeS_loop t.f3 h3 (fun x hx left a b => ih x hx left a b) t.f3.length 0 (q - (t.f3.length : Int)) (by omega) (by omega) (by omega) (by omega)
          refine ⟨r, Ev.step (fun k => by rw [laws_szTreeS.f]) ?_, fun h => ?_⟩
          · rw [w64 (x := q - (t.f3.length : Int)) (by omega) (by omega)]
            exact ev_if_neg c2 er
          · obtain ⟨a, b⟩ := hr h
            exact ⟨by omega, by omega, by simpa using b⟩
      obtain ⟨r, er, hr⟩ := key
      by_cases c3 : r < 0
      · exact ⟨-1, Ev.step (fun k => by rw [laws_szTree.f]) (ev_bind_eq e (ev_if_neg c (Ev.bind er (ev_if_pos c3 (Ev.now _))))), fun h => absurd h (by decide)⟩
      · refine ⟨r, Ev.step (fun k => by rw [laws_szTree.f]) (ev_bind_eq e (ev_if_neg c (Ev.bind er (ev_if_neg c3 (Ev.now _))))), fun h => ?_⟩
        obtain ⟨a, b, g⟩ := hr h
        exact ⟨by omega, FitT.mk t (by omega) (by omega) g⟩

end Go.Proofs.Ytoaddpfoecggpaa.Pure
