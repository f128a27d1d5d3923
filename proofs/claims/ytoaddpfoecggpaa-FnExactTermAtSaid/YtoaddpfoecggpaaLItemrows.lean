import Derived.Test.YtoaddpfoecggpaaPNx0
import Derived.Test.YtoaddpfoecggpaaPNx1
import Derived.Test.YtoaddpfoecggpaaPNx2
import Derived.Test.YtoaddpfoecggpaaPNx6
import Derived.Test.YtoaddpfoecggpaaLBase
import Derived.Test.YtoaddpfoecggpaaLItems
namespace Go.Proofs.Ytoaddpfoecggpaa.Pure
open Go.RowKit Go.Proofs.Ytoaddpfoecggpaa.PN Go.Proofs.YtoaddpfoecggpaaW.PrintWords Go.Proofs.YtoaddpfoecggpaaW.PrintLast Go.Proofs.YtoaddpfoecggpaaW.PrintMore
set_option linter.unusedVariables false
set_option linter.unusedSimpArgs false
/-- A row's entry as the program has it. -/
def cvItem (x : S144) : S115 := ⟨x.f0, ⟨x.f1.f0, x.f1.f1, ⟨x.f1.f2.f0, x.f1.f2.f1, x.f1.f2.f2, x.f1.f2.f3⟩⟩⟩
/-- Its texts are short. -/
def fitItem (x : S115) : Prop := x.f1.f2.f1.length ≤ 1048576 ∧ x.f1.f2.f2.length ≤ 1048576
theorem rd_T50_get (l : List S144) (i : Nat) (h : i < l.length) : rd_T144 l (i : Int) = l[i] := by
  unfold rd_T144
  rw [Int.toNat_natCast]
  simp [List.getD, h]
theorem rd_T54_get (l : List S115) (i : Nat) (h : i < l.length) : rd_T115 l (i : Int) = l[i] := by
  unfold rd_T115
  rw [Int.toNat_natCast]
  simp [List.getD, h]
theorem szItemS_loop (l : List S144) (hl : l.length ≤ maxLen) (hk : ∀ x ∈ l, x.f1.f2.f1.length ≤ maxLen ∧ x.f1.f2.f2.length ≤ maxLen) (d : Nat) : ∀ (i : Nat) (left : Int), i ≤ l.length → l.length - i = d → 0 ≤ left → left ≤ 1048576 →
    ∃ r, Ev (fun k => laws_szItemS.l0 k l left (i : Int)) r ∧ (0 ≤ r → r ≤ left ∧ ∀ x ∈ l.drop i, fitItem (cvItem x)) := by
  induction d with
  | zero =>
    intro i left hi hd h0 h1
    refine ⟨left, Ev.step (fun k => by rw [laws_szItemS.l0]) (ev_if_neg (by omega) (Ev.now _)), fun _ => ⟨by omega, ?_⟩⟩
    rw [List.drop_of_length_le (by omega)]
    simp
  | succ d ih =>
    intro i left hi hd h0 h1
    have hi' : i < l.length := by omega
    have hm := hk l[i] (List.getElem_mem hi')
    obtain ⟨q, e, hq⟩ := szItem_eq l[i].f0 l[i].f1.f0 l[i].f1.f1 l[i].f1.f2.f0 l[i].f1.f2.f1 l[i].f1.f2.f2 l[i].f1.f2.f3 left h0 h1 hm.1 hm.2
    by_cases c : q < 0
    · refine ⟨-1, Ev.step (fun k => by rw [laws_szItemS.l0]) ?_, fun h => absurd h (by decide)⟩
      rw [rd_T50_get l i hi']
      exact ev_if_pos (by omega) (ev_if_pos (by omega) (ev_bind_eq e (ev_if_pos c (Ev.now _))))
    · obtain ⟨q1, q2, q3⟩ := hq (by omega)
      obtain ⟨r, er, hr⟩ := ih (i + 1) q (by omega) (by omega) (by omega) (by omega)
      refine ⟨r, Ev.step (fun k => by rw [laws_szItemS.l0]) ?_, fun h => ?_⟩
      · unfold maxLen at hl
        rw [rd_T50_get l i hi', w64 (by omega) (by omega)]
        refine ev_if_pos (by omega) (ev_if_pos (by omega) (ev_bind_eq e (ev_if_neg c ?_)))
        rw [Int.natCast_add, Int.natCast_one] at er
        exact er
      · obtain ⟨h2, h3⟩ := hr h
        refine ⟨by omega, fun x hx => ?_⟩
        rw [List.drop_eq_getElem_cons hi'] at hx
        rcases List.mem_cons.1 hx with rfl | hx
        · exact ⟨by show l[i].f1.f2.f1.length ≤ 1048576; omega, by show l[i].f1.f2.f2.length ≤ 1048576; omega⟩
        · exact h3 x hx
theorem szItemS_ev (l : List S144) (left : Int) (h0 : 0 ≤ left) (h1 : left ≤ 1048576) (hl : l.length ≤ maxLen) (hk : ∀ x ∈ l, x.f1.f2.f1.length ≤ maxLen ∧ x.f1.f2.f2.length ≤ maxLen) :
    ∃ r, Ev (fun k => laws_szItemS.f k l left) r ∧ (0 ≤ r → r ≤ left ∧ (l.length : Int) ≤ left ∧ ∀ x ∈ l, fitItem (cvItem x)) := by
  unfold laws_szItemS.f
  have hl' := hl
  unfold maxLen at hl'
  rw [w64 (by omega) (by omega)]
  by_cases c : left - (l.length : Int) < 0
  · exact ⟨-1, ev_if_pos c (Ev.now _), fun h => absurd h (by decide)⟩
  · obtain ⟨r, er, hr⟩ := szItemS_loop l hl hk l.length 0 (left - (l.length : Int)) (by omega) (by omega) (by omega) (by omega)
    refine ⟨r, ev_if_neg c er, fun h => ?_⟩
    obtain ⟨a, b⟩ := hr h
    exact ⟨by omega, by omega, by simpa using b⟩
theorem toItemS_loop (l : List S144) (hn : l.length ≤ 1048576) (hk : ∀ x ∈ l, fitItem (cvItem x)) (d : Nat) : ∀ (i : Nat), i ≤ l.length → l.length - i = d →
    Ev (fun k => laws_toItemS.l0 k l ((l.take i).map cvItem ++ List.replicate (l.length - i) z115) (i : Int)) (l.map cvItem) := by
  induction d with
  | zero =>
    intro i hi hd
    refine Ev.step (fun k => by rw [laws_toItemS.l0]) (ev_if_neg (by omega) (ev_done ?_))
    rw [hd, List.replicate_zero, List.append_nil, List.take_of_length_le (by omega)]
  | succ d ih =>
    intro i hi hd
    have hi' : i < l.length := by omega
    have hm := hk l[i] (List.getElem_mem hi')
    have h := ih (i + 1) (by omega) (by omega)
    refine Ev.step (fun k => by rw [laws_toItemS.l0]) ?_
    rw [rd_T50_get l i hi', w64 (by omega) (by omega)]
    refine ev_if_pos (by omega) (ev_if_pos (by omega) (Ev.bind (toItem_ev l[i].f0 l[i].f1.f0 l[i].f1.f1 l[i].f1.f2.f0 l[i].f1.f2.f1 l[i].f1.f2.f2 l[i].f1.f2.f3 (by have := hm.1; simp only [cvItem] at this; omega) (by have := hm.2; simp only [cvItem] at this; omega)) ?_))
    refine ev_if_pos (by rw [List.length_append, List.length_map, List.length_take, List.length_replicate]; omega) ?_
    dsimp only
    rw [Int.natCast_add, Int.natCast_one] at h
    have hs : ((l.take i).map cvItem ++ List.replicate (l.length - i) z115).set ((i : Int).toNat) (cvItem l[i]) = (l.take (i + 1)).map cvItem ++ List.replicate (l.length - (i + 1)) z115 := by
      rw [Int.toNat_natCast, List.set_append_right _ _ (by rw [List.length_map, List.length_take]; omega), List.length_map, List.length_take, Nat.min_eq_left hi, Nat.sub_self,
        show l.length - i = (l.length - (i + 1)) + 1 by omega, List.replicate_succ, List.set_cons_zero, List.take_succ_eq_append_getElem hi', List.map_append, List.append_assoc]
      rfl
    rw [← hs] at h
    exact h
theorem toItemS_ev (l : List S144) (hn : l.length ≤ 1048576) (hk : ∀ x ∈ l, fitItem (cvItem x)) : Ev (fun k => laws_toItemS.f k l) (l.map cvItem) := by
  unfold laws_toItemS.f
  have h := toItemS_loop l hn hk l.length 0 (by omega) (by omega)
  rw [List.take_zero, List.map_nil, List.nil_append, Nat.sub_zero] at h
  refine ev_if_pos (by omega) (ev_if_pos (by omega) ?_)
  rw [Int.toNat_natCast]
  exact h
theorem eqItemS_loop (l : List S115) (hn : l.length ≤ 1048576) (hk : ∀ x ∈ l, fitItem x) (d : Nat) : ∀ (i : Nat), i ≤ l.length → l.length - i = d → Ev (fun k => laws_eqItemS.l0 k l l (i : Int)) true := by
  induction d with
  | zero =>
    intro i hi hd
    exact Ev.step (fun k => by rw [laws_eqItemS.l0]) (ev_if_neg (by omega) (Ev.now _))
  | succ d ih =>
    intro i hi hd
    have hi' : i < l.length := by omega
    have hm := hk l[i] (List.getElem_mem hi')
    have h := ih (i + 1) (by omega) (by omega)
    refine Ev.step (fun k => by rw [laws_eqItemS.l0]) ?_
    rw [rd_T54_get l i hi', w64 (by omega) (by omega)]
    rw [Int.natCast_add, Int.natCast_one] at h
    exact ev_if_pos (by omega) (ev_if_pos (by omega) (ev_if_pos (by omega) (Ev.bind (eqItem_self _ _ _ _ _ _ _ (by have := hm.1; omega) (by have := hm.2; omega)) (ev_if_pos rfl h))))
theorem eqItemS_self (l : List S115) (hn : l.length ≤ 1048576) (hk : ∀ x ∈ l, fitItem x) : Ev (fun k => laws_eqItemS.f k l l) true := by
  unfold laws_eqItemS.f
  exact ev_if_pos rfl (eqItemS_loop l hn hk l.length 0 (by omega) (by omega))

end Go.Proofs.Ytoaddpfoecggpaa.Pure
