import Derived.Test.YtoaddpfoecggpaaPEx0
import Derived.Test.YtoaddpfoecggpaaPEx1
import Derived.Test.YtoaddpfoecggpaaPEx2
import Derived.Test.YtoaddpfoecggpaaPEx3
import Derived.Test.YtoaddpfoecggpaaPEx4
import Derived.Test.YtoaddpfoecggpaaPEx5
import Derived.Test.YtoaddpfoecggpaaPEx6
import Derived.Test.YtoaddpfoecggpaaLBase
import Derived.Test.YtoaddpfoecggpaaLWithin
namespace Go.Proofs.Ytoaddpfoecggpaa.Pure
open Go.RowKit Go.Proofs.Ytoaddpfoecggpaa.PE Go.Proofs.YtoaddpfoecggpaaW.PrintWords Go.Proofs.YtoaddpfoecggpaaW.PrintLast Go.Proofs.YtoaddpfoecggpaaW.PrintMore
set_option linter.unusedVariables false
set_option linter.unusedSimpArgs false
def imarks (k : Int) (n : Nat) : List Int := (List.range n).map fun (j : Nat) => k + (j : Int)
def bmarks (k : Int) (n : Nat) : List Bool := (List.range n).map fun (j : Nat) => (Int.tmod (k + (j : Int)) 3 == 0)
theorem imarks_length (k : Int) (n : Nat) : (imarks k n).length = n := by simp [imarks]
theorem bmarks_length (k : Int) (n : Nat) : (bmarks k n).length = n := by simp [bmarks]
theorem imarks_rd (k : Int) (n i : Nat) (h : i < n) : rd (imarks k n) (i : Int) = k + (i : Int) := by
  rw [rd_get _ _ (by rw [imarks_length]; exact h)]
  simp [imarks]
theorem bmarks_rd (k : Int) (n i : Nat) (h : i < n) : rdOf false (bmarks k n) (i : Int) = (Int.tmod (k + (i : Int)) 3 == 0) := by
  unfold rdOf
  rw [Int.toNat_natCast]
  simp [bmarks, List.getD, h]
theorem markIntR_loop (n : Nat) (k0 : Int) (h0 : 0 ≤ k0) (hk : k0 + n ≤ 4611686018427387904) (d : Nat) : ∀ (x : List Int) (i : Nat), x.length = n → i ≤ n → n - i = d → x.take i = (imarks k0 n).take i →
    Ev (fun k => laws_markIntS.l0 k x (k0 + (i : Int)) (i : Int)) (k0 + (n : Int), imarks k0 n) := by
  induction d with
  | zero =>
    intro x i hx hi hd ht
    refine Ev.step (fun k => by rw [laws_markIntS.l0]) (ev_if_neg (by omega) (ev_done ?_))
    have e : i = n := by omega
    subst e
    rw [eq_of_take hx (imarks_length k0 _) ht]
  | succ d ih =>
    intro x i hx hi hd ht
    have h := ih (x.set i (k0 + (i : Int))) (i + 1) (by simpa using hx) (by omega) (by omega) (take_set_succ x (imarks k0 n) i _ (by omega) (by rw [imarks_length]; omega) ht (by simp [imarks]))
    rw [Int.natCast_add i, Int.natCast_one] at h
    refine Ev.step (fun k => by rw [laws_markIntS.l0]) ?_
    rw [w64 (x := (i : Int) + 1) (by omega) (by omega), w64 (x := k0 + (i : Int) + 1) (by omega) (by omega), Int.toNat_natCast, show k0 + (i : Int) + 1 = k0 + ((i : Int) + 1) by omega]
    exact ev_if_pos (by omega) (ev_if_pos (by omega) h)
theorem markIntR_ev (l : List Int) (k0 : Int) (h0 : 0 ≤ k0) (hk : k0 + l.length ≤ 4611686018427387904) : Ev (fun k => laws_markIntS.f k l k0) (k0 + (l.length : Int), imarks k0 l.length) := by
  unfold laws_markIntS.f
  have h := markIntR_loop l.length k0 h0 hk l.length l 0 rfl (by omega) (by omega) (by simp)
  simp only [Int.natCast_zero, Int.add_zero] at h
  exact h
theorem heldIntR_loop (n : Nat) (k0 : Int) (h0 : 0 ≤ k0) (hk : k0 + n ≤ 4611686018427387904) (d : Nat) : ∀ (i : Nat), i ≤ n → n - i = d → Ev (fun k => laws_heldIntS.l0 k (imarks k0 n) (k0 + (i : Int)) (i : Int)) (k0 + (n : Int)) := by
  induction d with
  | zero =>
    intro i hi hd
    refine Ev.step (fun k => by rw [laws_heldIntS.l0]) (ev_if_neg (by rw [imarks_length]; omega) (ev_done ?_))
    have e : i = n := by omega
    rw [e]
  | succ d ih =>
    intro i hi hd
    have h := ih (i + 1) (by omega) (by omega)
    rw [Int.natCast_add i, Int.natCast_one] at h
    refine Ev.step (fun k => by rw [laws_heldIntS.l0]) ?_
    rw [w64 (x := (i : Int) + 1) (by omega) (by omega), w64 (x := k0 + (i : Int) + 1) (by omega) (by omega), imarks_length, imarks_rd k0 n i (by omega), show k0 + (i : Int) + 1 = k0 + ((i : Int) + 1) by omega]
    exact ev_if_pos (by omega) (ev_if_pos (by omega) (ev_if_pos rfl h))
theorem heldIntR_ev (n : Nat) (k0 : Int) (h0 : 0 ≤ k0) (hk : k0 + n ≤ 4611686018427387904) : Ev (fun k => laws_heldIntS.f k (imarks k0 n) k0) (k0 + (n : Int)) := by
  unfold laws_heldIntS.f
  have h := heldIntR_loop n k0 h0 hk n 0 (by omega) (by omega)
  simp only [Int.natCast_zero, Int.add_zero] at h
  exact h
theorem markBoolR_loop (n : Nat) (k0 : Int) (h0 : 0 ≤ k0) (hk : k0 + n ≤ 4611686018427387904) (d : Nat) : ∀ (x : List Bool) (i : Nat), x.length = n → i ≤ n → n - i = d → x.take i = (bmarks k0 n).take i →
    Ev (fun k => laws_markBoolS.l0 k x (k0 + (i : Int)) (i : Int)) (k0 + (n : Int), bmarks k0 n) := by
  induction d with
  | zero =>
    intro x i hx hi hd ht
    refine Ev.step (fun k => by rw [laws_markBoolS.l0]) (ev_if_neg (by omega) (ev_done ?_))
    have e : i = n := by omega
    subst e
    rw [eq_of_take hx (bmarks_length k0 _) ht]
  | succ d ih =>
    intro x i hx hi hd ht
    have h := ih (x.set i (Int.tmod (k0 + (i : Int)) 3 == 0)) (i + 1) (by simpa using hx) (by omega) (by omega) (take_set_succ x (bmarks k0 n) i _ (by omega) (by rw [bmarks_length]; omega) ht (by simp [bmarks]))
    rw [Int.natCast_add i, Int.natCast_one] at h
    refine Ev.step (fun k => by rw [laws_markBoolS.l0]) ?_
    rw [w64 (x := (i : Int) + 1) (by omega) (by omega), w64 (x := k0 + (i : Int) + 1) (by omega) (by omega), Int.toNat_natCast, show k0 + (i : Int) + 1 = k0 + ((i : Int) + 1) by omega]
    exact ev_if_pos (by omega) (ev_if_pos (by omega) h)
theorem markBoolR_ev (l : List Bool) (k0 : Int) (h0 : 0 ≤ k0) (hk : k0 + l.length ≤ 4611686018427387904) : Ev (fun k => laws_markBoolS.f k l k0) (k0 + (l.length : Int), bmarks k0 l.length) := by
  unfold laws_markBoolS.f
  have h := markBoolR_loop l.length k0 h0 hk l.length l 0 rfl (by omega) (by omega) (by simp)
  simp only [Int.natCast_zero, Int.add_zero] at h
  exact h
theorem heldBoolR_loop (n : Nat) (k0 : Int) (h0 : 0 ≤ k0) (hk : k0 + n ≤ 4611686018427387904) (d : Nat) : ∀ (i : Nat), i ≤ n → n - i = d → Ev (fun k => laws_heldBoolS.l0 k (bmarks k0 n) (k0 + (i : Int)) (i : Int)) (k0 + (n : Int)) := by
  induction d with
  | zero =>
    intro i hi hd
    refine Ev.step (fun k => by rw [laws_heldBoolS.l0]) (ev_if_neg (by rw [bmarks_length]; omega) (ev_done ?_))
    have e : i = n := by omega
    rw [e]
  | succ d ih =>
    intro i hi hd
    have h := ih (i + 1) (by omega) (by omega)
    rw [Int.natCast_add i, Int.natCast_one] at h
    refine Ev.step (fun k => by rw [laws_heldBoolS.l0]) ?_
    rw [w64 (x := (i : Int) + 1) (by omega) (by omega), w64 (x := k0 + (i : Int) + 1) (by omega) (by omega), bmarks_length, bmarks_rd k0 n i (by omega), show k0 + (i : Int) + 1 = k0 + ((i : Int) + 1) by omega]
    exact ev_if_pos (by omega) (ev_if_pos (by omega) (ev_if_neg (by simp) h))
theorem heldBoolR_ev (n : Nat) (k0 : Int) (h0 : 0 ≤ k0) (hk : k0 + n ≤ 4611686018427387904) : Ev (fun k => laws_heldBoolS.f k (bmarks k0 n) k0) (k0 + (n : Int)) := by
  unfold laws_heldBoolS.f
  have h := heldBoolR_loop n k0 h0 hk n 0 (by omega) (by omega)
  simp only [Int.natCast_zero, Int.add_zero] at h
  exact h
theorem eqIntR_loop (l : List Int) (hn : l.length ≤ 1048576) (d : Nat) : ∀ (i : Nat), i ≤ l.length → l.length - i = d → Ev (fun k => laws_eqIntS.l0 k l l (i : Int)) true := by
  induction d with
  | zero =>
    intro i hi hd
    exact Ev.step (fun k => by rw [laws_eqIntS.l0]) (ev_if_neg (by omega) (Ev.now _))
  | succ d ih =>
    intro i hi hd
    have hi' : i < l.length := by omega
    have h := ih (i + 1) (by omega) (by omega)
    refine Ev.step (fun k => by rw [laws_eqIntS.l0]) ?_
    rw [w64 (x := (i : Int) + 1) (by omega) (by omega)]
    rw [Int.natCast_add, Int.natCast_one] at h
    exact ev_if_pos (by omega) (ev_if_pos (by omega) (ev_if_pos (by omega) (ev_if_pos rfl h)))
theorem eqIntR_self (l : List Int) (hn : l.length ≤ 1048576) : Ev (fun k => laws_eqIntS.f k l l) true := by
  unfold laws_eqIntS.f
  have e : Ev (fun k => laws_eqIntS.l0 k l l 0) true := eqIntR_loop l hn l.length 0 (by omega) (by omega)
  exact ev_if_pos rfl e
theorem eqBoolR_loop (l : List Bool) (hn : l.length ≤ 1048576) (d : Nat) : ∀ (i : Nat), i ≤ l.length → l.length - i = d → Ev (fun k => laws_eqBoolS.l0 k l l (i : Int)) true := by
  induction d with
  | zero =>
    intro i hi hd
    exact Ev.step (fun k => by rw [laws_eqBoolS.l0]) (ev_if_neg (by omega) (Ev.now _))
  | succ d ih =>
    intro i hi hd
    have hi' : i < l.length := by omega
    have h := ih (i + 1) (by omega) (by omega)
    refine Ev.step (fun k => by rw [laws_eqBoolS.l0]) ?_
    rw [w64 (x := (i : Int) + 1) (by omega) (by omega)]
    rw [Int.natCast_add, Int.natCast_one] at h
    exact ev_if_pos (by omega) (ev_if_pos (by omega) (ev_if_pos (by omega) (ev_if_neg (by simp) h)))
theorem eqBoolR_self (l : List Bool) (hn : l.length ≤ 1048576) : Ev (fun k => laws_eqBoolS.f k l l) true := by
  unfold laws_eqBoolS.f
  have e : Ev (fun k => laws_eqBoolS.l0 k l l 0) true := eqBoolR_loop l hn l.length 0 (by omega) (by omega)
  exact ev_if_pos rfl e
theorem eqItemS_nil : Ev (fun k => laws_eqItemS.f k [] []) true := by
  unfold laws_eqItemS.f
  exact ev_if_pos rfl (Ev.step (fun k => by rw [laws_eqItemS.l0]) (ev_if_neg (by simp) (Ev.now _)))
theorem heldItemS_nil (n : Int) : Ev (fun k => laws_heldItemS.f k [] n) n := by
  unfold laws_heldItemS.f
  exact Ev.step (fun k => by rw [laws_heldItemS.l0]) (ev_if_neg (by simp) (Ev.now _))
theorem eqNode_nil (a0 a1 a2 a4 a5 a6 a7 : Int) (l8 : List Bool) (l9 l10 : List Int) (h8 : l8.length ≤ 5) (h9 : l9.length ≤ 5) (h10 : l10.length ≤ 5) :
    Ev (fun k => laws_eqNode.f k a0 a1 a2 [] a4 a5 a6 a7 l8 l9 l10 a0 a1 a2 [] a4 a5 a6 a7 l8 l9 l10) true := by
  unfold laws_eqNode.f
  exact ev_if_pos rfl (ev_if_pos rfl (ev_if_pos rfl (Ev.bind eqItemS_nil (ev_if_pos rfl (ev_if_pos rfl (ev_if_pos rfl (ev_if_pos rfl (ev_if_pos rfl (Ev.bind (eqBoolR_self l8 (by omega)) (ev_if_pos rfl (Ev.bind (eqIntR_self l9 (by omega)) (ev_if_pos rfl (Ev.bind (eqIntR_self l10 (by omega)) (ev_if_pos rfl (Ev.now _)))))))))))))))
theorem markNode_nil (a0 a1 a2 a4 a5 a6 a7 : Int) (l8 : List Bool) (l9 l10 : List Int) (h8 : l8.length ≤ 5) (h9 : l9.length ≤ 5) (h10 : l10.length ≤ 5) :
    Ev (fun k => laws_markNode.f k a0 a1 a2 [] a4 a5 a6 a7 l8 l9 l10 1) (1 + (l8.length : Int) + (l9.length : Int) + (l10.length : Int), bmarks 1 l8.length, imarks (1 + (l8.length : Int)) l9.length, imarks (1 + (l8.length : Int) + (l9.length : Int)) l10.length) := by
  unfold laws_markNode.f
  refine ev_bind_eq (a := (1 : Int)) rfl ?_
  refine Ev.bind (markBoolR_ev l8 1 (by omega) (by omega)) ?_
  refine Ev.bind (markIntR_ev l9 (1 + (l8.length : Int)) (by omega) (by omega)) ?_
  refine Ev.bind (markIntR_ev l10 (1 + (l8.length : Int) + (l9.length : Int)) (by omega) (by omega)) ?_
  exact Ev.now _
theorem heldNode_nil (a0 a1 a2 a4 a5 a6 a7 : Int) (n8 n9 n10 : Nat) (h8 : n8 ≤ 5) (h9 : n9 ≤ 5) (h10 : n10 ≤ 5) :
    Ev (fun k => laws_heldNode.f k a0 a1 a2 [] a4 a5 a6 a7 (bmarks 1 n8) (imarks (1 + (n8 : Int)) n9) (imarks (1 + (n8 : Int) + (n9 : Int)) n10) 1) (1 + (n8 : Int) + (n9 : Int) + (n10 : Int)) := by
  unfold laws_heldNode.f
  refine Ev.bind (heldItemS_nil 1) (ev_if_neg (by omega) ?_)
  refine Ev.bind (heldBoolR_ev n8 1 (by omega) (by omega)) (ev_if_neg (by omega) ?_)
  refine Ev.bind (heldIntR_ev n9 (1 + (n8 : Int)) (by omega) (by omega)) (ev_if_neg (by omega) ?_)
  refine Ev.bind (heldIntR_ev n10 (1 + (n8 : Int) + (n9 : Int)) (by omega) (by omega)) (ev_if_neg (by omega) ?_)
  exact Ev.now _
theorem newNodes (id sv : Int) (hw : -9223372036854775808 ≤ sv ∧ sv ≤ 9223372036854775807) : ∃ (a0 a1 a2 a4 a5 a6 a7 : Int) (l8 : List Bool) (l9 l10 : List Int) (ok : Bool), l8.length ≤ 5 ∧ l9.length ≤ 5 ∧ l10.length ≤ 5 ∧
    spec_NodeNew.f id sv = some (a0, a1, a2, [], a4, a5, a6, a7, l8, l9, l10, ok) ∧ impl_NodeNew.f id sv = some (a0, a1, a2, [], a4, a5, a6, a7, l8, l9, l10, ok) := by
  have e1 : spec_l4servers.f sv = some (decide (1 ≤ sv ∧ sv ≤ 5)) := by
    unfold spec_l4servers.f
    by_cases c : sv ≥ 1 <;> simp [c] <;> omega
  have e0 : impl_isServer.f id sv = some (decide ((1 ≤ sv ∧ sv ≤ 5) ∧ 0 ≤ id ∧ id < sv)) := by
    unfold impl_isServer.f
    rw [within_eq, Option.bind_some]
    by_cases c : 1 ≤ sv ∧ sv ≤ 5
    · rw [if_pos (decide_eq_true c), within_eq, Option.bind_some, w64 (x := sv - 1) (by omega) (by omega)]
      congr 1
      rw [decide_eq_decide]
      omega
    · rw [if_neg (by rw [decide_eq_false c]; simp)]
      congr 1
      rw [eq_comm, decide_eq_false_iff_not]
      exact fun h => c h.1
  by_cases N : (1 ≤ sv ∧ sv ≤ 5) ∧ 0 ≤ id ∧ id < sv
  · refine ⟨id, 0, -1, 0, 0, -1, 0, List.replicate sv.toNat false, List.replicate sv.toNat 0, List.replicate sv.toNat 0, true, by simp; omega, by simp; omega, by simp; omega, ?_, ?_⟩
    · unfold spec_NodeNew.f spec_l4new.f
      rw [e1, Option.bind_some, if_pos (decide_eq_true N.1), if_neg (by omega), if_neg (by omega), if_pos (by omega), if_pos (by omega), if_pos (by omega)]
      rfl
    · unfold impl_NodeNew.f
      rw [e0, Option.bind_some, if_pos (decide_eq_true N), if_pos (by omega), if_pos (by omega), if_pos (by omega)]
  · refine ⟨0, 0, 0, 0, 0, 0, 0, [], [], [], false, by simp, by simp, by simp, ?_, ?_⟩
    · unfold spec_NodeNew.f
      rw [e1, Option.bind_some]
      by_cases c : 1 ≤ sv ∧ sv ≤ 5
      · rw [if_pos (decide_eq_true c)]
        by_cases c2 : id < 0
        · rw [if_pos c2]
        · rw [if_neg c2, if_pos (by omega)]
      · rw [if_neg (by rw [decide_eq_false c]; simp)]
    · unfold impl_NodeNew.f
      rw [e0, Option.bind_some, if_neg (by rw [decide_eq_false N]; simp)]

end Go.Proofs.Ytoaddpfoecggpaa.Pure
