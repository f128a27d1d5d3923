import Derived.Test.YtoaddpfoecggpaaPGx0
import Derived.Test.YtoaddpfoecggpaaPGx3
import Derived.Test.YtoaddpfoecggpaaLBase
import Derived.Test.YtoaddpfoecggpaaLTreeok
import Derived.Test.YtoaddpfoecggpaaLTrees
namespace Go.Proofs.Ytoaddpfoecggpaa.Pure
open Go.RowKit Go.Proofs.Ytoaddpfoecggpaa.PG Go.Proofs.YtoaddpfoecggpaaW.PrintWords Go.Proofs.YtoaddpfoecggpaaW.PrintLast Go.Proofs.YtoaddpfoecggpaaW.PrintMore
set_option linter.unusedVariables false
set_option linter.unusedSimpArgs false
theorem longFrom_le (r : Nat) (m : Nat) (ks : List S30) (h : ∀ x ∈ ks, longD r x ≤ m) (i : Nat) : longFrom r ks i ≤ m := by
  have : ∀ l : List S30, (∀ x ∈ l, longD r x ≤ m) → (l.map (longD r)).foldr max 0 ≤ m := by
    intro l
    induction l with
    | nil => intro _; simp
    | cons x xs ih =>
      intro g
      rw [List.map_cons, List.foldr_cons]
      have a := g x (List.mem_cons_self ..)
      have b := ih (fun y hy => g y (List.mem_cons_of_mem _ hy))
      omega
  exact this _ (fun x hx => h x (List.mem_of_mem_drop hx))
theorem longD_le (r : Nat) : ∀ t : S30, FitU t → longD r t ≤ (r + 1) * 1048576 := by
  induction r with
  | zero =>
    intro t h
    have := h.h0
    rw [longD]
    omega
  | succ r ih =>
    intro t h
    have := h.h0
    have := longFrom_le r ((r + 1) * 1048576) t.f3 (fun x hx => ih x (h.hk x hx)) 0
    rw [longD_succ]
    omega
theorem l6long_loop (r : Nat) (hr : r < 25) (a : List Int) (ha : a.length ≤ 1048576) (b : Bool) (c : Int) (ks : List S30) (hn : ks.length ≤ 1048576)
    (hk : ∀ x ∈ ks, Ev (fun k => spec_l6long.f k x.f0 x.f1 x.f2 x.f3) (longD r x : Int)) (hb : ∀ x ∈ ks, longD r x ≤ (r + 1) * 1048576) (d : Nat) :
    ∀ (i : Nat) (most : Nat), i ≤ ks.length → ks.length - i = d → most ≤ (r + 1) * 1048576 →
    Ev (fun k => spec_l6long.l0 k (most : Int) (i : Int) a b c ks) ((max most (longFrom r ks i) + a.length : Nat) : Int) := by
  induction d with
  | zero =>
    intro i most hi hd hm
    refine Ev.step (fun k => by rw [spec_l6long.l0]) (ev_if_neg (by omega) (ev_done ?_))
    have : (r + 1) * 1048576 ≤ 25 * 1048576 := Nat.mul_le_mul_right _ (by omega)
    rw [longFrom_end r ks i (by omega), w64 (by omega) (by omega)]
    omega
  | succ d ih =>
    intro i most hi hd hm
    have hi' : i < ks.length := by omega
    have e := hk ks[i] (List.getElem_mem hi')
    have hx := hb ks[i] (List.getElem_mem hi')
    have h1 := ih (i + 1) (longD r ks[i]) (by omega) (by omega) hx
    have h2 := ih (i + 1) most (by omega) (by omega) hm
    rw [Int.natCast_add i, Int.natCast_one] at h1 h2
    refine Ev.step (fun k => by rw [spec_l6long.l0]) ?_
    rw [rd_T30_get ks i hi', w64 (x := (i : Int) + 1) (by omega) (by omega), longFrom_step r ks i hi']
    refine ev_if_pos (by omega) (ev_if_pos (by omega) (Ev.bind e (ev_ite (fun g => ?_) (fun g => ?_))))
    · exact ev_of h1 (by congr 1; omega)
    · exact ev_of h2 (by congr 1; omega)
theorem l6long_ev (r : Nat) : ∀ t : S30, r ≤ 25 → FitU t → okD r t → Ev (fun k => spec_l6long.f k t.f0 t.f1 t.f2 t.f3) (longD r t : Int) := by
  induction r with
  | zero => intro t _ _ h; exact h.elim
  | succ r ih =>
    intro t hr hf h
    have ok := ((okD_succ r t).1 h).2.2.2.2
    refine Ev.step (fun k => by rw [spec_l6long.f]) ?_
    rw [longD_succ]
    have := l6long_loop r (by omega) t.f0 hf.h0 t.f1 t.f2 t.f3 hf.h3 (fun x hx => by
      obtain ⟨j, hj, rfl⟩ := List.mem_iff_getElem.1 hx
      exact ih _ (by omega) (hf.hk _ hx) (ok j (by omega) hj).1) (fun x hx => longD_le r x (hf.hk x hx)) t.f3.length 0 0 (by omega) (by omega) (by omega)
    refine ev_of this (by congr 1; omega)

end Go.Proofs.Ytoaddpfoecggpaa.Pure
