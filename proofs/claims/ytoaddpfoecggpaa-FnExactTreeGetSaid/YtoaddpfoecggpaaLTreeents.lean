import Derived.Test.YtoaddpfoecggpaaPGx0
import Derived.Test.YtoaddpfoecggpaaPGx6
import Derived.Test.YtoaddpfoecggpaaLBase
import Derived.Test.YtoaddpfoecggpaaLConcat
import Derived.Test.YtoaddpfoecggpaaLEntries
import Derived.Test.YtoaddpfoecggpaaLTreeok
import Derived.Test.YtoaddpfoecggpaaLTrees
namespace Go.Proofs.Ytoaddpfoecggpaa.Pure
open Go.RowKit Go.Proofs.Ytoaddpfoecggpaa.PG Go.Proofs.YtoaddpfoecggpaaW.PrintWords Go.Proofs.YtoaddpfoecggpaaW.PrintLast Go.Proofs.YtoaddpfoecggpaaW.PrintMore
set_option linter.unusedVariables false
set_option linter.unusedSimpArgs false
theorem entries_loop (r : Nat) (ahead : List Int) (ks : List S30) (hn : ks.length ≤ 1048576) (hk : ∀ x ∈ ks, Ev (fun k => impl_Tree_entries.f k x.f0 x.f1 x.f2 x.f3 ahead) (entsD r ahead x)) (d : Nat) :
    ∀ (i : Nat) (out : List S84), i ≤ ks.length → ks.length - i = d → out.length + (entsFrom r ahead ks i).length ≤ 1000 → Ev (fun k => impl_Tree_entries.l0 k ahead out ks (ks.length : Int) (i : Int)) (out ++ entsFrom r ahead ks i) := by
  induction d with
  | zero =>
    intro i out hi hd hm
    refine Ev.step (fun k => by rw [impl_Tree_entries.l0]) (ev_if_neg (by omega) (ev_done ?_))
    rw [entsFrom_end r ahead ks i (by omega), List.append_nil]
  | succ d ih =>
    intro i out hi hd hm
    have hi' : i < ks.length := by omega
    rw [entsFrom_step r ahead ks i hi'] at hm ⊢
    rw [List.length_append] at hm
    have h := ih (i + 1) (out ++ entsD r ahead ks[i]) (by omega) (by omega) (by rw [List.length_append]; omega)
    rw [Int.natCast_add i, Int.natCast_one, List.append_assoc] at h
    refine Ev.step (fun k => by rw [impl_Tree_entries.l0]) ?_
    rw [rd_T30_get ks i hi', w64 (x := (i : Int) + 1) (by omega) (by omega)]
    exact ev_if_pos (by omega) (ev_if_pos (by omega) (ev_if_pos (by omega) (Ev.bind (hk ks[i] (List.getElem_mem hi')) (ev_if_pos (by omega) h))))
theorem entries_ev (r : Nat) : ∀ (t : S30) (ahead : List Int), r ≤ 25 → FitU t → okD r t → cntD r t ≤ 200 → ahead.length ≤ (25 - r) * 1048576 → Ev (fun k => impl_Tree_entries.f k t.f0 t.f1 t.f2 t.f3 ahead) (entsD r ahead t) := by
  induction r with
  | zero => intro t ahead _ _ h _ _; exact h.elim
  | succ r ih =>
    intro t ahead hr hf h hc ha
    have ok := ((okD_succ r t).1 h).2.2.2.2
    rw [cntD_succ] at hc
    have h0 := hf.h0
    have ha2 : (25 - (r + 1)) * 1048576 ≤ 25 * 1048576 := Nat.mul_le_mul_right _ (by omega)
    have ha3 : (ahead ++ t.f0).length ≤ (25 - r) * 1048576 := by
      rw [List.length_append]
      have : (25 - r) * 1048576 = (25 - (r + 1)) * 1048576 + 1048576 := by
        rw [show 25 - r = (25 - (r + 1)) + 1 by omega, Nat.add_mul]
      omega
    have hl : (entsFrom r (ahead ++ t.f0) t.f3 0).length ≤ 200 := by
      have e : (entsFrom r (ahead ++ t.f0) t.f3 0).length = sizeFrom r t.f3 0 := length_flatten_map _ (sizeD r) _ (fun x _ => entsD_length r _ x)
      have := sizeFrom_le r t.f3 0
      omega
    have hk : ∀ x ∈ t.f3, Ev (fun k => impl_Tree_entries.f k x.f0 x.f1 x.f2 x.f3 (ahead ++ t.f0)) (entsD r (ahead ++ t.f0) x) := fun x hx => by
      obtain ⟨j, hj, rfl⟩ := List.mem_iff_getElem.1 hx
      have hcj : cntD r t.f3[j] ≤ cntFrom r t.f3 0 := by
        have : ∀ l : List S30, ∀ x ∈ l, cntD r x ≤ (l.map (cntD r)).sum := by
          intro l
          induction l with
          | nil => intro x hx; simp at hx
          | cons y ys ih2 =>
            intro x hx
            rw [List.map_cons, List.sum_cons]
            rcases List.mem_cons.1 hx with rfl | hx
            · omega
            · have := ih2 x hx
              omega
        rw [cntFrom, List.drop_zero]
        exact this t.f3 _ hx
      exact ih _ _ (by omega) (hf.hk _ hx) (ok j (by omega) hj).1 (by omega) ha3
    refine Ev.step (fun k => by rw [impl_Tree_entries.f]) (Ev.bind (concat2_ev ahead t.f0 (by omega) (by omega)) ?_)
    rw [entsD_succ]
    by_cases g : t.f1 = true
    · have e : Ev (fun k => impl_Tree_entries.l0 k (ahead ++ t.f0) [⟨ahead ++ t.f0, t.f2⟩] t.f3 (t.f3.length : Int) 0) _ := entries_loop r (ahead ++ t.f0) t.f3 hf.h3 hk t.f3.length 0 [⟨ahead ++ t.f0, t.f2⟩] (by omega) (by omega) (by simp; omega)
      rw [if_pos g]
      refine ev_if_pos g (ev_if_pos (by simp) ?_)
      rw [List.nil_append]
      exact Ev.step (fun k => by rw [impl_Tree_entries.j0]) e
    · have e : Ev (fun k => impl_Tree_entries.l0 k (ahead ++ t.f0) [] t.f3 (t.f3.length : Int) 0) _ := entries_loop r (ahead ++ t.f0) t.f3 hf.h3 hk t.f3.length 0 [] (by omega) (by omega) (by simp; omega)
      rw [if_neg g]
      exact ev_if_neg g (Ev.step (fun k => by rw [impl_Tree_entries.j0]) e)

end Go.Proofs.Ytoaddpfoecggpaa.Pure
