/- What is proved: the program's TreeKeys answers as the reference's, for all arguments; it leaves its arguments alone, and what it answers shares no memory with them. Conditions: none beyond those of the given statement. -/
import Derived.Test.YtoaddpfoecggpaaPSx0
import Derived.Test.YtoaddpfoecggpaaPSx4
import Derived.Test.YtoaddpfoecggpaaPSx7
import Derived.Test.YtoaddpfoecggpaaPSx9
import Derived.Test.YtoaddpfoecggpaaLAS
namespace Go.Proofs.Ytoaddpfoecggpaa.Pure
open Go.RowKit Go.Proofs.Ytoaddpfoecggpaa.PS Go.Proofs.YtoaddpfoecggpaaW.PrintWords Go.Proofs.YtoaddpfoecggpaaW.PrintLast Go.Proofs.YtoaddpfoecggpaaW.PrintMore
set_option linter.unusedVariables false
set_option linter.unusedSimpArgs false
theorem treeKeys_both {t : S30} (hf : FitU t) (hb : ByU t) (p : List Int) (hp : Bytes p) : ∃ r : List (List Int), r.length ≤ 200 ∧ (∀ y ∈ r, y.length ≤ 1000000000) ∧ Ev (fun k => spec_TreeKeys.f k t.f0 t.f1 t.f2 t.f3 p) r ∧ Ev (fun k => impl_TreeKeys.f k t.f0 t.f1 t.f2 t.f3 p) r := by
  obtain ⟨v, ev, hv, ek⟩ := implTreeKeys_ev t p hf hb hp
  unfold spec_TreeKeys.f
  by_cases g : v = true
  · rw [if_pos g] at ek
    have hval := hv.1 g
    have e1 := (keys_same t p hf hb hp hval).1
    have hlen : (entsD 25 [] t).length ≤ 200 := by
      rw [entsD_length]
      have := sizeD_le 25 t
      have := hval.2.1
      omega
    refine ⟨keysOf p (entsD 25 [] t), by have := keysOf_length p (entsD 25 [] t); omega, fun y hy => ?_, Ev.bind ev (ev_if_pos g (Ev.bind e1 (Ev.now _))), ek⟩
    unfold keysOf at hy
    have h := (List.mem_filter.1 hy).1
    obtain ⟨e, he, rfl⟩ := List.mem_map.1 h
    exact ents_short 25 [] t hf (by omega) (by simp) e he
  · rw [if_neg g] at ek
    exact ⟨[], by simp, by simp, Ev.bind ev (ev_if_neg g (Ev.now _)), ek⟩
theorem FnExactTreeKeys : laws_FnExactTreeKeys.Pure := by
  intro x0 l1 h0 hl1 _ hb1
  refine Ev.rounds ?_
  unfold laws_FnExactTreeKeys.f
  by_cases cl : (l1.length : Int) > 1048576
  · exact ev_if_pos cl (Ev.now _)
  refine ev_if_neg cl ?_
  obtain ⟨r, e, hr⟩ := szTree_ev h0 1048576 (by decide) (by decide)
  obtain ⟨r2, e2, hr2⟩ := szTree_evW h0 1048576 (by decide) (by decide)
  obtain rfl := ev_unique e e2
  refine Ev.bind e ?_
  by_cases c : r < 0
  · exact ev_if_pos c (Ev.now _)
  refine ev_if_neg c ?_
  obtain ⟨_, ft⟩ := hr (by omega)
  have hw := hr2 (by omega)
  have fu := fit_cv ft
  have bu := by_cv h0
  obtain ⟨q, hq, hq2, e1, e2⟩ := treeKeys_both fu bu l1 hb1
  obtain ⟨m, em, hm1, hm2⟩ := markTree_ev ft (by omega) 1 (by omega) (by omega)
  have ht := tot_le q 1000000000 hq2
  have ts := toTree_ev ft
  have tb := toByteS_ev l1 (by omega)
  have ebb := eqByteS_self l1 (by omega)
  have mbb := markByteS_ev l1 m (by omega) (by omega)
  have eb := eqByteSS_self q (by omega) (fun y hy => by have := hq2 y hy; omega)
  have mb := markByteSS1_ev q 1 (by omega) (by omega) (by omega)
  have hb := heldByteSSm_ev q (by omega) (by omega)
  refine Ev.bind ts (Ev.bind tb (Ev.bind e1 (Ev.bind ts (Ev.bind tb (Ev.bind e2 (Ev.bind eb (ev_if_pos rfl (Ev.bind ts (Ev.bind (eqTree_self fu) (ev_if_pos rfl (Ev.bind tb (Ev.bind ebb (ev_if_pos rfl (Ev.bind em (Ev.bind mbb (ev_if_neg (by omega) (Ev.bind eb ?_)))))))))))))))))
  refine Ev.step (g := fun k => laws_FnExactTreeKeys.j0 k _ _ _ _ _ _ _ _) (fun k => by rw [laws_FnExactTreeKeys.j0]) ?_
  exact ev_if_neg (by simp) (Ev.bind mb (Ev.bind hb (ev_if_neg (by omega) (ev_if_pos rfl (Ev.bind ts (Ev.bind tb (Ev.bind e2 (Ev.bind eb (ev_if_pos rfl (Ev.bind hb (ev_if_neg (by omega) (ev_if_pos rfl (Ev.now _)))))))))))))

end Go.Proofs.Ytoaddpfoecggpaa.Pure
