/- What is proved: the program's TreeLongest answers as the reference's, for all arguments; it leaves its arguments alone, and what it answers shares no memory with them. Conditions: none beyond those of the given statement. -/
import Derived.Test.YtoaddpfoecggpaaPTx0
import Derived.Test.YtoaddpfoecggpaaPTx10
import Derived.Test.YtoaddpfoecggpaaPTx11
import Derived.Test.YtoaddpfoecggpaaPTx5
import Derived.Test.YtoaddpfoecggpaaLAT
namespace Go.Proofs.Ytoaddpfoecggpaa.Pure
open Go.RowKit Go.Proofs.Ytoaddpfoecggpaa.PT Go.Proofs.YtoaddpfoecggpaaW.PrintWords Go.Proofs.YtoaddpfoecggpaaW.PrintLast Go.Proofs.YtoaddpfoecggpaaW.PrintMore
set_option linter.unusedVariables false
set_option linter.unusedSimpArgs false
theorem treeLongest_both {t : S30} (hf : FitU t) (hb : ByU t) (key : List Int) (hk : Bytes key) : ∃ r : List Int × Bool, r.1.length ≤ 1000000000 ∧ Ev (fun k => spec_TreeLongest.f k t.f0 t.f1 t.f2 t.f3 key) r ∧ Ev (fun k => impl_TreeLongest.f k t.f0 t.f1 t.f2 t.f3 key) r := by
  obtain ⟨v, ev, hv, ek⟩ := implTreeKeys_ev t [] hf hb bytes_nil
  unfold spec_TreeLongest.f impl_TreeLongest.f
  by_cases g : v = true
  · rw [if_pos g, keysOf_nil] at ek
    have hval := hv.1 g
    have e1 := (keys_same t [] hf hb bytes_nil hval).1
    rw [keysOf_nil] at e1
    have hlen : (entsD 25 [] t).length ≤ 200 := by
      rw [entsD_length]
      have := sizeD_le 25 t
      have := hval.2.1
      omega
    have hbs : ∀ x ∈ (entsD 25 [] t).map (fun e => e.f0), Bytes x := fun x hx => by
      obtain ⟨e, he, rfl⟩ := List.mem_map.1 hx
      exact ents_bytes 25 [] t bytes_nil hb e he
    have hle : ∀ x ∈ (entsD 25 [] t).map (fun e => e.f0), x.length ≤ 1000000000 := fun x hx => by
      obtain ⟨e, he, rfl⟩ := List.mem_map.1 hx
      exact ents_short 25 [] t hf (by omega) (by simp) e he
    have hs : ((entsD 25 [] t).map (fun e => e.f0)).Pairwise (fun a b => bytes_Compare.cmp a b < 0) := by
      rw [List.pairwise_map]
      exact ents_sorted 25 [] t (by omega) hval.1
    have a := implLongest_loop key hk ((entsD 25 [] t).map (fun e => e.f0)) (by rw [List.length_map]; omega) hbs _ 0 [] false (by omega) rfl
    have b := specLongest_loop key hk ((entsD 25 [] t).map (fun e => e.f0)) (by rw [List.length_map]; omega) hbs hs _ 0 (-1) [] false (by omega) rfl (.inl ⟨rfl, rfl, rfl⟩)
    exact ⟨_, lastP_le key _ _ _ _ (fun x hx => hle x (List.mem_of_mem_drop hx)) (by simp), Ev.bind ev (ev_if_pos g (Ev.bind e1 b)), Ev.bind ek a⟩
  · rw [if_neg g] at ek
    exact ⟨([], false), by simp, Ev.bind ev (ev_if_neg g (Ev.now _)), Ev.bind ek (Ev.step (fun k => by rw [impl_TreeLongest.l0]) (ev_if_neg (by simp) (Ev.now _)))⟩
theorem FnExactTreeLongest : laws_FnExactTreeLongest.Pure := by
  intro x0 l1 h0 hl1 _ hb1
  refine Ev.rounds ?_
  unfold laws_FnExactTreeLongest.f
  by_cases cl : (l1.length : Int) > 1048576
  · exact ev_if_pos cl (Ev.now _)
  refine ev_if_neg cl ?_
  obtain ⟨r, e, hr⟩ := szTree_ev h0 1048576 (by decide) (by decide)
  obtain ⟨r2, e2, hr2⟩ := szTree_evW h0 1048576 (by decide) (by decide)
  obtain rfl := ev_unique e e2
  refine Ev.bind e ?_
  by_cases c : r < 0
  · exact ev_if_pos c (Ev.now _)
  refine ev_if_neg c ?_
  obtain ⟨_, ft⟩ := hr (by omega)
  have hw := hr2 (by omega)
  have fu := fit_cv ft
  have bu := by_cv h0
  obtain ⟨q, hq, e1, e3⟩ := treeLongest_both fu bu l1 hb1
  obtain ⟨m, em, hm1, hm2⟩ := markTree_ev ft (by omega) 1 (by omega) (by omega)
  have et := toTree_ev ft
  have eq := eqTree_self fu
  repeat (first | exact Ev.now _ | dsimp only | refine Ev.bind (toByteS_ev _ (by omega)) ?_ | refine Ev.bind (eqByteS_self _ (by omega)) ?_ | refine Ev.bind (markByteS_ev _ _ (by omega) (by omega)) ?_ | refine Ev.bind (heldByteS_ev _ _ (by omega) (by omega)) ?_ | refine Ev.bind et ?_ | refine Ev.bind e1 ?_ | refine Ev.bind e3 ?_ | refine Ev.bind eq ?_ | refine Ev.bind em ?_ | refine Ev.step (g := fun k => laws_FnExactTreeLongest.j0 k _ _ _ _ _ _ _ _ _ _ _ _ _ _ _) (fun k => by rw [laws_FnExactTreeLongest.j0]) ?_ | refine Ev.step (g := fun k => laws_FnExactTreeLongest.j1 k _ _ _ _ _ _ _ _ _) (fun k => by rw [laws_FnExactTreeLongest.j1]) ?_ | refine Ev.step (g := fun k => laws_FnExactTreeLongest.j2 k _ _ _) (fun k => by rw [laws_FnExactTreeLongest.j2]) ?_ | refine ev_if_pos rfl ?_ | refine ev_if_neg (by omega) ?_ | refine ev_if_neg (by simp) ?_)

end Go.Proofs.Ytoaddpfoecggpaa.Pure
