import Derived.Test.YtoaddpfoecggpaaPGx0
import Derived.Test.YtoaddpfoecggpaaPGx4
import Derived.Test.YtoaddpfoecggpaaPGx6
import Derived.Test.YtoaddpfoecggpaaLBase
import Derived.Test.YtoaddpfoecggpaaLBytesp
import Derived.Test.YtoaddpfoecggpaaLCmps
import Derived.Test.YtoaddpfoecggpaaLEntries
import Derived.Test.YtoaddpfoecggpaaLSearch
import Derived.Test.YtoaddpfoecggpaaLStrs
import Derived.Test.YtoaddpfoecggpaaLTreeok
import Derived.Test.YtoaddpfoecggpaaLTrees
import Derived.Test.YtoaddpfoecggpaaLTreevalid
namespace Go.Proofs.Ytoaddpfoecggpaa.Pure
open Go.RowKit Go.Proofs.Ytoaddpfoecggpaa.PG Go.Proofs.YtoaddpfoecggpaaW.PrintWords Go.Proofs.YtoaddpfoecggpaaW.PrintLast Go.Proofs.YtoaddpfoecggpaaW.PrintMore
set_option linter.unusedVariables false
set_option linter.unusedSimpArgs false
/-- All edges are bytes. -/
inductive ByU : S30 → Prop
  | mk (t : S30) (h0 : Bytes t.f0) (hk : ∀ x ∈ t.f3, ByU x) : ByU t
theorem ByU.h0 {t : S30} (h : ByU t) : Bytes t.f0 := by cases h; assumption
theorem ByU.hk {t : S30} (h : ByU t) : ∀ x ∈ t.f3, ByU x := by cases h; assumption
theorem by_cv {t : S25} (h : okS25 t) : ByU (cvTree t) := by
  induction h with
  | mk t h0 _ _ h3 g3 ih =>
    refine ByU.mk _ ?_ ?_
    · rw [cvTree_eq]
      exact h0.2
    · intro x hx
      rw [cvTree_eq] at hx
      obtain ⟨y, hy, rfl⟩ := List.mem_map.1 hx
      exact ih y hy
theorem mem_entsFrom (r : Nat) (ahead : List Int) (ks : List S30) (e : S84) : e ∈ entsFrom r ahead ks 0 ↔ ∃ j, ∃ h : j < ks.length, e ∈ entsD r ahead ks[j] := by
  unfold entsFrom
  rw [List.drop_zero, List.mem_flatten]
  constructor
  · rintro ⟨l, hl, he⟩
    obtain ⟨x, hx, rfl⟩ := List.mem_map.1 hl
    obtain ⟨j, hj, rfl⟩ := List.mem_iff_getElem.1 hx
    exact ⟨j, hj, he⟩
  · rintro ⟨j, hj, he⟩
    exact ⟨_, List.mem_map.2 ⟨ks[j], List.getElem_mem hj, rfl⟩, he⟩
theorem ents_form (r : Nat) : ∀ (ahead : List Int) (t : S30) (e : S84), e ∈ entsD r ahead t → ∃ s, e.f0 = ahead ++ t.f0 ++ s := by
  induction r with
  | zero => intro ahead t e h; rw [entsD] at h; simp at h
  | succ r ih =>
    intro ahead t e h
    rw [entsD_succ, List.mem_append] at h
    rcases h with h | h
    · by_cases g : t.f1 = true
      · rw [if_pos g, List.mem_singleton] at h
        subst h
        exact ⟨[], by simp⟩
      · rw [if_neg g] at h
        simp at h
    · obtain ⟨j, hj, he⟩ := (mem_entsFrom r _ _ e).1 h
      obtain ⟨s, hs⟩ := ih _ _ e he
      exact ⟨t.f3[j].f0 ++ s, by rw [hs]; simp⟩
theorem ents_bytes (r : Nat) : ∀ (ahead : List Int) (t : S30), Bytes ahead → ByU t → ∀ e ∈ entsD r ahead t, Bytes e.f0 := by
  induction r with
  | zero => intro ahead t _ _ e h; rw [entsD] at h; simp at h
  | succ r ih =>
    intro ahead t ha hb e h
    rw [entsD_succ, List.mem_append] at h
    rcases h with h | h
    · by_cases g : t.f1 = true
      · rw [if_pos g, List.mem_singleton] at h
        subst h
        exact bytes_append ha hb.h0
      · rw [if_neg g] at h
        simp at h
    · obtain ⟨j, hj, he⟩ := (mem_entsFrom r _ _ e).1 h
      exact ih _ _ (bytes_append ha hb.h0) (hb.hk _ (List.getElem_mem hj)) e he
theorem kids_mono {r : Nat} {ks : List S30} (h : okFrom r ks 0) : ∀ (i d : Nat) (hi : i < ks.length) (hj : i + d + 1 < ks.length), rd ks[i].f0 0 < rd (ks[i + d + 1]).f0 0 := by
  intro i d
  induction d with
  | zero =>
    intro hi hj
    have := (h (i + 1) (by omega) hj).2 (by omega)
    simpa using this
  | succ d ih =>
    intro hi hj
    have a := ih hi (by omega)
    have b := (h (i + d + 1 + 1) (by omega) hj).2 (by omega)
    have b2 : rd (ks[i + d + 1]).f0 0 < rd (ks[i + d + 1 + 1]).f0 0 := by simpa using b
    exact Int.lt_trans a b2
theorem kids_lt {r : Nat} {ks : List S30} (h : okFrom r ks 0) (i j : Nat) (hi : i < ks.length) (hj : j < ks.length) (hij : i < j) : rd ks[i].f0 0 < rd ks[j].f0 0 := by
  have := kids_mono h i (j - i - 1) hi (by omega)
  have e : i + (j - i - 1) + 1 = j := by omega
  simpa [e] using this
theorem ents_sorted (r : Nat) : ∀ (ahead : List Int) (t : S30), r ≤ 25 → okD r t → (entsD r ahead t).Pairwise (fun a b => bytes_Compare.cmp a.f0 b.f0 < 0) := by
  induction r with
  | zero => intro ahead t _ h; exact h.elim
  | succ r ih =>
    intro ahead t hr h
    have ok := ((okD_succ r t).1 h).2.2.2.2
    rw [entsD_succ, List.pairwise_append]
    refine ⟨by split <;> simp, ?_, ?_⟩
    · unfold entsFrom
      rw [List.drop_zero, List.pairwise_flatten]
      refine ⟨?_, ?_⟩
      · intro l hl
        obtain ⟨x, hx, rfl⟩ := List.mem_map.1 hl
        obtain ⟨j, hj, rfl⟩ := List.mem_iff_getElem.1 hx
        exact ih _ _ (by omega) (ok j (by omega) hj).1
      · rw [List.pairwise_map, List.pairwise_iff_getElem]
        intro i j hi hj hij a ha b hb
        obtain ⟨s, hs⟩ := ents_form r _ _ a ha
        obtain ⟨u, hu⟩ := ents_form r _ _ b hb
        rw [hs, hu]
        exact cmp_heads _ _ _ _ _ (okD_edge (ok i (by omega) hi).1 (by omega)) (okD_edge (ok j (by omega) hj).1 (by omega)) (kids_lt ok i j hi hj hij)
    · intro a ha b hb
      by_cases g : t.f1 = true
      · rw [if_pos g, List.mem_singleton] at ha
        subst ha
        obtain ⟨j, hj, he⟩ := (mem_entsFrom r _ _ b).1 hb
        obtain ⟨s, hs⟩ := ents_form r _ _ b he
        have hpos := okD_edge (ok j (by omega) hj).1 (by omega)
        rw [hs, List.append_assoc]
        exact cmp_longer _ _ (by rw [List.length_append]; omega)
      · rw [if_neg g] at ha
        simp at ha
/-- What a look-up answers. -/
def Looks (l : List S84) (key : List Int) (res : Int × Bool) : Prop := (∃ e ∈ l, e.f0 = key ∧ res = (e.f1, true)) ∨ ((∀ e ∈ l, e.f0 ≠ key) ∧ res = (0, false))
theorem specHasPrefix_eq (a p : List Int) (ha : Bytes a) (hp : Bytes p) : spec_HasPrefix.f a p = some (decide (p.length ≤ a.length ∧ a.take p.length = p)) := by
  unfold spec_HasPrefix.f
  by_cases c : (a.length : Int) ≥ (p.length : Int)
  · rw [if_pos c, if_pos (by omega), if_pos (by omega), Int.toNat_natCast, str_eq _ _ (bytes_take _ ha) hp]
    have hc : p.length ≤ a.length := by omega
    simp [hc]
  · rw [if_neg c, decide_eq_false (fun h => c (by omega))]
theorem l6get_loop (r : Nat) (hr : r < 25) (ahead : List Int) (a : List Int) (b : Bool) (c : Int) (ks : List S30) (hn : ks.length ≤ 1048576) (key : List Int) (hkey : 0 < key.length) (ok : okFrom r ks 0)
    (hk : ∀ x ∈ ks, ∃ res, Ev (fun k => spec_l6get.f k x.f0 x.f1 x.f2 x.f3 key) res ∧ Looks (entsD r ahead x) (ahead ++ key) res) (d : Nat) :
    ∀ (i : Nat), i ≤ ks.length → ks.length - i = d → (∀ j, (h : j < ks.length) → j < i → rd ks[j].f0 0 ≠ rd key 0) →
    ∃ res, Ev (fun k => spec_l6get.l0 k key (i : Int) a b c ks) res ∧ Looks (entsFrom r ahead ks 0) (ahead ++ key) res := by
  have miss : ∀ j, (h : j < ks.length) → rd ks[j].f0 0 ≠ rd key 0 → ∀ e ∈ entsD r ahead ks[j], e.f0 ≠ ahead ++ key := by
    intro j hj hne e he z
    obtain ⟨s, hs⟩ := ents_form r _ _ e he
    have hpos := okD_edge (ok j (by omega) hj).1 hr
    have := heads_ne ahead ks[j].f0 key s [] hpos hkey hne
    rw [List.append_nil] at this
    exact this (hs.symm.trans z)
  induction d with
  | zero =>
    intro i hi hd hp
    refine ⟨(0, false), Ev.step (fun k => by rw [spec_l6get.l0]) (ev_if_neg (by omega) (Ev.now _)), .inr ⟨?_, rfl⟩⟩
    intro e he
    obtain ⟨j, hj, he⟩ := (mem_entsFrom r _ _ e).1 he
    exact miss j hj (hp j hj (by omega)) e he
  | succ d ih =>
    intro i hi hd hp
    have hi' : i < ks.length := by omega
    have hpos := okD_edge (ok i (by omega) hi').1 hr
    by_cases g : rd ks[i].f0 0 = rd key 0
    · obtain ⟨res, e, hres⟩ := hk ks[i] (List.getElem_mem hi')
      refine ⟨res, Ev.step (fun k => by rw [spec_l6get.l0]) ?_, ?_⟩
      · rw [rd_T30_get ks i hi']
        refine ev_if_pos (by omega) (ev_if_pos (by omega) (ev_if_pos (by omega) (ev_if_pos (by omega) (ev_if_pos g ?_))))
        exact Ev.bind e (Ev.now _)
      · rcases hres with ⟨x, hx, h1, h2⟩ | ⟨h1, h2⟩
        · exact .inl ⟨x, (mem_entsFrom r _ _ x).2 ⟨i, hi', hx⟩, h1, h2⟩
        · refine .inr ⟨?_, h2⟩
          intro x hx
          obtain ⟨j, hj, hx⟩ := (mem_entsFrom r _ _ x).1 hx
          by_cases z : j = i
          · subst z
            exact h1 x hx
          · refine miss j hj ?_ x hx
            rw [← g]
            rcases Nat.lt_or_gt_of_ne z with z | z
            · have := kids_lt ok j i hj hi' z
              omega
            · have := kids_lt ok i j hi' hj z
              omega
    · obtain ⟨res, e, hres⟩ := ih (i + 1) (by omega) (by omega) (fun j hj hji => by
        by_cases z : j = i
        · subst z
          exact g
        · exact hp j hj (by omega))
      refine ⟨res, Ev.step (fun k => by rw [spec_l6get.l0]) ?_, hres⟩
      rw [rd_T30_get ks i hi', w64 (x := (i : Int) + 1) (by omega) (by omega)]
      rw [Int.natCast_add, Int.natCast_one] at e
      exact ev_if_pos (by omega) (ev_if_pos (by omega) (ev_if_pos (by omega) (ev_if_pos (by omega) (ev_if_neg g e))))
theorem l6get_ev (r : Nat) : ∀ (t : S30) (key ahead : List Int), r ≤ 25 → FitU t → ByU t → okD r t → Bytes key → ∃ res, Ev (fun k => spec_l6get.f k t.f0 t.f1 t.f2 t.f3 key) res ∧ Looks (entsD r ahead t) (ahead ++ key) res := by
  induction r with
  | zero => intro t _ _ _ _ _ h _; exact h.elim
  | succ r ih =>
    intro t key ahead hr hf hb h hkb
    have hok := (okD_succ r t).1 h
    have ok := hok.2.2.2.2
    have hp := specHasPrefix_eq key t.f0 hkb hb.h0
    by_cases g : t.f0.length ≤ key.length ∧ key.take t.f0.length = t.f0
    case neg =>
      rw [decide_eq_false g] at hp
      refine ⟨(0, false), ?_, .inr ⟨?_, rfl⟩⟩
      · refine Ev.step (fun k => by rw [spec_l6get.f]) ?_
        refine ev_bind_eq hp ?_
        exact ev_if_neg (by simp) (Ev.now _)
      intro e he z
      obtain ⟨s, hs⟩ := ents_form (r + 1) _ _ e he
      rw [z, List.append_assoc] at hs
      have := List.append_cancel_left hs
      rw [this] at g
      exact g ⟨by rw [List.length_append]; omega, by simp⟩
    have split : key = t.f0 ++ key.drop t.f0.length := by
      have := List.take_append_drop t.f0.length key
      rw [g.2] at this
      exact this.symm
    generalize hrest : key.drop t.f0.length = rest at split
    have go : ∀ res : Int × Bool, Ev (fun k => if (rest.length : Int) = 0 then (some (t.f2, t.f1)) else (spec_l6get.l0 k rest 0 t.f0 t.f1 t.f2 t.f3)) res → Ev (fun k => spec_l6get.f k t.f0 t.f1 t.f2 t.f3 key) res := by
      intro res he
      refine Ev.step (fun k => by rw [spec_l6get.f]) ?_
      refine ev_bind_eq (hp.trans (congrArg some (decide_eq_true g))) ?_
      refine ev_if_pos rfl ?_
      rw [Int.toNat_natCast, hrest]
      exact ev_if_pos (by omega) (ev_if_pos (by omega) he)
    by_cases z : rest.length = 0
    · have hz : rest = [] := List.eq_nil_of_length_eq_zero z
      subst hz
      rw [List.append_nil] at split
      subst split
      refine ⟨(t.f2, t.f1), go _ (ev_if_pos (by simp) (Ev.now _)), ?_⟩
      rw [entsD_succ]
      by_cases q : t.f1 = true
      · refine .inl ⟨⟨ahead ++ t.f0, t.f2⟩, ?_, rfl, by rw [q]⟩
        rw [if_pos q]
        simp
      · have q2 : t.f1 = false := by simpa using q
        refine .inr ⟨?_, by rw [q2, hok.2.2.1 q2]⟩
        intro e he w
        rw [if_neg q, List.nil_append] at he
        obtain ⟨j, hj, he⟩ := (mem_entsFrom r _ _ e).1 he
        obtain ⟨s, hs⟩ := ents_form r _ _ e he
        have hpos := okD_edge (ok j (by omega) hj).1 (by omega)
        have l1 := congrArg List.length (hs.symm.trans w)
        simp only [List.length_append] at l1
        omega
    · have hrb : Bytes rest := by
        rw [← hrest]
        exact bytes_drop _ hkb
      obtain ⟨res, e, hres⟩ := l6get_loop r (by omega) (ahead ++ t.f0) t.f0 t.f1 t.f2 t.f3 hf.h3 rest (by omega) ok (fun x hx => by
        obtain ⟨j, hj, rfl⟩ := List.mem_iff_getElem.1 hx
        exact ih _ rest (ahead ++ t.f0) (by omega) (hf.hk _ hx) (hb.hk _ hx) (ok j (by omega) hj).1 hrb) t.f3.length 0 (by omega) (by omega) (fun j hj h => absurd h (by omega))
      have e : Ev (fun k => spec_l6get.l0 k rest 0 t.f0 t.f1 t.f2 t.f3) res := e
      refine ⟨res, go _ (ev_if_neg (by omega) e), ?_⟩
      rw [entsD_succ, split, ← List.append_assoc]
      rcases hres with ⟨x, hx, h1, h2⟩ | ⟨h1, h2⟩
      · exact .inl ⟨x, List.mem_append.2 (.inr hx), h1, h2⟩
      · refine .inr ⟨?_, h2⟩
        intro x hx
        rcases List.mem_append.1 hx with hx | hx
        · by_cases q : t.f1 = true
          · rw [if_pos q, List.mem_singleton] at hx
            subst hx
            intro w
            have l1 := congrArg List.length w
            simp only [List.length_append] at l1
            omega
          · rw [if_neg q] at hx
            simp at hx
        · exact h1 x hx
theorem gets_same (t : S30) (key : List Int) (hf : FitU t) (hb : ByU t) (hv : ValidT t) (hk : Bytes key) :
    ∃ res, Ev (fun k => spec_l6get.f k t.f0 t.f1 t.f2 t.f3 key) res ∧ Ev (fun k => (impl_find.f k (entsD 25 [] t) key).bind fun bt217 => (if bt217.2 = true then (if 0 ≤ bt217.1 then (if bt217.1 < ((entsD 25 [] t).length : Int) then (some ((rd_T84 (entsD 25 [] t) bt217.1).f1, true)) else (none)) else (none)) else (some (0, false)))) res := by
  obtain ⟨o1, o2, _⟩ := hv
  obtain ⟨res, e, hres⟩ := l6get_ev 25 t key [] (by omega) hf hb o1 hk
  rw [List.nil_append] at hres
  have hlen : (entsD 25 [] t).length ≤ 200 := by
    rw [entsD_length]
    have := sizeD_le 25 t
    omega
  have hs : Sorted (entsD 25 [] t) := fun i j hi hj hij => (List.pairwise_iff_getElem.1 (ents_sorted 25 [] t (by omega) o1)) i j hi hj hij
  obtain ⟨p, b, e2, hb1, hb2⟩ := find_ev (entsD 25 [] t) key (by omega) (ents_bytes 25 [] t bytes_nil hb) hk hs
  refine ⟨res, e, Ev.bind e2 ?_⟩
  cases b with
  | true =>
    obtain ⟨hp, hpk⟩ := hb1 rfl
    refine ev_if_pos rfl (ev_if_pos (by simp) (ev_if_pos (by simpa using hp) ?_))
    rw [rd_T84_get _ p hp]
    refine ev_done ?_
    rcases hres with ⟨x, hx, h1, h2⟩ | ⟨h1, _⟩
    · obtain ⟨q, hq, rfl⟩ := List.mem_iff_getElem.1 hx
      have e3 : q = p := by
        rcases Nat.lt_trichotomy q p with z | z | z
        · have := hs q p hq hp z
          rw [h1, hpk, cmp_self] at this
          omega
        · exact z
        · have := hs p q hp hq z
          rw [h1, hpk, cmp_self] at this
          omega
      subst e3
      exact h2.symm
    · exact absurd hpk (h1 _ (List.getElem_mem hp))
  | false =>
    refine ev_if_neg (by simp) (ev_done ?_)
    rcases hres with ⟨x, hx, h1, _⟩ | ⟨_, h2⟩
    · exact absurd h1 (hb2 rfl x hx)
    · exact h2.symm

end Go.Proofs.Ytoaddpfoecggpaa.Pure
