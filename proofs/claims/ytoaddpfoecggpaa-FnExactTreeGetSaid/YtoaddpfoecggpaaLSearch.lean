import Derived.Test.YtoaddpfoecggpaaPGx0
import Derived.Test.YtoaddpfoecggpaaPGx6
import Derived.Test.YtoaddpfoecggpaaLBase
import Derived.Test.YtoaddpfoecggpaaLBytesp
import Derived.Test.YtoaddpfoecggpaaLCmps
namespace Go.Proofs.Ytoaddpfoecggpaa.Pure
open Go.RowKit Go.Proofs.Ytoaddpfoecggpaa.PG Go.Proofs.YtoaddpfoecggpaaW.PrintWords Go.Proofs.YtoaddpfoecggpaaW.PrintLast Go.Proofs.YtoaddpfoecggpaaW.PrintMore
set_option linter.unusedVariables false
set_option linter.unusedSimpArgs false
def Sorted (l : List S84) : Prop := ∀ i j, (hi : i < l.length) → (hj : j < l.length) → i < j → bytes_Compare.cmp l[i].f0 l[j].f0 < 0
theorem rd_T84_get (l : List S84) (i : Nat) (h : i < l.length) : rd_T84 l (i : Int) = l[i] := by
  unfold rd_T84
  rw [Int.toNat_natCast]
  simp [List.getD, h]
theorem half_eq (i j : Nat) (h : i + j ≤ 1000000) : wrap64 ((IntKind.u64.wrap (wrap64 ((i : Int) + (j : Int)))) / 2) = (((i + j) / 2 : Nat) : Int) := by
  rw [w64 (x := (i : Int) + (j : Int)) (by omega) (by omega)]
  have e : IntKind.u64.wrap ((i : Int) + (j : Int)) = (i : Int) + (j : Int) := by
    simp [IntKind.wrap, IntKind.signed, IntKind.bits]
    omega
  rw [e, w64 (by omega) (by omega)]
  omega
theorem search_loop (l : List S84) (key : List Int) (hn : l.length ≤ 1000) (hb : ∀ x ∈ l, Bytes x.f0) (hk : Bytes key) (hs : Sorted l) (d : Nat) : ∀ (i j : Nat), i ≤ j → j ≤ l.length → j - i ≤ d →
    (∀ q, (h : q < l.length) → q < i → bytes_Compare.cmp l[q].f0 key < 0) → (∀ q, (h : q < l.length) → j ≤ q → ¬ bytes_Compare.cmp l[q].f0 key < 0) →
    ∃ p b, Ev (fun k => impl_entry_byte.l0 k l key (l.length : Int) (i : Int) (j : Int)) (((p : Nat) : Int), b) ∧ (b = true → ∃ h : p < l.length, l[p].f0 = key) ∧ (b = false → ∀ x ∈ l, x.f0 ≠ key) := by
  have fin : ∀ i : Nat, i ≤ l.length → (∀ q, (h : q < l.length) → q < i → bytes_Compare.cmp l[q].f0 key < 0) → (∀ q, (h : q < l.length) → i ≤ q → ¬ bytes_Compare.cmp l[q].f0 key < 0) →
      ∃ p b, Ev (fun k => impl_entry_byte.l0 k l key (l.length : Int) (i : Int) (i : Int)) (((p : Nat) : Int), b) ∧ (b = true → ∃ h : p < l.length, l[p].f0 = key) ∧ (b = false → ∀ x ∈ l, x.f0 ≠ key) := by
    intro i hi h1 h2
    by_cases c : i < l.length
    · have hm := hb l[i] (List.getElem_mem c)
      refine ⟨i, (bytes_Compare.cmp l[i].f0 key == 0), Ev.step (fun k => by rw [impl_entry_byte.l0]) (ev_if_neg (by omega) (ev_if_pos (by omega) (ev_if_pos (by omega) (ev_if_pos (by omega) ?_)))), ?_, ?_⟩
      · rw [rd_T84_get l i c]
        unfold impl_find_1.f
        rw [bytesCompare_eq _ _ hm hk]
        exact Ev.now _
      · intro g
        exact ⟨c, cmp_zero _ _ (by simpa using g)⟩
      · intro g x hx e
        obtain ⟨q, hq, rfl⟩ := List.mem_iff_getElem.1 hx
        have gz : ¬ bytes_Compare.cmp l[i].f0 key = 0 := by simpa using g
        rcases Nat.lt_trichotomy q i with z | z | z
        · have := h1 q hq z
          rw [e, cmp_self] at this
          omega
        · subst z
          rw [e, cmp_self] at gz
          exact gz rfl
        · have a := hs i q c hq z
          rw [e] at a
          exact h2 i c (Nat.le_refl _) a
    · refine ⟨i, false, Ev.step (fun k => by rw [impl_entry_byte.l0]) (ev_if_neg (by omega) (ev_if_neg (by omega) (Ev.now _))), fun g => absurd g (by simp), fun _ x hx e => ?_⟩
      obtain ⟨q, hq, rfl⟩ := List.mem_iff_getElem.1 hx
      have := h1 q hq (by omega)
      rw [e, cmp_self] at this
      omega
  induction d with
  | zero =>
    intro i j hij hj hd h1 h2
    have e : j = i := by omega
    subst e
    exact fin j hj h1 h2
  | succ d ih =>
    intro i j hij hj hd h1 h2
    by_cases c : i < j
    · have hm : (i + j) / 2 < l.length := by omega
      have hmb := hb l[(i + j) / 2] (List.getElem_mem hm)
      have step : ∀ (R : Int × Bool), (if bytes_Compare.cmp l[(i + j) / 2].f0 key < 0 then Ev (fun k => impl_entry_byte.l0 k l key (l.length : Int) (((i + j) / 2 + 1 : Nat) : Int) (j : Int)) R else Ev (fun k => impl_entry_byte.l0 k l key (l.length : Int) (i : Int) (((i + j) / 2 : Nat) : Int)) R) →
          Ev (fun k => impl_entry_byte.l0 k l key (l.length : Int) (i : Int) (j : Int)) R := by
        intro R h
        refine Ev.step (fun k => by rw [impl_entry_byte.l0]) ?_
        rw [half_eq i j (by omega), rd_T84_get l _ hm, w64 (x := (((i + j) / 2 : Nat) : Int) + 1) (by omega) (by omega)]
        refine ev_if_pos (by omega) (ev_if_pos (by omega) (ev_if_pos (by omega) ?_))
        unfold impl_find_1.f
        rw [bytesCompare_eq _ _ hmb hk]
        by_cases g : bytes_Compare.cmp l[(i + j) / 2].f0 key < 0
        · rw [if_pos g] at h
          rw [Int.natCast_add, Int.natCast_one] at h
          exact ev_bind_eq rfl (ev_if_pos g h)
        · rw [if_neg g] at h
          exact ev_bind_eq rfl (ev_if_neg g h)
      by_cases g : bytes_Compare.cmp l[(i + j) / 2].f0 key < 0
      · obtain ⟨p, b, e, r⟩ := ih ((i + j) / 2 + 1) j (by omega) hj (by omega) (fun q hq hqi => by
          rcases Nat.lt_or_ge q ((i + j) / 2) with z | z
          · exact cmp_trans _ _ _ (hs q ((i + j) / 2) hq hm z) g
          · have z2 : q = (i + j) / 2 := by omega
            subst z2
            exact g) h2
        exact ⟨p, b, step _ (by rw [if_pos g]; exact e), r⟩
      · obtain ⟨p, b, e, r⟩ := ih i ((i + j) / 2) (by omega) (by omega) (by omega) h1 (fun q hq hqi z => by
          rcases Nat.lt_or_ge ((i + j) / 2) q with z2 | z2
          · exact g (cmp_trans _ _ _ (hs ((i + j) / 2) q hm hq z2) z)
          · have z3 : q = (i + j) / 2 := by omega
            subst z3
            exact g z)
        exact ⟨p, b, step _ (by rw [if_neg g]; exact e), r⟩
    · have e : j = i := by omega
      subst e
      exact fin j hj h1 h2
theorem find_ev (l : List S84) (key : List Int) (hn : l.length ≤ 1000) (hb : ∀ x ∈ l, Bytes x.f0) (hk : Bytes key) (hs : Sorted l) :
    ∃ p b, Ev (fun k => impl_find.f k l key) (((p : Nat) : Int), b) ∧ (b = true → ∃ h : p < l.length, l[p].f0 = key) ∧ (b = false → ∀ x ∈ l, x.f0 ≠ key) := by
  obtain ⟨p, b, e, r⟩ := search_loop l key hn hb hk hs l.length 0 l.length (by omega) (Nat.le_refl _) (by omega) (fun q _ h => absurd h (by omega)) (fun q h h2 => absurd h (by omega))
  have e : Ev (fun k => impl_entry_byte.l0 k l key (l.length : Int) 0 (l.length : Int)) (((p : Nat) : Int), b) := e
  refine ⟨p, b, ?_, r⟩
  unfold impl_find.f impl_entry_byte.f
  exact Ev.bind e (Ev.now _)

end Go.Proofs.Ytoaddpfoecggpaa.Pure
