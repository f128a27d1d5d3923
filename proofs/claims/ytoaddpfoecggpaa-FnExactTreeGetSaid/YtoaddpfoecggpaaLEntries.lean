import Derived.Test.YtoaddpfoecggpaaPGx0
import Derived.Test.YtoaddpfoecggpaaLTreeok
namespace Go.Proofs.Ytoaddpfoecggpaa.Pure
open Go.RowKit Go.Proofs.Ytoaddpfoecggpaa.PG Go.Proofs.YtoaddpfoecggpaaW.PrintWords Go.Proofs.YtoaddpfoecggpaaW.PrintLast Go.Proofs.YtoaddpfoecggpaaW.PrintMore
set_option linter.unusedVariables false
set_option linter.unusedSimpArgs false
/-- A part's entries, with what stands ahead. -/
def entsD : Nat → List Int → S30 → List S84
  | 0, _, _ => []
  | r + 1, ahead, t => (if t.f1 = true then [⟨ahead ++ t.f0, t.f2⟩] else []) ++ (t.f3.map (entsD r (ahead ++ t.f0))).flatten
def entsFrom (r : Nat) (ahead : List Int) (ks : List S30) (i : Nat) : List S84 := ((ks.drop i).map (entsD r ahead)).flatten
/-- How many there are. -/
def sizeD : Nat → S30 → Nat
  | 0, _ => 0
  | r + 1, t => (if t.f1 = true then 1 else 0) + (t.f3.map (sizeD r)).sum
def sizeFrom (r : Nat) (ks : List S30) (i : Nat) : Nat := ((ks.drop i).map (sizeD r)).sum
theorem entsFrom_end (r : Nat) (ahead : List Int) (ks : List S30) (i : Nat) (h : ks.length ≤ i) : entsFrom r ahead ks i = [] := by
  unfold entsFrom
  rw [List.drop_of_length_le h]
  rfl
theorem entsFrom_step (r : Nat) (ahead : List Int) (ks : List S30) (i : Nat) (h : i < ks.length) : entsFrom r ahead ks i = entsD r ahead ks[i] ++ entsFrom r ahead ks (i + 1) := by
  unfold entsFrom
  rw [List.drop_eq_getElem_cons h, List.map_cons, List.flatten_cons]
theorem sizeFrom_end (r : Nat) (ks : List S30) (i : Nat) (h : ks.length ≤ i) : sizeFrom r ks i = 0 := by
  unfold sizeFrom
  rw [List.drop_of_length_le h]
  rfl
theorem sizeFrom_step (r : Nat) (ks : List S30) (i : Nat) (h : i < ks.length) : sizeFrom r ks i = sizeD r ks[i] + sizeFrom r ks (i + 1) := by
  unfold sizeFrom
  rw [List.drop_eq_getElem_cons h, List.map_cons, List.sum_cons]
theorem entsD_succ (r : Nat) (ahead : List Int) (t : S30) : entsD (r + 1) ahead t = (if t.f1 = true then [⟨ahead ++ t.f0, t.f2⟩] else []) ++ entsFrom r (ahead ++ t.f0) t.f3 0 := by rw [entsD, entsFrom, List.drop_zero]
theorem sizeD_succ (r : Nat) (t : S30) : sizeD (r + 1) t = (if t.f1 = true then 1 else 0) + sizeFrom r t.f3 0 := by rw [sizeD, sizeFrom, List.drop_zero]
theorem sum_le (f g : S30 → Nat) (l : List S30) (h : ∀ x ∈ l, f x ≤ g x) : (l.map f).sum ≤ (l.map g).sum := by
  induction l with
  | nil => simp
  | cons x xs ih =>
    rw [List.map_cons, List.map_cons, List.sum_cons, List.sum_cons]
    have a := h x (List.mem_cons_self ..)
    have b := ih (fun y hy => h y (List.mem_cons_of_mem _ hy))
    omega
theorem sizeD_le (r : Nat) : ∀ t : S30, sizeD r t ≤ cntD r t := by
  induction r with
  | zero => intro t; rw [sizeD]; omega
  | succ r ih =>
    intro t
    rw [sizeD, cntD]
    have := sum_le (sizeD r) (cntD r) t.f3 (fun x _ => ih x)
    split <;> omega
theorem length_flatten_map (f : S30 → List S84) (g : S30 → Nat) (l : List S30) (h : ∀ x ∈ l, (f x).length = g x) : (l.map f).flatten.length = (l.map g).sum := by
  induction l with
  | nil => simp
  | cons x xs ih =>
    rw [List.map_cons, List.map_cons, List.flatten_cons, List.sum_cons, List.length_append, h x (List.mem_cons_self ..), ih (fun y hy => h y (List.mem_cons_of_mem _ hy))]
theorem entsD_length (r : Nat) : ∀ (ahead : List Int) (t : S30), (entsD r ahead t).length = sizeD r t := by
  induction r with
  | zero => intro ahead t; rw [entsD, sizeD]; rfl
  | succ r ih =>
    intro ahead t
    rw [entsD, sizeD, List.length_append, length_flatten_map _ (sizeD r) t.f3 (fun x _ => ih _ x)]
    split <;> simp
theorem cntFrom_le (r : Nat) (ks : List S30) (i : Nat) (h : i < ks.length) : cntD r ks[i] ≤ cntFrom r ks i := by
  rw [cntFrom_step r ks i h]
  omega
theorem sizeFrom_le (r : Nat) (ks : List S30) (i : Nat) : sizeFrom r ks i ≤ cntFrom r ks i := sum_le (sizeD r) (cntD r) _ (fun x _ => sizeD_le r x)

end Go.Proofs.Ytoaddpfoecggpaa.Pure
