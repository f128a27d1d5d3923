-- Written for this claim by the session's program pp.py, out of the kit's print and the seat's translation.
import Derived.Test.YtoaddpfoecggpaaPNx0
import Derived.Test.YtoaddpfoecggpaaPNx5
import Derived.Test.YtoaddpfoecggpaaPNx6
import Derived.Test.YtoaddpfoecggpaaPNx9
namespace Go.Proofs.Ytoaddpfoecggpaa.PN
open Go.RowKit Go.Proofs.YtoaddpfoecggpaaW.PrintWords Go.Proofs.YtoaddpfoecggpaaW.PrintLast Go.Proofs.YtoaddpfoecggpaaW.PrintMore
attribute [local go_sem] max2_int min2_int max_two min_two max_three min_three max_four min_four   -- for this text's walks alone
set_option linter.unusedVariables false
set_option linter.unusedSimpArgs false

/-- A state of type 59 at block g of W; what its slices lead to came in by w0. -/
def IsS59 (w0 W : World) (g : Nat) (f0 : Int) (f1 : Int) (f2 : Int) (f3 : List (S115)) (f4 : Int) (f5 : Int) (f6 : Int) (f7 : Int) (f8 : List Bool) (f9 : List Int) (f10 : List Int) : Prop := ∃ A3 c3, ∃ A8 c8, ∃ A9 c9, ∃ A10 c10, W.heap[g]? = some (.cells #[.int .i64 f0, .int .i64 f1, .int .i64 f2, .slice A3 f3.length c3, .int .i64 f4, .int .i64 f5, .int .i64 f6, .int .i64 f7, .slice A8 f8.length c8, .slice A9 f9.length c9, .slice A10 f10.length c10] 59 (0, 0)) ∧ w0.heap.size ≤ g ∧ Kd.C k115 w0 A3 f3.length f3 ∧ Kd.C Kd.bool w0 A8 f8.length f8 ∧ Kd.C (Kd.int .i64) w0 A9 f9.length f9 ∧ Kd.C (Kd.int .i64) w0 A10 f10.length f10
theorem IsS59.grown {w0 W : World} {g : Nat} {f0 : Int} {f1 : Int} {f2 : Int} {f3 : List (S115)} {f4 : Int} {f5 : Int} {f6 : Int} {f7 : Int} {f8 : List Bool} {f9 : List Int} {f10 : List Int} {W1 : World} {row : Option Nat} (h : IsS59 w0 W g f0 f1 f2 f3 f4 f5 f6 f7 f8 f9 f10) (hw : W.grownBy W1 row) (hne : some g ≠ row) : IsS59 w0 W1 g f0 f1 f2 f3 f4 f5 f6 f7 f8 f9 f10 := by
 obtain ⟨A3, c3, A8, c8, A9, c9, A10, c10, hb, hg, hr3, hr8, hr9, hr10⟩ := h
 exact ⟨A3, c3, A8, c8, A9, c9, A10, c10, blk_grown hb hw hne, hg, hr3, hr8, hr9, hr10⟩
theorem IsS59.own_neN {w0 W : World} {g : Nat} {f0 : Int} {f1 : Int} {f2 : Int} {f3 : List (S115)} {f4 : Int} {f5 : Int} {f6 : Int} {f7 : Int} {f8 : List Bool} {f9 : List Int} {f10 : List Int} {α : Type} {d : Kd α} {e : Nat} {base : Nat} {ok : Nat → Prop} {v : Value} {xs : List α} (h : IsS59 w0 W g f0 f1 f2 f3 f4 f5 f6 f7 f8 f9 f10) (ho : Kd.N d e W base ok v xs) (ht : e ≠ 59) : some g ≠ v.ownBlock := by
 obtain ⟨A3, c3, A8, c8, A9, c9, A10, c10, hb, hg, hr3, hr8, hr9, hr10⟩ := h
 exact Kd.N_ne ho hb ht
theorem IsS59.fresh {w0 W : World} {g : Nat} {f0 : Int} {f1 : Int} {f2 : Int} {f3 : List (S115)} {f4 : Int} {f5 : Int} {f6 : Int} {f7 : Int} {f8 : List Bool} {f9 : List Int} {f10 : List Int} (h : IsS59 w0 W g f0 f1 f2 f3 f4 f5 f6 f7 f8 f9 f10) : ∀ k, W.heap.size ≤ k → k ≠ g := by
 obtain ⟨A3, c3, A8, c8, A9, c9, A10, c10, hb, hg, hr3, hr8, hr9, hr10⟩ := h
 exact Kd.freshB hb
theorem IsS59.kept {w0 W : World} {g : Nat} {f0 : Int} {f1 : Int} {f2 : Int} {f3 : List (S115)} {f4 : Int} {f5 : Int} {f6 : Int} {f7 : Int} {f8 : List Bool} {f9 : List Int} {f10 : List Int} {W1 : World} {S : Nat → Prop} (h : IsS59 w0 W g f0 f1 f2 f3 f4 f5 f6 f7 f8 f9 f10) (hk : Kept W W1 S) (hne : ¬ S g) : IsS59 w0 W1 g f0 f1 f2 f3 f4 f5 f6 f7 f8 f9 f10 := by
 obtain ⟨A3, c3, A8, c8, A9, c9, A10, c10, hb, hg, hr3, hr8, hr9, hr10⟩ := h
 exact ⟨A3, c3, A8, c8, A9, c9, A10, c10, blk_kept hb hk hne, hg, hr3, hr8, hr9, hr10⟩
theorem IsS59.below {w0 W : World} {g : Nat} {f0 : Int} {f1 : Int} {f2 : Int} {f3 : List (S115)} {f4 : Int} {f5 : Int} {f6 : Int} {f7 : Int} {f8 : List Bool} {f9 : List Int} {f10 : List Int} {W1 : World} (h : IsS59 w0 W g f0 f1 f2 f3 f4 f5 f6 f7 f8 f9 f10) (hw : Below W.heap.size W W1) : IsS59 w0 W1 g f0 f1 f2 f3 f4 f5 f6 f7 f8 f9 f10 := h.grown (grown_of_below hw none) (by simp)
theorem IsS59.alloc {w0 W : World} {g : Nat} {f0 : Int} {f1 : Int} {f2 : Int} {f3 : List (S115)} {f4 : Int} {f5 : Int} {f6 : Int} {f7 : Int} {f8 : List Bool} {f9 : List Int} {f10 : List Int} (h : IsS59 w0 W g f0 f1 f2 f3 f4 f5 f6 f7 f8 f9 f10) (o : Obj) : IsS59 w0 (W.alloc o) g f0 f1 f2 f3 f4 f5 f6 f7 f8 f9 f10 := h.below (below_alloc (Below.refl _ _) o)
theorem IsS59.drewN {w0 W : World} {g : Nat} {f0 : Int} {f1 : Int} {f2 : Int} {f3 : List (S115)} {f4 : Int} {f5 : Int} {f6 : Int} {f7 : Int} {f8 : List Bool} {f9 : List Int} {f10 : List Int} (h : IsS59 w0 W g f0 f1 f2 f3 f4 f5 f6 f7 f8 f9 f10) (m : Nat) : IsS59 w0 (W.drewN m) g f0 f1 f2 f3 f4 f5 f6 f7 f8 f9 f10 := h
theorem IsS59.drew {w0 W : World} {g : Nat} {f0 : Int} {f1 : Int} {f2 : Int} {f3 : List (S115)} {f4 : Int} {f5 : Int} {f6 : Int} {f7 : Int} {f8 : List Bool} {f9 : List Int} {f10 : List Int} (h : IsS59 w0 W g f0 f1 f2 f3 f4 f5 f6 f7 f8 f9 f10) : IsS59 w0 W.drew g f0 f1 f2 f3 f4 f5 f6 f7 f8 f9 f10 := h
theorem IsS59.at_ {w0 W : World} {g : Nat} {f0 : Int} {f1 : Int} {f2 : Int} {f3 : List (S115)} {f4 : Int} {f5 : Int} {f6 : Int} {f7 : Int} {f8 : List Bool} {f9 : List Int} {f10 : List Int} {w' : World} {m : Nat} (hq : W.drewN m = w') (h : IsS59 w0 W g f0 f1 f2 f3 f4 f5 f6 f7 f8 f9 f10) : IsS59 w0 w' g f0 f1 f2 f3 f4 f5 f6 f7 f8 f9 f10 := by subst hq; exact IsS59.drewN h m
theorem IsS59.apart {w0 W : World} {g : Nat} {f0 : Int} {f1 : Int} {f2 : Int} {f3 : List (S115)} {f4 : Int} {f5 : Int} {f6 : Int} {f7 : Int} {f8 : List Bool} {f9 : List Int} {f10 : List Int} {α : Type} {d : Kd α} {e : Nat} {base : Nat} {ok : Nat → Prop} {v : Value} {xs : List α} (h : IsS59 w0 W g f0 f1 f2 f3 f4 f5 f6 f7 f8 f9 f10) (ho : d.R e W base ok v xs) (ht : ∀ q, q ∈ e :: d.E → q ≠ 59) : d.R e W base (fun k => ok k ∧ k ≠ g) v xs := by
 obtain ⟨A3, c3, A8, c8, A9, c9, A10, c10, hb, hg, hr3, hr8, hr9, hr10⟩ := h
 exact Kd.R_types ho hb ht
theorem IsS59.own_ne {w0 W : World} {g : Nat} {f0 : Int} {f1 : Int} {f2 : Int} {f3 : List (S115)} {f4 : Int} {f5 : Int} {f6 : Int} {f7 : Int} {f8 : List Bool} {f9 : List Int} {f10 : List Int} {α : Type} {d : Kd α} {e : Nat} {base : Nat} {ok : Nat → Prop} {v : Value} {xs : List α} (h : IsS59 w0 W g f0 f1 f2 f3 f4 f5 f6 f7 f8 f9 f10) (ho : d.R e W base ok v xs) (ht : e ≠ 59) : some g ≠ v.ownBlock := by
 obtain ⟨A3, c3, A8, c8, A9, c9, A10, c10, hb, hg, hr3, hr8, hr9, hr10⟩ := h
 exact Kd.R_ne ho hb ht
theorem IsS59.apartQ {w0 W : World} {g : Nat} {f0 : Int} {f1 : Int} {f2 : Int} {f3 : List (S115)} {f4 : Int} {f5 : Int} {f6 : Int} {f7 : Int} {f8 : List Bool} {f9 : List Int} {f10 : List Int} {α : Type} {d : Kd α} {e : Nat} {base : Nat} {ok : Nat → Prop} {v : Value} {xs : List α} (h : IsS59 w0 W g f0 f1 f2 f3 f4 f5 f6 f7 f8 f9 f10) (ho : d.Q e W base ok v xs) (ht : ∀ q, q ∈ e :: d.E → q ≠ 59) : d.Q e W base (fun k => ok k ∧ k ≠ g) v xs := by
 obtain ⟨A3, c3, A8, c8, A9, c9, A10, c10, hb, hg, hr3, hr8, hr9, hr10⟩ := h
 exact Kd.Q_types ho hb ht
theorem IsS59.own_neQ {w0 W : World} {g : Nat} {f0 : Int} {f1 : Int} {f2 : Int} {f3 : List (S115)} {f4 : Int} {f5 : Int} {f6 : Int} {f7 : Int} {f8 : List Bool} {f9 : List Int} {f10 : List Int} {α : Type} {d : Kd α} {e : Nat} {base : Nat} {ok : Nat → Prop} {v : Value} {xs : List α} (h : IsS59 w0 W g f0 f1 f2 f3 f4 f5 f6 f7 f8 f9 f10) (ho : d.Q e W base ok v xs) (ht : e ≠ 59) : some g ≠ v.ownBlock := by
 obtain ⟨A3, c3, A8, c8, A9, c9, A10, c10, hb, hg, hr3, hr8, hr9, hr10⟩ := h
 exact Kd.Q_ne ho hb ht
theorem IsS59.apartS {w0 W : World} {g : Nat} {f0 : Int} {f1 : Int} {f2 : Int} {f3 : List (S115)} {f4 : Int} {f5 : Int} {f6 : Int} {f7 : Int} {f8 : List Bool} {f9 : List Int} {f10 : List Int} {α : Type} {d : Kd α} {e : Nat} {base : Nat} {ok : Nat → Prop} {v : Value} {xs : List α} (h : IsS59 w0 W g f0 f1 f2 f3 f4 f5 f6 f7 f8 f9 f10) (ho : d.S e W base ok v xs) (ht : ∀ q, q ∈ e :: d.E → q ≠ 59) : d.S e W base (fun k => ok k ∧ k ≠ g) v xs := by
 obtain ⟨A3, c3, A8, c8, A9, c9, A10, c10, hb, hg, hr3, hr8, hr9, hr10⟩ := h
 exact Kd.S_types ho hb ht
theorem IsS59.own_neS {w0 W : World} {g : Nat} {f0 : Int} {f1 : Int} {f2 : Int} {f3 : List (S115)} {f4 : Int} {f5 : Int} {f6 : Int} {f7 : Int} {f8 : List Bool} {f9 : List Int} {f10 : List Int} {α : Type} {d : Kd α} {e : Nat} {base : Nat} {ok : Nat → Prop} {v : Value} {xs : List α} (h : IsS59 w0 W g f0 f1 f2 f3 f4 f5 f6 f7 f8 f9 f10) (ho : d.S e W base ok v xs) (ht : e ≠ 59) : some g ≠ v.ownBlock := by
 obtain ⟨A3, c3, A8, c8, A9, c9, A10, c10, hb, hg, hr3, hr8, hr9, hr10⟩ := h
 exact Kd.S_ne ho hb ht
theorem IsS59.lt {w0 W : World} {g : Nat} {f0 : Int} {f1 : Int} {f2 : Int} {f3 : List (S115)} {f4 : Int} {f5 : Int} {f6 : Int} {f7 : Int} {f8 : List Bool} {f9 : List Int} {f10 : List Int} (h : IsS59 w0 W g f0 f1 f2 f3 f4 f5 f6 f7 f8 f9 f10) : g < W.heap.size := by
 obtain ⟨A3, c3, A8, c8, A9, c9, A10, c10, hb, hg, hr3, hr8, hr9, hr10⟩ := h
 exact blk_lt hb
theorem IsS59.ge {w0 W : World} {g : Nat} {f0 : Int} {f1 : Int} {f2 : Int} {f3 : List (S115)} {f4 : Int} {f5 : Int} {f6 : Int} {f7 : Int} {f8 : List Bool} {f9 : List Int} {f10 : List Int} (h : IsS59 w0 W g f0 f1 f2 f3 f4 f5 f6 f7 f8 f9 f10) : w0.heap.size ≤ g := by
 obtain ⟨A3, c3, A8, c8, A9, c9, A10, c10, hb, hg, hr3, hr8, hr9, hr10⟩ := h
 exact hg
theorem IsS59.ne_blk {w0 W : World} {g : Nat} {f0 : Int} {f1 : Int} {f2 : Int} {f3 : List (S115)} {f4 : Int} {f5 : Int} {f6 : Int} {f7 : Int} {f8 : List Bool} {f9 : List Int} {f10 : List Int} {a : Nat} {cs : Array Value} {t : TypeId} {fr : Nat × Nat} (h : IsS59 w0 W g f0 f1 f2 f3 f4 f5 f6 f7 f8 f9 f10) (hb2 : W.heap[a]? = some (.cells cs t fr)) (ht : t ≠ 59) : g ≠ a := by
 obtain ⟨A3, c3, A8, c8, A9, c9, A10, c10, hb, hg, hr3, hr8, hr9, hr10⟩ := h
 rintro rfl
 rw [hb] at hb2
 injection hb2 with hb2
 injection hb2 with _ ht2
 exact ht ht2.symm
theorem IsS59.far {w0 W : World} {g : Nat} {f0 : Int} {f1 : Int} {f2 : Int} {f3 : List (S115)} {f4 : Int} {f5 : Int} {f6 : Int} {f7 : Int} {f8 : List Bool} {f9 : List Int} {f10 : List Int} {p : Addr} (h : IsS59 w0 W g f0 f1 f2 f3 f4 f5 f6 f7 f8 f9 f10) (hne : g ≠ p.block) (u : Value) : IsS59 w0 (W.setCell p u) g f0 f1 f2 f3 f4 f5 f6 f7 f8 f9 f10 := by
 obtain ⟨A3, c3, A8, c8, A9, c9, A10, c10, hb, hg, hr3, hr8, hr9, hr10⟩ := h
 exact ⟨A3, c3, A8, c8, A9, c9, A10, c10, blk_far hb hne u, hg, hr3, hr8, hr9, hr10⟩
theorem cellS59_0 {W : World} {g : Nat} {A3 : Option Addr} {c3 : Nat} {A8 : Option Addr} {c8 : Nat} {A9 : Option Addr} {c9 : Nat} {A10 : Option Addr} {c10 : Nat} {f0 : Int} {f1 : Int} {f2 : Int} {f3 : List (S115)} {f4 : Int} {f5 : Int} {f6 : Int} {f7 : Int} {f8 : List Bool} {f9 : List Int} {f10 : List Int} (h : W.heap[g]? = some (.cells #[.int .i64 f0, .int .i64 f1, .int .i64 f2, .slice A3 f3.length c3, .int .i64 f4, .int .i64 f5, .int .i64 f6, .int .i64 f7, .slice A8 f8.length c8, .slice A9 f9.length c9, .slice A10 f10.length c10] 59 (0, 0))) : W.cell? ⟨g, 0, none⟩ = some (.int .i64 f0) := (blk_cell h 0).trans rfl
theorem IsS59.set_0 {w0 W : World} {g : Nat} {f0 : Int} {f1 : Int} {f2 : Int} {f3 : List (S115)} {f4 : Int} {f5 : Int} {f6 : Int} {f7 : Int} {f8 : List Bool} {f9 : List Int} {f10 : List Int} (h : IsS59 w0 W g f0 f1 f2 f3 f4 f5 f6 f7 f8 f9 f10) (x : Int) : IsS59 w0 (W.setCell ⟨g, 0, none⟩ (.int .i64 x)) g x f1 f2 f3 f4 f5 f6 f7 f8 f9 f10 := by
 obtain ⟨A3, c3, A8, c8, A9, c9, A10, c10, hb, hg, hr3, hr8, hr9, hr10⟩ := h
 exact ⟨A3, c3, A8, c8, A9, c9, A10, c10, by simpa using blk_set hb 0 (.int .i64 x), hg, hr3, hr8, hr9, hr10⟩
theorem cellS59_1 {W : World} {g : Nat} {A3 : Option Addr} {c3 : Nat} {A8 : Option Addr} {c8 : Nat} {A9 : Option Addr} {c9 : Nat} {A10 : Option Addr} {c10 : Nat} {f0 : Int} {f1 : Int} {f2 : Int} {f3 : List (S115)} {f4 : Int} {f5 : Int} {f6 : Int} {f7 : Int} {f8 : List Bool} {f9 : List Int} {f10 : List Int} (h : W.heap[g]? = some (.cells #[.int .i64 f0, .int .i64 f1, .int .i64 f2, .slice A3 f3.length c3, .int .i64 f4, .int .i64 f5, .int .i64 f6, .int .i64 f7, .slice A8 f8.length c8, .slice A9 f9.length c9, .slice A10 f10.length c10] 59 (0, 0))) : W.cell? ⟨g, 1, none⟩ = some (.int .i64 f1) := (blk_cell h 1).trans rfl
theorem IsS59.set_1 {w0 W : World} {g : Nat} {f0 : Int} {f1 : Int} {f2 : Int} {f3 : List (S115)} {f4 : Int} {f5 : Int} {f6 : Int} {f7 : Int} {f8 : List Bool} {f9 : List Int} {f10 : List Int} (h : IsS59 w0 W g f0 f1 f2 f3 f4 f5 f6 f7 f8 f9 f10) (x : Int) : IsS59 w0 (W.setCell ⟨g, 1, none⟩ (.int .i64 x)) g f0 x f2 f3 f4 f5 f6 f7 f8 f9 f10 := by
 obtain ⟨A3, c3, A8, c8, A9, c9, A10, c10, hb, hg, hr3, hr8, hr9, hr10⟩ := h
 exact ⟨A3, c3, A8, c8, A9, c9, A10, c10, by simpa using blk_set hb 1 (.int .i64 x), hg, hr3, hr8, hr9, hr10⟩
theorem cellS59_2 {W : World} {g : Nat} {A3 : Option Addr} {c3 : Nat} {A8 : Option Addr} {c8 : Nat} {A9 : Option Addr} {c9 : Nat} {A10 : Option Addr} {c10 : Nat} {f0 : Int} {f1 : Int} {f2 : Int} {f3 : List (S115)} {f4 : Int} {f5 : Int} {f6 : Int} {f7 : Int} {f8 : List Bool} {f9 : List Int} {f10 : List Int} (h : W.heap[g]? = some (.cells #[.int .i64 f0, .int .i64 f1, .int .i64 f2, .slice A3 f3.length c3, .int .i64 f4, .int .i64 f5, .int .i64 f6, .int .i64 f7, .slice A8 f8.length c8, .slice A9 f9.length c9, .slice A10 f10.length c10] 59 (0, 0))) : W.cell? ⟨g, 2, none⟩ = some (.int .i64 f2) := (blk_cell h 2).trans rfl
theorem IsS59.set_2 {w0 W : World} {g : Nat} {f0 : Int} {f1 : Int} {f2 : Int} {f3 : List (S115)} {f4 : Int} {f5 : Int} {f6 : Int} {f7 : Int} {f8 : List Bool} {f9 : List Int} {f10 : List Int} (h : IsS59 w0 W g f0 f1 f2 f3 f4 f5 f6 f7 f8 f9 f10) (x : Int) : IsS59 w0 (W.setCell ⟨g, 2, none⟩ (.int .i64 x)) g f0 f1 x f3 f4 f5 f6 f7 f8 f9 f10 := by
 obtain ⟨A3, c3, A8, c8, A9, c9, A10, c10, hb, hg, hr3, hr8, hr9, hr10⟩ := h
 exact ⟨A3, c3, A8, c8, A9, c9, A10, c10, by simpa using blk_set hb 2 (.int .i64 x), hg, hr3, hr8, hr9, hr10⟩
theorem cellS59_3 {W : World} {g : Nat} {A3 : Option Addr} {c3 : Nat} {A8 : Option Addr} {c8 : Nat} {A9 : Option Addr} {c9 : Nat} {A10 : Option Addr} {c10 : Nat} {f0 : Int} {f1 : Int} {f2 : Int} {f3 : List (S115)} {f4 : Int} {f5 : Int} {f6 : Int} {f7 : Int} {f8 : List Bool} {f9 : List Int} {f10 : List Int} (h : W.heap[g]? = some (.cells #[.int .i64 f0, .int .i64 f1, .int .i64 f2, .slice A3 f3.length c3, .int .i64 f4, .int .i64 f5, .int .i64 f6, .int .i64 f7, .slice A8 f8.length c8, .slice A9 f9.length c9, .slice A10 f10.length c10] 59 (0, 0))) : W.cell? ⟨g, 3, none⟩ = some (.slice A3 f3.length c3) := (blk_cell h 3).trans rfl
theorem cellS59_4 {W : World} {g : Nat} {A3 : Option Addr} {c3 : Nat} {A8 : Option Addr} {c8 : Nat} {A9 : Option Addr} {c9 : Nat} {A10 : Option Addr} {c10 : Nat} {f0 : Int} {f1 : Int} {f2 : Int} {f3 : List (S115)} {f4 : Int} {f5 : Int} {f6 : Int} {f7 : Int} {f8 : List Bool} {f9 : List Int} {f10 : List Int} (h : W.heap[g]? = some (.cells #[.int .i64 f0, .int .i64 f1, .int .i64 f2, .slice A3 f3.length c3, .int .i64 f4, .int .i64 f5, .int .i64 f6, .int .i64 f7, .slice A8 f8.length c8, .slice A9 f9.length c9, .slice A10 f10.length c10] 59 (0, 0))) : W.cell? ⟨g, 4, none⟩ = some (.int .i64 f4) := (blk_cell h 4).trans rfl
theorem IsS59.set_4 {w0 W : World} {g : Nat} {f0 : Int} {f1 : Int} {f2 : Int} {f3 : List (S115)} {f4 : Int} {f5 : Int} {f6 : Int} {f7 : Int} {f8 : List Bool} {f9 : List Int} {f10 : List Int} (h : IsS59 w0 W g f0 f1 f2 f3 f4 f5 f6 f7 f8 f9 f10) (x : Int) : IsS59 w0 (W.setCell ⟨g, 4, none⟩ (.int .i64 x)) g f0 f1 f2 f3 x f5 f6 f7 f8 f9 f10 := by
 obtain ⟨A3, c3, A8, c8, A9, c9, A10, c10, hb, hg, hr3, hr8, hr9, hr10⟩ := h
 exact ⟨A3, c3, A8, c8, A9, c9, A10, c10, by simpa using blk_set hb 4 (.int .i64 x), hg, hr3, hr8, hr9, hr10⟩
theorem cellS59_5 {W : World} {g : Nat} {A3 : Option Addr} {c3 : Nat} {A8 : Option Addr} {c8 : Nat} {A9 : Option Addr} {c9 : Nat} {A10 : Option Addr} {c10 : Nat} {f0 : Int} {f1 : Int} {f2 : Int} {f3 : List (S115)} {f4 : Int} {f5 : Int} {f6 : Int} {f7 : Int} {f8 : List Bool} {f9 : List Int} {f10 : List Int} (h : W.heap[g]? = some (.cells #[.int .i64 f0, .int .i64 f1, .int .i64 f2, .slice A3 f3.length c3, .int .i64 f4, .int .i64 f5, .int .i64 f6, .int .i64 f7, .slice A8 f8.length c8, .slice A9 f9.length c9, .slice A10 f10.length c10] 59 (0, 0))) : W.cell? ⟨g, 5, none⟩ = some (.int .i64 f5) := (blk_cell h 5).trans rfl
theorem IsS59.set_5 {w0 W : World} {g : Nat} {f0 : Int} {f1 : Int} {f2 : Int} {f3 : List (S115)} {f4 : Int} {f5 : Int} {f6 : Int} {f7 : Int} {f8 : List Bool} {f9 : List Int} {f10 : List Int} (h : IsS59 w0 W g f0 f1 f2 f3 f4 f5 f6 f7 f8 f9 f10) (x : Int) : IsS59 w0 (W.setCell ⟨g, 5, none⟩ (.int .i64 x)) g f0 f1 f2 f3 f4 x f6 f7 f8 f9 f10 := by
 obtain ⟨A3, c3, A8, c8, A9, c9, A10, c10, hb, hg, hr3, hr8, hr9, hr10⟩ := h
 exact ⟨A3, c3, A8, c8, A9, c9, A10, c10, by simpa using blk_set hb 5 (.int .i64 x), hg, hr3, hr8, hr9, hr10⟩
theorem cellS59_6 {W : World} {g : Nat} {A3 : Option Addr} {c3 : Nat} {A8 : Option Addr} {c8 : Nat} {A9 : Option Addr} {c9 : Nat} {A10 : Option Addr} {c10 : Nat} {f0 : Int} {f1 : Int} {f2 : Int} {f3 : List (S115)} {f4 : Int} {f5 : Int} {f6 : Int} {f7 : Int} {f8 : List Bool} {f9 : List Int} {f10 : List Int} (h : W.heap[g]? = some (.cells #[.int .i64 f0, .int .i64 f1, .int .i64 f2, .slice A3 f3.length c3, .int .i64 f4, .int .i64 f5, .int .i64 f6, .int .i64 f7, .slice A8 f8.length c8, .slice A9 f9.length c9, .slice A10 f10.length c10] 59 (0, 0))) : W.cell? ⟨g, 6, none⟩ = some (.int .i64 f6) := (blk_cell h 6).trans rfl
theorem IsS59.set_6 {w0 W : World} {g : Nat} {f0 : Int} {f1 : Int} {f2 : Int} {f3 : List (S115)} {f4 : Int} {f5 : Int} {f6 : Int} {f7 : Int} {f8 : List Bool} {f9 : List Int} {f10 : List Int} (h : IsS59 w0 W g f0 f1 f2 f3 f4 f5 f6 f7 f8 f9 f10) (x : Int) : IsS59 w0 (W.setCell ⟨g, 6, none⟩ (.int .i64 x)) g f0 f1 f2 f3 f4 f5 x f7 f8 f9 f10 := by
 obtain ⟨A3, c3, A8, c8, A9, c9, A10, c10, hb, hg, hr3, hr8, hr9, hr10⟩ := h
 exact ⟨A3, c3, A8, c8, A9, c9, A10, c10, by simpa using blk_set hb 6 (.int .i64 x), hg, hr3, hr8, hr9, hr10⟩
theorem cellS59_7 {W : World} {g : Nat} {A3 : Option Addr} {c3 : Nat} {A8 : Option Addr} {c8 : Nat} {A9 : Option Addr} {c9 : Nat} {A10 : Option Addr} {c10 : Nat} {f0 : Int} {f1 : Int} {f2 : Int} {f3 : List (S115)} {f4 : Int} {f5 : Int} {f6 : Int} {f7 : Int} {f8 : List Bool} {f9 : List Int} {f10 : List Int} (h : W.heap[g]? = some (.cells #[.int .i64 f0, .int .i64 f1, .int .i64 f2, .slice A3 f3.length c3, .int .i64 f4, .int .i64 f5, .int .i64 f6, .int .i64 f7, .slice A8 f8.length c8, .slice A9 f9.length c9, .slice A10 f10.length c10] 59 (0, 0))) : W.cell? ⟨g, 7, none⟩ = some (.int .i64 f7) := (blk_cell h 7).trans rfl
theorem IsS59.set_7 {w0 W : World} {g : Nat} {f0 : Int} {f1 : Int} {f2 : Int} {f3 : List (S115)} {f4 : Int} {f5 : Int} {f6 : Int} {f7 : Int} {f8 : List Bool} {f9 : List Int} {f10 : List Int} (h : IsS59 w0 W g f0 f1 f2 f3 f4 f5 f6 f7 f8 f9 f10) (x : Int) : IsS59 w0 (W.setCell ⟨g, 7, none⟩ (.int .i64 x)) g f0 f1 f2 f3 f4 f5 f6 x f8 f9 f10 := by
 obtain ⟨A3, c3, A8, c8, A9, c9, A10, c10, hb, hg, hr3, hr8, hr9, hr10⟩ := h
 exact ⟨A3, c3, A8, c8, A9, c9, A10, c10, by simpa using blk_set hb 7 (.int .i64 x), hg, hr3, hr8, hr9, hr10⟩
theorem cellS59_8 {W : World} {g : Nat} {A3 : Option Addr} {c3 : Nat} {A8 : Option Addr} {c8 : Nat} {A9 : Option Addr} {c9 : Nat} {A10 : Option Addr} {c10 : Nat} {f0 : Int} {f1 : Int} {f2 : Int} {f3 : List (S115)} {f4 : Int} {f5 : Int} {f6 : Int} {f7 : Int} {f8 : List Bool} {f9 : List Int} {f10 : List Int} (h : W.heap[g]? = some (.cells #[.int .i64 f0, .int .i64 f1, .int .i64 f2, .slice A3 f3.length c3, .int .i64 f4, .int .i64 f5, .int .i64 f6, .int .i64 f7, .slice A8 f8.length c8, .slice A9 f9.length c9, .slice A10 f10.length c10] 59 (0, 0))) : W.cell? ⟨g, 8, none⟩ = some (.slice A8 f8.length c8) := (blk_cell h 8).trans rfl
theorem cellS59_9 {W : World} {g : Nat} {A3 : Option Addr} {c3 : Nat} {A8 : Option Addr} {c8 : Nat} {A9 : Option Addr} {c9 : Nat} {A10 : Option Addr} {c10 : Nat} {f0 : Int} {f1 : Int} {f2 : Int} {f3 : List (S115)} {f4 : Int} {f5 : Int} {f6 : Int} {f7 : Int} {f8 : List Bool} {f9 : List Int} {f10 : List Int} (h : W.heap[g]? = some (.cells #[.int .i64 f0, .int .i64 f1, .int .i64 f2, .slice A3 f3.length c3, .int .i64 f4, .int .i64 f5, .int .i64 f6, .int .i64 f7, .slice A8 f8.length c8, .slice A9 f9.length c9, .slice A10 f10.length c10] 59 (0, 0))) : W.cell? ⟨g, 9, none⟩ = some (.slice A9 f9.length c9) := (blk_cell h 9).trans rfl
theorem cellS59_10 {W : World} {g : Nat} {A3 : Option Addr} {c3 : Nat} {A8 : Option Addr} {c8 : Nat} {A9 : Option Addr} {c9 : Nat} {A10 : Option Addr} {c10 : Nat} {f0 : Int} {f1 : Int} {f2 : Int} {f3 : List (S115)} {f4 : Int} {f5 : Int} {f6 : Int} {f7 : Int} {f8 : List Bool} {f9 : List Int} {f10 : List Int} (h : W.heap[g]? = some (.cells #[.int .i64 f0, .int .i64 f1, .int .i64 f2, .slice A3 f3.length c3, .int .i64 f4, .int .i64 f5, .int .i64 f6, .int .i64 f7, .slice A8 f8.length c8, .slice A9 f9.length c9, .slice A10 f10.length c10] 59 (0, 0))) : W.cell? ⟨g, 10, none⟩ = some (.slice A10 f10.length c10) := (blk_cell h 10).trans rfl
theorem IsS59.new (w0 W : World) (A3 : Option Addr) (c3 : Nat) (A8 : Option Addr) (c8 : Nat) (A9 : Option Addr) (c9 : Nat) (A10 : Option Addr) (c10 : Nat) (f0 : Int) (f1 : Int) (f2 : Int) (f3 : List (S115)) (f4 : Int) (f5 : Int) (f6 : Int) (f7 : Int) (f8 : List Bool) (f9 : List Int) (f10 : List Int) (hB : Below w0.heap.size w0 W) (hr3 : Kd.C k115 w0 A3 f3.length f3) (hr8 : Kd.C Kd.bool w0 A8 f8.length f8) (hr9 : Kd.C (Kd.int .i64) w0 A9 f9.length f9) (hr10 : Kd.C (Kd.int .i64) w0 A10 f10.length f10) : IsS59 w0 (W.alloc (.cells #[.int .i64 f0, .int .i64 f1, .int .i64 f2, .slice A3 f3.length c3, .int .i64 f4, .int .i64 f5, .int .i64 f6, .int .i64 f7, .slice A8 f8.length c8, .slice A9 f9.length c9, .slice A10 f10.length c10] 59)) W.heap.size f0 f1 f2 f3 f4 f5 f6 f7 f8 f9 f10 := ⟨A3, c3, A8, c8, A9, c9, A10, c10, by simpa using heap_alloc_new W _, hB.size, hr3, hr8, hr9, hr10⟩

/-! ### spec_l4termAt: function 108 -/
def spec_l4termAt.f (s0_0 : Int) (s0_1 : Int) (s0_2 : Int) (s0_3 : List (S115)) (s0_4 : Int) (s0_5 : Int) (s0_6 : Int) (s0_7 : Int) (s0_8 : List Bool) (s0_9 : List Int) (s0_10 : List Int) (a1 : Int) : Option (Int × Int × Int × Int × Int × Int × Int × Int) := if a1 < 1 then (some (0, s0_0, s0_1, s0_2, s0_4, s0_5, s0_6, s0_7)) else (if a1 > (s0_3.length : Int) then (some (0, s0_0, s0_1, s0_2, s0_4, s0_5, s0_6, s0_7)) else (if 0 ≤ (wrap64 (a1 - 1)) then (if (wrap64 (a1 - 1)) < (s0_3.length : Int) then (some ((rd_T115 s0_3 (wrap64 (a1 - 1))).f0, s0_0, s0_1, s0_2, s0_4, s0_5, s0_6, s0_7)) else (none)) else (none)))
set_option maxHeartbeats 8000000 in
set_option maxRecDepth 100000 in
theorem spec_l4termAt.calls (g : Nat) (s0_0 : Int) (s0_1 : Int) (s0_2 : Int) (s0_3 : List (S115)) (s0_4 : Int) (s0_5 : Int) (s0_6 : Int) (s0_7 : Int) (s0_8 : List Bool) (s0_9 : List Int) (s0_10 : List Int) (a1 : Int) (r1 : Int) (r2 : Int) (r3 : Int) (r4 : Int) (r5 : Int) (r6 : Int) (r7 : Int) (r8 : Int) (w0 w : World) (hI : IsS59 w0 w g s0_0 s0_1 s0_2 s0_3 s0_4 s0_5 s0_6 s0_7 s0_8 s0_9 s0_10) (hB : Below w0.heap.size w0 w) (h : spec_l4termAt.f s0_0 s0_1 s0_2 s0_3 s0_4 s0_5 s0_6 s0_7 s0_8 s0_9 s0_10 a1 = some (r1, r2, r3, r4, r5, r6, r7, r8)) :
  Calls Try.prog 108 #[.pointer (some ⟨g, 0, none⟩), .int .i64 a1] w fun e w' => e = .returned (.int .i64 r1) ∧ IsS59 w0 w' g r2 r3 r4 s0_3 r5 r6 r7 r8 s0_8 s0_9 s0_10 ∧ Below w0.heap.size w0 w' ∧ KeepBut w w' g none := by
 have HI0 := Aside0.mk hI
 have HK := Aside0.mk (KeepBut.refl w g none)
 have HL := Aside0.mk hB.size
 clear hI
 have HW0 := Aside0.mk hB.size
 have HB := Aside0.mk hB
 clear hB
 have H : (if a1 < 1 then (some (0, s0_0, s0_1, s0_2, s0_4, s0_5, s0_6, s0_7)) else (if a1 > (s0_3.length : Int) then (some (0, s0_0, s0_1, s0_2, s0_4, s0_5, s0_6, s0_7)) else (if 0 ≤ (wrap64 (a1 - 1)) then (if (wrap64 (a1 - 1)) < (s0_3.length : Int) then (some ((rd_T115 s0_3 (wrap64 (a1 - 1))).f0, s0_0, s0_1, s0_2, s0_4, s0_5, s0_6, s0_7)) else (none)) else (none)))) = some (r1, r2, r3, r4, r5, r6, r7, r8) := h
 clear h
 by_cases c3 : a1 < 1
 ·rw [if_pos c3] at H
  have c3b0 : decide (a1 < 1) = true := decide_eq_true c3
  clear c3
  simp only [Option.some.injEq, Prod.mk.injEq] at H
  obtain ⟨rfl, rfl, rfl, rfl, rfl, rfl, rfl, rfl⟩ := H
  go_enter Try.func108, Try.ntmps108
  go_wp2
  go_ret
  exact ⟨by first | rfl | (simp [errW_none, errW_some] <;> rfl) | (simp [*, errW_none, errW_some] <;> rfl), by repeat (first | (with_reducible first | exact HI0.out | apply IsS59.alloc | apply IsS59.drewN | apply IsS59.drew | apply IsS59.set_0 | apply IsS59.set_1 | apply IsS59.set_2 | apply IsS59.set_4 | apply IsS59.set_5 | apply IsS59.set_6 | apply IsS59.set_7) | exact HI0.out), by repeat (first | (with_reducible first | exact HB.out | apply below_alloc | apply pw_below_drewN | apply below_drew1 | refine below_set ?_ (IsS59.ge HI0.out)) | exact HB.out), by repeat (first | (with_reducible first | exact HK.out | apply KeepBut.set_ | apply keep_drewN | apply keep_drew | apply keep_alloc) | exact HK.out)⟩
 ·rw [if_neg c3] at H
  have c3b0 : decide (a1 < 1) = false := decide_eq_false c3
  clear c3
  by_cases c4 : a1 > (s0_3.length : Int)
  ·rw [if_pos c4] at H
   have c4b0 : decide ((s0_3.length : Int) < a1) = true := decide_eq_true c4
   clear c4
   simp only [Option.some.injEq, Prod.mk.injEq] at H
   obtain ⟨rfl, rfl, rfl, rfl, rfl, rfl, rfl, rfl⟩ := H
   obtain ⟨ASz5_3, cSz5_3, ASz5_8, cSz5_8, ASz5_9, cSz5_9, ASz5_10, cSz5_10, HGz5, hgz5, HSz5_3, HSz5_8, HSz5_9, HSz5_10⟩ := HI0.out
   have hcz5_0 := cellS59_0 HGz5
   have hcz5_1 := cellS59_1 HGz5
   have hcz5_2 := cellS59_2 HGz5
   have hcz5_3 := cellS59_3 HGz5
   have hcz5_4 := cellS59_4 HGz5
   have hcz5_5 := cellS59_5 HGz5
   have hcz5_6 := cellS59_6 HGz5
   have hcz5_7 := cellS59_7 HGz5
   have hcz5_8 := cellS59_8 HGz5
   have hcz5_9 := cellS59_9 HGz5
   have hcz5_10 := cellS59_10 HGz5
   have hfz5_0 := blk_frozen HGz5 0
   have hfz5_1 := blk_frozen HGz5 1
   have hfz5_2 := blk_frozen HGz5 2
   have hfz5_4 := blk_frozen HGz5 4
   have hfz5_5 := blk_frozen HGz5 5
   have hfz5_6 := blk_frozen HGz5 6
   have hfz5_7 := blk_frozen HGz5 7
   clear HGz5 hgz5
   go_enter Try.func108, Try.ntmps108
   go_wp2
   go_ret
   exact ⟨by first | rfl | (simp [errW_none, errW_some] <;> rfl) | (simp [*, errW_none, errW_some] <;> rfl), by repeat (first | (with_reducible first | exact HI0.out | apply IsS59.alloc | apply IsS59.drewN | apply IsS59.drew | apply IsS59.set_0 | apply IsS59.set_1 | apply IsS59.set_2 | apply IsS59.set_4 | apply IsS59.set_5 | apply IsS59.set_6 | apply IsS59.set_7) | exact HI0.out), by repeat (first | (with_reducible first | exact HB.out | apply below_alloc | apply pw_below_drewN | apply below_drew1 | refine below_set ?_ (IsS59.ge HI0.out)) | exact HB.out), by repeat (first | (with_reducible first | exact HK.out | apply KeepBut.set_ | apply keep_drewN | apply keep_drew | apply keep_alloc) | exact HK.out)⟩
  ·rw [if_neg c4] at H
   have c4b0 : decide ((s0_3.length : Int) < a1) = false := decide_eq_false c4
   clear c4
   obtain ⟨ji6, hji6⟩ : ∃ j_ : Int, (wrap64 (a1 - 1)) = j_ := ⟨_, rfl⟩
   replace H : (if 0 ≤ (ji6) then (if (ji6) < (s0_3.length : Int) then (some ((rd_T115 s0_3 (ji6)).f0, s0_0, s0_1, s0_2, s0_4, s0_5, s0_6, s0_7)) else (none)) else (none)) = some (r1, r2, r3, r4, r5, r6, r7, r8) := by first | (rw [hji6] at H; exact H) | (simp only [hji6] at H ⊢; exact H)
   have hji6w : (IntKind.i64.wrap (a1 - 1)) = ji6 := (i64_w _).trans hji6
   by_cases c7 : 0 ≤ (ji6)
   ·rw [if_pos c7] at H
    have c7b0 : decide (0 ≤ (ji6)) = true := decide_eq_true c7
    clear c7
    by_cases c8 : (ji6) < (s0_3.length : Int)
    ·rw [if_pos c8] at H
     have c8b0 : decide ((ji6) < (s0_3.length : Int)) = true := decide_eq_true c8
     clear c8
     simp only [Option.some.injEq, Prod.mk.injEq] at H
     obtain ⟨rfl, rfl, rfl, rfl, rfl, rfl, rfl, rfl⟩ := H
     obtain ⟨ASz9_3, cSz9_3, ASz9_8, cSz9_8, ASz9_9, cSz9_9, ASz9_10, cSz9_10, HGz9, hgz9, HSz9_3, HSz9_8, HSz9_9, HSz9_10⟩ := HI0.out
     have hcz9_0 := cellS59_0 HGz9
     have hcz9_1 := cellS59_1 HGz9
     have hcz9_2 := cellS59_2 HGz9
     have hcz9_3 := cellS59_3 HGz9
     have hcz9_4 := cellS59_4 HGz9
     have hcz9_5 := cellS59_5 HGz9
     have hcz9_6 := cellS59_6 HGz9
     have hcz9_7 := cellS59_7 HGz9
     have hcz9_8 := cellS59_8 HGz9
     have hcz9_9 := cellS59_9 HGz9
     have hcz9_10 := cellS59_10 HGz9
     have hfz9_0 := blk_frozen HGz9 0
     have hfz9_1 := blk_frozen HGz9 1
     have hfz9_2 := blk_frozen HGz9 2
     have hfz9_4 := blk_frozen HGz9 4
     have hfz9_5 := blk_frozen HGz9 5
     have hfz9_6 := blk_frozen HGz9 6
     have hfz9_7 := blk_frozen HGz9 7
     clear HGz9 hgz9
     have p381 : 0 ≤ ((ji6) : Int) := od
     have q381 : (ji6) < (s0_3.length : Int) := od
     obtain ⟨ad381, A381_4, c381_4, A381_5, c381_5, e381, hx381_0, hx381_1, hx381_2, hx381_3, hx381_4, hx381_5, hx381_6, hl381_4, hi381_4, hl381_5, hi381_5⟩ := at_T115 HSz9_3 (ji6) p381 q381
     cases e381
     replace hx381_0 := pw_cell_below HB.out hx381_0
     replace hx381_1 := pw_cell_below HB.out hx381_1
     replace hx381_2 := pw_cell_below HB.out hx381_2
     replace hx381_3 := pw_cell_below HB.out hx381_3
     replace hx381_4 := pw_cell_below HB.out hx381_4
     replace hx381_5 := pw_cell_below HB.out hx381_5
     replace hx381_6 := pw_cell_below HB.out hx381_6
     have HR381_4 := Aside0.mk hi381_4
     have HC381_4 := Aside0.mk hl381_4
     clear hi381_4 hl381_4
     have HR381_5 := Aside0.mk hi381_5
     have HC381_5 := Aside0.mk hl381_5
     clear hi381_5 hl381_5
     replace p381 := eq_true p381
     replace q381 := eq_true q381
     go_enter Try.func108, Try.ntmps108
     go_wp2
     go_ret
     exact ⟨by first | rfl | (simp [errW_none, errW_some] <;> rfl) | (simp only [← hji6]; first | rfl | (simp [errW_none, errW_some] <;> rfl)) | (simp [*, errW_none, errW_some] <;> rfl), by repeat (first | (with_reducible first | exact HI0.out | apply IsS59.alloc | apply IsS59.drewN | apply IsS59.drew | apply IsS59.set_0 | apply IsS59.set_1 | apply IsS59.set_2 | apply IsS59.set_4 | apply IsS59.set_5 | apply IsS59.set_6 | apply IsS59.set_7) | exact HI0.out), by repeat (first | (with_reducible first | exact HB.out | apply below_alloc | apply pw_below_drewN | apply below_drew1 | refine below_set ?_ (IsS59.ge HI0.out)) | exact HB.out), by repeat (first | (with_reducible first | exact HK.out | apply KeepBut.set_ | apply keep_drewN | apply keep_drew | apply keep_alloc) | exact HK.out)⟩
    ·rw [if_neg c8] at H
     exact absurd H (by simp)
   ·rw [if_neg c7] at H
    exact absurd H (by simp)

/-! ### spec_TermAt: function 55 -/
def spec_TermAt.f (k : Nat) (a0_0 : Int) (a0_1 : Int) (a0_2 : Int) (l0_3 : List (S115)) (a0_4 : Int) (a0_5 : Int) (a0_6 : Int) (a0_7 : Int) (l0_8 : List Bool) (l0_9 : List Int) (l0_10 : List Int) (a1 : Int) (a2 : Int) : Option Int := (spec_NodeOk.f k a0_0 a0_1 a0_2 l0_3 a0_4 a0_5 a0_6 a0_7 l0_8 l0_9 l0_10 a1).bind fun t => if t = true then ((spec_l4termAt.f a0_0 a0_1 a0_2 l0_3 a0_4 a0_5 a0_6 a0_7 l0_8 l0_9 l0_10 a2).bind fun q => some q.1) else some 0
set_option maxHeartbeats 8000000 in
set_option maxRecDepth 100000 in
theorem spec_TermAt.calls (k : Nat) (a0_0 : Int) (a0_1 : Int) (a0_2 : Int) (A0_3 : Option Addr) (c0_3 : Nat) (l0_3 : List (S115)) (a0_4 : Int) (a0_5 : Int) (a0_6 : Int) (a0_7 : Int) (A0_8 : Option Addr) (c0_8 : Nat) (l0_8 : List Bool) (A0_9 : Option Addr) (c0_9 : Nat) (l0_9 : List Int) (A0_10 : Option Addr) (c0_10 : Nat) (l0_10 : List Int) (a1 : Int) (a2 : Int) (r : Int) (w : World) (hr0_3 : Kd.C k115 w A0_3 l0_3.length l0_3) (hc0_3 : l0_3.length ≤ c0_3) (hr0_8 : Kd.C Kd.bool w A0_8 l0_8.length l0_8) (hc0_8 : l0_8.length ≤ c0_8) (hr0_9 : Kd.C (Kd.int .i64) w A0_9 l0_9.length l0_9) (hc0_9 : l0_9.length ≤ c0_9) (hr0_10 : Kd.C (Kd.int .i64) w A0_10 l0_10.length l0_10) (hc0_10 : l0_10.length ≤ c0_10) (h : spec_TermAt.f k a0_0 a0_1 a0_2 l0_3 a0_4 a0_5 a0_6 a0_7 l0_8 l0_9 l0_10 a1 a2 = some r) :
  Calls Try.prog 55 #[.agg #[.int .i64 a0_0, .int .i64 a0_1, .int .i64 a0_2, .slice A0_3 l0_3.length c0_3, .int .i64 a0_4, .int .i64 a0_5, .int .i64 a0_6, .int .i64 a0_7, .slice A0_8 l0_8.length c0_8, .slice A0_9 l0_9.length c0_9, .slice A0_10 l0_10.length c0_10], .int .i64 a1, .int .i64 a2] w fun e w' => e = .returned (.int .i64 r) ∧ Below w.heap.size w w' := by
 have hu := Try.underlying59
 have HR0_3 := Aside0.mk hr0_3
 have HC0_3 := Aside0.mk hc0_3
 have HR0_8 := Aside0.mk hr0_8
 have HC0_8 := Aside0.mk hc0_8
 have HR0_9 := Aside0.mk hr0_9
 have HC0_9 := Aside0.mk hc0_9
 have HR0_10 := Aside0.mk hr0_10
 have HC0_10 := Aside0.mk hc0_10
 clear hr0_3 hc0_3 hr0_8 hc0_8 hr0_9 hc0_9 hr0_10 hc0_10
 have HB := Aside0.mk (Below.refl w.heap.size w)
 obtain ⟨t, A20, H⟩ := Option.bind_eq_some_iff.mp h
 clear h
 have A2 := Aside0.mk A20
 clear A20
 by_cases c : t = true
 ·subst c
  rw [if_pos rfl] at H
  obtain ⟨q, A30, H⟩ := Option.bind_eq_some_iff.mp H
  obtain rfl := Option.some.inj H
  clear H
  have A3 := Aside0.mk A30
  clear A30
  go_enter Try.func55, Try.ntmps55
  go_wp2_with (first | ((with_reducible refine gate_dst (N := 3) rfl ?_); refine bx_ 3 #[.int .i64 a0_0, .int .i64 a0_1, .int .i64 a0_2, .slice A0_3 l0_3.length c0_3, .int .i64 a0_4, .int .i64 a0_5, .int .i64 a0_6, .int .i64 a0_7, .slice A0_8 l0_8.length c0_8, .slice A0_9 l0_9.length c0_9, .slice A0_10 l0_10.length c0_10] 59 (h := ?_); intro gb1 hg w1 hbox hb; have BK1 := Aside0.mk (hbox); have GW1 := Aside0.mk ((by rw [hg]; exact (below_size bel) : w.heap.size ≤ gb1)); replace HB := Aside0.mk (below_step bel hb); clear hb hbox hg; have hcz0 : w1.cell? ⟨gb1, 0, none⟩ = some (.int .i64 a0_0) := (blk_cell BK1.out 0).trans rfl; have hcz1 : w1.cell? ⟨gb1, 1, none⟩ = some (.int .i64 a0_1) := (blk_cell BK1.out 1).trans rfl; have hcz2 : w1.cell? ⟨gb1, 2, none⟩ = some (.int .i64 a0_2) := (blk_cell BK1.out 2).trans rfl; have hcz3 : w1.cell? ⟨gb1, 3, none⟩ = some (.slice A0_3 l0_3.length c0_3) := (blk_cell BK1.out 3).trans rfl; have hcz4 : w1.cell? ⟨gb1, 4, none⟩ = some (.int .i64 a0_4) := (blk_cell BK1.out 4).trans rfl; have hcz5 : w1.cell? ⟨gb1, 5, none⟩ = some (.int .i64 a0_5) := (blk_cell BK1.out 5).trans rfl; have hcz6 : w1.cell? ⟨gb1, 6, none⟩ = some (.int .i64 a0_6) := (blk_cell BK1.out 6).trans rfl; have hcz7 : w1.cell? ⟨gb1, 7, none⟩ = some (.int .i64 a0_7) := (blk_cell BK1.out 7).trans rfl; have hcz8 : w1.cell? ⟨gb1, 8, none⟩ = some (.slice A0_8 l0_8.length c0_8) := (blk_cell BK1.out 8).trans rfl; have hcz9 : w1.cell? ⟨gb1, 9, none⟩ = some (.slice A0_9 l0_9.length c0_9) := (blk_cell BK1.out 9).trans rfl; have hcz10 : w1.cell? ⟨gb1, 10, none⟩ = some (.slice A0_10 l0_10.length c0_10) := (blk_cell BK1.out 10).trans rfl) | (go_at_call 52; (refine (spec_NodeOk.calls k a0_0 a0_1 a0_2 _ _ l0_3 a0_4 a0_5 a0_6 a0_7 _ _ l0_8 _ _ l0_9 _ _ l0_10 a1 _ _ ?s3_1 ?s3_2 ?s8_1 ?s8_2 ?s9_1 ?s9_2 ?s10_1 ?s10_2 A2.out).mono ?_); (case s3_1 => exact (Kd.C_below HR0_3.out HB.out)); (case s3_2 => exact HC0_3.out); (case s8_1 => exact (Kd.C_below HR0_8.out HB.out)); (case s8_2 => exact HC0_8.out); (case s9_1 => exact (Kd.C_below HR0_9.out HB.out)); (case s9_2 => exact HC0_9.out); (case s10_1 => exact (Kd.C_below HR0_10.out HB.out)); (case s10_2 => exact HC0_10.out); rintro e w2 ⟨rfl, hb⟩; replace BK1 := Aside0.mk (blb BK1 hb); replace HB := Aside0.mk (below_step bel hb); clear hb hcz0 hcz1 hcz2 hcz3 hcz4 hcz5 hcz6 hcz7 hcz8 hcz9 hcz10; have hcz0 : w2.cell? ⟨gb1, 0, none⟩ = some (.int .i64 a0_0) := (blk_cell BK1.out 0).trans rfl; have hcz1 : w2.cell? ⟨gb1, 1, none⟩ = some (.int .i64 a0_1) := (blk_cell BK1.out 1).trans rfl; have hcz2 : w2.cell? ⟨gb1, 2, none⟩ = some (.int .i64 a0_2) := (blk_cell BK1.out 2).trans rfl; have hcz3 : w2.cell? ⟨gb1, 3, none⟩ = some (.slice A0_3 l0_3.length c0_3) := (blk_cell BK1.out 3).trans rfl; have hcz4 : w2.cell? ⟨gb1, 4, none⟩ = some (.int .i64 a0_4) := (blk_cell BK1.out 4).trans rfl; have hcz5 : w2.cell? ⟨gb1, 5, none⟩ = some (.int .i64 a0_5) := (blk_cell BK1.out 5).trans rfl; have hcz6 : w2.cell? ⟨gb1, 6, none⟩ = some (.int .i64 a0_6) := (blk_cell BK1.out 6).trans rfl; have hcz7 : w2.cell? ⟨gb1, 7, none⟩ = some (.int .i64 a0_7) := (blk_cell BK1.out 7).trans rfl; have hcz8 : w2.cell? ⟨gb1, 8, none⟩ = some (.slice A0_8 l0_8.length c0_8) := (blk_cell BK1.out 8).trans rfl; have hcz9 : w2.cell? ⟨gb1, 9, none⟩ = some (.slice A0_9 l0_9.length c0_9) := (blk_cell BK1.out 9).trans rfl; have hcz10 : w2.cell? ⟨gb1, 10, none⟩ = some (.slice A0_10 l0_10.length c0_10) := (blk_cell BK1.out 10).trans rfl) | (go_at_call 108; (refine (spec_l4termAt.calls gb1 a0_0 a0_1 a0_2 l0_3 a0_4 a0_5 a0_6 a0_7 l0_8 l0_9 l0_10 a2 q.1 q.2.1 q.2.2.1 q.2.2.2.1 q.2.2.2.2.1 q.2.2.2.2.2.1 q.2.2.2.2.2.2.1 q.2.2.2.2.2.2.2 w _ ?u1 ?u2 A3.out).mono ?_); (case u1 => exact ⟨A0_3, c0_3, A0_8, c0_8, A0_9, c0_9, A0_10, c0_10, BK1.out, GW1.out, HR0_3.out, HR0_8.out, HR0_9.out, HR0_10.out⟩); (case u2 => exact HB.out); rintro e w3 ⟨rfl, hI, hb, -⟩; replace HB := Aside0.mk hb; clear hb hI))
  go_ret
  exact ⟨rfl, HB.out⟩
 ·have c := eq_false_of_ne_true c
  subst c
  rw [if_neg (by simp)] at H
  obtain rfl := Option.some.inj H
  clear H
  go_enter Try.func55, Try.ntmps55
  go_wp2_with (first | ((with_reducible refine gate_dst (N := 3) rfl ?_); refine bx_ 3 #[.int .i64 a0_0, .int .i64 a0_1, .int .i64 a0_2, .slice A0_3 l0_3.length c0_3, .int .i64 a0_4, .int .i64 a0_5, .int .i64 a0_6, .int .i64 a0_7, .slice A0_8 l0_8.length c0_8, .slice A0_9 l0_9.length c0_9, .slice A0_10 l0_10.length c0_10] 59 (h := ?_); intro gb1 hg w1 hbox hb; have BK1 := Aside0.mk (hbox); have GW1 := Aside0.mk ((by rw [hg]; exact (below_size bel) : w.heap.size ≤ gb1)); replace HB := Aside0.mk (below_step bel hb); clear hb hbox hg; have hcz0 : w1.cell? ⟨gb1, 0, none⟩ = some (.int .i64 a0_0) := (blk_cell BK1.out 0).trans rfl; have hcz1 : w1.cell? ⟨gb1, 1, none⟩ = some (.int .i64 a0_1) := (blk_cell BK1.out 1).trans rfl; have hcz2 : w1.cell? ⟨gb1, 2, none⟩ = some (.int .i64 a0_2) := (blk_cell BK1.out 2).trans rfl; have hcz3 : w1.cell? ⟨gb1, 3, none⟩ = some (.slice A0_3 l0_3.length c0_3) := (blk_cell BK1.out 3).trans rfl; have hcz4 : w1.cell? ⟨gb1, 4, none⟩ = some (.int .i64 a0_4) := (blk_cell BK1.out 4).trans rfl; have hcz5 : w1.cell? ⟨gb1, 5, none⟩ = some (.int .i64 a0_5) := (blk_cell BK1.out 5).trans rfl; have hcz6 : w1.cell? ⟨gb1, 6, none⟩ = some (.int .i64 a0_6) := (blk_cell BK1.out 6).trans rfl; have hcz7 : w1.cell? ⟨gb1, 7, none⟩ = some (.int .i64 a0_7) := (blk_cell BK1.out 7).trans rfl; have hcz8 : w1.cell? ⟨gb1, 8, none⟩ = some (.slice A0_8 l0_8.length c0_8) := (blk_cell BK1.out 8).trans rfl; have hcz9 : w1.cell? ⟨gb1, 9, none⟩ = some (.slice A0_9 l0_9.length c0_9) := (blk_cell BK1.out 9).trans rfl; have hcz10 : w1.cell? ⟨gb1, 10, none⟩ = some (.slice A0_10 l0_10.length c0_10) := (blk_cell BK1.out 10).trans rfl) | (go_at_call 52; (refine (spec_NodeOk.calls k a0_0 a0_1 a0_2 _ _ l0_3 a0_4 a0_5 a0_6 a0_7 _ _ l0_8 _ _ l0_9 _ _ l0_10 a1 _ _ ?s3_1 ?s3_2 ?s8_1 ?s8_2 ?s9_1 ?s9_2 ?s10_1 ?s10_2 A2.out).mono ?_); (case s3_1 => exact (Kd.C_below HR0_3.out HB.out)); (case s3_2 => exact HC0_3.out); (case s8_1 => exact (Kd.C_below HR0_8.out HB.out)); (case s8_2 => exact HC0_8.out); (case s9_1 => exact (Kd.C_below HR0_9.out HB.out)); (case s9_2 => exact HC0_9.out); (case s10_1 => exact (Kd.C_below HR0_10.out HB.out)); (case s10_2 => exact HC0_10.out); rintro e w2 ⟨rfl, hb⟩; replace BK1 := Aside0.mk (blb BK1 hb); replace HB := Aside0.mk (below_step bel hb); clear hb hcz0 hcz1 hcz2 hcz3 hcz4 hcz5 hcz6 hcz7 hcz8 hcz9 hcz10; have hcz0 : w2.cell? ⟨gb1, 0, none⟩ = some (.int .i64 a0_0) := (blk_cell BK1.out 0).trans rfl; have hcz1 : w2.cell? ⟨gb1, 1, none⟩ = some (.int .i64 a0_1) := (blk_cell BK1.out 1).trans rfl; have hcz2 : w2.cell? ⟨gb1, 2, none⟩ = some (.int .i64 a0_2) := (blk_cell BK1.out 2).trans rfl; have hcz3 : w2.cell? ⟨gb1, 3, none⟩ = some (.slice A0_3 l0_3.length c0_3) := (blk_cell BK1.out 3).trans rfl; have hcz4 : w2.cell? ⟨gb1, 4, none⟩ = some (.int .i64 a0_4) := (blk_cell BK1.out 4).trans rfl; have hcz5 : w2.cell? ⟨gb1, 5, none⟩ = some (.int .i64 a0_5) := (blk_cell BK1.out 5).trans rfl; have hcz6 : w2.cell? ⟨gb1, 6, none⟩ = some (.int .i64 a0_6) := (blk_cell BK1.out 6).trans rfl; have hcz7 : w2.cell? ⟨gb1, 7, none⟩ = some (.int .i64 a0_7) := (blk_cell BK1.out 7).trans rfl; have hcz8 : w2.cell? ⟨gb1, 8, none⟩ = some (.slice A0_8 l0_8.length c0_8) := (blk_cell BK1.out 8).trans rfl; have hcz9 : w2.cell? ⟨gb1, 9, none⟩ = some (.slice A0_9 l0_9.length c0_9) := (blk_cell BK1.out 9).trans rfl; have hcz10 : w2.cell? ⟨gb1, 10, none⟩ = some (.slice A0_10 l0_10.length c0_10) := (blk_cell BK1.out 10).trans rfl))
  go_ret
  exact ⟨rfl, HB.out⟩

/-! ### impl_Node_termAt: function 109 -/
def impl_Node_termAt.f (a0_0 : Int) (a0_1 : Int) (a0_2 : Int) (l0_3 : List (S115)) (a0_4 : Int) (a0_5 : Int) (a0_6 : Int) (a0_7 : Int) (l0_8 : List Bool) (l0_9 : List Int) (l0_10 : List Int) (a1 : Int) : Option (Int) := (impl_within.f a1 1 (l0_3.length : Int)).bind fun t383 => (if t383 = true then (if 0 ≤ (wrap64 (a1 - 1)) then (if (wrap64 (a1 - 1)) < (l0_3.length : Int) then (some ((rd_T115 l0_3 (wrap64 (a1 - 1))).f0)) else (none)) else (none)) else (some 0))
set_option maxHeartbeats 8000000 in
set_option maxRecDepth 100000 in
theorem impl_Node_termAt.calls (a0_0 : Int) (a0_1 : Int) (a0_2 : Int) (A0_3 : Option Addr) (c0_3 : Nat) (l0_3 : List (S115)) (a0_4 : Int) (a0_5 : Int) (a0_6 : Int) (a0_7 : Int) (A0_8 : Option Addr) (c0_8 : Nat) (l0_8 : List Bool) (A0_9 : Option Addr) (c0_9 : Nat) (l0_9 : List Int) (A0_10 : Option Addr) (c0_10 : Nat) (l0_10 : List Int) (a1 : Int) (r : Int) (w : World) (hr0_3 : Kd.C k115 w A0_3 l0_3.length l0_3) (hc0_3 : l0_3.length ≤ c0_3) (hr0_8 : Kd.C Kd.bool w A0_8 l0_8.length l0_8) (hc0_8 : l0_8.length ≤ c0_8) (hr0_9 : Kd.C (Kd.int .i64) w A0_9 l0_9.length l0_9) (hc0_9 : l0_9.length ≤ c0_9) (hr0_10 : Kd.C (Kd.int .i64) w A0_10 l0_10.length l0_10) (hc0_10 : l0_10.length ≤ c0_10) (h : impl_Node_termAt.f a0_0 a0_1 a0_2 l0_3 a0_4 a0_5 a0_6 a0_7 l0_8 l0_9 l0_10 a1 = some r) :
  Calls Try.prog 109 #[.agg #[.int .i64 a0_0, .int .i64 a0_1, .int .i64 a0_2, .slice A0_3 l0_3.length c0_3, .int .i64 a0_4, .int .i64 a0_5, .int .i64 a0_6, .int .i64 a0_7, .slice A0_8 l0_8.length c0_8, .slice A0_9 l0_9.length c0_9, .slice A0_10 l0_10.length c0_10], .int .i64 a1] w fun e w' => e = .returned (.int .i64 r) ∧ Below w.heap.size w w' := by
 have hu59 := Try.underlying59
 have HR0_3 := Aside0.mk hr0_3
 have HC0_3 := Aside0.mk hc0_3
 clear hr0_3 hc0_3
 have HR0_8 := Aside0.mk hr0_8
 have HC0_8 := Aside0.mk hc0_8
 clear hr0_8 hc0_8
 have HR0_9 := Aside0.mk hr0_9
 have HC0_9 := Aside0.mk hc0_9
 clear hr0_9 hc0_9
 have HR0_10 := Aside0.mk hr0_10
 have HC0_10 := Aside0.mk hc0_10
 clear hr0_10 hc0_10
 have HB := Aside0.mk (Below.refl w.heap.size w)
 have H : ((impl_within.f a1 1 (l0_3.length : Int)).bind fun t383 => (if t383 = true then (if 0 ≤ (wrap64 (a1 - 1)) then (if (wrap64 (a1 - 1)) < (l0_3.length : Int) then (some ((rd_T115 l0_3 (wrap64 (a1 - 1))).f0)) else (none)) else (none)) else (some 0))) = some r := h
 clear h
 replace H := Option.bind_eq_some_iff.mp H
 obtain ⟨t383, A30, H⟩ := H
 replace H : (if t383 = true then (if 0 ≤ (wrap64 (a1 - 1)) then (if (wrap64 (a1 - 1)) < (l0_3.length : Int) then (some ((rd_T115 l0_3 (wrap64 (a1 - 1))).f0)) else (none)) else (none)) else (some 0)) = some r := H
 have A3 := Aside0.mk A30
 clear A30
 by_cases c4 : t383 = true
 ·subst c4
  have H1 : (if 0 ≤ (wrap64 (a1 - 1)) then (if (wrap64 (a1 - 1)) < (l0_3.length : Int) then (some ((rd_T115 l0_3 (wrap64 (a1 - 1))).f0)) else (none)) else (none)) = some r := by rw [if_pos rfl] at H; exact H
  clear H
  have H := H1
  clear H1
  obtain ⟨ji5, hji5⟩ : ∃ j_ : Int, (wrap64 (a1 - 1)) = j_ := ⟨_, rfl⟩
  replace H : (if 0 ≤ (ji5) then (if (ji5) < (l0_3.length : Int) then (some ((rd_T115 l0_3 (ji5)).f0)) else (none)) else (none)) = some r := by first | (rw [hji5] at H; exact H) | (simp only [hji5] at H ⊢; exact H)
  (try rw [hji5] at A3)
  have hji5w : (IntKind.i64.wrap (a1 - 1)) = ji5 := (i64_w _).trans hji5
  by_cases c6 : 0 ≤ (ji5)
  ·rw [if_pos c6] at H
   have c6b0 : decide (0 ≤ (ji5)) = true := decide_eq_true c6
   clear c6
   by_cases c7 : (ji5) < (l0_3.length : Int)
   ·rw [if_pos c7] at H
    have c7b0 : decide ((ji5) < (l0_3.length : Int)) = true := decide_eq_true c7
    clear c7
    obtain rfl := Option.some.inj H
    go_enter Try.func109, Try.ntmps109
    go_wp2_with (first | ((with_reducible refine gate_dst (N := 2) rfl ?_); refine bx_ 2 #[.int .i64 a0_0, .int .i64 a0_1, .int .i64 a0_2, .slice A0_3 l0_3.length c0_3, .int .i64 a0_4, .int .i64 a0_5, .int .i64 a0_6, .int .i64 a0_7, .slice A0_8 l0_8.length c0_8, .slice A0_9 l0_9.length c0_9, .slice A0_10 l0_10.length c0_10] 59 (h := ?_); intro gb382 hg w8 hbox hb; have BK382 := Aside0.mk (hbox); have GW382 := Aside0.mk ((by rw [hg]; exact (below_size bel) : w.heap.size ≤ gb382)); have GE382 := Aside0.mk ((by rw [hg]; exact (below_size bel) : w.heap.size ≤ gb382)); replace HB := Aside0.mk (below_step bel hb); clear hb hbox hg; obtain ⟨hcz9_0, hcz9_1, hcz9_2, hcz9_3, hcz9_4, hcz9_5, hcz9_6, hcz9_7, hcz9_8, hcz9_9, hcz9_10, -⟩ := cells_11 BK382.out trivial; obtain ⟨hfz9_0, hfz9_1, hfz9_2, hfz9_3, hfz9_4, hfz9_5, hfz9_6, hfz9_7, hfz9_8, hfz9_9, hfz9_10, -⟩ := frz_11 BK382.out) | ((with_reducible refine gate_callee (f := 105) rfl ?_); refine gl_ (some 9) Try.func105 #[.int .i64 a1, .int .i64 1, .int .i64 (l0_3.length : Int)] (h := ?_); (with_reducible refine (impl_within.calls a1 1 (l0_3.length : Int) true _ A3.out).mono ?_); rintro e w' ⟨rfl, ⟨nd, rfl⟩⟩; refine ⟨_, rfl, ?_⟩; have p384 : 0 ≤ ((ji5) : Int) := od; have q384 : (ji5) < (l0_3.length : Int) := od; obtain ⟨ad384, A384_4, c384_4, A384_5, c384_5, e384, hx384_0, hx384_1, hx384_2, hx384_3, hx384_4, hx384_5, hx384_6, hl384_4, hi384_4, hl384_5, hi384_5⟩ := at_T115 HR0_3.out (ji5) p384 q384; cases e384; replace hx384_0 := hxb HB hx384_0; replace hx384_1 := hxb HB hx384_1; replace hx384_2 := hxb HB hx384_2; replace hx384_3 := hxb HB hx384_3; replace hx384_4 := hxb HB hx384_4; replace hx384_5 := hxb HB hx384_5; replace hx384_6 := hxb HB hx384_6; have HR384_4 := Aside0.mk hi384_4; have HC384_4 := Aside0.mk hl384_4; clear hi384_4 hl384_4; have HR384_5 := Aside0.mk hi384_5; have HC384_5 := Aside0.mk hl384_5; clear hi384_5 hl384_5; replace p384 := eq_true p384; replace q384 := eq_true q384))
    go_ret
    exact ⟨by first | rfl | (simp [errW_none, errW_some] <;> rfl) | (simp only [← hji5]; first | rfl | (simp [errW_none, errW_some] <;> rfl)) | (simp [*, errW_none, errW_some] <;> rfl), by repeat (first | (with_reducible first | exact HB.out | apply below_alloc | apply pw_below_drewN | apply below_drew1 | refine below_set ?_ GE382.out) | exact HB.out)⟩
   ·rw [if_neg c7] at H
    exact absurd H (by simp)
  ·rw [if_neg c6] at H
   exact absurd H (by simp)
 ·replace c4 := Bool.eq_false_iff.mpr c4
  subst c4
  have H1 : (some 0) = some r := by rw [if_neg (show ¬ (false = true) by decide)] at H; exact H
  clear H
  have H := H1
  clear H1
  obtain rfl := Option.some.inj H
  go_enter Try.func109, Try.ntmps109
  go_wp2_with (first | ((with_reducible refine gate_dst (N := 2) rfl ?_); refine bx_ 2 #[.int .i64 a0_0, .int .i64 a0_1, .int .i64 a0_2, .slice A0_3 l0_3.length c0_3, .int .i64 a0_4, .int .i64 a0_5, .int .i64 a0_6, .int .i64 a0_7, .slice A0_8 l0_8.length c0_8, .slice A0_9 l0_9.length c0_9, .slice A0_10 l0_10.length c0_10] 59 (h := ?_); intro gb382 hg w10 hbox hb; have BK382 := Aside0.mk (hbox); have GW382 := Aside0.mk ((by rw [hg]; exact (below_size bel) : w.heap.size ≤ gb382)); have GE382 := Aside0.mk ((by rw [hg]; exact (below_size bel) : w.heap.size ≤ gb382)); replace HB := Aside0.mk (below_step bel hb); clear hb hbox hg; obtain ⟨hcz11_0, hcz11_1, hcz11_2, hcz11_3, hcz11_4, hcz11_5, hcz11_6, hcz11_7, hcz11_8, hcz11_9, hcz11_10, -⟩ := cells_11 BK382.out trivial; obtain ⟨hfz11_0, hfz11_1, hfz11_2, hfz11_3, hfz11_4, hfz11_5, hfz11_6, hfz11_7, hfz11_8, hfz11_9, hfz11_10, -⟩ := frz_11 BK382.out) | ((with_reducible refine gate_callee (f := 105) rfl ?_); refine gl_ (some 9) Try.func105 #[.int .i64 a1, .int .i64 1, .int .i64 (l0_3.length : Int)] (h := ?_); (with_reducible refine (impl_within.calls a1 1 (l0_3.length : Int) false _ A3.out).mono ?_); rintro e w' ⟨rfl, ⟨nd, rfl⟩⟩; refine ⟨_, rfl, ?_⟩))
  go_ret
  exact ⟨by first | rfl | (simp [errW_none, errW_some] <;> rfl) | (simp [*, errW_none, errW_some] <;> rfl), by repeat (first | (with_reducible first | exact HB.out | apply below_alloc | apply pw_below_drewN | apply below_drew1 | refine below_set ?_ GE382.out) | exact HB.out)⟩

/-! ### impl_TermAt: function 56 -/
def impl_TermAt.f (k : Nat) (a0_0 : Int) (a0_1 : Int) (a0_2 : Int) (l0_3 : List (S115)) (a0_4 : Int) (a0_5 : Int) (a0_6 : Int) (a0_7 : Int) (l0_8 : List Bool) (l0_9 : List Int) (l0_10 : List Int) (a1 : Int) (a2 : Int) : Option (Int) := (impl_NodeOk.f k a0_0 a0_1 a0_2 l0_3 a0_4 a0_5 a0_6 a0_7 l0_8 l0_9 l0_10 a1).bind fun t386 => (if t386 = true then ((impl_Node_termAt.f a0_0 a0_1 a0_2 l0_3 a0_4 a0_5 a0_6 a0_7 l0_8 l0_9 l0_10 a2).bind fun t387 => (some t387)) else (some 0))
set_option maxHeartbeats 8000000 in
set_option maxRecDepth 100000 in
theorem impl_TermAt.calls (k : Nat) (a0_0 : Int) (a0_1 : Int) (a0_2 : Int) (A0_3 : Option Addr) (c0_3 : Nat) (l0_3 : List (S115)) (a0_4 : Int) (a0_5 : Int) (a0_6 : Int) (a0_7 : Int) (A0_8 : Option Addr) (c0_8 : Nat) (l0_8 : List Bool) (A0_9 : Option Addr) (c0_9 : Nat) (l0_9 : List Int) (A0_10 : Option Addr) (c0_10 : Nat) (l0_10 : List Int) (a1 : Int) (a2 : Int) (r : Int) (w : World) (hr0_3 : Kd.C k115 w A0_3 l0_3.length l0_3) (hc0_3 : l0_3.length ≤ c0_3) (hr0_8 : Kd.C Kd.bool w A0_8 l0_8.length l0_8) (hc0_8 : l0_8.length ≤ c0_8) (hr0_9 : Kd.C (Kd.int .i64) w A0_9 l0_9.length l0_9) (hc0_9 : l0_9.length ≤ c0_9) (hr0_10 : Kd.C (Kd.int .i64) w A0_10 l0_10.length l0_10) (hc0_10 : l0_10.length ≤ c0_10) (h : impl_TermAt.f k a0_0 a0_1 a0_2 l0_3 a0_4 a0_5 a0_6 a0_7 l0_8 l0_9 l0_10 a1 a2 = some r) :
  Calls Try.prog 56 #[.agg #[.int .i64 a0_0, .int .i64 a0_1, .int .i64 a0_2, .slice A0_3 l0_3.length c0_3, .int .i64 a0_4, .int .i64 a0_5, .int .i64 a0_6, .int .i64 a0_7, .slice A0_8 l0_8.length c0_8, .slice A0_9 l0_9.length c0_9, .slice A0_10 l0_10.length c0_10], .int .i64 a1, .int .i64 a2] w fun e w' => e = .returned (.int .i64 r) ∧ Below w.heap.size w w' := by
 have hu59 := Try.underlying59
 have HR0_3 := Aside0.mk hr0_3
 have HC0_3 := Aside0.mk hc0_3
 clear hr0_3 hc0_3
 have HR0_8 := Aside0.mk hr0_8
 have HC0_8 := Aside0.mk hc0_8
 clear hr0_8 hc0_8
 have HR0_9 := Aside0.mk hr0_9
 have HC0_9 := Aside0.mk hc0_9
 clear hr0_9 hc0_9
 have HR0_10 := Aside0.mk hr0_10
 have HC0_10 := Aside0.mk hc0_10
 clear hr0_10 hc0_10
 have HB := Aside0.mk (Below.refl w.heap.size w)
 have H : ((impl_NodeOk.f k a0_0 a0_1 a0_2 l0_3 a0_4 a0_5 a0_6 a0_7 l0_8 l0_9 l0_10 a1).bind fun t386 => (if t386 = true then ((impl_Node_termAt.f a0_0 a0_1 a0_2 l0_3 a0_4 a0_5 a0_6 a0_7 l0_8 l0_9 l0_10 a2).bind fun t387 => (some t387)) else (some 0))) = some r := h
 clear h
 replace H := Option.bind_eq_some_iff.mp H
 obtain ⟨t386, A40, H⟩ := H
 replace H : (if t386 = true then ((impl_Node_termAt.f a0_0 a0_1 a0_2 l0_3 a0_4 a0_5 a0_6 a0_7 l0_8 l0_9 l0_10 a2).bind fun t387 => (some t387)) else (some 0)) = some r := H
 have A4 := Aside0.mk A40
 clear A40
 by_cases c5 : t386 = true
 ·subst c5
  have H1 : ((impl_Node_termAt.f a0_0 a0_1 a0_2 l0_3 a0_4 a0_5 a0_6 a0_7 l0_8 l0_9 l0_10 a2).bind fun t387 => (some t387)) = some r := by rw [if_pos rfl] at H; exact H
  clear H
  have H := H1
  clear H1
  replace H := Option.bind_eq_some_iff.mp H
  obtain ⟨t387, A60, H⟩ := H
  replace H : (some t387) = some r := H
  have A6 := Aside0.mk A60
  clear A60
  obtain rfl := Option.some.inj H
  go_enter Try.func56, Try.ntmps56
  go_wp2_with (first | ((with_reducible refine gate_dst (N := 3) rfl ?_); refine bx_ 3 #[.int .i64 a0_0, .int .i64 a0_1, .int .i64 a0_2, .slice A0_3 l0_3.length c0_3, .int .i64 a0_4, .int .i64 a0_5, .int .i64 a0_6, .int .i64 a0_7, .slice A0_8 l0_8.length c0_8, .slice A0_9 l0_9.length c0_9, .slice A0_10 l0_10.length c0_10] 59 (h := ?_); intro gb385 hg w7 hbox hb; have BK385 := Aside0.mk (hbox); have GW385 := Aside0.mk ((by rw [hg]; exact (below_size bel) : w.heap.size ≤ gb385)); have GE385 := Aside0.mk ((by rw [hg]; exact (below_size bel) : w.heap.size ≤ gb385)); replace HB := Aside0.mk (below_step bel hb); clear hb hbox hg; obtain ⟨hcz8_0, hcz8_1, hcz8_2, hcz8_3, hcz8_4, hcz8_5, hcz8_6, hcz8_7, hcz8_8, hcz8_9, hcz8_10, -⟩ := cells_11 BK385.out trivial; obtain ⟨hfz8_0, hfz8_1, hfz8_2, hfz8_3, hfz8_4, hfz8_5, hfz8_6, hfz8_7, hfz8_8, hfz8_9, hfz8_10, -⟩ := frz_11 BK385.out) | ((with_reducible refine gate_callee (f := 54) rfl ?_); refine gl_ (some 9) Try.func54 #[.agg #[.int .i64 a0_0, .int .i64 a0_1, .int .i64 a0_2, .slice A0_3 l0_3.length c0_3, .int .i64 a0_4, .int .i64 a0_5, .int .i64 a0_6, .int .i64 a0_7, .slice A0_8 l0_8.length c0_8, .slice A0_9 l0_9.length c0_9, .slice A0_10 l0_10.length c0_10], .int .i64 a1] (h := ?_); (with_reducible refine (impl_NodeOk.calls k a0_0 a0_1 a0_2 _ _ l0_3 a0_4 a0_5 a0_6 a0_7 _ _ l0_8 _ _ l0_9 _ _ l0_10 a1 true _ ?side1 ?side2 ?side3 ?side4 ?side5 ?side6 ?side7 ?side8 A4.out).mono ?_); (case side1 => exact kcb); (case side2 => exact HC0_3.out); (case side3 => exact kcb); (case side4 => exact HC0_8.out); (case side5 => exact kcb); (case side6 => exact HC0_9.out); (case side7 => exact kcb); (case side8 => exact HC0_10.out); rintro e w9 ⟨rfl, hb⟩; refine ⟨_, rfl, ?_⟩; replace BK385 := Aside0.mk (blb BK385 hb); replace HB := Aside0.mk (below_step bel hb); (try clear hb); (try clear hb2); (try clear hk); (try clear hi); obtain ⟨hcz10_0, hcz10_1, hcz10_2, hcz10_3, hcz10_4, hcz10_5, hcz10_6, hcz10_7, hcz10_8, hcz10_9, hcz10_10, -⟩ := cells_11 BK385.out trivial; obtain ⟨hfz10_0, hfz10_1, hfz10_2, hfz10_3, hfz10_4, hfz10_5, hfz10_6, hfz10_7, hfz10_8, hfz10_9, hfz10_10, -⟩ := frz_11 BK385.out) | ((with_reducible refine gate_callee (f := 109) rfl ?_); refine gl_ (some 13) Try.func109 #[.agg #[.int .i64 a0_0, .int .i64 a0_1, .int .i64 a0_2, .slice A0_3 l0_3.length c0_3, .int .i64 a0_4, .int .i64 a0_5, .int .i64 a0_6, .int .i64 a0_7, .slice A0_8 l0_8.length c0_8, .slice A0_9 l0_9.length c0_9, .slice A0_10 l0_10.length c0_10], .int .i64 a2] (h := ?_); (with_reducible refine (impl_Node_termAt.calls a0_0 a0_1 a0_2 _ _ l0_3 a0_4 a0_5 a0_6 a0_7 _ _ l0_8 _ _ l0_9 _ _ l0_10 a2 t387 _ ?side1 ?side2 ?side3 ?side4 ?side5 ?side6 ?side7 ?side8 A6.out).mono ?_); (case side1 => exact kcb); (case side2 => exact HC0_3.out); (case side3 => exact kcb); (case side4 => exact HC0_8.out); (case side5 => exact kcb); (case side6 => exact HC0_9.out); (case side7 => exact kcb); (case side8 => exact HC0_10.out); rintro e w11 ⟨rfl, hb⟩; refine ⟨_, rfl, ?_⟩; replace BK385 := Aside0.mk (blb BK385 hb); replace HB := Aside0.mk (below_step bel hb); (try clear hb); (try clear hb2); (try clear hk); (try clear hi)))
  go_ret
  exact ⟨by first | rfl | (simp [errW_none, errW_some] <;> rfl) | (simp [*, errW_none, errW_some] <;> rfl), by repeat (first | (with_reducible first | exact HB.out | apply below_alloc | apply pw_below_drewN | apply below_drew1 | refine below_set ?_ GE385.out) | exact HB.out)⟩
 ·replace c5 := Bool.eq_false_iff.mpr c5
  subst c5
  have H1 : (some 0) = some r := by rw [if_neg (show ¬ (false = true) by decide)] at H; exact H
  clear H
  have H := H1
  clear H1
  obtain rfl := Option.some.inj H
  go_enter Try.func56, Try.ntmps56
  go_wp2_with (first | ((with_reducible refine gate_dst (N := 3) rfl ?_); refine bx_ 3 #[.int .i64 a0_0, .int .i64 a0_1, .int .i64 a0_2, .slice A0_3 l0_3.length c0_3, .int .i64 a0_4, .int .i64 a0_5, .int .i64 a0_6, .int .i64 a0_7, .slice A0_8 l0_8.length c0_8, .slice A0_9 l0_9.length c0_9, .slice A0_10 l0_10.length c0_10] 59 (h := ?_); intro gb385 hg w12 hbox hb; have BK385 := Aside0.mk (hbox); have GW385 := Aside0.mk ((by rw [hg]; exact (below_size bel) : w.heap.size ≤ gb385)); have GE385 := Aside0.mk ((by rw [hg]; exact (below_size bel) : w.heap.size ≤ gb385)); replace HB := Aside0.mk (below_step bel hb); clear hb hbox hg; obtain ⟨hcz13_0, hcz13_1, hcz13_2, hcz13_3, hcz13_4, hcz13_5, hcz13_6, hcz13_7, hcz13_8, hcz13_9, hcz13_10, -⟩ := cells_11 BK385.out trivial; obtain ⟨hfz13_0, hfz13_1, hfz13_2, hfz13_3, hfz13_4, hfz13_5, hfz13_6, hfz13_7, hfz13_8, hfz13_9, hfz13_10, -⟩ := frz_11 BK385.out) | ((with_reducible refine gate_callee (f := 54) rfl ?_); refine gl_ (some 9) Try.func54 #[.agg #[.int .i64 a0_0, .int .i64 a0_1, .int .i64 a0_2, .slice A0_3 l0_3.length c0_3, .int .i64 a0_4, .int .i64 a0_5, .int .i64 a0_6, .int .i64 a0_7, .slice A0_8 l0_8.length c0_8, .slice A0_9 l0_9.length c0_9, .slice A0_10 l0_10.length c0_10], .int .i64 a1] (h := ?_); (with_reducible refine (impl_NodeOk.calls k a0_0 a0_1 a0_2 _ _ l0_3 a0_4 a0_5 a0_6 a0_7 _ _ l0_8 _ _ l0_9 _ _ l0_10 a1 false _ ?side1 ?side2 ?side3 ?side4 ?side5 ?side6 ?side7 ?side8 A4.out).mono ?_); (case side1 => exact kcb); (case side2 => exact HC0_3.out); (case side3 => exact kcb); (case side4 => exact HC0_8.out); (case side5 => exact kcb); (case side6 => exact HC0_9.out); (case side7 => exact kcb); (case side8 => exact HC0_10.out); rintro e w14 ⟨rfl, hb⟩; refine ⟨_, rfl, ?_⟩; replace BK385 := Aside0.mk (blb BK385 hb); replace HB := Aside0.mk (below_step bel hb); (try clear hb); (try clear hb2); (try clear hk); (try clear hi)))
  go_ret
  exact ⟨by first | rfl | (simp [errW_none, errW_some] <;> rfl) | (simp [*, errW_none, errW_some] <;> rfl), by repeat (first | (with_reducible first | exact HB.out | apply below_alloc | apply pw_below_drewN | apply below_drew1 | refine below_set ?_ GE385.out) | exact HB.out)⟩

end Go.Proofs.Ytoaddpfoecggpaa.PN
