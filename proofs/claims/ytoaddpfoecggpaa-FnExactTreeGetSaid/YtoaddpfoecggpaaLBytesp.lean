import Derived.Test.YtoaddpfoecggpaaPGx0
namespace Go.Proofs.Ytoaddpfoecggpaa.Pure
open Go.RowKit Go.Proofs.Ytoaddpfoecggpaa.PG Go.Proofs.YtoaddpfoecggpaaW.PrintWords Go.Proofs.YtoaddpfoecggpaaW.PrintLast Go.Proofs.YtoaddpfoecggpaaW.PrintMore
set_option linter.unusedVariables false
set_option linter.unusedSimpArgs false
def Bytes (l : List Int) : Prop := ∀ x ∈ l, (Lit.int .u8 x).wf = true
theorem wf_of_u8 {x : Int} (h0 : 0 ≤ x) (h1 : x ≤ 255) : (Lit.int .u8 x).wf = true := by
  simp [Lit.wf, IntKind.min, IntKind.max, IntKind.signed, IntKind.bits]
  omega
theorem bytes_nil : Bytes [] := fun x hx => by cases hx
theorem bytes_append {a b : List Int} (ha : Bytes a) (hb : Bytes b) : Bytes (a ++ b) := fun x hx => (List.mem_append.1 hx).elim (ha x) (hb x)
theorem bytes_one {x : Int} (h0 : 0 ≤ x) (h1 : x ≤ 255) : Bytes [x] := fun y hy => by
  rw [List.mem_singleton] at hy
  subst hy
  exact wf_of_u8 h0 h1
theorem bytes_take {a : List Int} (n : Nat) (ha : Bytes a) : Bytes (a.take n) := fun x hx => ha x (List.mem_of_mem_take hx)
theorem bytes_drop {a : List Int} (n : Nat) (ha : Bytes a) : Bytes (a.drop n) := fun x hx => ha x (List.mem_of_mem_drop hx)
theorem bytes_set {a : List Int} (n : Nat) {x : Int} (ha : Bytes a) (h0 : 0 ≤ x) (h1 : x ≤ 255) : Bytes (a.set n x) := fun y hy => by
  rcases List.mem_or_eq_of_mem_set hy with h | h
  · exact ha y h
  · subst h
    exact wf_of_u8 h0 h1
theorem bytes_rep (n : Nat) : Bytes (List.replicate n 0) := fun y hy => by
  rw [(List.mem_replicate.1 hy).2]
  exact wf_of_u8 (by decide) (by decide)

end Go.Proofs.Ytoaddpfoecggpaa.Pure
