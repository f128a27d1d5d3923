import Derived.Test.YtoaddpfoecggpaaPNx0
import Derived.Test.YtoaddpfoecggpaaLBase
import Derived.Lib.Bytes
namespace Go.Proofs.Ytoaddpfoecggpaa.Pure
open Go.RowKit Go.Proofs.Ytoaddpfoecggpaa.PN Go.Proofs.YtoaddpfoecggpaaW.PrintWords Go.Proofs.YtoaddpfoecggpaaW.PrintLast Go.Proofs.YtoaddpfoecggpaaW.PrintMore
set_option linter.unusedVariables false
set_option linter.unusedSimpArgs false
theorem strOf_list (a : List Int) : (strOfNums a).toList = a.map fun n => UInt8.ofNat n.toNat := Lib.strOfNums_toList a
theorem byte_inj {x y : Int} (h0 : 0 ≤ x) (h1 : x ≤ 255) (h2 : 0 ≤ y) (h3 : y ≤ 255) (h : UInt8.ofNat x.toNat = UInt8.ofNat y.toNat) : x = y := by
  have h4 := congrArg UInt8.toNat h
  simp at h4
  omega
theorem str_inj : ∀ (a b : List Int), (∀ x ∈ a, (Lit.int .u8 x).wf = true) → (∀ x ∈ b, (Lit.int .u8 x).wf = true) → (a.map fun n => UInt8.ofNat n.toNat) = (b.map fun n => UInt8.ofNat n.toNat) → a = b
  | [], [], _, _, _ => rfl
  | [], _ :: _, _, _, h => by simp at h
  | _ :: _, [], _, _, h => by simp at h
  | x :: a, y :: b, ha, hb, h => by
    simp only [List.map_cons, List.cons.injEq] at h
    have hx := wf_u8 (ha x List.mem_cons_self)
    have hy := wf_u8 (hb y List.mem_cons_self)
    rw [byte_inj hx.1 hx.2 hy.1 hy.2 h.1, str_inj a b (fun z hz => ha z (List.mem_cons_of_mem _ hz)) (fun z hz => hb z (List.mem_cons_of_mem _ hz)) h.2]
theorem str_eq (a b : List Int) (ha : ∀ x ∈ a, (Lit.int .u8 x).wf = true) (hb : ∀ x ∈ b, (Lit.int .u8 x).wf = true) : ((strOfNums a).toList == (strOfNums b).toList) = decide (a = b) := by
  rw [strOf_list, strOf_list, Bool.eq_iff_iff]
  simp only [beq_iff_eq, decide_eq_true_eq]
  exact ⟨str_inj a b ha hb, fun h => by rw [h]⟩
theorem str_eq_nil (a : List Int) : ((strOfNums a).toList == (strOfNums []).toList) = decide (a.length = 0) := by
  rw [strOf_list, strOf_list, Bool.eq_iff_iff]
  simp
theorem str_self (a : List Int) : ((strOfNums a).toList == (strOfNums a).toList) = true := by simp

end Go.Proofs.Ytoaddpfoecggpaa.Pure
