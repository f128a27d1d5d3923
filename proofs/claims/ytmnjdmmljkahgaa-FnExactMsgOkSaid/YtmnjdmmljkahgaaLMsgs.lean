import Derived.Test.YtmnjdmmljkahgaaPMx0
import Derived.Test.YtmnjdmmljkahgaaPMx3
import Derived.Test.YtmnjdmmljkahgaaPMx4
import Derived.Test.YtmnjdmmljkahgaaPMx8
import Derived.Test.YtmnjdmmljkahgaaLBase
import Derived.Test.YtmnjdmmljkahgaaLItemrows
import Derived.Test.YtmnjdmmljkahgaaLItems
import Derived.Test.YtmnjdmmljkahgaaLWithin
namespace Go.Proofs.Ytmnjdmmljkahgaa.Pure
open Go.RowKit Go.Proofs.Ytmnjdmmljkahgaa.PM Go.Proofs.YtmnjdmmljkahgaaW.PrintWords Go.Proofs.YtmnjdmmljkahgaaW.PrintLast Go.Proofs.YtmnjdmmljkahgaaW.PrintMore
set_option linter.unusedVariables false
set_option linter.unusedSimpArgs false
/-- Entries whose terms do not fall, from p on, and none above t. -/
def chainOk (t : Int) : Int → List S54 → Bool
  | _, [] => true
  | p, x :: l => itemOkP x.f0 x.f1.f0 x.f1.f1 x.f1.f2.f0 x.f1.f2.f1 x.f1.f2.f2 x.f1.f2.f3 && (decide (p ≤ x.f0 ∧ x.f0 ≤ t) && chainOk t x.f0 l)
/-- A valid message. -/
def msgP (kd fr dst t ix lt : Int) (n : Nat) (cm : Int) (ok : Bool) : Bool :=
  decide (0 ≤ kd ∧ kd ≤ 3 ∧ 0 ≤ fr ∧ fr ≤ 4 ∧ 0 ≤ dst ∧ dst ≤ 4 ∧ fr ≠ dst ∧ 1 ≤ t ∧ t ≤ 100000 ∧ 0 ≤ ix ∧ ix ≤ 400 ∧ 0 ≤ lt ∧ lt ≤ t ∧ 0 ≤ cm ∧ cm ≤ 400 ∧ n ≤ 4 ∧ (n : Int) ≤ 400 - ix ∧
    (kd = 0 → n = 0 ∧ cm = 0 ∧ ok = false ∧ (ix = 0 ↔ lt = 0)) ∧ (kd = 1 → ix = 0 ∧ lt = 0 ∧ n = 0 ∧ cm = 0) ∧ (kd = 2 → ok = false ∧ (ix = 0 ↔ lt = 0)) ∧ (kd = 3 → lt = 0 ∧ n = 0 ∧ cm = 0))
theorem chainOk_cons (t p : Int) (x : S54) (l : List S54) : chainOk t p (x :: l) = (itemOkP x.f0 x.f1.f0 x.f1.f1 x.f1.f2.f0 x.f1.f2.f1 x.f1.f2.f2 x.f1.f2.f3 && (decide (p ≤ x.f0 ∧ x.f0 ≤ t) && chainOk t x.f0 l)) := rfl
/-- What the reference asks behind the entries. -/
def tailP (kd ix lt : Int) (n : Nat) (cm : Int) (ok : Bool) : Bool :=
  if kd = 0 then decide (n = 0 ∧ cm = 0 ∧ ok = false) else if kd = 1 then decide (ix = 0 ∧ lt = 0 ∧ n = 0 ∧ cm = 0) else if kd = 2 then !ok else decide (lt = 0 ∧ n = 0 ∧ cm = 0)
theorem specMsg_loop (kd fr dst t ix lt : Int) (l : List S54) (cm : Int) (ok : Bool) (hn : l.length ≤ 1048576) (hk : ∀ x ∈ l, fitItem x) (d : Nat) : ∀ (i : Nat) (p : Int), i ≤ l.length → l.length - i = d → lt ≤ p → (i = 0 → p = lt) → (∀ h : 0 < i, p = (rd_T54 l ((i : Int) - 1)).f0) →
    Ev (fun k => spec_MsgOk.l0 k (i : Int) kd fr dst t ix lt l cm ok) (chainOk t p (l.drop i) && tailP kd ix lt l.length cm ok) := by
  induction d with
  | zero =>
    intro i p hi hd _ _ _
    refine Ev.step (fun k => by rw [spec_MsgOk.l0]) ?_
    rw [List.drop_of_length_le (by omega)]
    refine ev_if_neg (by omega) ?_
    repeat' (first
      | exact ev_done (by grind [chainOk, tailP])
      | refine ev_ite (fun hc => ?_) (fun hc => ?_))
  | succ d ih =>
    intro i p hi hd hp hp0 hp1
    have hi' : i < l.length := by omega
    have hm := hk l[i] (List.getElem_mem hi')
    refine Ev.step (fun k => by rw [spec_MsgOk.l0]) ?_
    have hx := rd_T54_get l i hi'
    have h1 := specItemOk_ev l[i].f0 l[i].f1.f0 l[i].f1.f1 l[i].f1.f2.f0 l[i].f1.f2.f1 l[i].f1.f2.f2 l[i].f1.f2.f3 (by have := hm.1; omega)
    rw [hx, List.drop_eq_getElem_cons hi', chainOk_cons, w64 (x := (i : Int) - 1) (by omega) (by omega), w64 (x := (i : Int) + 1) (by omega) (by omega)]
    refine ev_if_pos (by omega) (ev_if_pos (by omega) (Ev.bind h1 ?_))
    generalize itemOkP l[i].f0 l[i].f1.f0 l[i].f1.f1 l[i].f1.f2.f0 l[i].f1.f2.f1 l[i].f1.f2.f2 l[i].f1.f2.f3 = b
    cases b
    · exact ev_if_neg (by decide) (ev_done (by grind))
    refine ev_if_pos rfl ?_
    have h := ih (i + 1) l[i].f0 (by omega) (by omega)
    rw [Int.natCast_add, Int.natCast_one] at h
    have hq : rd_T54 l ((i : Int) + 1 - 1) = l[i] := by rw [Int.add_sub_cancel]; exact hx
    rw [hq] at h
    by_cases c1 : l[i].f0 > t
    · exact ev_if_pos c1 (ev_done (by grind))
    refine ev_if_neg c1 ?_
    by_cases c2 : (i : Int) > 0
    · have hp2 := hp1 (by omega)
      refine ev_if_pos c2 ?_
      refine ev_if_pos (by omega) (ev_if_pos (by omega) ?_)
      rw [← hp2]
      by_cases c3 : p > l[i].f0
      · exact ev_if_pos c3 (ev_done (by grind))
      refine ev_if_neg c3 (ev_if_neg (by omega) ?_)
      exact ev_of (h (by omega) (by omega) (fun _ => rfl)) (by grind)
    · have hp2 := hp0 (by omega)
      refine ev_if_neg c2 ?_
      by_cases c3 : l[i].f0 < lt
      · exact ev_if_pos c3 (ev_done (by grind))
      refine ev_if_neg c3 ?_
      exact ev_of (h (by omega) (by omega) (fun _ => rfl)) (by grind)
theorem implMsg_loop (kd fr dst t ix lt : Int) (l : List S54) (cm : Int) (ok : Bool) (hix : 0 ≤ ix ∧ ix ≤ 400) (hn : l.length ≤ 1048576) (hk : ∀ x ∈ l, fitItem x) (d : Nat) : ∀ (i : Nat) (p : Int), i ≤ l.length → l.length - i = d →
    Ev (fun k => impl_MsgOk.l0 k p l (l.length : Int) (i : Int) kd fr dst t ix lt l cm ok) (chainOk t p (l.drop i) && decide (l.length ≤ 4 ∧ (l.length : Int) ≤ 400 - ix ∧ 0 ≤ cm ∧ cm ≤ 400)) := by
  induction d with
  | zero =>
    intro i p hi hd
    refine Ev.step (fun k => by rw [impl_MsgOk.l0]) ?_
    rw [List.drop_of_length_le (by omega), w64 (x := 400 - ix) (by omega) (by omega)]
    refine ev_if_neg (by omega) ?_
    repeat' (first
      | exact ev_done (by grind [chainOk])
      | refine ev_bind_eq (within_eq _ _ _) ?_
      | refine ev_ite (fun hc => ?_) (fun hc => ?_))
  | succ d ih =>
    intro i p hi hd
    have hi' : i < l.length := by omega
    have hm := hk l[i] (List.getElem_mem hi')
    refine Ev.step (fun k => by rw [impl_MsgOk.l0]) ?_
    have hx := rd_T54_get l i hi'
    have h1 := implItemOk_ev l[i].f0 l[i].f1.f0 l[i].f1.f1 l[i].f1.f2.f0 l[i].f1.f2.f1 l[i].f1.f2.f2 l[i].f1.f2.f3 (by have := hm.1; omega)
    rw [hx, List.drop_eq_getElem_cons hi', chainOk_cons, w64 (by omega) (by omega)]
    refine ev_if_pos (by omega) (ev_if_pos (by omega) (ev_if_pos (by omega) (Ev.bind h1 ?_)))
    generalize itemOkP l[i].f0 l[i].f1.f0 l[i].f1.f1 l[i].f1.f2.f0 l[i].f1.f2.f1 l[i].f1.f2.f2 l[i].f1.f2.f3 = b
    cases b
    · exact ev_if_neg (by decide) (ev_done (by grind))
    refine ev_if_pos rfl (ev_bind_eq (within_eq _ _ _) ?_)
    have h := ih (i + 1) l[i].f0 (by omega) (by omega)
    rw [Int.natCast_add, Int.natCast_one] at h
    by_cases c : p ≤ l[i].f0 ∧ l[i].f0 ≤ t
    · exact ev_if_pos (decide_eq_true c) (ev_of h (by grind))
    · exact ev_if_neg (by rw [decide_eq_false c]; decide) (ev_done (by grind))
theorem l3server_eq (a : Int) : spec_l3server.f a = some (decide (0 ≤ a ∧ a ≤ 4)) := by
  unfold spec_l3server.f
  split <;> (congr 1; grind)
theorem l3term_eq (a : Int) : spec_l3term.f a = some (decide (0 ≤ a ∧ a ≤ 100000)) := by
  unfold spec_l3term.f
  split <;> (congr 1; grind)
theorem l3place_eq (a : Int) : spec_l3place.f a = some (decide (0 ≤ a ∧ a ≤ 400)) := by
  unfold spec_l3place.f
  split <;> (congr 1; grind)
theorem chainOk_nil (t p : Int) (l : List S54) (h : l.length = 0) : chainOk t p l = true := by
  rw [List.length_eq_zero_iff.1 h]
  rfl
set_option maxHeartbeats 4000000 in
theorem specMsgOk_ev (kd fr dst t ix lt : Int) (l : List S54) (cm : Int) (ok : Bool) (hn : l.length ≤ 1048576) (hk : ∀ x ∈ l, fitItem x) :
    Ev (fun k => spec_MsgOk.f k kd fr dst t ix lt l cm ok) (msgP kd fr dst t ix lt l.length cm ok && chainOk t lt l) := by
  have hL := specMsg_loop kd fr dst t ix lt l cm ok hn hk l.length 0 lt (by omega) (by omega) (by omega) (fun _ => rfl) (fun h => absurd h (by omega))
  rw [List.drop_zero] at hL
  have h0 := chainOk_nil t lt l
  have hw : 0 ≤ ix ∧ ix ≤ 400 → wrap64 (400 - ix) = 400 - ix := fun h => w64 (by omega) (by omega)
  unfold spec_MsgOk.f
  generalize chainOk t lt l = ch at hL h0
  repeat' (first
    | exact ev_of hL (by grind [msgP, tailP])
    | exact ev_done (by grind [msgP, tailP])
    | refine ev_bind_eq (l3server_eq _) ?_
    | refine ev_bind_eq (l3term_eq _) ?_
    | refine ev_bind_eq (l3place_eq _) ?_
    | refine Ev.step (g := fun k => spec_MsgOk.j0 k _ _ _ _ _ _ _ _ _ _) (fun k => by rw [spec_MsgOk.j0]) ?_
    | refine Ev.step (g := fun k => spec_MsgOk.j1 k _ _ _ _ _ _ _ _ _ _) (fun k => by rw [spec_MsgOk.j1]) ?_
    | refine ev_ite (fun hc => ?_) (fun hc => ?_))
set_option maxHeartbeats 4000000 in
theorem implMsgOk_ev (kd fr dst t ix lt : Int) (l : List S54) (cm : Int) (ok : Bool) (hn : l.length ≤ 1048576) (hk : ∀ x ∈ l, fitItem x) :
    Ev (fun k => impl_MsgOk.f k kd fr dst t ix lt l cm ok) (msgP kd fr dst t ix lt l.length cm ok && chainOk t lt l) := by
  have hL := fun h => implMsg_loop kd fr dst t ix lt l cm ok h hn hk l.length 0 lt (by omega) (by omega)
  rw [List.drop_zero] at hL
  have h0 := chainOk_nil t lt l
  unfold impl_MsgOk.f
  generalize chainOk t lt l = ch at hL h0
  repeat' (first
    | exact ev_of (hL (by grind)) (by grind [msgP])
    | exact ev_done (by grind [msgP])
    | refine ev_bind_eq (within_eq _ _ _) ?_
    | refine ev_bind_eq (isTerm_eq _) ?_
    | refine Ev.step (g := fun k => impl_MsgOk.j0 k _ _ _ _ _ _ _ _ _ _) (fun k => by rw [impl_MsgOk.j0]) ?_
    | refine Ev.step (g := fun k => impl_MsgOk.j1 k _ _ _ _ _ _ _ _ _ _) (fun k => by rw [impl_MsgOk.j1]) ?_
    | refine Ev.step (g := fun k => impl_MsgOk.j2 k _ _ _ _ _ _ _ _ _ _) (fun k => by rw [impl_MsgOk.j2]) ?_
    | refine Ev.step (g := fun k => impl_MsgOk.j3 k _ _ _ _ _ _ _ _ _ _) (fun k => by rw [impl_MsgOk.j3]) ?_
    | refine ev_ite (fun hc => ?_) (fun hc => ?_))

end Go.Proofs.Ytmnjdmmljkahgaa.Pure
