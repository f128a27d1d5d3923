-- Written for this claim by the session's program pp.py, out of the kit's print and the seat's translation.
import Derived.Test.YtdgegnakiljfjaaPHx0
import Derived.Test.YtdgegnakiljfjaaPHx11
namespace Go.Proofs.Ytdgegnakiljfjaa.PH
open Go.RowKit Go.Proofs.YtdgegnakiljfjaaW.PrintWords Go.Proofs.YtdgegnakiljfjaaW.PrintLast Go.Proofs.YtdgegnakiljfjaaW.PrintMore
attribute [local go_sem] max2_int min2_int max_two min_two max_three min_three max_four min_four   -- for this text's walks alone
set_option linter.unusedVariables false
set_option linter.unusedSimpArgs false

/-! ### laws_markByteSS: function 58 -/
/-- Marks written row by row: the count and the rows as they then are. -/
def laws_markByteSS.f (k : Nat) : List (List Int) → Int → Option (Int × List (List Int))
 | [], a => some (a, [])
 | x :: xs, a => (laws_markByteS.f k x a).bind fun b => (laws_markByteSS.f k xs b.1).bind fun t => some (t.1, b.2 :: t.2)
/-- The count alone, and that the row is no longer than the walk bears. -/
def laws_markByteSS1.f (k : Nat) (l : List (List Int)) (a : Int) : Option Int := if l.length < 1000000000 then (laws_markByteSS.f k l a).map Prod.fst else none
/-- What is found of marks that began at one. -/
def laws_heldByteSSm.f (k : Nat) (l : List (List Int)) (a : Int) : Option Int := (laws_markByteSS.f k l 1).bind fun m => laws_heldByteSS.f k m.2 a
theorem laws_markByteSS1.get {k : Nat} {l : List (List Int)} {a r : Int} (h : laws_markByteSS1.f k l a = some r) : l.length < 1000000000 ∧ ∃ m2, laws_markByteSS.f k l a = some (r, m2) := by
 unfold laws_markByteSS1.f at h
 split at h
 case isFalse => cases h
 case isTrue hl =>
  rw [Option.map_eq_some_iff] at h
  obtain ⟨⟨r', m2⟩, h1, rfl⟩ := h
  exact ⟨hl, m2, h1⟩
theorem laws_heldByteSSm.get {k : Nat} {l m2 : List (List Int)} {a r r1 : Int} (hm : laws_markByteSS.f k l 1 = some (r1, m2)) (h : laws_heldByteSSm.f k l a = some r) : laws_heldByteSS.f k m2 a = some r := by
 unfold laws_heldByteSSm.f at h
 rw [hm] at h
 exact h
set_option maxHeartbeats 4000000 in
set_option maxRecDepth 100000 in
theorem laws_markByteSS.calls (k : Nat) (P0_ : Nat → Prop) (u : Value) (l0 : List (List Int)) (a1 : Int) (r1 : Int) (r2 : List (List Int)) (w0 w : World) (hB : Below w0.heap.size w0 w) (ho0 : Kd.S (Kd.slice 5 (Kd.int .u8)) 52 w w0.heap.size P0_ u l0) (hlen : l0.length < 1000000000) (h : laws_markByteSS.f k l0 a1 = some (r1, r2)) :
  Calls Try.prog 58 #[u, .int .i64 a1] w fun e w' => e = .returned (.int .i64 r1) ∧ Kd.S (Kd.slice 5 (Kd.int .u8)) 52 w' w0.heap.size (fun k_ => (P0_ k_ ∨ w.heap.size ≤ k_)) u r2 ∧ Below w0.heap.size w0 w' ∧ Kept w w' (fun k_ => P0_ k_) := by
 obtain ⟨A, c, rfl⟩ := Kd.S_slice ho0
 have HS0 := Aside0.mk (Kd.S_mono (ok' := fun k_ => (P0_ k_ ∨ w.heap.size ≤ k_)) ho0 (fun _ h => .inl h))
 have HB := Aside0.mk hB
 have H0 := Aside0.mk h
 have HLEN := Aside0.mk hlen
 clear ho0 hB h hlen
 go_enter Try.func58, Try.ntmps58
 go_wp2
 go_loopg [1, 5] l0.length (fun gg v1 v5 wr => ∃ (x N1 : Int) (cur : List (List Int)), v1 = .int .i64 N1 ∧ v5 = .int .i64 x ∧ 0 ≤ x ∧ x ≤ (l0.length : Int) ∧ l0.length - x.toNat ≤ gg ∧ Aside0 (cur.length = l0.length ∧ cur.drop x.toNat = l0.drop x.toNat) ∧ Aside0 (∃ rest, laws_markByteSS.f k (l0.drop x.toNat) N1 = some (r1, rest) ∧ r2 = cur.take x.toNat ++ rest) ∧ Aside0 (Kd.S (Kd.slice 5 (Kd.int .u8)) 52 wr w0.heap.size (fun k_ => (P0_ k_ ∨ w.heap.size ≤ k_)) (.slice A l0.length c) cur) ∧ Aside0 (Below w0.heap.size w0 wr) ∧ Aside0 (Kept w wr (fun k_ => P0_ k_)))
 case atStart => exact ⟨0, a1, l0, rfl, rfl, by omega, by omega, by omega, ⟨rfl, rfl⟩, ⟨⟨r2, H0.out, by simp⟩⟩, HS0, HB, ⟨Kept.refl _ _⟩⟩
 case round =>
  obtain ⟨x, N1, cur, rfl, rfl, hx0, hx1, hg, HL, HF, HS, HBr, HK⟩ := hrel
  by_cases hlt : x < (l0.length : Int)
  ·have hn : x.toNat < l0.length := by omega
   have hn' : x.toNat < cur.length := by rw [HL.out.1]; exact hn
   obtain ⟨g, cap, e, hbg, hgl, cells, hcell⟩ := Kd.S_form HS.out (by omega)
   injection e with ea en ec
   subst ea
   obtain ⟨oki, cs, hcl, hM, hcc, hoki, hH⟩ := Kd.S_lend HS.out [] x hx0 (by omega)
   obtain ⟨v, rfl, hv⟩ := hM
   have hrow : cur.getD x.toNat [] = l0[x.toNat] := by
    have h1 := HL.out.2
    rw [List.drop_eq_getElem_cons hn, List.drop_eq_getElem_cons hn'] at h1
    rw [List.getD_eq_getElem?_getD, List.getElem?_eq_getElem hn', Option.getD_some]
    exact (List.cons.inj h1).1
   have htail : cur.drop (x.toNat + 1) = l0.drop (x.toNat + 1) := by
    have h1 := HL.out.2
    rw [List.drop_eq_getElem_cons hn, List.drop_eq_getElem_cons hn'] at h1
    exact (List.cons.inj h1).2
   rw [hrow] at hv
   obtain ⟨rest, hf, hr2⟩ := HF.out
   rw [List.drop_eq_getElem_cons hn, laws_markByteSS.f] at hf
   obtain ⟨⟨b1, b2⟩, hb, hf⟩ := Option.bind_eq_some_iff.mp hf
   obtain ⟨⟨t1, t2⟩, ht, hf⟩ := Option.bind_eq_some_iff.mp hf
   injection hf with hf
   injection hf with e1 e2
   simp only at e1 e2 ht
   subst e1
   subst e2
   obtain ⟨Av, cv, rfl⟩ := Kd.R_slice hv
   have hx : wr.cell? ⟨g, x.toNat, none⟩ = some (.slice Av (l0[x.toNat]).length cv) := by
    have h1 := hcc 0 _ rfl
    rw [show (Kd.slice 5 (Kd.int .u8)).sz = 1 from rfl, Nat.mul_one, Nat.add_zero] at h1
    exact h1
   have HV := Aside0.mk hv
   have HT := Aside0.mk ht
   have HBB := Aside0.mk hb
   have HH := Aside0.mk hH
   have HOK := Aside0.mk hoki
   have HR2 := Aside0.mk hr2
   have HN := Aside0.mk hn
   have HN2 := Aside0.mk hn'
   have HTL := Aside0.mk htail
   have HG := Aside0.mk hg
   generalize l0[x.toNat] = row at HV hx HBB HH
   clear hv hr2 ht hb hH hoki hrow htail hcc hcl hcell hgl hbg en ec hg
   have c1 : decide (x < (l0.length : Int)) = true := decide_eq_true hlt
   have p5 : (0 ≤ x) = True := eq_true hx0
   have q5 : (x < (l0.length : Int)) = True := eq_true hlt
   go_wp2_with (go_at_call 38; refine (laws_markByteS.calls k oki (.slice Av row.length cv) row N1 b1 b2 w0 _ HBr.out HV.out HBB.out).mono ?_; rintro e w3 ⟨rfl, ho, hb3, hk3⟩; have HO3 := Aside0.mk ho; have HB3 := Aside0.mk hb3; have HK3 := Aside0.mk hk3; clear ho hb3 hk3)
   go_roundg (l0.length - (x.toNat + 1))
   case measure => have := HG.out; omega
   case rel =>
    have ex : (x + 1).toNat = x.toNat + 1 := by omega
    have hwx : wrap64 (x + 1) = x + 1 := by unfold wrap64; have := HLEN.out; omega
    have hn := HN.out
    have hn' := HN2.out
    have hs1 : Kd.S (Kd.slice 5 (Kd.int .u8)) 52 w3 w0.heap.size (fun k_ => (P0_ k_ ∨ w.heap.size ≤ k_)) (.slice (some ⟨g, 0, none⟩) l0.length c) (cur.set x.toNat b2) :=
     Kd.H_back (Kd.H_step HH.out (fun k_ _ hno hlt_ => HK3.out.2 k_ hlt_ hno)) (x' := b2) (okp := fun k_ => some k_ = (.slice Av row.length cv : Value).ownBlock) ⟨_, rfl, Kd.R_tight rfl HO3.out⟩ (fun k_ e_ => HV.out.1 k_ e_.symm)
    refine ⟨x + 1, b1, cur.set x.toNat b2, by first | rfl | simp, by first | rw [hwx] | simp [hwx], by omega, by omega, by have := HG.out; omega, ⟨?_, ?_⟩, ⟨⟨t2, ?_, ?_⟩⟩, ⟨hs1⟩, HB3, ⟨?_⟩⟩
    ·rw [List.length_set]; exact HL.out.1
    ·rw [ex, List.drop_set_of_lt (by omega)]; exact HTL.out
    ·rw [ex]; exact HT.out
    ·rw [ex, HR2.out, List.take_add_one, List.take_set_of_le (by omega), List.getElem?_set_self hn', Option.toList_some, List.append_assoc]
     rfl
    ·refine HK.out.then_ HK3.out (fun k_ hk => ?_)
     rcases (HOK.out k_ hk).1 with h | h
     ·exact .inl h
     ·exact .inr h
  have hx : x.toNat = l0.length := by omega
  obtain ⟨rest, hf, hr2⟩ := HF.out
  rw [hx, List.drop_length, laws_markByteSS.f] at hf
  injection hf with hf
  injection hf with e1 e2
  subst e1
  subst e2
  rw [hx, List.append_nil, List.take_of_length_le (by rw [HL.out.1]; exact Nat.le_refl _)] at hr2
  subst hr2
  have c1 : decide (x < (l0.length : Int)) = false := decide_eq_false hlt
  go_wp2
  go_ret
  exact ⟨rfl, HS.out, HBr.out, HK.out⟩

end Go.Proofs.Ytdgegnakiljfjaa.PH
