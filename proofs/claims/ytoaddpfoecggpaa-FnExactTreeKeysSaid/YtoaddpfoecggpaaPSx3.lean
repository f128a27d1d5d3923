-- Written for this claim by the session's program pp.py, out of the kit's print and the seat's translation.
import Derived.Test.YtoaddpfoecggpaaPSx0
import Derived.Test.YtoaddpfoecggpaaPSx2
namespace Go.Proofs.Ytoaddpfoecggpaa.PS
open Go.RowKit Go.Proofs.YtoaddpfoecggpaaW.PrintWords Go.Proofs.YtoaddpfoecggpaaW.PrintLast Go.Proofs.YtoaddpfoecggpaaW.PrintMore
attribute [local go_sem] max2_int min2_int max_two min_two max_three min_three max_four min_four   -- for this text's walks alone
set_option linter.unusedVariables false
set_option linter.unusedSimpArgs false

/-- A state of type 3 at block g of W; what its slices lead to came in by w0. -/
def IsS3 (w0 W : World) (g : Nat) (f0 : Int) : Prop := W.heap[g]? = some (.cells #[.int .i64 f0] 3 (0, 0)) ∧ w0.heap.size ≤ g
theorem IsS3.grown {w0 W : World} {g : Nat} {f0 : Int} {W1 : World} {row : Option Nat} (h : IsS3 w0 W g f0) (hw : W.grownBy W1 row) (hne : some g ≠ row) : IsS3 w0 W1 g f0 := by
 obtain ⟨hb, hg⟩ := h
 exact ⟨blk_grown hb hw hne, hg⟩
theorem IsS3.own_neN {w0 W : World} {g : Nat} {f0 : Int} {α : Type} {d : Kd α} {e : Nat} {base : Nat} {ok : Nat → Prop} {v : Value} {xs : List α} (h : IsS3 w0 W g f0) (ho : Kd.N d e W base ok v xs) (ht : e ≠ 3) : some g ≠ v.ownBlock := by
 obtain ⟨hb, hg⟩ := h
 exact Kd.N_ne ho hb ht
theorem IsS3.fresh {w0 W : World} {g : Nat} {f0 : Int} (h : IsS3 w0 W g f0) : ∀ k, W.heap.size ≤ k → k ≠ g := by
 obtain ⟨hb, hg⟩ := h
 exact Kd.freshB hb
theorem IsS3.kept {w0 W : World} {g : Nat} {f0 : Int} {W1 : World} {S : Nat → Prop} (h : IsS3 w0 W g f0) (hk : Kept W W1 S) (hne : ¬ S g) : IsS3 w0 W1 g f0 := by
 obtain ⟨hb, hg⟩ := h
 exact ⟨blk_kept hb hk hne, hg⟩
theorem IsS3.below {w0 W : World} {g : Nat} {f0 : Int} {W1 : World} (h : IsS3 w0 W g f0) (hw : Below W.heap.size W W1) : IsS3 w0 W1 g f0 := h.grown (grown_of_below hw none) (by simp)
theorem IsS3.alloc {w0 W : World} {g : Nat} {f0 : Int} (h : IsS3 w0 W g f0) (o : Obj) : IsS3 w0 (W.alloc o) g f0 := h.below (below_alloc (Below.refl _ _) o)
theorem IsS3.drewN {w0 W : World} {g : Nat} {f0 : Int} (h : IsS3 w0 W g f0) (m : Nat) : IsS3 w0 (W.drewN m) g f0 := h
theorem IsS3.drew {w0 W : World} {g : Nat} {f0 : Int} (h : IsS3 w0 W g f0) : IsS3 w0 W.drew g f0 := h
theorem IsS3.at_ {w0 W : World} {g : Nat} {f0 : Int} {w' : World} {m : Nat} (hq : W.drewN m = w') (h : IsS3 w0 W g f0) : IsS3 w0 w' g f0 := by subst hq; exact IsS3.drewN h m
theorem IsS3.apart {w0 W : World} {g : Nat} {f0 : Int} {α : Type} {d : Kd α} {e : Nat} {base : Nat} {ok : Nat → Prop} {v : Value} {xs : List α} (h : IsS3 w0 W g f0) (ho : d.R e W base ok v xs) (ht : ∀ q, q ∈ e :: d.E → q ≠ 3) : d.R e W base (fun k => ok k ∧ k ≠ g) v xs := by
 obtain ⟨hb, hg⟩ := h
 exact Kd.R_types ho hb ht
theorem IsS3.own_ne {w0 W : World} {g : Nat} {f0 : Int} {α : Type} {d : Kd α} {e : Nat} {base : Nat} {ok : Nat → Prop} {v : Value} {xs : List α} (h : IsS3 w0 W g f0) (ho : d.R e W base ok v xs) (ht : e ≠ 3) : some g ≠ v.ownBlock := by
 obtain ⟨hb, hg⟩ := h
 exact Kd.R_ne ho hb ht
theorem IsS3.apartQ {w0 W : World} {g : Nat} {f0 : Int} {α : Type} {d : Kd α} {e : Nat} {base : Nat} {ok : Nat → Prop} {v : Value} {xs : List α} (h : IsS3 w0 W g f0) (ho : d.Q e W base ok v xs) (ht : ∀ q, q ∈ e :: d.E → q ≠ 3) : d.Q e W base (fun k => ok k ∧ k ≠ g) v xs := by
 obtain ⟨hb, hg⟩ := h
 exact Kd.Q_types ho hb ht
theorem IsS3.own_neQ {w0 W : World} {g : Nat} {f0 : Int} {α : Type} {d : Kd α} {e : Nat} {base : Nat} {ok : Nat → Prop} {v : Value} {xs : List α} (h : IsS3 w0 W g f0) (ho : d.Q e W base ok v xs) (ht : e ≠ 3) : some g ≠ v.ownBlock := by
 obtain ⟨hb, hg⟩ := h
 exact Kd.Q_ne ho hb ht
theorem IsS3.apartS {w0 W : World} {g : Nat} {f0 : Int} {α : Type} {d : Kd α} {e : Nat} {base : Nat} {ok : Nat → Prop} {v : Value} {xs : List α} (h : IsS3 w0 W g f0) (ho : d.S e W base ok v xs) (ht : ∀ q, q ∈ e :: d.E → q ≠ 3) : d.S e W base (fun k => ok k ∧ k ≠ g) v xs := by
 obtain ⟨hb, hg⟩ := h
 exact Kd.S_types ho hb ht
theorem IsS3.own_neS {w0 W : World} {g : Nat} {f0 : Int} {α : Type} {d : Kd α} {e : Nat} {base : Nat} {ok : Nat → Prop} {v : Value} {xs : List α} (h : IsS3 w0 W g f0) (ho : d.S e W base ok v xs) (ht : e ≠ 3) : some g ≠ v.ownBlock := by
 obtain ⟨hb, hg⟩ := h
 exact Kd.S_ne ho hb ht
theorem IsS3.lt {w0 W : World} {g : Nat} {f0 : Int} (h : IsS3 w0 W g f0) : g < W.heap.size := by
 obtain ⟨hb, hg⟩ := h
 exact blk_lt hb
theorem IsS3.ge {w0 W : World} {g : Nat} {f0 : Int} (h : IsS3 w0 W g f0) : w0.heap.size ≤ g := by
 obtain ⟨hb, hg⟩ := h
 exact hg
theorem IsS3.ne_blk {w0 W : World} {g : Nat} {f0 : Int} {a : Nat} {cs : Array Value} {t : TypeId} {fr : Nat × Nat} (h : IsS3 w0 W g f0) (hb2 : W.heap[a]? = some (.cells cs t fr)) (ht : t ≠ 3) : g ≠ a := by
 obtain ⟨hb, hg⟩ := h
 rintro rfl
 rw [hb] at hb2
 injection hb2 with hb2
 injection hb2 with _ ht2
 exact ht ht2.symm
theorem IsS3.far {w0 W : World} {g : Nat} {f0 : Int} {p : Addr} (h : IsS3 w0 W g f0) (hne : g ≠ p.block) (u : Value) : IsS3 w0 (W.setCell p u) g f0 := by
 obtain ⟨hb, hg⟩ := h
 exact ⟨blk_far hb hne u, hg⟩
theorem cellS3_0 {W : World} {g : Nat} {f0 : Int} (h : W.heap[g]? = some (.cells #[.int .i64 f0] 3 (0, 0))) : W.cell? ⟨g, 0, none⟩ = some (.int .i64 f0) := (blk_cell h 0).trans rfl
theorem IsS3.set_0 {w0 W : World} {g : Nat} {f0 : Int} (h : IsS3 w0 W g f0) (x : Int) : IsS3 w0 (W.setCell ⟨g, 0, none⟩ (.int .i64 x)) g x := by
 obtain ⟨hb, hg⟩ := h
 exact ⟨by simpa using blk_set hb 0 (.int .i64 x), hg⟩
theorem IsS3.new (w0 W : World) (f0 : Int) (hB : Below w0.heap.size w0 W) : IsS3 w0 (W.alloc (.cells #[.int .i64 f0] 3)) W.heap.size f0 := ⟨by simpa using heap_alloc_new W _, hB.size⟩

/-! ### impl_scan: function 62 -/
mutual
def impl_scan.j0 : Nat → Int → Int → Bool → Int → List Int → Bool → Int → List (S30) → Option (Bool × Int)
 | 0, _, _, _, _, _, _, _, _ => none
 | k + 1, x1, x2, x40, x4000, x143000, x143001, x143002, x143003 => if x40 = true then (some (false, x4000)) else (if x143001 = true then ((impl_within.f x143002 0 2147483647).bind fun t143 => (if t143 = true then (impl_scan.j1 k x1 x2 false x4000 x143000 x143001 x143002 x143003) else (impl_scan.j1 k x1 x2 true x4000 x143000 x143001 x143002 x143003))) else (if x143002 = 0 then (if x1 > 0 then (impl_scan.j1 k x1 x2 (decide ((x143003.length : Int) < 2)) x4000 x143000 x143001 x143002 x143003) else (impl_scan.j1 k x1 x2 false x4000 x143000 x143001 x143002 x143003)) else (impl_scan.j1 k x1 x2 true x4000 x143000 x143001 x143002 x143003)))
def impl_scan.j1 : Nat → Int → Int → Bool → Int → List Int → Bool → Int → List (S30) → Option (Bool × Int)
 | 0, _, _, _, _, _, _, _, _ => none
 | k + 1, x1, x2, x68, x4000, x143000, x143001, x143002, x143003 => if x68 = true then (some (false, x4000)) else (impl_scan.l0 k x1 x2 x143003 (x143003.length : Int) 0 x4000 x143000 x143001 x143002 x143003)
def impl_scan.l0 : Nat → Int → Int → List (S30) → Int → Int → Int → List Int → Bool → Int → List (S30) → Option (Bool × Int)
 | 0, _, _, _, _, _, _, _, _, _, _ => none
 | k + 1, x1, x2, x70, x71, x72, x4000, x143000, x143001, x143002, x143003 => if x72 < x71 then (if 0 ≤ x72 then (if x72 < (x70.length : Int) then ((impl_scan.f k ((rd_T30 x70 x72).f0) ((rd_T30 x70 x72).f1) ((rd_T30 x70 x72).f2) ((rd_T30 x70 x72).f3) (wrap64 (x1 + 1)) (wrap64 (x2 + (x143000.length : Int))) x4000).bind fun bt146 => (if bt146.1 = true then (if x72 > 0 then (if 0 ≤ (wrap64 (x72 - 1)) then (if (wrap64 (x72 - 1)) < (x143003.length : Int) then (if 0 < (((rd_T30 x143003 (wrap64 (x72 - 1))).f0).length : Int) then (if 0 < (((rd_T30 x70 x72).f0).length : Int) then (if (rd ((rd_T30 x143003 (wrap64 (x72 - 1))).f0) 0) ≥ (rd ((rd_T30 x70 x72).f0) 0) then (some (false, bt146.2)) else (impl_scan.l0 k x1 x2 x70 x71 (wrap64 (x72 + 1)) bt146.2 x143000 x143001 x143002 x143003)) else (none)) else (none)) else (none)) else (none)) else (impl_scan.l0 k x1 x2 x70 x71 (wrap64 (x72 + 1)) bt146.2 x143000 x143001 x143002 x143003)) else (some (false, bt146.2)))) else (none)) else (none)) else (some (true, x4000))
def impl_scan.f : Nat → List Int → Bool → Int → List (S30) → Int → Int → Int → Option (Bool × Int)
 | 0, _, _, _, _, _, _, _ => none
 | k + 1, l0_0, a0_1, a0_2, l0_3, a1, a2, s3_0 => if (wrap64 (s3_0 + 1)) > 200 then (impl_scan.j0 k a1 a2 true (wrap64 (s3_0 + 1)) l0_0 a0_1 a0_2 l0_3) else (if a1 > 24 then (impl_scan.j0 k a1 a2 true (wrap64 (s3_0 + 1)) l0_0 a0_1 a0_2 l0_3) else (if (((l0_0.length : Int) == 0) != (a1 == 0)) = true then (impl_scan.j0 k a1 a2 true (wrap64 (s3_0 + 1)) l0_0 a0_1 a0_2 l0_3) else (impl_scan.j0 k a1 a2 (decide ((wrap64 (a2 + (l0_0.length : Int))) > 20)) (wrap64 (s3_0 + 1)) l0_0 a0_1 a0_2 l0_3)))
end
def impl_scan.T9 : Bool × List (List Nat × List Nat) := (true, [([], []), ([], []), ([1], [1]), ([], []), ([], []), ([4], [4]), ([5], [5]), ([3, 6], [3, 6]), ([], []), ([0, 2, 7, 8], [0, 2, 7, 8]), ([9], [9]), ([10, 9], [10]), ([11], [11]), ([12, 11], [11, 12]), ([13, 11, 11], [11, 13]), ([14], [14]), ([15, 14], [14, 15]), ([14], [14]), ([17, 14], [14, 17]), ([16, 18, 14], [14, 16, 18]), ([19, 14], [14, 19]), ([20, 14], [14, 20]), ([21, 14], [14, 21]), ([22, 14], [14, 22]), ([14], [14]), ([24, 14], [14, 24]), ([25, 14], [14, 25]), ([26, 14], [14, 26]), ([23, 27, 14], [14, 23, 27]), ([14, 28, 11], [11, 14, 28]), ([11, 29], [11, 29])])
def impl_scan.B9 : List Nat := [0, 0, 2, 0, 0, 16, 48, 120, 0, 511, 1023, 2047, 4095, 8191, 16383, 32767, 65535, 32767, 163839, 524287, 1048575, 2097151, 4194303, 8388607, 32767, 16809983, 50364415, 117473279, 268435455, 536870911, 1073741823]
theorem impl_scan.tab9 : rtab .any (opsOf Try.f62 9) = impl_scan.T9 := by kernel_rfl
theorem impl_scan.bits9 : waitsOk impl_scan.T9.2 impl_scan.B9 = true := by kernel_rfl
set_option maxHeartbeats 8000000 in
set_option maxRecDepth 100000 in
theorem impl_scan.calls (k : Nat) : ∀ (A0_0 : Option Addr) (c0_0 : Nat) (l0_0 : List Int) (a0_1 : Bool) (a0_2 : Int) (A0_3 : Option Addr) (c0_3 : Nat) (l0_3 : List (S30)) (a1 : Int) (a2 : Int) (g : Nat) (s3_0 : Int) (r1 : Bool) (r2 : Int) (w0 w : World) (hI : IsS3 w0 w g s3_0) (hB : Below w0.heap.size w0 w) (hr0_0 : Kd.C (Kd.int .u8) w A0_0 l0_0.length l0_0) (hc0_0 : l0_0.length ≤ c0_0) (hf0_0 : ∀ ad, A0_0 = some ad → 0 < l0_0.length → ad.block ≠ g) (hr0_3 : ∀ W_, KeepBut w W_ g none → Kd.C k30 W_ A0_3 l0_3.length l0_3) (hc0_3 : l0_3.length ≤ c0_3) (h : impl_scan.f k l0_0 a0_1 a0_2 l0_3 a1 a2 s3_0 = some (r1, r2)),
  Calls Try.prog 62 #[.agg #[.slice A0_0 l0_0.length c0_0, .bool a0_1, .int .i64 a0_2, .slice A0_3 l0_3.length c0_3], .int .i64 a1, .int .i64 a2, .pointer (some ⟨g, 0, none⟩)] w fun e w' => e = .returned (.bool r1) ∧ IsS3 w0 w' g r2 ∧ Below w0.heap.size w0 w' ∧ KeepBut w w' g none := by
 induction k using Nat.strongRecOn with
 | _ k ih =>
 intro A0_0 c0_0 l0_0 a0_1 a0_2 A0_3 c0_3 l0_3 a1 a2 g s3_0 r1 r2 w0 w hI hB hr0_0 hc0_0 hf0_0 hr0_3 hc0_3 h
 cases k with
 | zero => exact absurd h (by simp [impl_scan.f])
 | succ k =>
 simp only [impl_scan.f] at h
 have hu30 := Try.underlying30
 have HR0_0 := Aside0.mk hr0_0
 have HC0_0 := Aside0.mk hc0_0
 clear hr0_0 hc0_0
 have HR0_3 := Aside0.mk hr0_3
 have HC0_3 := Aside0.mk hc0_3
 clear hr0_3 hc0_3
 have HI3 := Aside0.mk hI
 have HK := Aside0.mk (KeepBut.refl w g none)
 have HL := Aside0.mk hB.size
 clear hI
 have HW0 := Aside0.mk hB.size
 have HB := Aside0.mk hB
 clear hB
 have H : (if (wrap64 (s3_0 + 1)) > 200 then (impl_scan.j0 k a1 a2 true (wrap64 (s3_0 + 1)) l0_0 a0_1 a0_2 l0_3) else (if a1 > 24 then (impl_scan.j0 k a1 a2 true (wrap64 (s3_0 + 1)) l0_0 a0_1 a0_2 l0_3) else (if (((l0_0.length : Int) == 0) != (a1 == 0)) = true then (impl_scan.j0 k a1 a2 true (wrap64 (s3_0 + 1)) l0_0 a0_1 a0_2 l0_3) else (impl_scan.j0 k a1 a2 (decide ((wrap64 (a2 + (l0_0.length : Int))) > 20)) (wrap64 (s3_0 + 1)) l0_0 a0_1 a0_2 l0_3)))) = some (r1, r2) := h
 clear h
 have HC5 := Aside0.mk H
 clear H
 go_enter Try.func62, Try.ntmps62
 go_upto_region 2 with (first | ((with_reducible refine gate_dst (N := 4) rfl ?_); (try (refine gate_guard (by rfl) ?_; dsimp only)); refine bx_ 4 #[.slice A0_0 l0_0.length c0_0, .bool a0_1, .int .i64 a0_2, .slice A0_3 l0_3.length c0_3] 30 (h := ?_); intro gb142 hg w6 hbox hb; have BK142 := Aside0.mk (hbox); have GW142 := Aside0.mk ((by rw [hg]; exact (keep_size (w := w) (g := g) (row := none) (by repeat (first | (with_reducible first | exact HK.out | apply KeepBut.set_ | apply keep_drewN | apply keep_drew | apply keep_alloc) | exact HK.out))) : w.heap.size ≤ gb142)); have GE142 := Aside0.mk ((Nat.le_trans HW0.out (by rw [hg]; exact (keep_size (w := w) (g := g) (row := none) (by repeat (first | (with_reducible first | exact HK.out | apply KeepBut.set_ | apply keep_drewN | apply keep_drew | apply keep_alloc) | exact HK.out))) : w.heap.size ≤ gb142) : w0.heap.size ≤ gb142)); have NB3_142 := Aside0.mk ((by rw [hg]; exact Nat.ne_of_lt (IsS3.lt (show IsS3 w0 _ g s3_0 from by repeat (first | (with_reducible first | exact HI3.out | apply IsS3.alloc | apply IsS3.drewN | apply IsS3.drew | apply IsS3.set_0) | exact HI3.out))) : g ≠ gb142)); have NB142_3 := Aside0.mk ((by rw [hg]; exact Nat.ne_of_gt (IsS3.lt (show IsS3 w0 _ g s3_0 from by repeat (first | (with_reducible first | exact HI3.out | apply IsS3.alloc | apply IsS3.drewN | apply IsS3.drew | apply IsS3.set_0) | exact HI3.out))) : gb142 ≠ g)); replace HK := Aside0.mk (KeepBut.trans (by repeat (first | (with_reducible first | exact HK.out | apply KeepBut.set_ | apply keep_drewN | apply keep_drew | apply keep_alloc) | exact HK.out)) (KeepBut.of_below hb g none) (.inl rfl)); replace HB := Aside0.mk (below_step (by repeat (first | (with_reducible first | exact HB.out | apply below_alloc | apply pw_below_drewN | apply below_drew1 | refine below_set ?_ (IsS3.ge HI3.out)) | exact HB.out)) hb); replace HI3 := Aside0.mk (IsS3.below (by repeat (first | (with_reducible first | exact HI3.out | apply IsS3.alloc | apply IsS3.drewN | apply IsS3.drew | apply IsS3.set_0) | exact HI3.out)) hb); clear hb hbox hg; obtain ⟨HGz7, hgz7⟩ := HI3.out; have C7_0 := cellS3_0 HGz7; have F7_0 := blk_frozen HGz7 0; clear HGz7 hgz7))
 (try simp only [Act.put, List.setIfInBounds_toArray, List.set_cons_zero, List.set_cons_succ])
 go_cut [40] (fun v40 wc => ∃ (kq : Nat) (x40_4 : Bool), v40 = .bool x40_4 ∧ Aside0 (impl_scan.j0 kq a1 a2 x40_4 (wrap64 (s3_0 + 1)) l0_0 a0_1 a0_2 l0_3 = some (r1, r2)) ∧ Aside0 (kq ≤ k) ∧ Aside0 (wc.heap[gb142]? = some (.cells #[(.slice A0_0 l0_0.length c0_0), .bool a0_1, .int .i64 a0_2, (.slice A0_3 l0_3.length c0_3)] 30 (0, 0))) ∧ Aside0 (IsS3 w0 wc g (wrap64 (s3_0 + 1))) ∧ Aside0 (KeepBut w wc g none) ∧ Aside0 (Below w0.heap.size w0 wc))
 case first =>
  have H := HC5.out
  clear HC5
  by_cases c8 : (wrap64 (s3_0 + 1)) > 200
  ·rw [if_pos c8] at H
   have c8b0 : decide (200 < (wrap64 (s3_0 + 1))) = true := decide_eq_true c8
   clear c8
   (first | rw [c8b0] | (simp only [i64_w, i32_w]; rw [c8b0]) | skip)
   have H' := Aside0.mk H
   clear H
   obtain ⟨HGz9, hgz9⟩ := HI3.out
   have C9_0 := cellS3_0 HGz9
   have F9_0 := blk_frozen HGz9 0
   clear HGz9 hgz9
   go_wp2
   go_meet
   case rel => exact ⟨_, (true), rs_, H', ⟨by first | omega | exact Nat.le_refl _⟩, ⟨by (with_reducible repeat (first | refine blk_drewN ?_ _ | refine blk_drew ?_ | refine blk_alloc ?_ _)); refine blk_far ?_ NB142_3.out _; (with_reducible repeat (first | refine blk_drewN ?_ _ | refine blk_drew ?_ | refine blk_alloc ?_ _)); exact BK142.out⟩, ⟨by repeat (first | (with_reducible first | exact HI3.out | apply IsS3.alloc | apply IsS3.drewN | apply IsS3.drew | apply IsS3.set_0 | refine IsS3.far ?_ NB3_142.out _) | exact HI3.out)⟩, ⟨by repeat (first | (with_reducible first | exact HK.out | apply KeepBut.set_ | apply keep_drewN | apply keep_drew | apply keep_alloc | refine keep_far ?_ GW142.out _) | exact HK.out)⟩, ⟨by repeat (first | (with_reducible first | exact HB.out | apply below_alloc | apply pw_below_drewN | apply below_drew1 | refine below_set ?_ (IsS3.ge HI3.out) | refine below_set ?_ GE142.out) | exact HB.out)⟩⟩
  rw [if_neg c8] at H
  have c8b0 : decide (200 < (wrap64 (s3_0 + 1))) = false := decide_eq_false c8
  clear c8
  (first | rw [c8b0] | (simp only [i64_w, i32_w]; rw [c8b0]) | skip)
  by_cases c10 : a1 > 24
  ·rw [if_pos c10] at H
   have c10b0 : decide (24 < a1) = true := decide_eq_true c10
   clear c10
   have H' := Aside0.mk H
   clear H
   obtain ⟨HGz11, hgz11⟩ := HI3.out
   have C11_0 := cellS3_0 HGz11
   have F11_0 := blk_frozen HGz11 0
   clear HGz11 hgz11
   go_wp2
   go_meet
   case rel => exact ⟨_, (true), rs_, H', ⟨by first | omega | exact Nat.le_refl _⟩, ⟨by (with_reducible repeat (first | refine blk_drewN ?_ _ | refine blk_drew ?_ | refine blk_alloc ?_ _)); refine blk_far ?_ NB142_3.out _; (with_reducible repeat (first | refine blk_drewN ?_ _ | refine blk_drew ?_ | refine blk_alloc ?_ _)); exact BK142.out⟩, ⟨by repeat (first | (with_reducible first | exact HI3.out | apply IsS3.alloc | apply IsS3.drewN | apply IsS3.drew | apply IsS3.set_0 | refine IsS3.far ?_ NB3_142.out _) | exact HI3.out)⟩, ⟨by repeat (first | (with_reducible first | exact HK.out | apply KeepBut.set_ | apply keep_drewN | apply keep_drew | apply keep_alloc | refine keep_far ?_ GW142.out _) | exact HK.out)⟩, ⟨by repeat (first | (with_reducible first | exact HB.out | apply below_alloc | apply pw_below_drewN | apply below_drew1 | refine below_set ?_ (IsS3.ge HI3.out) | refine below_set ?_ GE142.out) | exact HB.out)⟩⟩
  rw [if_neg c10] at H
  have c10b0 : decide (24 < a1) = false := decide_eq_false c10
  clear c10
  by_cases c12 : (((l0_0.length : Int) == 0) != (a1 == 0)) = true
  ·rw [if_pos c12] at H
   have c12b0 : (((l0_0.length : Int) == 0) != (a1 == 0)) = true := c12
   (try (have c12b1 : decide (((l0_0.length : Int) == 0) = (a1 == 0)) = false := by simpa using c12))
   (try (have c12b2 : (((l0_0.length : Int) == 0) == (a1 == 0)) = false := by simpa using c12))
   (try (have c12b3 : ¬ (((l0_0.length : Int) == 0) = (a1 == 0)) := by simpa using c12))
   clear c12
   have H' := Aside0.mk H
   clear H
   obtain ⟨HGz13, hgz13⟩ := HI3.out
   have C13_0 := cellS3_0 HGz13
   have F13_0 := blk_frozen HGz13 0
   clear HGz13 hgz13
   have hnb14 := NB142_3.out
   have hnc14 := NB3_142.out
   obtain ⟨C15_0, C15_1, C15_2, C15_3, -⟩ := cells_4 BK142.out trivial
   obtain ⟨F15_0, F15_1, F15_2, F15_3, -⟩ := frz_4 BK142.out
   go_wp2
   go_meet
   case rel => exact ⟨_, (true), rs_, H', ⟨by first | omega | exact Nat.le_refl _⟩, ⟨by (with_reducible repeat (first | refine blk_drewN ?_ _ | refine blk_drew ?_ | refine blk_alloc ?_ _)); refine blk_far ?_ NB142_3.out _; (with_reducible repeat (first | refine blk_drewN ?_ _ | refine blk_drew ?_ | refine blk_alloc ?_ _)); exact BK142.out⟩, ⟨by repeat (first | (with_reducible first | exact HI3.out | apply IsS3.alloc | apply IsS3.drewN | apply IsS3.drew | apply IsS3.set_0 | refine IsS3.far ?_ NB3_142.out _) | exact HI3.out)⟩, ⟨by repeat (first | (with_reducible first | exact HK.out | apply KeepBut.set_ | apply keep_drewN | apply keep_drew | apply keep_alloc | refine keep_far ?_ GW142.out _) | exact HK.out)⟩, ⟨by repeat (first | (with_reducible first | exact HB.out | apply below_alloc | apply pw_below_drewN | apply below_drew1 | refine below_set ?_ (IsS3.ge HI3.out) | refine below_set ?_ GE142.out) | exact HB.out)⟩⟩
  rw [if_neg c12] at H
  have c12b0 : (((l0_0.length : Int) == 0) != (a1 == 0)) = false := by simpa using c12
  (try (have c12b1 : decide (((l0_0.length : Int) == 0) = (a1 == 0)) = true := by simpa using c12))
  (try (have c12b2 : (((l0_0.length : Int) == 0) == (a1 == 0)) = true := by simpa using c12))
  clear c12
  have H' := Aside0.mk H
  clear H
  obtain ⟨HGz16, hgz16⟩ := HI3.out
  have C16_0 := cellS3_0 HGz16
  have F16_0 := blk_frozen HGz16 0
  clear HGz16 hgz16
  have hnb17 := NB142_3.out
  have hnc17 := NB3_142.out
  obtain ⟨C18_0, C18_1, C18_2, C18_3, -⟩ := cells_4 BK142.out trivial
  obtain ⟨F18_0, F18_1, F18_2, F18_3, -⟩ := frz_4 BK142.out
  go_wp2
  go_meet
  case rel => exact ⟨_, (decide ((wrap64 (a2 + (l0_0.length : Int))) > 20)), rs_, H', ⟨by first | omega | exact Nat.le_refl _⟩, ⟨by (with_reducible repeat (first | refine blk_drewN ?_ _ | refine blk_drew ?_ | refine blk_alloc ?_ _)); refine blk_far ?_ NB142_3.out _; (with_reducible repeat (first | refine blk_drewN ?_ _ | refine blk_drew ?_ | refine blk_alloc ?_ _)); exact BK142.out⟩, ⟨by repeat (first | (with_reducible first | exact HI3.out | apply IsS3.alloc | apply IsS3.drewN | apply IsS3.drew | apply IsS3.set_0 | refine IsS3.far ?_ NB3_142.out _) | exact HI3.out)⟩, ⟨by repeat (first | (with_reducible first | exact HK.out | apply KeepBut.set_ | apply keep_drewN | apply keep_drew | apply keep_alloc | refine keep_far ?_ GW142.out _) | exact HK.out)⟩, ⟨by repeat (first | (with_reducible first | exact HB.out | apply below_alloc | apply pw_below_drewN | apply below_drew1 | refine below_set ?_ (IsS3.ge HI3.out) | refine below_set ?_ GE142.out) | exact HB.out)⟩⟩
 case rest =>
  clear HC5
  try clear c1; try clear p2; try clear c6; try clear p6; try clear c8; try clear c8b0; try clear c10; try clear c10b0; try clear c12; try clear c12b0; try clear c12b1; try clear c12b2; try clear c14; try clear c17; try clear C11_0; try clear C13_0; try clear C15_0 C15_1 C15_2 C15_3; try clear C16_0; try clear C18_0 C18_1 C18_2 C18_3; try clear C7_0; try clear C9_0; try clear F11_0; try clear F13_0; try clear F15_0 F15_1 F15_2 F15_3; try clear F16_0; try clear F18_0 F18_1 F18_2 F18_3; try clear F7_0; try clear F9_0
  obtain ⟨kq, x40_4, rfl, HA, HJ4, BK142, HI3, HK, HB⟩ := hcut
  cases kq with
  | zero => exact absurd HA.out (by simp [impl_scan.j0])
  | succ kj4 =>
   have H := HA.out
   clear HA
   simp only [impl_scan.j0] at H
   by_cases c19 : x40_4 = true
   ·subst c19
    have H1 : (some (false, (wrap64 (s3_0 + 1)))) = some (r1, r2) := by rw [if_pos rfl] at H; exact H
    clear H
    have H := H1
    clear H1
    simp only [Option.some.injEq, Prod.mk.injEq] at H
    obtain ⟨rfl, rfl⟩ := H
    go_wp2
    go_ret
    exact ⟨rz_, by repeat (first | (with_reducible first | exact HI3.out | apply IsS3.alloc | apply IsS3.drewN | apply IsS3.drew | apply IsS3.set_0 | refine IsS3.far ?_ NB3_142.out _) | exact HI3.out), by repeat (first | (with_reducible first | exact HB.out | apply below_alloc | apply pw_below_drewN | apply below_drew1 | refine below_set ?_ (IsS3.ge HI3.out) | refine below_set ?_ GE142.out) | exact HB.out), by repeat (first | (with_reducible first | exact HK.out | apply KeepBut.set_ | apply keep_drewN | apply keep_drew | apply keep_alloc | refine keep_far ?_ GW142.out _) | exact HK.out)⟩
   replace c19 := Bool.eq_false_iff.mpr c19
   subst c19
   have H1 : (if a0_1 = true then ((impl_within.f a0_2 0 2147483647).bind fun t143 => (if t143 = true then (impl_scan.j1 kj4 a1 a2 false (wrap64 (s3_0 + 1)) l0_0 a0_1 a0_2 l0_3) else (impl_scan.j1 kj4 a1 a2 true (wrap64 (s3_0 + 1)) l0_0 a0_1 a0_2 l0_3))) else (if a0_2 = 0 then (if a1 > 0 then (impl_scan.j1 kj4 a1 a2 (decide ((l0_3.length : Int) < 2)) (wrap64 (s3_0 + 1)) l0_0 a0_1 a0_2 l0_3) else (impl_scan.j1 kj4 a1 a2 false (wrap64 (s3_0 + 1)) l0_0 a0_1 a0_2 l0_3)) else (impl_scan.j1 kj4 a1 a2 true (wrap64 (s3_0 + 1)) l0_0 a0_1 a0_2 l0_3))) = some (r1, r2) := by rw [if_neg (show ¬ (false = true) by decide)] at H; exact H
   clear H
   have H := H1
   clear H1
   have HC20 := Aside0.mk H
   clear H
   go_upto_region 4 with (fail)
   go_cut [68] (fun v68 wc => ∃ (kq : Nat) (x68_19 : Bool), v68 = .bool x68_19 ∧ Aside0 (impl_scan.j1 kq a1 a2 x68_19 (wrap64 (s3_0 + 1)) l0_0 a0_1 a0_2 l0_3 = some (r1, r2)) ∧ Aside0 (kq ≤ kj4) ∧ Aside0 (wc.heap[gb142]? = some (.cells #[(.slice A0_0 l0_0.length c0_0), .bool a0_1, .int .i64 a0_2, (.slice A0_3 l0_3.length c0_3)] 30 (0, 0))) ∧ Aside0 (IsS3 w0 wc g (wrap64 (s3_0 + 1))) ∧ Aside0 (KeepBut w wc g none) ∧ Aside0 (Below w0.heap.size w0 wc))
   case first =>
    have H := HC20.out
    clear HC20
    by_cases c21 : a0_1 = true
    ·subst c21
     have H1 : ((impl_within.f a0_2 0 2147483647).bind fun t143 => (if t143 = true then (impl_scan.j1 kj4 a1 a2 false (wrap64 (s3_0 + 1)) l0_0 true a0_2 l0_3) else (impl_scan.j1 kj4 a1 a2 true (wrap64 (s3_0 + 1)) l0_0 true a0_2 l0_3))) = some (r1, r2) := by rw [if_pos rfl] at H; exact H
     clear H
     have H := H1
     clear H1
     replace H := Option.bind_eq_some_iff.mp H
     obtain ⟨t143, A220, H⟩ := H
     replace H : (if t143 = true then (impl_scan.j1 kj4 a1 a2 false (wrap64 (s3_0 + 1)) l0_0 true a0_2 l0_3) else (impl_scan.j1 kj4 a1 a2 true (wrap64 (s3_0 + 1)) l0_0 true a0_2 l0_3)) = some (r1, r2) := H
     have A22 := Aside0.mk A220
     clear A220
     by_cases c23 : t143 = true
     ·subst c23
      have H1 : (impl_scan.j1 kj4 a1 a2 false (wrap64 (s3_0 + 1)) l0_0 true a0_2 l0_3) = some (r1, r2) := by rw [if_pos rfl] at H; exact H
      clear H
      have H := H1
      clear H1
      have H' := Aside0.mk H
      clear H
      have hnb24 := NB142_3.out
      have hnc24 := NB3_142.out
      obtain ⟨C25_0, C25_1, C25_2, C25_3, -⟩ := cells_4 BK142.out trivial
      obtain ⟨F25_0, F25_1, F25_2, F25_3, -⟩ := frz_4 BK142.out
      go_wp2_with (first | (go_at_call 105; (with_reducible refine (impl_within.calls a0_2 0 2147483647 true _ A22.out).mono ?_); rintro e w' ⟨rfl, ⟨nd, rfl⟩⟩))
      go_meet
      case rel => exact ⟨_, (false), rs_, H', ⟨by have := HJ4.out; first | omega | exact Nat.le_refl _⟩, ⟨bkp BK142⟩, ⟨by repeat (first | (with_reducible first | exact HI3.out | apply IsS3.alloc | apply IsS3.drewN | apply IsS3.drew | apply IsS3.set_0 | refine IsS3.far ?_ NB3_142.out _) | exact HI3.out)⟩, ⟨by repeat (first | (with_reducible first | exact HK.out | apply KeepBut.set_ | apply keep_drewN | apply keep_drew | apply keep_alloc | refine keep_far ?_ GW142.out _) | exact HK.out)⟩, ⟨by repeat (first | (with_reducible first | exact HB.out | apply below_alloc | apply pw_below_drewN | apply below_drew1 | refine below_set ?_ (IsS3.ge HI3.out) | refine below_set ?_ GE142.out) | exact HB.out)⟩⟩
     replace c23 := Bool.eq_false_iff.mpr c23
     subst c23
     have H1 : (impl_scan.j1 kj4 a1 a2 true (wrap64 (s3_0 + 1)) l0_0 true a0_2 l0_3) = some (r1, r2) := by rw [if_neg (show ¬ (false = true) by decide)] at H; exact H
     clear H
     have H := H1
     clear H1
     have H' := Aside0.mk H
     clear H
     have hnb26 := NB142_3.out
     have hnc26 := NB3_142.out
     obtain ⟨C27_0, C27_1, C27_2, C27_3, -⟩ := cells_4 BK142.out trivial
     obtain ⟨F27_0, F27_1, F27_2, F27_3, -⟩ := frz_4 BK142.out
     go_wp2_with (first | (go_at_call 105; (with_reducible refine (impl_within.calls a0_2 0 2147483647 false _ A22.out).mono ?_); rintro e w' ⟨rfl, ⟨nd, rfl⟩⟩))
     go_meet
     case rel => exact ⟨_, (true), rs_, H', ⟨by have := HJ4.out; first | omega | exact Nat.le_refl _⟩, ⟨bkp BK142⟩, ⟨by repeat (first | (with_reducible first | exact HI3.out | apply IsS3.alloc | apply IsS3.drewN | apply IsS3.drew | apply IsS3.set_0 | refine IsS3.far ?_ NB3_142.out _) | exact HI3.out)⟩, ⟨by repeat (first | (with_reducible first | exact HK.out | apply KeepBut.set_ | apply keep_drewN | apply keep_drew | apply keep_alloc | refine keep_far ?_ GW142.out _) | exact HK.out)⟩, ⟨by repeat (first | (with_reducible first | exact HB.out | apply below_alloc | apply pw_below_drewN | apply below_drew1 | refine below_set ?_ (IsS3.ge HI3.out) | refine below_set ?_ GE142.out) | exact HB.out)⟩⟩
    replace c21 := Bool.eq_false_iff.mpr c21
    subst c21
    have H1 : (if a0_2 = 0 then (if a1 > 0 then (impl_scan.j1 kj4 a1 a2 (decide ((l0_3.length : Int) < 2)) (wrap64 (s3_0 + 1)) l0_0 false a0_2 l0_3) else (impl_scan.j1 kj4 a1 a2 false (wrap64 (s3_0 + 1)) l0_0 false a0_2 l0_3)) else (impl_scan.j1 kj4 a1 a2 true (wrap64 (s3_0 + 1)) l0_0 false a0_2 l0_3)) = some (r1, r2) := by rw [if_neg (show ¬ (false = true) by decide)] at H; exact H
    clear H
    have H := H1
    clear H1
    by_cases c28 : a0_2 = 0
    ·rw [if_pos c28] at H
     have c28b0 : (a0_2 == 0) = true := beq_iff_eq.mpr c28
     have c28b1 : (a0_2 != 0) = false := bne_eq_false_iff_eq.mpr c28
     clear c28
     (first | rw [c28b0] | (simp only [i64_w, i32_w]; rw [c28b0]) | skip)
     by_cases c29 : a1 > 0
     ·rw [if_pos c29] at H
      have c29b0 : decide (0 < a1) = true := decide_eq_true c29
      clear c29
      have H' := Aside0.mk H
      clear H
      have hnb30 := NB142_3.out
      have hnc30 := NB3_142.out
      obtain ⟨C31_0, C31_1, C31_2, C31_3, -⟩ := cells_4 BK142.out trivial
      obtain ⟨F31_0, F31_1, F31_2, F31_3, -⟩ := frz_4 BK142.out
      go_wp2
      go_meet
      case rel => exact ⟨_, (decide ((l0_3.length : Int) < 2)), rs_, H', ⟨by have := HJ4.out; first | omega | exact Nat.le_refl _⟩, ⟨bkp BK142⟩, ⟨by repeat (first | (with_reducible first | exact HI3.out | apply IsS3.alloc | apply IsS3.drewN | apply IsS3.drew | apply IsS3.set_0 | refine IsS3.far ?_ NB3_142.out _) | exact HI3.out)⟩, ⟨by repeat (first | (with_reducible first | exact HK.out | apply KeepBut.set_ | apply keep_drewN | apply keep_drew | apply keep_alloc | refine keep_far ?_ GW142.out _) | exact HK.out)⟩, ⟨by repeat (first | (with_reducible first | exact HB.out | apply below_alloc | apply pw_below_drewN | apply below_drew1 | refine below_set ?_ (IsS3.ge HI3.out) | refine below_set ?_ GE142.out) | exact HB.out)⟩⟩
     rw [if_neg c29] at H
     have c29b0 : decide (0 < a1) = false := decide_eq_false c29
     clear c29
     have H' := Aside0.mk H
     clear H
     have hnb32 := NB142_3.out
     have hnc32 := NB3_142.out
     obtain ⟨C33_0, C33_1, C33_2, C33_3, -⟩ := cells_4 BK142.out trivial
     obtain ⟨F33_0, F33_1, F33_2, F33_3, -⟩ := frz_4 BK142.out
     go_wp2
     go_meet
     case rel => exact ⟨_, (false), rs_, H', ⟨by have := HJ4.out; first | omega | exact Nat.le_refl _⟩, ⟨bkp BK142⟩, ⟨by repeat (first | (with_reducible first | exact HI3.out | apply IsS3.alloc | apply IsS3.drewN | apply IsS3.drew | apply IsS3.set_0 | refine IsS3.far ?_ NB3_142.out _) | exact HI3.out)⟩, ⟨by repeat (first | (with_reducible first | exact HK.out | apply KeepBut.set_ | apply keep_drewN | apply keep_drew | apply keep_alloc | refine keep_far ?_ GW142.out _) | exact HK.out)⟩, ⟨by repeat (first | (with_reducible first | exact HB.out | apply below_alloc | apply pw_below_drewN | apply below_drew1 | refine below_set ?_ (IsS3.ge HI3.out) | refine below_set ?_ GE142.out) | exact HB.out)⟩⟩
    rw [if_neg c28] at H
    have c28b0 : (a0_2 == 0) = false := beq_eq_false_iff_ne.mpr c28
    have c28b1 : (a0_2 != 0) = true := bne_iff_ne.mpr c28
    (first | rw [c28b0] | (simp only [i64_w, i32_w]; rw [c28b0]) | skip)
    have H' := Aside0.mk H
    clear H
    have hnb34 := NB142_3.out
    have hnc34 := NB3_142.out
    obtain ⟨C35_0, C35_1, C35_2, C35_3, -⟩ := cells_4 BK142.out trivial
    obtain ⟨F35_0, F35_1, F35_2, F35_3, -⟩ := frz_4 BK142.out
    go_wp2
    go_meet
    case rel => exact ⟨_, (true), rs_, H', ⟨by have := HJ4.out; first | omega | exact Nat.le_refl _⟩, ⟨bkp BK142⟩, ⟨by repeat (first | (with_reducible first | exact HI3.out | apply IsS3.alloc | apply IsS3.drewN | apply IsS3.drew | apply IsS3.set_0 | refine IsS3.far ?_ NB3_142.out _) | exact HI3.out)⟩, ⟨by repeat (first | (with_reducible first | exact HK.out | apply KeepBut.set_ | apply keep_drewN | apply keep_drew | apply keep_alloc | refine keep_far ?_ GW142.out _) | exact HK.out)⟩, ⟨by repeat (first | (with_reducible first | exact HB.out | apply below_alloc | apply pw_below_drewN | apply below_drew1 | refine below_set ?_ (IsS3.ge HI3.out) | refine below_set ?_ GE142.out) | exact HB.out)⟩⟩
   case rest =>
    clear HC20
    try clear c1; try clear c2; try clear p2; try clear c3; try clear c6; try clear p6; try clear c8; try clear c8b0; try clear c10; try clear c10b0; try clear c12; try clear c12b0; try clear c12b1; try clear c12b2; try clear c14; try clear c17; try clear c19; try clear c21; try clear c23; try clear c24; try clear c26; try clear c28; try clear c28b0; try clear c28b1; try clear c29; try clear c29b0; try clear c30; try clear c32; try clear c34; try clear C11_0; try clear C13_0; try clear C15_0 C15_1 C15_2 C15_3; try clear C16_0; try clear C18_0 C18_1 C18_2 C18_3; try clear C25_0 C25_1 C25_2 C25_3; try clear C27_0 C27_1 C27_2 C27_3; try clear C31_0 C31_1 C31_2 C31_3; try clear C33_0 C33_1 C33_2 C33_3; try clear C35_0 C35_1 C35_2 C35_3; try clear C7_0; try clear C9_0; try clear F11_0; try clear F13_0; try clear F15_0 F15_1 F15_2 F15_3; try clear F16_0; try clear F18_0 F18_1 F18_2 F18_3; try clear F25_0 F25_1 F25_2 F25_3; try clear F27_0 F27_1 F27_2 F27_3; try clear F31_0 F31_1 F31_2 F31_3; try clear F33_0 F33_1 F33_2 F33_3; try clear F35_0 F35_1 F35_2 F35_3; try clear F7_0; try clear F9_0; try clear p2; try clear p6
    obtain ⟨kq, x68_19, rfl, HA, HJ19, BK142, HI3, HK, HB⟩ := hcut
    cases kq with
    | zero => exact absurd HA.out (by simp [impl_scan.j1])
    | succ kj19 =>
     have H := HA.out
     clear HA
     simp only [impl_scan.j1] at H
     by_cases c36 : x68_19 = true
     ·subst c36
      have H1 : (some (false, (wrap64 (s3_0 + 1)))) = some (r1, r2) := by rw [if_pos rfl] at H; exact H
      clear H
      have H := H1
      clear H1
      simp only [Option.some.injEq, Prod.mk.injEq] at H
      obtain ⟨rfl, rfl⟩ := H
      go_wp2
      go_ret
      exact ⟨rz_, by repeat (first | (with_reducible first | exact HI3.out | apply IsS3.alloc | apply IsS3.drewN | apply IsS3.drew | apply IsS3.set_0 | refine IsS3.far ?_ NB3_142.out _) | exact HI3.out), by repeat (first | (with_reducible first | exact HB.out | apply below_alloc | apply pw_below_drewN | apply below_drew1 | refine below_set ?_ (IsS3.ge HI3.out) | refine below_set ?_ GE142.out) | exact HB.out), by repeat (first | (with_reducible first | exact HK.out | apply KeepBut.set_ | apply keep_drewN | apply keep_drew | apply keep_alloc | refine keep_far ?_ GW142.out _) | exact HK.out)⟩
     replace c36 := Bool.eq_false_iff.mpr c36
     subst c36
     have H1 : (impl_scan.l0 kj19 a1 a2 l0_3 (l0_3.length : Int) 0 (wrap64 (s3_0 + 1)) l0_0 a0_1 a0_2 l0_3) = some (r1, r2) := by rw [if_neg (show ¬ (false = true) by decide)] at H; exact H
     clear H
     have H := H1
     clear H1
     have H' := Aside0.mk H
     clear H
     have hnb37 := NB142_3.out
     have hnc37 := NB3_142.out
     obtain ⟨C38_0, C38_1, C38_2, C38_3, -⟩ := cells_4 BK142.out trivial
     obtain ⟨F38_0, F38_1, F38_2, F38_3, -⟩ := frz_4 BK142.out
     go_wp2
     go_loopg [72] kj19 (fun kq v72 w' => ∃ (x72_3 : Int) (x4000_3 : Int), v72 = .int .i64 x72_3 ∧ Aside0 (impl_scan.l0 kq a1 a2 l0_3 (l0_3.length : Int) x72_3 x4000_3 l0_0 a0_1 a0_2 l0_3 = some (r1, r2)) ∧ Aside0 (kq ≤ kj19) ∧ Aside0 (w'.heap[gb142]? = some (.cells #[(.slice A0_0 l0_0.length c0_0), .bool a0_1, .int .i64 a0_2, (.slice A0_3 l0_3.length c0_3)] 30 (0, 0))) ∧ Aside0 (IsS3 w0 w' g x4000_3) ∧ Aside0 (KeepBut w w' g none) ∧ Aside0 (Below w0.heap.size w0 w'))
     case atStart => exact ⟨(0), ((wrap64 (s3_0 + 1))), rs_, H', ⟨Nat.le_refl _⟩, ⟨bkp BK142⟩, ⟨by repeat (first | (with_reducible first | exact HI3.out | apply IsS3.alloc | apply IsS3.drewN | apply IsS3.drew | apply IsS3.set_0 | refine IsS3.far ?_ NB3_142.out _) | exact HI3.out)⟩, ⟨by repeat (first | (with_reducible first | exact HK.out | apply KeepBut.set_ | apply keep_drewN | apply keep_drew | apply keep_alloc | refine keep_far ?_ GW142.out _) | exact HK.out)⟩, ⟨by repeat (first | (with_reducible first | exact HB.out | apply below_alloc | apply pw_below_drewN | apply below_drew1 | refine below_set ?_ (IsS3.ge HI3.out) | refine below_set ?_ GE142.out) | exact HB.out)⟩⟩
     case round =>
      clear H'
      try clear c1; try clear c2; try clear p2; try clear c3; try clear c6; try clear p6; try clear c8; try clear c8b0; try clear c10; try clear c10b0; try clear c12; try clear c12b0; try clear c12b1; try clear c12b2; try clear c14; try clear c17; try clear c19; try clear c21; try clear c23; try clear c24; try clear c26; try clear c28; try clear c28b0; try clear c28b1; try clear c29; try clear c29b0; try clear c30; try clear c32; try clear c34; try clear c36; try clear c37; try clear C11_0; try clear C13_0; try clear C15_0 C15_1 C15_2 C15_3; try clear C16_0; try clear C18_0 C18_1 C18_2 C18_3; try clear C25_0 C25_1 C25_2 C25_3; try clear C27_0 C27_1 C27_2 C27_3; try clear C31_0 C31_1 C31_2 C31_3; try clear C33_0 C33_1 C33_2 C33_3; try clear C35_0 C35_1 C35_2 C35_3; try clear C38_0 C38_1 C38_2 C38_3; try clear C7_0; try clear C9_0; try clear F11_0; try clear F13_0; try clear F15_0 F15_1 F15_2 F15_3; try clear F16_0; try clear F18_0 F18_1 F18_2 F18_3; try clear F25_0 F25_1 F25_2 F25_3; try clear F27_0 F27_1 F27_2 F27_3; try clear F31_0 F31_1 F31_2 F31_3; try clear F33_0 F33_1 F33_2 F33_3; try clear F35_0 F35_1 F35_2 F35_3; try clear F38_0 F38_1 F38_2 F38_3; try clear F7_0; try clear F9_0; try clear p2; try clear p6
      obtain ⟨x72_3, x4000_3, rfl, HA, HK3, BK142, HI3, HK, HB⟩ := hrel
      cases gk with
      | zero => exact absurd HA.out (by simp [impl_scan.l0])
      | succ k3 =>
       have H := HA.out
       clear HA
       simp only [impl_scan.l0] at H
       by_cases c39 : x72_3 < (l0_3.length : Int)
       ·rw [if_pos c39] at H
        have c39b0 : decide (x72_3 < (l0_3.length : Int)) = true := decide_eq_true c39
        clear c39
        by_cases c40 : 0 ≤ x72_3
        ·rw [if_pos c40] at H
         have c40b0 : decide (0 ≤ x72_3) = true := decide_eq_true c40
         clear c40
         by_cases c41 : x72_3 < (l0_3.length : Int)
         ·rw [if_pos c41] at H
          have c41b0 : decide (x72_3 < (l0_3.length : Int)) = true := decide_eq_true c41
          clear c41
          replace H := Option.bind_eq_some_iff.mp H
          obtain ⟨⟨t146, t147⟩, A420, H⟩ := H
          replace H : (if t146 = true then (if x72_3 > 0 then (if 0 ≤ (wrap64 (x72_3 - 1)) then (if (wrap64 (x72_3 - 1)) < (l0_3.length : Int) then (if 0 < (((rd_T30 l0_3 (wrap64 (x72_3 - 1))).f0).length : Int) then (if 0 < (((rd_T30 l0_3 x72_3).f0).length : Int) then (if (rd ((rd_T30 l0_3 (wrap64 (x72_3 - 1))).f0) 0) ≥ (rd ((rd_T30 l0_3 x72_3).f0) 0) then (some (false, t147)) else (impl_scan.l0 k3 a1 a2 l0_3 (l0_3.length : Int) (wrap64 (x72_3 + 1)) t147 l0_0 a0_1 a0_2 l0_3)) else (none)) else (none)) else (none)) else (none)) else (impl_scan.l0 k3 a1 a2 l0_3 (l0_3.length : Int) (wrap64 (x72_3 + 1)) t147 l0_0 a0_1 a0_2 l0_3)) else (some (false, t147))) = some (r1, r2) := H
          have A42 := Aside0.mk A420
          clear A420
          by_cases c43 : t146 = true
          ·subst c43
           have H1 : (if x72_3 > 0 then (if 0 ≤ (wrap64 (x72_3 - 1)) then (if (wrap64 (x72_3 - 1)) < (l0_3.length : Int) then (if 0 < (((rd_T30 l0_3 (wrap64 (x72_3 - 1))).f0).length : Int) then (if 0 < (((rd_T30 l0_3 x72_3).f0).length : Int) then (if (rd ((rd_T30 l0_3 (wrap64 (x72_3 - 1))).f0) 0) ≥ (rd ((rd_T30 l0_3 x72_3).f0) 0) then (some (false, t147)) else (impl_scan.l0 k3 a1 a2 l0_3 (l0_3.length : Int) (wrap64 (x72_3 + 1)) t147 l0_0 a0_1 a0_2 l0_3)) else (none)) else (none)) else (none)) else (none)) else (impl_scan.l0 k3 a1 a2 l0_3 (l0_3.length : Int) (wrap64 (x72_3 + 1)) t147 l0_0 a0_1 a0_2 l0_3)) = some (r1, r2) := by rw [if_pos rfl] at H; exact H
           clear H
           have H := H1
           clear H1
           by_cases c44 : x72_3 > 0
           ·rw [if_pos c44] at H
            have c44b0 : decide (0 < x72_3) = true := decide_eq_true c44
            clear c44
            obtain ⟨ji45, hji45⟩ : ∃ j_ : Int, (wrap64 (x72_3 - 1)) = j_ := ⟨_, rfl⟩
            replace H : (if 0 ≤ (ji45) then (if (ji45) < (l0_3.length : Int) then (if 0 < (((rd_T30 l0_3 (ji45)).f0).length : Int) then (if 0 < (((rd_T30 l0_3 x72_3).f0).length : Int) then (if (rd ((rd_T30 l0_3 (ji45)).f0) 0) ≥ (rd ((rd_T30 l0_3 x72_3).f0) 0) then (some (false, t147)) else (impl_scan.l0 k3 a1 a2 l0_3 (l0_3.length : Int) (wrap64 (x72_3 + 1)) t147 l0_0 a0_1 a0_2 l0_3)) else (none)) else (none)) else (none)) else (none)) = some (r1, r2) := by first | (rw [hji45] at H; exact H) | (simp only [hji45] at H ⊢; exact H)
            (try rw [hji45] at A42)
            have hji45w : (IntKind.i64.wrap (x72_3 - 1)) = ji45 := (i64_w _).trans hji45
            by_cases c46 : 0 ≤ (ji45)
            ·rw [if_pos c46] at H
             have c46b0 : decide (0 ≤ (ji45)) = true := decide_eq_true c46
             clear c46
             by_cases c47 : (ji45) < (l0_3.length : Int)
             ·rw [if_pos c47] at H
              have c47b0 : decide ((ji45) < (l0_3.length : Int)) = true := decide_eq_true c47
              clear c47
              by_cases c48 : 0 < (((rd_T30 l0_3 (ji45)).f0).length : Int)
              ·rw [if_pos c48] at H
               have c48b0 : decide (0 < (((rd_T30 l0_3 (ji45)).f0).length : Int)) = true := decide_eq_true c48
               have c48b1 : decide (0 < ((rd_T30 l0_3 (ji45)).f0).length) = true := decide_eq_true (by omega)
               clear c48
               by_cases c49 : 0 < (((rd_T30 l0_3 x72_3).f0).length : Int)
               ·rw [if_pos c49] at H
                have c49b0 : decide (0 < (((rd_T30 l0_3 x72_3).f0).length : Int)) = true := decide_eq_true c49
                have c49b1 : decide (0 < ((rd_T30 l0_3 x72_3).f0).length) = true := decide_eq_true (by omega)
                clear c49
                by_cases c50 : (rd ((rd_T30 l0_3 (ji45)).f0) 0) ≥ (rd ((rd_T30 l0_3 x72_3).f0) 0)
                ·rw [if_pos c50] at H
                 have c50b0 : decide ((rd ((rd_T30 l0_3 x72_3).f0) 0) ≤ (rd ((rd_T30 l0_3 (ji45)).f0) 0)) = true := decide_eq_true c50
                 clear c50
                 simp only [Option.some.injEq, Prod.mk.injEq] at H
                 obtain ⟨rfl, rfl⟩ := H
                 have p144 : 0 ≤ (x72_3 : Int) := od
                 have q144 : x72_3 < (l0_3.length : Int) := od
                 obtain ⟨ad144, A144_0, c144_0, A144_3, c144_3, e144, hx144_0, hx144_1, hx144_2, hx144_3, hl144_0, hi144_0, hl144_3, hi144_3⟩ := atF_T30 HK.out HR0_3.out x72_3 p144 q144
                 cases e144
                 have HR144_0 := Aside0.mk hi144_0
                 have HC144_0 := Aside0.mk hl144_0
                 clear hi144_0 hl144_0
                 have HR144_3 := Aside0.mk hi144_3
                 have HC144_3 := Aside0.mk hl144_3
                 clear hi144_3 hl144_3
                 replace p144 := eq_true p144
                 replace q144 := eq_true q144
                 try go_wp2_with (first | ((with_reducible refine gate_dst (N := 10) rfl ?_); (try (refine gate_guard (by rfl) ?_; dsimp only)); refine bx_ 10 #[.slice none 0 0, .bool false, .int .i64 0, .slice none 0 0] 30 (h := ?_); intro gb145 hg w51 hbox hb; have BK145 := Aside0.mk (hbox); have GW145 := Aside0.mk ((by rw [hg]; exact (keep_size (w := w) (g := g) (row := none) (by repeat (first | (with_reducible first | exact HK.out | apply KeepBut.set_ | apply keep_drewN | apply keep_drew | apply keep_alloc | refine keep_far ?_ GW142.out _) | exact HK.out))) : w.heap.size ≤ gb145)); have GE145 := Aside0.mk ((Nat.le_trans HW0.out (by rw [hg]; exact (keep_size (w := w) (g := g) (row := none) (by repeat (first | (with_reducible first | exact HK.out | apply KeepBut.set_ | apply keep_drewN | apply keep_drew | apply keep_alloc | refine keep_far ?_ GW142.out _) | exact HK.out))) : w.heap.size ≤ gb145) : w0.heap.size ≤ gb145)); have NB142_145 := Aside0.mk ((by rw [hg]; exact Nat.ne_of_lt (blt BK142) : gb142 ≠ gb145)); have NB145_142 := Aside0.mk NB142_145.out.symm; have NB3_145 := Aside0.mk ((by rw [hg]; exact Nat.ne_of_lt (IsS3.lt (show IsS3 w0 _ g x4000_3 from by repeat (first | (with_reducible first | exact HI3.out | apply IsS3.alloc | apply IsS3.drewN | apply IsS3.drew | apply IsS3.set_0 | refine IsS3.far ?_ NB3_142.out _) | exact HI3.out))) : g ≠ gb145)); have NB145_3 := Aside0.mk ((by rw [hg]; exact Nat.ne_of_gt (IsS3.lt (show IsS3 w0 _ g x4000_3 from by repeat (first | (with_reducible first | exact HI3.out | apply IsS3.alloc | apply IsS3.drewN | apply IsS3.drew | apply IsS3.set_0 | refine IsS3.far ?_ NB3_142.out _) | exact HI3.out))) : gb145 ≠ g)); replace BK142 := Aside0.mk (blb BK142 hb); replace HK := Aside0.mk (KeepBut.trans (by repeat (first | (with_reducible first | exact HK.out | apply KeepBut.set_ | apply keep_drewN | apply keep_drew | apply keep_alloc | refine keep_far ?_ GW142.out _) | exact HK.out)) (KeepBut.of_below hb g none) (.inl rfl)); replace HB := Aside0.mk (below_step (by repeat (first | (with_reducible first | exact HB.out | apply below_alloc | apply pw_below_drewN | apply below_drew1 | refine below_set ?_ (IsS3.ge HI3.out) | refine below_set ?_ GE142.out) | exact HB.out)) hb); replace HI3 := Aside0.mk (IsS3.below (by repeat (first | (with_reducible first | exact HI3.out | apply IsS3.alloc | apply IsS3.drewN | apply IsS3.drew | apply IsS3.set_0 | refine IsS3.far ?_ NB3_142.out _) | exact HI3.out)) hb); clear hb hbox hg; have hnb52 := NB145_142.out; have hnc52 := NB142_145.out; have hnb53 := NB145_3.out; have hnc53 := NB3_145.out; obtain ⟨C54_0, C54_1, C54_2, C54_3, -⟩ := cells_4 BK145.out trivial; obtain ⟨F54_0, F54_1, F54_2, F54_3, -⟩ := frz_4 BK145.out))
                 have n0_ : Aside0 (((((w51.setCell ⟨gb145, 0, none⟩ (.slice A144_0 ((rd_T30 l0_3 x72_3).f0).length c144_0)).setCell ⟨gb145, 1, none⟩ (.bool ((rd_T30 l0_3 x72_3).f1))).setCell ⟨gb145, 2, none⟩ (.int .i64 ((rd_T30 l0_3 x72_3).f2))).setCell ⟨gb145, 3, none⟩ (.slice A144_3 ((rd_T30 l0_3 x72_3).f3).length c144_3)).heap[gb142]? = some (.cells #[.slice A0_0 l0_0.length c0_0, .bool a0_1, .int .i64 a0_2, .slice (some ad144) l0_3.length c0_3] 30 (0, 0))) := ⟨by (with_reducible repeat (first | refine blk_drewN ?_ _ | refine blk_drew ?_ | refine blk_alloc ?_ _)); refine blk_far ?_ NB142_145.out _; (with_reducible repeat (first | refine blk_drewN ?_ _ | refine blk_drew ?_ | refine blk_alloc ?_ _)); refine blk_far ?_ NB142_145.out _; (with_reducible repeat (first | refine blk_drewN ?_ _ | refine blk_drew ?_ | refine blk_alloc ?_ _)); refine blk_far ?_ NB142_145.out _; (with_reducible repeat (first | refine blk_drewN ?_ _ | refine blk_drew ?_ | refine blk_alloc ?_ _)); refine blk_far ?_ NB142_145.out _; (with_reducible repeat (first | refine blk_drewN ?_ _ | refine blk_drew ?_ | refine blk_alloc ?_ _)); exact BK142.out⟩
                 have n1_ : Aside0 (((((w51.setCell ⟨gb145, 0, none⟩ (.slice A144_0 ((rd_T30 l0_3 x72_3).f0).length c144_0)).setCell ⟨gb145, 1, none⟩ (.bool ((rd_T30 l0_3 x72_3).f1))).setCell ⟨gb145, 2, none⟩ (.int .i64 ((rd_T30 l0_3 x72_3).f2))).setCell ⟨gb145, 3, none⟩ (.slice A144_3 ((rd_T30 l0_3 x72_3).f3).length c144_3)).heap[gb145]? = some (.cells #[.slice A144_0 ((rd_T30 l0_3 x72_3).f0).length c144_0, .bool ((rd_T30 l0_3 x72_3).f1), .int .i64 ((rd_T30 l0_3 x72_3).f2), .slice A144_3 ((rd_T30 l0_3 x72_3).f3).length c144_3] 30 (0, 0))) := ⟨by (with_reducible repeat (first | refine blk_drewN ?_ _ | refine blk_drew ?_ | refine blk_alloc ?_ _)); refine blk_put (cs := #[.slice A144_0 ((rd_T30 l0_3 x72_3).f0).length c144_0, .bool ((rd_T30 l0_3 x72_3).f1), .int .i64 ((rd_T30 l0_3 x72_3).f2), .slice none 0 0]) ?_ 3 _ rfl; (with_reducible repeat (first | refine blk_drewN ?_ _ | refine blk_drew ?_ | refine blk_alloc ?_ _)); refine blk_put (cs := #[.slice A144_0 ((rd_T30 l0_3 x72_3).f0).length c144_0, .bool ((rd_T30 l0_3 x72_3).f1), .int .i64 0, .slice none 0 0]) ?_ 2 _ rfl; (with_reducible repeat (first | refine blk_drewN ?_ _ | refine blk_drew ?_ | refine blk_alloc ?_ _)); refine blk_put (cs := #[.slice A144_0 ((rd_T30 l0_3 x72_3).f0).length c144_0, .bool false, .int .i64 0, .slice none 0 0]) ?_ 1 _ rfl; (with_reducible repeat (first | refine blk_drewN ?_ _ | refine blk_drew ?_ | refine blk_alloc ?_ _)); refine blk_put (cs := #[.slice none 0 0, .bool false, .int .i64 0, .slice none 0 0]) ?_ 0 _ rfl; (with_reducible repeat (first | refine blk_drewN ?_ _ | refine blk_drew ?_ | refine blk_alloc ?_ _)); exact BK145.out⟩
                 have n2_ : Aside0 (IsS3 w0 ((((w51.setCell ⟨gb145, 0, none⟩ (.slice A144_0 ((rd_T30 l0_3 x72_3).f0).length c144_0)).setCell ⟨gb145, 1, none⟩ (.bool ((rd_T30 l0_3 x72_3).f1))).setCell ⟨gb145, 2, none⟩ (.int .i64 ((rd_T30 l0_3 x72_3).f2))).setCell ⟨gb145, 3, none⟩ (.slice A144_3 ((rd_T30 l0_3 x72_3).f3).length c144_3)) g x4000_3) := ⟨by repeat (first | (with_reducible first | exact HI3.out | apply IsS3.alloc | apply IsS3.drewN | apply IsS3.drew | apply IsS3.set_0 | refine IsS3.far ?_ NB3_142.out _ | refine IsS3.far ?_ NB3_145.out _) | exact HI3.out)⟩
                 have n3_ : Aside0 (KeepBut w ((((w51.setCell ⟨gb145, 0, none⟩ (.slice A144_0 ((rd_T30 l0_3 x72_3).f0).length c144_0)).setCell ⟨gb145, 1, none⟩ (.bool ((rd_T30 l0_3 x72_3).f1))).setCell ⟨gb145, 2, none⟩ (.int .i64 ((rd_T30 l0_3 x72_3).f2))).setCell ⟨gb145, 3, none⟩ (.slice A144_3 ((rd_T30 l0_3 x72_3).f3).length c144_3)) g none) := ⟨by repeat (first | (with_reducible first | exact HK.out | apply KeepBut.set_ | apply keep_drewN | apply keep_drew | apply keep_alloc | refine keep_far ?_ GW142.out _ | refine keep_far ?_ GW145.out _) | exact HK.out)⟩
                 have n4_ : Aside0 (Below w0.heap.size w0 ((((w51.setCell ⟨gb145, 0, none⟩ (.slice A144_0 ((rd_T30 l0_3 x72_3).f0).length c144_0)).setCell ⟨gb145, 1, none⟩ (.bool ((rd_T30 l0_3 x72_3).f1))).setCell ⟨gb145, 2, none⟩ (.int .i64 ((rd_T30 l0_3 x72_3).f2))).setCell ⟨gb145, 3, none⟩ (.slice A144_3 ((rd_T30 l0_3 x72_3).f3).length c144_3))) := ⟨by repeat (first | (with_reducible first | exact HB.out | apply below_alloc | apply pw_below_drewN | apply below_drew1 | refine below_set ?_ (IsS3.ge HI3.out) | refine below_set ?_ GE142.out | refine below_set ?_ GE145.out) | exact HB.out)⟩
                 (try clear BK142)
                 (try clear BK145)
                 (try clear HI3)
                 (try clear HK)
                 (try clear HB)
                 generalize ((((w51.setCell ⟨gb145, 0, none⟩ (.slice A144_0 ((rd_T30 l0_3 x72_3).f0).length c144_0)).setCell ⟨gb145, 1, none⟩ (.bool ((rd_T30 l0_3 x72_3).f1))).setCell ⟨gb145, 2, none⟩ (.int .i64 ((rd_T30 l0_3 x72_3).f2))).setCell ⟨gb145, 3, none⟩ (.slice A144_3 ((rd_T30 l0_3 x72_3).f3).length c144_3)) = w55 at n0_ n1_ n2_ n3_ n4_ ⊢
                 have BK142 := n0_
                 have BK145 := n1_
                 have HI3 := n2_
                 have HK := n3_
                 have HB := n4_
                 clear n0_ n1_ n2_ n3_ n4_
                 replace BK142 := Aside0.mk (blk_drew BK142.out)
                 replace BK145 := Aside0.mk (blk_drew BK145.out)
                 replace HI3 := Aside0.mk (IsS3.drew HI3.out)
                 replace HK := Aside0.mk (keep_drew HK.out)
                 replace HB := Aside0.mk (below_drew1 HB.out)
                 have p148 : 0 ≤ ((ji45) : Int) := od
                 have q148 : (ji45) < (l0_3.length : Int) := od
                 obtain ⟨ad148, A148_0, c148_0, A148_3, c148_3, e148, hx148_0, hx148_1, hx148_2, hx148_3, hl148_0, hi148_0, hl148_3, hi148_3⟩ := atF_T30 HK.out HR0_3.out (ji45) p148 q148
                 have hw148_3 := hx148_3
                 have hw148_2 := hx148_2
                 have hw148_1 := hx148_1
                 have hw148_0 := hx148_0
                 obtain rfl : ad144 = ad148 := (by injection e148)
                 have hne148_3 := (show (⟨(ad144.add (((ji45)).toNat * 4)).block, (ad144.add (((ji45)).toNat * 4)).off + 3, none⟩ : Addr).block ≠ g from by first | (rw [add_block]; exact Kd.foot_ne HR0_3.out (by omega) (by decide)) | (show (Addr.add _ _).block ≠ _; rw [add_block]; exact Kd.foot_ne HR0_3.out (by omega) (by decide)) | exact Kd.foot_ne HR0_3.out (by omega) (by decide) | (dsimp only; exact Kd.foot_ne HR0_3.out (by omega) (by decide)))
                 have hlt148_3 := (Kd.foot_lt HR0_3.out (by omega) (by decide))
                 have hne148_2 := (show (⟨(ad144.add (((ji45)).toNat * 4)).block, (ad144.add (((ji45)).toNat * 4)).off + 2, none⟩ : Addr).block ≠ g from by first | (rw [add_block]; exact Kd.foot_ne HR0_3.out (by omega) (by decide)) | (show (Addr.add _ _).block ≠ _; rw [add_block]; exact Kd.foot_ne HR0_3.out (by omega) (by decide)) | exact Kd.foot_ne HR0_3.out (by omega) (by decide) | (dsimp only; exact Kd.foot_ne HR0_3.out (by omega) (by decide)))
                 have hlt148_2 := (Kd.foot_lt HR0_3.out (by omega) (by decide))
                 have hne148_1 := (show (⟨(ad144.add (((ji45)).toNat * 4)).block, (ad144.add (((ji45)).toNat * 4)).off + 1, none⟩ : Addr).block ≠ g from by first | (rw [add_block]; exact Kd.foot_ne HR0_3.out (by omega) (by decide)) | (show (Addr.add _ _).block ≠ _; rw [add_block]; exact Kd.foot_ne HR0_3.out (by omega) (by decide)) | exact Kd.foot_ne HR0_3.out (by omega) (by decide) | (dsimp only; exact Kd.foot_ne HR0_3.out (by omega) (by decide)))
                 have hlt148_1 := (Kd.foot_lt HR0_3.out (by omega) (by decide))
                 have hne148_0 := (show ((ad144.add (((ji45)).toNat * 4)) : Addr).block ≠ g from by first | (rw [add_block]; exact Kd.foot_ne HR0_3.out (by omega) (by decide)) | (show (Addr.add _ _).block ≠ _; rw [add_block]; exact Kd.foot_ne HR0_3.out (by omega) (by decide)) | exact Kd.foot_ne HR0_3.out (by omega) (by decide) | (dsimp only; exact Kd.foot_ne HR0_3.out (by omega) (by decide)))
                 have hlt148_0 := (Kd.foot_lt HR0_3.out (by omega) (by decide))
                 have HR148_0 := Aside0.mk hi148_0
                 have HC148_0 := Aside0.mk hl148_0
                 clear hi148_0 hl148_0
                 have HR148_3 := Aside0.mk hi148_3
                 have HC148_3 := Aside0.mk hl148_3
                 clear hi148_3 hl148_3
                 replace p148 := eq_true p148
                 replace q148 := eq_true q148
                 have p149 : 0 ≤ (0 : Int) := (by omega)
                 have q149 : 0 < (((rd_T30 l0_3 (ji45)).f0).length : Int) := od
                 obtain ⟨ad149, e149, hx149_0⟩ := Kd.at_int (Kd.C_foot_now HR148_0.out HK.out) 0 p149 q149
                 have hw149_0 := hx149_0
                 (try rw [show ((0 : Int)).toNat = 0 from rfl] at hw149_0)
                 (try rw [show 0 * 1 = 0 from rfl] at hw149_0)
                 (try rw [Addr.add_zero'] at hw149_0)
                 cases e149
                 have qi149 : (0 < ((rd_T30 l0_3 (ji45)).f0).length) = True := eq_true (by omega)
                 (try rw [show ((0 : Int)).toNat = 0 from rfl] at hx149_0)
                 (try rw [Addr.add_zero'] at hx149_0)
                 replace p149 := eq_true p149
                 replace q149 := eq_true q149
                 have p150 : 0 ≤ (0 : Int) := (by omega)
                 have q150 : 0 < (((rd_T30 l0_3 x72_3).f0).length : Int) := od
                 obtain ⟨ad150, e150, hx150_0⟩ := Kd.at_int (Kd.C_foot_now HR144_0.out HK.out) 0 p150 q150
                 have hw150_0 := hx150_0
                 (try rw [show ((0 : Int)).toNat = 0 from rfl] at hw150_0)
                 (try rw [show 0 * 1 = 0 from rfl] at hw150_0)
                 (try rw [Addr.add_zero'] at hw150_0)
                 cases e150
                 have qi150 : (0 < ((rd_T30 l0_3 x72_3).f0).length) = True := eq_true (by omega)
                 (try rw [show ((0 : Int)).toNat = 0 from rfl] at hx150_0)
                 (try rw [Addr.add_zero'] at hx150_0)
                 replace p150 := eq_true p150
                 replace q150 := eq_true q150
                 refine start_ (n := 31) (S := fun w' => w'.cell? ⟨gb145, 0, none⟩ = some (.slice (some ad150) ((rd_T30 l0_3 x72_3).f0).length c144_0) ∧ w'.cell? ⟨gb145, 1, none⟩ = some (.bool ((rd_T30 l0_3 x72_3).f1)) ∧ w'.cell? ⟨gb145, 2, none⟩ = some (.int .i64 ((rd_T30 l0_3 x72_3).f2)) ∧ w'.cell? ⟨gb145, 3, none⟩ = some (.slice A144_3 ((rd_T30 l0_3 x72_3).f3).length c144_3) ∧ w'.cell? ⟨gb142, 0, none⟩ = some (.slice A0_0 l0_0.length c0_0) ∧ w'.cell? ⟨gb142, 1, none⟩ = some (.bool a0_1) ∧ w'.cell? ⟨gb142, 2, none⟩ = some (.int .i64 a0_2) ∧ w'.cell? ⟨gb142, 3, none⟩ = some (.slice (some ad144) l0_3.length c0_3) ∧ w'.cell? (ad144.add (((ji45)).toNat * 4)) = some (.slice (some ad149) ((rd_T30 l0_3 (ji45)).f0).length c148_0) ∧ w'.cell? ⟨(ad144.add (((ji45)).toNat * 4)).block, (ad144.add (((ji45)).toNat * 4)).off + 1, none⟩ = some (.bool ((rd_T30 l0_3 (ji45)).f1)) ∧ w'.cell? ⟨(ad144.add (((ji45)).toNat * 4)).block, (ad144.add (((ji45)).toNat * 4)).off + 2, none⟩ = some (.int .i64 ((rd_T30 l0_3 (ji45)).f2)) ∧ w'.cell? ⟨(ad144.add (((ji45)).toNat * 4)).block, (ad144.add (((ji45)).toNat * 4)).off + 3, none⟩ = some (.slice A148_3 ((rd_T30 l0_3 (ji45)).f3).length c148_3) ∧ w'.cell? ad149 = some (.int .u8 (rd ((rd_T30 l0_3 (ji45)).f0) 0)) ∧ w'.cell? ad150 = some (.int .u8 (rd ((rd_T30 l0_3 x72_3).f0) 0))) (ds := []) (tf 0 31) (by kernel_rfl) rfl rfl (cells_4 BK145.out (cells_4 BK142.out ⟨hx148_0, hx148_1, hx148_2, hx148_3, (by have h_ := Kd.foot_int (HR148_0.out _ (by repeat (first | exact HK.out | apply Kept.alloc | apply Kept.drewN | apply Kept.drew | refine Kept.setCell ?_ (.inl (.inr rfl)) _))) (0 : Int) (of_eq_true p149) (of_eq_true q149); rw [show ((0 : Int)).toNat = 0 from rfl, Addr.add_zero'] at h_; exact h_), (by have h_ := Kd.foot_int (HR144_0.out _ (by repeat (first | exact HK.out | apply Kept.alloc | apply Kept.drewN | apply Kept.drew | refine Kept.setCell ?_ (.inl (.inr rfl)) _))) (0 : Int) (of_eq_true p150) (of_eq_true q150); rw [show ((0 : Int)).toNat = 0 from rfl, Addr.add_zero'] at h_; exact h_)⟩)) (fun hHeld => ?_); refine with_tabW impl_scan.tab9 impl_scan.bits9 (fun HT_ HW_ => ?_)
                 generalize w55.drew = w56 at BK142 BK145 HI3 HK HB HR148_0 HR148_3 hx148_0 hx148_1 hx148_2 hx148_3 hx149_0 hx150_0 hHeld ⊢
                 refine pv_ HT_ 1 (some 78) (tb 31 2) (h := ?_)
                 refine pv_ HT_ 2 (some 79) (tb 31 6) (h := ?_)
                 refine pv_ HT_ 3 (some 80) (tb 31 14) (h := ?_)
                 refine pv_ HT_ 4 (some 81) (tb 31 30) (h := ?_)
                 refine pv_ HT_ 8 (some 85) (tb 31 286) (h := ?_)
                 refine tv_ HT_ HW_ hHeld 0 (some 77) (tb 31 287) (h := ?_)
                 refine tv_ HT_ HW_ hHeld 5 (some 82) (tb 31 319) (h := ?_)
                 refine pv_ HT_ 6 (some 83) (tb 31 383) (h := ?_)
                 refine pv_ HT_ 7 (some 84) (tf 9 22) (h := ?_)
                 refine one_ (i := 9) (N := some 86) (tf 10 21) rfl rfl (one_of HT_.out (by kernel_rfl)) (by decide) (fun K hK => ?_)
                 refine gs_ Try.func62 #[.agg #[.slice (some ad150) ((rd_T30 l0_3 x72_3).f0).length c144_0, .bool ((rd_T30 l0_3 x72_3).f1), .int .i64 ((rd_T30 l0_3 x72_3).f2), .slice A144_3 ((rd_T30 l0_3 x72_3).f3).length c144_3], .int .i64 (wrap64 (a1 + 1)), .int .i64 (wrap64 (a2 + (l0_0.length : Int))), .pointer (some ⟨g, 0, none⟩)] (h := ?_)
                 with_reducible refine (ih k3 (by have := HJ4.out; have := HJ19.out; have := HK3.out; omega) _ _ ((rd_T30 l0_3 x72_3).f0) ((rd_T30 l0_3 x72_3).f1) ((rd_T30 l0_3 x72_3).f2) _ _ ((rd_T30 l0_3 x72_3).f3) (wrap64 (a1 + 1)) (wrap64 (a2 + (l0_0.length : Int))) g x4000_3 true t147 w0 _ ?side1 ?side2 ?side3 ?side4 ?side5 ?side6 ?side7 A42.out).mono ?_
                 (case side1 => repeat (first | (with_reducible first | exact HI3.out | apply IsS3.alloc | apply IsS3.drewN | apply IsS3.drew | apply IsS3.set_0 | refine IsS3.far ?_ NB3_142.out _ | refine IsS3.far ?_ NB3_145.out _) | exact HI3.out))
                 (case side2 => repeat (first | (with_reducible first | exact HB.out | apply below_alloc | apply pw_below_drewN | apply below_drew1 | refine below_set ?_ (IsS3.ge HI3.out) | refine below_set ?_ GE142.out | refine below_set ?_ GE145.out) | exact HB.out))
                 (case side3 => exact Kd.C_foot_now HR144_0.out (by repeat (first | (with_reducible first | exact HK.out | apply KeepBut.set_ | apply keep_drewN | apply keep_drew | apply keep_alloc | refine keep_far ?_ GW142.out _ | refine keep_far ?_ GW145.out _) | exact HK.out)))
                 (case side4 => exact HC144_0.out)
                 (case side5 => exact foot_far HR144_0.out (by decide))
                 (case side6 => exact Kd.C_foot_step HR144_3.out (by repeat (first | (with_reducible first | exact HK.out | apply KeepBut.set_ | apply keep_drewN | apply keep_drew | apply keep_alloc | refine keep_far ?_ GW142.out _ | refine keep_far ?_ GW145.out _) | exact HK.out)))
                 (case side7 => exact HC144_3.out)
                 rintro e w57 ⟨rfl, hi, hb, hk⟩
                 have HS8_ := keep_cell hk (hHeld.2.2.2.2.2.2.2.2.1) (by first | (rw [add_block]; exact hne148_0) | (show (Addr.add _ _).block ≠ _; rw [add_block]; exact hne148_0) | exact hne148_0)
                 have HS9_ := keep_cell hk (hHeld.2.2.2.2.2.2.2.2.2.1) (by first | (rw [add_block]; exact hne148_1) | (show (Addr.add _ _).block ≠ _; rw [add_block]; exact hne148_1) | exact hne148_1)
                 have HS10_ := keep_cell hk (hHeld.2.2.2.2.2.2.2.2.2.2.1) (by first | (rw [add_block]; exact hne148_2) | (show (Addr.add _ _).block ≠ _; rw [add_block]; exact hne148_2) | exact hne148_2)
                 have HS11_ := keep_cell hk (hHeld.2.2.2.2.2.2.2.2.2.2.2.1) (by first | (rw [add_block]; exact hne148_3) | (show (Addr.add _ _).block ≠ _; rw [add_block]; exact hne148_3) | exact hne148_3)
                 refine ⟨_, rfl, ?_⟩
                 replace BK142 := Aside0.mk (KeepBut.blk hk (g' := gb142) (o := .cells #[.slice A0_0 l0_0.length c0_0, .bool a0_1, .int .i64 a0_2, .slice (some ad144) l0_3.length c0_3] 30 (0, 0)) (bkp BK142) NB142_3.out (by simp))
                 replace BK145 := Aside0.mk (KeepBut.blk hk (g' := gb145) (o := .cells #[.slice (some ad150) ((rd_T30 l0_3 x72_3).f0).length c144_0, .bool ((rd_T30 l0_3 x72_3).f1), .int .i64 ((rd_T30 l0_3 x72_3).f2), .slice A144_3 ((rd_T30 l0_3 x72_3).f3).length c144_3] 30 (0, 0)) (bkp BK145) NB145_3.out (by simp))
                 replace HK := Aside0.mk (KeepBut.trans (by repeat (first | (with_reducible first | exact HK.out | apply KeepBut.set_ | apply keep_drewN | apply keep_drew | apply keep_alloc | refine keep_far ?_ GW142.out _ | refine keep_far ?_ GW145.out _) | exact HK.out)) hk (.inl rfl))
                 replace HB := Aside0.mk (hb)
                 replace HI3 := Aside0.mk (hi)
                 (try clear hb)
                 (try clear hb2)
                 (try clear hk)
                 (try clear hi)
                 refine hK.out _ _ (cells_4 BK145.out (cells_4 BK142.out ⟨HS8_, HS9_, HS10_, HS11_, (by have h_ := Kd.foot_int (HR148_0.out _ (by repeat (first | exact HK.out | apply Kept.alloc | apply Kept.drewN | apply Kept.drew | refine Kept.setCell ?_ (.inl (.inr rfl)) _))) (0 : Int) (of_eq_true p149) (of_eq_true q149); rw [show ((0 : Int)).toNat = 0 from rfl, Addr.add_zero'] at h_; exact h_), (by have h_ := Kd.foot_int (HR144_0.out _ (by repeat (first | exact HK.out | apply Kept.alloc | apply Kept.drewN | apply Kept.drew | refine Kept.setCell ?_ (.inl (.inr rfl)) _))) (0 : Int) (of_eq_true p150) (of_eq_true q150); rw [show ((0 : Int)).toNat = 0 from rfl, Addr.add_zero'] at h_; exact h_)⟩)) (fun hHeld => ?_)
                 clear hK K
                 refine nrm_ (some 86) (h := ?_)
                 iterate 6 (refine pvn_ HT_ (h := ?_))
                 refine pv_ HT_ 17 (some 94) (tb 31 196607) (h := ?_)
                 refine pv_ HT_ 18 (some 95) (tb 31 458751) (h := ?_)
                 refine pv_ HT_ 24 (some 101) (tb 31 17235967) (h := ?_)
                 refine tv_ HT_ HW_ hHeld 16 (some 93) (tb 31 17301503) (h := ?_)
                 refine pv_ HT_ 19 (some 96) (tb 31 17825791) (h := ?_)
                 refine pv_ HT_ 20 (some 97) (tb 31 18874367) (h := ?_)
                 refine tv_ HT_ HW_ hHeld 21 (some 98) (tb 31 20971519) (h := ?_)
                 refine pv_ HT_ 22 (some 99) (tb 31 25165823) (h := ?_)
                 refine tv_ HT_ HW_ hHeld 23 (some 100) (tf 25 6) (h := ?_)
                 refine tvn_ HT_ HW_ hHeld (h := ?_)
                 refine pvn_ HT_ (h := ?_)
                 refine tvn_ HT_ HW_ hHeld (h := ?_)
                 iterate 3 (refine pvn_ HT_ (h := ?_))
                 refine done_ (done_of HT_.out (by kernel_rfl)) ?_
                 try go_wp2
                 go_ret
                 exact ⟨by first | rfl | (simp [errW_none, errW_some] <;> rfl) | (simp only [← hji45]; first | rfl | (simp [errW_none, errW_some] <;> rfl)) | (simp [*, errW_none, errW_some] <;> rfl), by repeat (first | (with_reducible first | exact HI3.out | apply IsS3.alloc | apply IsS3.drewN | apply IsS3.drew | apply IsS3.set_0 | refine IsS3.far ?_ NB3_142.out _ | refine IsS3.far ?_ NB3_145.out _) | exact HI3.out), by repeat (first | (with_reducible first | exact HB.out | apply below_alloc | apply pw_below_drewN | apply below_drew1 | refine below_set ?_ (IsS3.ge HI3.out) | refine below_set ?_ GE142.out | refine below_set ?_ GE145.out) | exact HB.out), by repeat (first | (with_reducible first | exact HK.out | apply KeepBut.set_ | apply keep_drewN | apply keep_drew | apply keep_alloc | refine keep_far ?_ GW142.out _ | refine keep_far ?_ GW145.out _) | exact HK.out)⟩
                rw [if_neg c50] at H
                have c50b0 : decide ((rd ((rd_T30 l0_3 x72_3).f0) 0) ≤ (rd ((rd_T30 l0_3 (ji45)).f0) 0)) = false := decide_eq_false c50
                clear c50
                have H' := Aside0.mk H
                clear H
                have p144 : 0 ≤ (x72_3 : Int) := od
                have q144 : x72_3 < (l0_3.length : Int) := od
                obtain ⟨ad144, A144_0, c144_0, A144_3, c144_3, e144, hx144_0, hx144_1, hx144_2, hx144_3, hl144_0, hi144_0, hl144_3, hi144_3⟩ := atF_T30 HK.out HR0_3.out x72_3 p144 q144
                cases e144
                have HR144_0 := Aside0.mk hi144_0
                have HC144_0 := Aside0.mk hl144_0
                clear hi144_0 hl144_0
                have HR144_3 := Aside0.mk hi144_3
                have HC144_3 := Aside0.mk hl144_3
                clear hi144_3 hl144_3
                replace p144 := eq_true p144
                replace q144 := eq_true q144
                try go_wp2_with (first | ((with_reducible refine gate_dst (N := 10) rfl ?_); (try (refine gate_guard (by rfl) ?_; dsimp only)); refine bx_ 10 #[.slice none 0 0, .bool false, .int .i64 0, .slice none 0 0] 30 (h := ?_); intro gb145 hg w58 hbox hb; have BK145 := Aside0.mk (hbox); have GW145 := Aside0.mk ((by rw [hg]; exact (keep_size (w := w) (g := g) (row := none) (by repeat (first | (with_reducible first | exact HK.out | apply KeepBut.set_ | apply keep_drewN | apply keep_drew | apply keep_alloc | refine keep_far ?_ GW142.out _) | exact HK.out))) : w.heap.size ≤ gb145)); have GE145 := Aside0.mk ((Nat.le_trans HW0.out (by rw [hg]; exact (keep_size (w := w) (g := g) (row := none) (by repeat (first | (with_reducible first | exact HK.out | apply KeepBut.set_ | apply keep_drewN | apply keep_drew | apply keep_alloc | refine keep_far ?_ GW142.out _) | exact HK.out))) : w.heap.size ≤ gb145) : w0.heap.size ≤ gb145)); have NB142_145 := Aside0.mk ((by rw [hg]; exact Nat.ne_of_lt (blt BK142) : gb142 ≠ gb145)); have NB145_142 := Aside0.mk NB142_145.out.symm; have NB3_145 := Aside0.mk ((by rw [hg]; exact Nat.ne_of_lt (IsS3.lt (show IsS3 w0 _ g x4000_3 from by repeat (first | (with_reducible first | exact HI3.out | apply IsS3.alloc | apply IsS3.drewN | apply IsS3.drew | apply IsS3.set_0 | refine IsS3.far ?_ NB3_142.out _) | exact HI3.out))) : g ≠ gb145)); have NB145_3 := Aside0.mk ((by rw [hg]; exact Nat.ne_of_gt (IsS3.lt (show IsS3 w0 _ g x4000_3 from by repeat (first | (with_reducible first | exact HI3.out | apply IsS3.alloc | apply IsS3.drewN | apply IsS3.drew | apply IsS3.set_0 | refine IsS3.far ?_ NB3_142.out _) | exact HI3.out))) : gb145 ≠ g)); replace BK142 := Aside0.mk (blb BK142 hb); replace HK := Aside0.mk (KeepBut.trans (by repeat (first | (with_reducible first | exact HK.out | apply KeepBut.set_ | apply keep_drewN | apply keep_drew | apply keep_alloc | refine keep_far ?_ GW142.out _) | exact HK.out)) (KeepBut.of_below hb g none) (.inl rfl)); replace HB := Aside0.mk (below_step (by repeat (first | (with_reducible first | exact HB.out | apply below_alloc | apply pw_below_drewN | apply below_drew1 | refine below_set ?_ (IsS3.ge HI3.out) | refine below_set ?_ GE142.out) | exact HB.out)) hb); replace HI3 := Aside0.mk (IsS3.below (by repeat (first | (with_reducible first | exact HI3.out | apply IsS3.alloc | apply IsS3.drewN | apply IsS3.drew | apply IsS3.set_0 | refine IsS3.far ?_ NB3_142.out _) | exact HI3.out)) hb); clear hb hbox hg; have hnb59 := NB145_142.out; have hnc59 := NB142_145.out; have hnb60 := NB145_3.out; have hnc60 := NB3_145.out; obtain ⟨C61_0, C61_1, C61_2, C61_3, -⟩ := cells_4 BK145.out trivial; obtain ⟨F61_0, F61_1, F61_2, F61_3, -⟩ := frz_4 BK145.out))
                have n0_ : Aside0 (((((w58.setCell ⟨gb145, 0, none⟩ (.slice A144_0 ((rd_T30 l0_3 x72_3).f0).length c144_0)).setCell ⟨gb145, 1, none⟩ (.bool ((rd_T30 l0_3 x72_3).f1))).setCell ⟨gb145, 2, none⟩ (.int .i64 ((rd_T30 l0_3 x72_3).f2))).setCell ⟨gb145, 3, none⟩ (.slice A144_3 ((rd_T30 l0_3 x72_3).f3).length c144_3)).heap[gb142]? = some (.cells #[.slice A0_0 l0_0.length c0_0, .bool a0_1, .int .i64 a0_2, .slice (some ad144) l0_3.length c0_3] 30 (0, 0))) := ⟨by (with_reducible repeat (first | refine blk_drewN ?_ _ | refine blk_drew ?_ | refine blk_alloc ?_ _)); refine blk_far ?_ NB142_145.out _; (with_reducible repeat (first | refine blk_drewN ?_ _ | refine blk_drew ?_ | refine blk_alloc ?_ _)); refine blk_far ?_ NB142_145.out _; (with_reducible repeat (first | refine blk_drewN ?_ _ | refine blk_drew ?_ | refine blk_alloc ?_ _)); refine blk_far ?_ NB142_145.out _; (with_reducible repeat (first | refine blk_drewN ?_ _ | refine blk_drew ?_ | refine blk_alloc ?_ _)); refine blk_far ?_ NB142_145.out _; (with_reducible repeat (first | refine blk_drewN ?_ _ | refine blk_drew ?_ | refine blk_alloc ?_ _)); exact BK142.out⟩
                have n1_ : Aside0 (((((w58.setCell ⟨gb145, 0, none⟩ (.slice A144_0 ((rd_T30 l0_3 x72_3).f0).length c144_0)).setCell ⟨gb145, 1, none⟩ (.bool ((rd_T30 l0_3 x72_3).f1))).setCell ⟨gb145, 2, none⟩ (.int .i64 ((rd_T30 l0_3 x72_3).f2))).setCell ⟨gb145, 3, none⟩ (.slice A144_3 ((rd_T30 l0_3 x72_3).f3).length c144_3)).heap[gb145]? = some (.cells #[.slice A144_0 ((rd_T30 l0_3 x72_3).f0).length c144_0, .bool ((rd_T30 l0_3 x72_3).f1), .int .i64 ((rd_T30 l0_3 x72_3).f2), .slice A144_3 ((rd_T30 l0_3 x72_3).f3).length c144_3] 30 (0, 0))) := ⟨by (with_reducible repeat (first | refine blk_drewN ?_ _ | refine blk_drew ?_ | refine blk_alloc ?_ _)); refine blk_put (cs := #[.slice A144_0 ((rd_T30 l0_3 x72_3).f0).length c144_0, .bool ((rd_T30 l0_3 x72_3).f1), .int .i64 ((rd_T30 l0_3 x72_3).f2), .slice none 0 0]) ?_ 3 _ rfl; (with_reducible repeat (first | refine blk_drewN ?_ _ | refine blk_drew ?_ | refine blk_alloc ?_ _)); refine blk_put (cs := #[.slice A144_0 ((rd_T30 l0_3 x72_3).f0).length c144_0, .bool ((rd_T30 l0_3 x72_3).f1), .int .i64 0, .slice none 0 0]) ?_ 2 _ rfl; (with_reducible repeat (first | refine blk_drewN ?_ _ | refine blk_drew ?_ | refine blk_alloc ?_ _)); refine blk_put (cs := #[.slice A144_0 ((rd_T30 l0_3 x72_3).f0).length c144_0, .bool false, .int .i64 0, .slice none 0 0]) ?_ 1 _ rfl; (with_reducible repeat (first | refine blk_drewN ?_ _ | refine blk_drew ?_ | refine blk_alloc ?_ _)); refine blk_put (cs := #[.slice none 0 0, .bool false, .int .i64 0, .slice none 0 0]) ?_ 0 _ rfl; (with_reducible repeat (first | refine blk_drewN ?_ _ | refine blk_drew ?_ | refine blk_alloc ?_ _)); exact BK145.out⟩
                have n2_ : Aside0 (IsS3 w0 ((((w58.setCell ⟨gb145, 0, none⟩ (.slice A144_0 ((rd_T30 l0_3 x72_3).f0).length c144_0)).setCell ⟨gb145, 1, none⟩ (.bool ((rd_T30 l0_3 x72_3).f1))).setCell ⟨gb145, 2, none⟩ (.int .i64 ((rd_T30 l0_3 x72_3).f2))).setCell ⟨gb145, 3, none⟩ (.slice A144_3 ((rd_T30 l0_3 x72_3).f3).length c144_3)) g x4000_3) := ⟨by repeat (first | (with_reducible first | exact HI3.out | apply IsS3.alloc | apply IsS3.drewN | apply IsS3.drew | apply IsS3.set_0 | refine IsS3.far ?_ NB3_142.out _ | refine IsS3.far ?_ NB3_145.out _) | exact HI3.out)⟩
                have n3_ : Aside0 (KeepBut w ((((w58.setCell ⟨gb145, 0, none⟩ (.slice A144_0 ((rd_T30 l0_3 x72_3).f0).length c144_0)).setCell ⟨gb145, 1, none⟩ (.bool ((rd_T30 l0_3 x72_3).f1))).setCell ⟨gb145, 2, none⟩ (.int .i64 ((rd_T30 l0_3 x72_3).f2))).setCell ⟨gb145, 3, none⟩ (.slice A144_3 ((rd_T30 l0_3 x72_3).f3).length c144_3)) g none) := ⟨by repeat (first | (with_reducible first | exact HK.out | apply KeepBut.set_ | apply keep_drewN | apply keep_drew | apply keep_alloc | refine keep_far ?_ GW142.out _ | refine keep_far ?_ GW145.out _) | exact HK.out)⟩
                have n4_ : Aside0 (Below w0.heap.size w0 ((((w58.setCell ⟨gb145, 0, none⟩ (.slice A144_0 ((rd_T30 l0_3 x72_3).f0).length c144_0)).setCell ⟨gb145, 1, none⟩ (.bool ((rd_T30 l0_3 x72_3).f1))).setCell ⟨gb145, 2, none⟩ (.int .i64 ((rd_T30 l0_3 x72_3).f2))).setCell ⟨gb145, 3, none⟩ (.slice A144_3 ((rd_T30 l0_3 x72_3).f3).length c144_3))) := ⟨by repeat (first | (with_reducible first | exact HB.out | apply below_alloc | apply pw_below_drewN | apply below_drew1 | refine below_set ?_ (IsS3.ge HI3.out) | refine below_set ?_ GE142.out | refine below_set ?_ GE145.out) | exact HB.out)⟩
                (try clear BK142)
                (try clear BK145)
                (try clear HI3)
                (try clear HK)
                (try clear HB)
                generalize ((((w58.setCell ⟨gb145, 0, none⟩ (.slice A144_0 ((rd_T30 l0_3 x72_3).f0).length c144_0)).setCell ⟨gb145, 1, none⟩ (.bool ((rd_T30 l0_3 x72_3).f1))).setCell ⟨gb145, 2, none⟩ (.int .i64 ((rd_T30 l0_3 x72_3).f2))).setCell ⟨gb145, 3, none⟩ (.slice A144_3 ((rd_T30 l0_3 x72_3).f3).length c144_3)) = w62 at n0_ n1_ n2_ n3_ n4_ ⊢
                have BK142 := n0_
                have BK145 := n1_
                have HI3 := n2_
                have HK := n3_
                have HB := n4_
                clear n0_ n1_ n2_ n3_ n4_
                replace BK142 := Aside0.mk (blk_drew BK142.out)
                replace BK145 := Aside0.mk (blk_drew BK145.out)
                replace HI3 := Aside0.mk (IsS3.drew HI3.out)
                replace HK := Aside0.mk (keep_drew HK.out)
                replace HB := Aside0.mk (below_drew1 HB.out)
                have p148 : 0 ≤ ((ji45) : Int) := od
                have q148 : (ji45) < (l0_3.length : Int) := od
                obtain ⟨ad148, A148_0, c148_0, A148_3, c148_3, e148, hx148_0, hx148_1, hx148_2, hx148_3, hl148_0, hi148_0, hl148_3, hi148_3⟩ := atF_T30 HK.out HR0_3.out (ji45) p148 q148
                have hw148_3 := hx148_3
                have hw148_2 := hx148_2
                have hw148_1 := hx148_1
                have hw148_0 := hx148_0
                obtain rfl : ad144 = ad148 := (by injection e148)
                have hne148_3 := (show (⟨(ad144.add (((ji45)).toNat * 4)).block, (ad144.add (((ji45)).toNat * 4)).off + 3, none⟩ : Addr).block ≠ g from by first | (rw [add_block]; exact Kd.foot_ne HR0_3.out (by omega) (by decide)) | (show (Addr.add _ _).block ≠ _; rw [add_block]; exact Kd.foot_ne HR0_3.out (by omega) (by decide)) | exact Kd.foot_ne HR0_3.out (by omega) (by decide) | (dsimp only; exact Kd.foot_ne HR0_3.out (by omega) (by decide)))
                have hlt148_3 := (Kd.foot_lt HR0_3.out (by omega) (by decide))
                have hne148_2 := (show (⟨(ad144.add (((ji45)).toNat * 4)).block, (ad144.add (((ji45)).toNat * 4)).off + 2, none⟩ : Addr).block ≠ g from by first | (rw [add_block]; exact Kd.foot_ne HR0_3.out (by omega) (by decide)) | (show (Addr.add _ _).block ≠ _; rw [add_block]; exact Kd.foot_ne HR0_3.out (by omega) (by decide)) | exact Kd.foot_ne HR0_3.out (by omega) (by decide) | (dsimp only; exact Kd.foot_ne HR0_3.out (by omega) (by decide)))
                have hlt148_2 := (Kd.foot_lt HR0_3.out (by omega) (by decide))
                have hne148_1 := (show (⟨(ad144.add (((ji45)).toNat * 4)).block, (ad144.add (((ji45)).toNat * 4)).off + 1, none⟩ : Addr).block ≠ g from by first | (rw [add_block]; exact Kd.foot_ne HR0_3.out (by omega) (by decide)) | (show (Addr.add _ _).block ≠ _; rw [add_block]; exact Kd.foot_ne HR0_3.out (by omega) (by decide)) | exact Kd.foot_ne HR0_3.out (by omega) (by decide) | (dsimp only; exact Kd.foot_ne HR0_3.out (by omega) (by decide)))
                have hlt148_1 := (Kd.foot_lt HR0_3.out (by omega) (by decide))
                have hne148_0 := (show ((ad144.add (((ji45)).toNat * 4)) : Addr).block ≠ g from by first | (rw [add_block]; exact Kd.foot_ne HR0_3.out (by omega) (by decide)) | (show (Addr.add _ _).block ≠ _; rw [add_block]; exact Kd.foot_ne HR0_3.out (by omega) (by decide)) | exact Kd.foot_ne HR0_3.out (by omega) (by decide) | (dsimp only; exact Kd.foot_ne HR0_3.out (by omega) (by decide)))
                have hlt148_0 := (Kd.foot_lt HR0_3.out (by omega) (by decide))
                have HR148_0 := Aside0.mk hi148_0
                have HC148_0 := Aside0.mk hl148_0
                clear hi148_0 hl148_0
                have HR148_3 := Aside0.mk hi148_3
                have HC148_3 := Aside0.mk hl148_3
                clear hi148_3 hl148_3
                replace p148 := eq_true p148
                replace q148 := eq_true q148
                have p149 : 0 ≤ (0 : Int) := (by omega)
                have q149 : 0 < (((rd_T30 l0_3 (ji45)).f0).length : Int) := od
                obtain ⟨ad149, e149, hx149_0⟩ := Kd.at_int (Kd.C_foot_now HR148_0.out HK.out) 0 p149 q149
                have hw149_0 := hx149_0
                (try rw [show ((0 : Int)).toNat = 0 from rfl] at hw149_0)
                (try rw [show 0 * 1 = 0 from rfl] at hw149_0)
                (try rw [Addr.add_zero'] at hw149_0)
                cases e149
                have qi149 : (0 < ((rd_T30 l0_3 (ji45)).f0).length) = True := eq_true (by omega)
                (try rw [show ((0 : Int)).toNat = 0 from rfl] at hx149_0)
                (try rw [Addr.add_zero'] at hx149_0)
                replace p149 := eq_true p149
                replace q149 := eq_true q149
                have p150 : 0 ≤ (0 : Int) := (by omega)
                have q150 : 0 < (((rd_T30 l0_3 x72_3).f0).length : Int) := od
                obtain ⟨ad150, e150, hx150_0⟩ := Kd.at_int (Kd.C_foot_now HR144_0.out HK.out) 0 p150 q150
                have hw150_0 := hx150_0
                (try rw [show ((0 : Int)).toNat = 0 from rfl] at hw150_0)
                (try rw [show 0 * 1 = 0 from rfl] at hw150_0)
                (try rw [Addr.add_zero'] at hw150_0)
                cases e150
                have qi150 : (0 < ((rd_T30 l0_3 x72_3).f0).length) = True := eq_true (by omega)
                (try rw [show ((0 : Int)).toNat = 0 from rfl] at hx150_0)
                (try rw [Addr.add_zero'] at hx150_0)
                replace p150 := eq_true p150
                replace q150 := eq_true q150
                refine start_ (n := 31) (S := fun w' => w'.cell? ⟨gb145, 0, none⟩ = some (.slice (some ad150) ((rd_T30 l0_3 x72_3).f0).length c144_0) ∧ w'.cell? ⟨gb145, 1, none⟩ = some (.bool ((rd_T30 l0_3 x72_3).f1)) ∧ w'.cell? ⟨gb145, 2, none⟩ = some (.int .i64 ((rd_T30 l0_3 x72_3).f2)) ∧ w'.cell? ⟨gb145, 3, none⟩ = some (.slice A144_3 ((rd_T30 l0_3 x72_3).f3).length c144_3) ∧ w'.cell? ⟨gb142, 0, none⟩ = some (.slice A0_0 l0_0.length c0_0) ∧ w'.cell? ⟨gb142, 1, none⟩ = some (.bool a0_1) ∧ w'.cell? ⟨gb142, 2, none⟩ = some (.int .i64 a0_2) ∧ w'.cell? ⟨gb142, 3, none⟩ = some (.slice (some ad144) l0_3.length c0_3) ∧ w'.cell? (ad144.add (((ji45)).toNat * 4)) = some (.slice (some ad149) ((rd_T30 l0_3 (ji45)).f0).length c148_0) ∧ w'.cell? ⟨(ad144.add (((ji45)).toNat * 4)).block, (ad144.add (((ji45)).toNat * 4)).off + 1, none⟩ = some (.bool ((rd_T30 l0_3 (ji45)).f1)) ∧ w'.cell? ⟨(ad144.add (((ji45)).toNat * 4)).block, (ad144.add (((ji45)).toNat * 4)).off + 2, none⟩ = some (.int .i64 ((rd_T30 l0_3 (ji45)).f2)) ∧ w'.cell? ⟨(ad144.add (((ji45)).toNat * 4)).block, (ad144.add (((ji45)).toNat * 4)).off + 3, none⟩ = some (.slice A148_3 ((rd_T30 l0_3 (ji45)).f3).length c148_3) ∧ w'.cell? ad149 = some (.int .u8 (rd ((rd_T30 l0_3 (ji45)).f0) 0)) ∧ w'.cell? ad150 = some (.int .u8 (rd ((rd_T30 l0_3 x72_3).f0) 0))) (ds := []) (tf 0 31) (by kernel_rfl) rfl rfl (cells_4 BK145.out (cells_4 BK142.out ⟨hx148_0, hx148_1, hx148_2, hx148_3, (by have h_ := Kd.foot_int (HR148_0.out _ (by repeat (first | exact HK.out | apply Kept.alloc | apply Kept.drewN | apply Kept.drew | refine Kept.setCell ?_ (.inl (.inr rfl)) _))) (0 : Int) (of_eq_true p149) (of_eq_true q149); rw [show ((0 : Int)).toNat = 0 from rfl, Addr.add_zero'] at h_; exact h_), (by have h_ := Kd.foot_int (HR144_0.out _ (by repeat (first | exact HK.out | apply Kept.alloc | apply Kept.drewN | apply Kept.drew | refine Kept.setCell ?_ (.inl (.inr rfl)) _))) (0 : Int) (of_eq_true p150) (of_eq_true q150); rw [show ((0 : Int)).toNat = 0 from rfl, Addr.add_zero'] at h_; exact h_)⟩)) (fun hHeld => ?_); refine with_tabW impl_scan.tab9 impl_scan.bits9 (fun HT_ HW_ => ?_)
                generalize w62.drew = w63 at BK142 BK145 HI3 HK HB HR148_0 HR148_3 hx148_0 hx148_1 hx148_2 hx148_3 hx149_0 hx150_0 hHeld ⊢
                refine pv_ HT_ 1 (some 78) (tb 31 2) (h := ?_)
                refine pv_ HT_ 2 (some 79) (tb 31 6) (h := ?_)
                refine pv_ HT_ 3 (some 80) (tb 31 14) (h := ?_)
                refine pv_ HT_ 4 (some 81) (tb 31 30) (h := ?_)
                refine pv_ HT_ 8 (some 85) (tb 31 286) (h := ?_)
                refine tv_ HT_ HW_ hHeld 0 (some 77) (tb 31 287) (h := ?_)
                refine tv_ HT_ HW_ hHeld 5 (some 82) (tb 31 319) (h := ?_)
                refine pv_ HT_ 6 (some 83) (tb 31 383) (h := ?_)
                refine pv_ HT_ 7 (some 84) (tf 9 22) (h := ?_)
                refine one_ (i := 9) (N := some 86) (tf 10 21) rfl rfl (one_of HT_.out (by kernel_rfl)) (by decide) (fun K hK => ?_)
                refine gs_ Try.func62 #[.agg #[.slice (some ad150) ((rd_T30 l0_3 x72_3).f0).length c144_0, .bool ((rd_T30 l0_3 x72_3).f1), .int .i64 ((rd_T30 l0_3 x72_3).f2), .slice A144_3 ((rd_T30 l0_3 x72_3).f3).length c144_3], .int .i64 (wrap64 (a1 + 1)), .int .i64 (wrap64 (a2 + (l0_0.length : Int))), .pointer (some ⟨g, 0, none⟩)] (h := ?_)
                with_reducible refine (ih k3 (by have := HJ4.out; have := HJ19.out; have := HK3.out; omega) _ _ ((rd_T30 l0_3 x72_3).f0) ((rd_T30 l0_3 x72_3).f1) ((rd_T30 l0_3 x72_3).f2) _ _ ((rd_T30 l0_3 x72_3).f3) (wrap64 (a1 + 1)) (wrap64 (a2 + (l0_0.length : Int))) g x4000_3 true t147 w0 _ ?side1 ?side2 ?side3 ?side4 ?side5 ?side6 ?side7 A42.out).mono ?_
                (case side1 => repeat (first | (with_reducible first | exact HI3.out | apply IsS3.alloc | apply IsS3.drewN | apply IsS3.drew | apply IsS3.set_0 | refine IsS3.far ?_ NB3_142.out _ | refine IsS3.far ?_ NB3_145.out _) | exact HI3.out))
                (case side2 => repeat (first | (with_reducible first | exact HB.out | apply below_alloc | apply pw_below_drewN | apply below_drew1 | refine below_set ?_ (IsS3.ge HI3.out) | refine below_set ?_ GE142.out | refine below_set ?_ GE145.out) | exact HB.out))
                (case side3 => exact Kd.C_foot_now HR144_0.out (by repeat (first | (with_reducible first | exact HK.out | apply KeepBut.set_ | apply keep_drewN | apply keep_drew | apply keep_alloc | refine keep_far ?_ GW142.out _ | refine keep_far ?_ GW145.out _) | exact HK.out)))
                (case side4 => exact HC144_0.out)
                (case side5 => exact foot_far HR144_0.out (by decide))
                (case side6 => exact Kd.C_foot_step HR144_3.out (by repeat (first | (with_reducible first | exact HK.out | apply KeepBut.set_ | apply keep_drewN | apply keep_drew | apply keep_alloc | refine keep_far ?_ GW142.out _ | refine keep_far ?_ GW145.out _) | exact HK.out)))
                (case side7 => exact HC144_3.out)
                rintro e w64 ⟨rfl, hi, hb, hk⟩
                have HS8_ := keep_cell hk (hHeld.2.2.2.2.2.2.2.2.1) (by first | (rw [add_block]; exact hne148_0) | (show (Addr.add _ _).block ≠ _; rw [add_block]; exact hne148_0) | exact hne148_0)
                have HS9_ := keep_cell hk (hHeld.2.2.2.2.2.2.2.2.2.1) (by first | (rw [add_block]; exact hne148_1) | (show (Addr.add _ _).block ≠ _; rw [add_block]; exact hne148_1) | exact hne148_1)
                have HS10_ := keep_cell hk (hHeld.2.2.2.2.2.2.2.2.2.2.1) (by first | (rw [add_block]; exact hne148_2) | (show (Addr.add _ _).block ≠ _; rw [add_block]; exact hne148_2) | exact hne148_2)
                have HS11_ := keep_cell hk (hHeld.2.2.2.2.2.2.2.2.2.2.2.1) (by first | (rw [add_block]; exact hne148_3) | (show (Addr.add _ _).block ≠ _; rw [add_block]; exact hne148_3) | exact hne148_3)
                refine ⟨_, rfl, ?_⟩
                replace BK142 := Aside0.mk (KeepBut.blk hk (g' := gb142) (o := .cells #[.slice A0_0 l0_0.length c0_0, .bool a0_1, .int .i64 a0_2, .slice (some ad144) l0_3.length c0_3] 30 (0, 0)) (bkp BK142) NB142_3.out (by simp))
                replace BK145 := Aside0.mk (KeepBut.blk hk (g' := gb145) (o := .cells #[.slice (some ad150) ((rd_T30 l0_3 x72_3).f0).length c144_0, .bool ((rd_T30 l0_3 x72_3).f1), .int .i64 ((rd_T30 l0_3 x72_3).f2), .slice A144_3 ((rd_T30 l0_3 x72_3).f3).length c144_3] 30 (0, 0)) (bkp BK145) NB145_3.out (by simp))
                replace HK := Aside0.mk (KeepBut.trans (by repeat (first | (with_reducible first | exact HK.out | apply KeepBut.set_ | apply keep_drewN | apply keep_drew | apply keep_alloc | refine keep_far ?_ GW142.out _ | refine keep_far ?_ GW145.out _) | exact HK.out)) hk (.inl rfl))
                replace HB := Aside0.mk (hb)
                replace HI3 := Aside0.mk (hi)
                (try clear hb)
                (try clear hb2)
                (try clear hk)
                (try clear hi)
                refine hK.out _ _ (cells_4 BK145.out (cells_4 BK142.out ⟨HS8_, HS9_, HS10_, HS11_, (by have h_ := Kd.foot_int (HR148_0.out _ (by repeat (first | exact HK.out | apply Kept.alloc | apply Kept.drewN | apply Kept.drew | refine Kept.setCell ?_ (.inl (.inr rfl)) _))) (0 : Int) (of_eq_true p149) (of_eq_true q149); rw [show ((0 : Int)).toNat = 0 from rfl, Addr.add_zero'] at h_; exact h_), (by have h_ := Kd.foot_int (HR144_0.out _ (by repeat (first | exact HK.out | apply Kept.alloc | apply Kept.drewN | apply Kept.drew | refine Kept.setCell ?_ (.inl (.inr rfl)) _))) (0 : Int) (of_eq_true p150) (of_eq_true q150); rw [show ((0 : Int)).toNat = 0 from rfl, Addr.add_zero'] at h_; exact h_)⟩)) (fun hHeld => ?_)
                clear hK K
                refine nrm_ (some 86) (h := ?_)
                iterate 6 (refine pvn_ HT_ (h := ?_))
                refine pv_ HT_ 17 (some 94) (tb 31 196607) (h := ?_)
                refine pv_ HT_ 18 (some 95) (tb 31 458751) (h := ?_)
                refine pv_ HT_ 24 (some 101) (tb 31 17235967) (h := ?_)
                refine tv_ HT_ HW_ hHeld 16 (some 93) (tb 31 17301503) (h := ?_)
                refine pv_ HT_ 19 (some 96) (tb 31 17825791) (h := ?_)
                refine pv_ HT_ 20 (some 97) (tb 31 18874367) (h := ?_)
                refine tv_ HT_ HW_ hHeld 21 (some 98) (tb 31 20971519) (h := ?_)
                refine pv_ HT_ 22 (some 99) (tb 31 25165823) (h := ?_)
                refine tv_ HT_ HW_ hHeld 23 (some 100) (tf 25 6) (h := ?_)
                refine tvn_ HT_ HW_ hHeld (h := ?_)
                refine pvn_ HT_ (h := ?_)
                refine tvn_ HT_ HW_ hHeld (h := ?_)
                iterate 3 (refine pvn_ HT_ (h := ?_))
                refine done_ (done_of HT_.out (by kernel_rfl)) ?_
                try go_wp2
                go_roundg k3
                case measure => have := HJ4.out; have := HJ19.out; have := HK3.out; omega
                case rel => exact ⟨(wrap64 (x72_3 + 1)), (t147), rs_, H', ⟨by have := HJ4.out; have := HJ19.out; have := HK3.out; omega⟩, ⟨bkp BK142⟩, ⟨by repeat (first | (with_reducible first | exact HI3.out | apply IsS3.alloc | apply IsS3.drewN | apply IsS3.drew | apply IsS3.set_0 | refine IsS3.far ?_ NB3_142.out _ | refine IsS3.far ?_ NB3_145.out _) | exact HI3.out)⟩, ⟨by repeat (first | (with_reducible first | exact HK.out | apply KeepBut.set_ | apply keep_drewN | apply keep_drew | apply keep_alloc | refine keep_far ?_ GW142.out _ | refine keep_far ?_ GW145.out _) | exact HK.out)⟩, ⟨by repeat (first | (with_reducible first | exact HB.out | apply below_alloc | apply pw_below_drewN | apply below_drew1 | refine below_set ?_ (IsS3.ge HI3.out) | refine below_set ?_ GE142.out | refine below_set ?_ GE145.out) | exact HB.out)⟩⟩
               rw [if_neg c49] at H
               exact absurd H (by simp)
              rw [if_neg c48] at H
              exact absurd H (by simp)
             rw [if_neg c47] at H
             exact absurd H (by simp)
            rw [if_neg c46] at H
            exact absurd H (by simp)
           rw [if_neg c44] at H
           have c44b0 : decide (0 < x72_3) = false := decide_eq_false c44
           clear c44
           have H' := Aside0.mk H
           clear H
           have p144 : 0 ≤ (x72_3 : Int) := od
           have q144 : x72_3 < (l0_3.length : Int) := od
           obtain ⟨ad144, A144_0, c144_0, A144_3, c144_3, e144, hx144_0, hx144_1, hx144_2, hx144_3, hl144_0, hi144_0, hl144_3, hi144_3⟩ := atF_T30 HK.out HR0_3.out x72_3 p144 q144
           cases e144
           have HR144_0 := Aside0.mk hi144_0
           have HC144_0 := Aside0.mk hl144_0
           clear hi144_0 hl144_0
           have HR144_3 := Aside0.mk hi144_3
           have HC144_3 := Aside0.mk hl144_3
           clear hi144_3 hl144_3
           replace p144 := eq_true p144
           replace q144 := eq_true q144
           try go_wp2_with (first | ((with_reducible refine gate_dst (N := 10) rfl ?_); (try (refine gate_guard (by rfl) ?_; dsimp only)); refine bx_ 10 #[.slice none 0 0, .bool false, .int .i64 0, .slice none 0 0] 30 (h := ?_); intro gb145 hg w65 hbox hb; have BK145 := Aside0.mk (hbox); have GW145 := Aside0.mk ((by rw [hg]; exact (keep_size (w := w) (g := g) (row := none) (by repeat (first | (with_reducible first | exact HK.out | apply KeepBut.set_ | apply keep_drewN | apply keep_drew | apply keep_alloc | refine keep_far ?_ GW142.out _) | exact HK.out))) : w.heap.size ≤ gb145)); have GE145 := Aside0.mk ((Nat.le_trans HW0.out (by rw [hg]; exact (keep_size (w := w) (g := g) (row := none) (by repeat (first | (with_reducible first | exact HK.out | apply KeepBut.set_ | apply keep_drewN | apply keep_drew | apply keep_alloc | refine keep_far ?_ GW142.out _) | exact HK.out))) : w.heap.size ≤ gb145) : w0.heap.size ≤ gb145)); have NB142_145 := Aside0.mk ((by rw [hg]; exact Nat.ne_of_lt (blt BK142) : gb142 ≠ gb145)); have NB145_142 := Aside0.mk NB142_145.out.symm; have NB3_145 := Aside0.mk ((by rw [hg]; exact Nat.ne_of_lt (IsS3.lt (show IsS3 w0 _ g x4000_3 from by repeat (first | (with_reducible first | exact HI3.out | apply IsS3.alloc | apply IsS3.drewN | apply IsS3.drew | apply IsS3.set_0 | refine IsS3.far ?_ NB3_142.out _) | exact HI3.out))) : g ≠ gb145)); have NB145_3 := Aside0.mk ((by rw [hg]; exact Nat.ne_of_gt (IsS3.lt (show IsS3 w0 _ g x4000_3 from by repeat (first | (with_reducible first | exact HI3.out | apply IsS3.alloc | apply IsS3.drewN | apply IsS3.drew | apply IsS3.set_0 | refine IsS3.far ?_ NB3_142.out _) | exact HI3.out))) : gb145 ≠ g)); replace BK142 := Aside0.mk (blb BK142 hb); replace HK := Aside0.mk (KeepBut.trans (by repeat (first | (with_reducible first | exact HK.out | apply KeepBut.set_ | apply keep_drewN | apply keep_drew | apply keep_alloc | refine keep_far ?_ GW142.out _) | exact HK.out)) (KeepBut.of_below hb g none) (.inl rfl)); replace HB := Aside0.mk (below_step (by repeat (first | (with_reducible first | exact HB.out | apply below_alloc | apply pw_below_drewN | apply below_drew1 | refine below_set ?_ (IsS3.ge HI3.out) | refine below_set ?_ GE142.out) | exact HB.out)) hb); replace HI3 := Aside0.mk (IsS3.below (by repeat (first | (with_reducible first | exact HI3.out | apply IsS3.alloc | apply IsS3.drewN | apply IsS3.drew | apply IsS3.set_0 | refine IsS3.far ?_ NB3_142.out _) | exact HI3.out)) hb); clear hb hbox hg; have hnb66 := NB145_142.out; have hnc66 := NB142_145.out; have hnb67 := NB145_3.out; have hnc67 := NB3_145.out; obtain ⟨C68_0, C68_1, C68_2, C68_3, -⟩ := cells_4 BK145.out trivial; obtain ⟨F68_0, F68_1, F68_2, F68_3, -⟩ := frz_4 BK145.out))
           have n0_ : Aside0 (((((w65.setCell ⟨gb145, 0, none⟩ (.slice A144_0 ((rd_T30 l0_3 x72_3).f0).length c144_0)).setCell ⟨gb145, 1, none⟩ (.bool ((rd_T30 l0_3 x72_3).f1))).setCell ⟨gb145, 2, none⟩ (.int .i64 ((rd_T30 l0_3 x72_3).f2))).setCell ⟨gb145, 3, none⟩ (.slice A144_3 ((rd_T30 l0_3 x72_3).f3).length c144_3)).heap[gb142]? = some (.cells #[.slice A0_0 l0_0.length c0_0, .bool a0_1, .int .i64 a0_2, .slice (some ad144) l0_3.length c0_3] 30 (0, 0))) := ⟨by (with_reducible repeat (first | refine blk_drewN ?_ _ | refine blk_drew ?_ | refine blk_alloc ?_ _)); refine blk_far ?_ NB142_145.out _; (with_reducible repeat (first | refine blk_drewN ?_ _ | refine blk_drew ?_ | refine blk_alloc ?_ _)); refine blk_far ?_ NB142_145.out _; (with_reducible repeat (first | refine blk_drewN ?_ _ | refine blk_drew ?_ | refine blk_alloc ?_ _)); refine blk_far ?_ NB142_145.out _; (with_reducible repeat (first | refine blk_drewN ?_ _ | refine blk_drew ?_ | refine blk_alloc ?_ _)); refine blk_far ?_ NB142_145.out _; (with_reducible repeat (first | refine blk_drewN ?_ _ | refine blk_drew ?_ | refine blk_alloc ?_ _)); exact BK142.out⟩
           have n1_ : Aside0 (((((w65.setCell ⟨gb145, 0, none⟩ (.slice A144_0 ((rd_T30 l0_3 x72_3).f0).length c144_0)).setCell ⟨gb145, 1, none⟩ (.bool ((rd_T30 l0_3 x72_3).f1))).setCell ⟨gb145, 2, none⟩ (.int .i64 ((rd_T30 l0_3 x72_3).f2))).setCell ⟨gb145, 3, none⟩ (.slice A144_3 ((rd_T30 l0_3 x72_3).f3).length c144_3)).heap[gb145]? = some (.cells #[.slice A144_0 ((rd_T30 l0_3 x72_3).f0).length c144_0, .bool ((rd_T30 l0_3 x72_3).f1), .int .i64 ((rd_T30 l0_3 x72_3).f2), .slice A144_3 ((rd_T30 l0_3 x72_3).f3).length c144_3] 30 (0, 0))) := ⟨by (with_reducible repeat (first | refine blk_drewN ?_ _ | refine blk_drew ?_ | refine blk_alloc ?_ _)); refine blk_put (cs := #[.slice A144_0 ((rd_T30 l0_3 x72_3).f0).length c144_0, .bool ((rd_T30 l0_3 x72_3).f1), .int .i64 ((rd_T30 l0_3 x72_3).f2), .slice none 0 0]) ?_ 3 _ rfl; (with_reducible repeat (first | refine blk_drewN ?_ _ | refine blk_drew ?_ | refine blk_alloc ?_ _)); refine blk_put (cs := #[.slice A144_0 ((rd_T30 l0_3 x72_3).f0).length c144_0, .bool ((rd_T30 l0_3 x72_3).f1), .int .i64 0, .slice none 0 0]) ?_ 2 _ rfl; (with_reducible repeat (first | refine blk_drewN ?_ _ | refine blk_drew ?_ | refine blk_alloc ?_ _)); refine blk_put (cs := #[.slice A144_0 ((rd_T30 l0_3 x72_3).f0).length c144_0, .bool false, .int .i64 0, .slice none 0 0]) ?_ 1 _ rfl; (with_reducible repeat (first | refine blk_drewN ?_ _ | refine blk_drew ?_ | refine blk_alloc ?_ _)); refine blk_put (cs := #[.slice none 0 0, .bool false, .int .i64 0, .slice none 0 0]) ?_ 0 _ rfl; (with_reducible repeat (first | refine blk_drewN ?_ _ | refine blk_drew ?_ | refine blk_alloc ?_ _)); exact BK145.out⟩
           have n2_ : Aside0 (IsS3 w0 ((((w65.setCell ⟨gb145, 0, none⟩ (.slice A144_0 ((rd_T30 l0_3 x72_3).f0).length c144_0)).setCell ⟨gb145, 1, none⟩ (.bool ((rd_T30 l0_3 x72_3).f1))).setCell ⟨gb145, 2, none⟩ (.int .i64 ((rd_T30 l0_3 x72_3).f2))).setCell ⟨gb145, 3, none⟩ (.slice A144_3 ((rd_T30 l0_3 x72_3).f3).length c144_3)) g x4000_3) := ⟨by repeat (first | (with_reducible first | exact HI3.out | apply IsS3.alloc | apply IsS3.drewN | apply IsS3.drew | apply IsS3.set_0 | refine IsS3.far ?_ NB3_142.out _ | refine IsS3.far ?_ NB3_145.out _) | exact HI3.out)⟩
           have n3_ : Aside0 (KeepBut w ((((w65.setCell ⟨gb145, 0, none⟩ (.slice A144_0 ((rd_T30 l0_3 x72_3).f0).length c144_0)).setCell ⟨gb145, 1, none⟩ (.bool ((rd_T30 l0_3 x72_3).f1))).setCell ⟨gb145, 2, none⟩ (.int .i64 ((rd_T30 l0_3 x72_3).f2))).setCell ⟨gb145, 3, none⟩ (.slice A144_3 ((rd_T30 l0_3 x72_3).f3).length c144_3)) g none) := ⟨by repeat (first | (with_reducible first | exact HK.out | apply KeepBut.set_ | apply keep_drewN | apply keep_drew | apply keep_alloc | refine keep_far ?_ GW142.out _ | refine keep_far ?_ GW145.out _) | exact HK.out)⟩
           have n4_ : Aside0 (Below w0.heap.size w0 ((((w65.setCell ⟨gb145, 0, none⟩ (.slice A144_0 ((rd_T30 l0_3 x72_3).f0).length c144_0)).setCell ⟨gb145, 1, none⟩ (.bool ((rd_T30 l0_3 x72_3).f1))).setCell ⟨gb145, 2, none⟩ (.int .i64 ((rd_T30 l0_3 x72_3).f2))).setCell ⟨gb145, 3, none⟩ (.slice A144_3 ((rd_T30 l0_3 x72_3).f3).length c144_3))) := ⟨by repeat (first | (with_reducible first | exact HB.out | apply below_alloc | apply pw_below_drewN | apply below_drew1 | refine below_set ?_ (IsS3.ge HI3.out) | refine below_set ?_ GE142.out | refine below_set ?_ GE145.out) | exact HB.out)⟩
           (try clear BK142)
           (try clear BK145)
           (try clear HI3)
           (try clear HK)
           (try clear HB)
           generalize ((((w65.setCell ⟨gb145, 0, none⟩ (.slice A144_0 ((rd_T30 l0_3 x72_3).f0).length c144_0)).setCell ⟨gb145, 1, none⟩ (.bool ((rd_T30 l0_3 x72_3).f1))).setCell ⟨gb145, 2, none⟩ (.int .i64 ((rd_T30 l0_3 x72_3).f2))).setCell ⟨gb145, 3, none⟩ (.slice A144_3 ((rd_T30 l0_3 x72_3).f3).length c144_3)) = w69 at n0_ n1_ n2_ n3_ n4_ ⊢
           have BK142 := n0_
           have BK145 := n1_
           have HI3 := n2_
           have HK := n3_
           have HB := n4_
           clear n0_ n1_ n2_ n3_ n4_
           replace BK142 := Aside0.mk (blk_drew BK142.out)
           replace BK145 := Aside0.mk (blk_drew BK145.out)
           replace HI3 := Aside0.mk (IsS3.drew HI3.out)
           replace HK := Aside0.mk (keep_drew HK.out)
           replace HB := Aside0.mk (below_drew1 HB.out)
           refine start_ (n := 31) (S := fun w' => w'.cell? ⟨gb145, 0, none⟩ = some (.slice A144_0 ((rd_T30 l0_3 x72_3).f0).length c144_0) ∧ w'.cell? ⟨gb145, 1, none⟩ = some (.bool ((rd_T30 l0_3 x72_3).f1)) ∧ w'.cell? ⟨gb145, 2, none⟩ = some (.int .i64 ((rd_T30 l0_3 x72_3).f2)) ∧ w'.cell? ⟨gb145, 3, none⟩ = some (.slice A144_3 ((rd_T30 l0_3 x72_3).f3).length c144_3) ∧ w'.cell? ⟨gb142, 0, none⟩ = some (.slice A0_0 l0_0.length c0_0) ∧ w'.cell? ⟨gb142, 1, none⟩ = some (.bool a0_1) ∧ w'.cell? ⟨gb142, 2, none⟩ = some (.int .i64 a0_2) ∧ w'.cell? ⟨gb142, 3, none⟩ = some (.slice (some ad144) l0_3.length c0_3)) (ds := []) (tf 0 31) (by kernel_rfl) rfl rfl (cells_4 BK145.out (cellz_4 BK142.out)) (fun hHeld => ?_); refine with_tabW impl_scan.tab9 impl_scan.bits9 (fun HT_ HW_ => ?_)
           generalize w69.drew = w70 at BK142 BK145 HI3 HK HB hHeld ⊢
           refine pv_ HT_ 1 (some 78) (tb 31 2) (h := ?_)
           refine pv_ HT_ 2 (some 79) (tb 31 6) (h := ?_)
           refine pv_ HT_ 3 (some 80) (tb 31 14) (h := ?_)
           refine pv_ HT_ 4 (some 81) (tb 31 30) (h := ?_)
           refine pv_ HT_ 8 (some 85) (tb 31 286) (h := ?_)
           refine tv_ HT_ HW_ hHeld 0 (some 77) (tb 31 287) (h := ?_)
           refine tv_ HT_ HW_ hHeld 5 (some 82) (tb 31 319) (h := ?_)
           refine pv_ HT_ 6 (some 83) (tb 31 383) (h := ?_)
           refine pv_ HT_ 7 (some 84) (tf 9 22) (h := ?_)
           refine one_ (i := 9) (N := some 86) (tf 10 21) rfl rfl (one_of HT_.out (by kernel_rfl)) (by decide) (fun K hK => ?_)
           refine gs_ Try.func62 #[.agg #[.slice A144_0 ((rd_T30 l0_3 x72_3).f0).length c144_0, .bool ((rd_T30 l0_3 x72_3).f1), .int .i64 ((rd_T30 l0_3 x72_3).f2), .slice A144_3 ((rd_T30 l0_3 x72_3).f3).length c144_3], .int .i64 (wrap64 (a1 + 1)), .int .i64 (wrap64 (a2 + (l0_0.length : Int))), .pointer (some ⟨g, 0, none⟩)] (h := ?_)
           with_reducible refine (ih k3 (by have := HJ4.out; have := HJ19.out; have := HK3.out; omega) _ _ ((rd_T30 l0_3 x72_3).f0) ((rd_T30 l0_3 x72_3).f1) ((rd_T30 l0_3 x72_3).f2) _ _ ((rd_T30 l0_3 x72_3).f3) (wrap64 (a1 + 1)) (wrap64 (a2 + (l0_0.length : Int))) g x4000_3 true t147 w0 _ ?side1 ?side2 ?side3 ?side4 ?side5 ?side6 ?side7 A42.out).mono ?_
           (case side1 => repeat (first | (with_reducible first | exact HI3.out | apply IsS3.alloc | apply IsS3.drewN | apply IsS3.drew | apply IsS3.set_0 | refine IsS3.far ?_ NB3_142.out _ | refine IsS3.far ?_ NB3_145.out _) | exact HI3.out))
           (case side2 => repeat (first | (with_reducible first | exact HB.out | apply below_alloc | apply pw_below_drewN | apply below_drew1 | refine below_set ?_ (IsS3.ge HI3.out) | refine below_set ?_ GE142.out | refine below_set ?_ GE145.out) | exact HB.out))
           (case side3 => exact Kd.C_foot_now HR144_0.out (by repeat (first | (with_reducible first | exact HK.out | apply KeepBut.set_ | apply keep_drewN | apply keep_drew | apply keep_alloc | refine keep_far ?_ GW142.out _ | refine keep_far ?_ GW145.out _) | exact HK.out)))
           (case side4 => exact HC144_0.out)
           (case side5 => exact foot_far HR144_0.out (by decide))
           (case side6 => exact Kd.C_foot_step HR144_3.out (by repeat (first | (with_reducible first | exact HK.out | apply KeepBut.set_ | apply keep_drewN | apply keep_drew | apply keep_alloc | refine keep_far ?_ GW142.out _ | refine keep_far ?_ GW145.out _) | exact HK.out)))
           (case side7 => exact HC144_3.out)
           rintro e w71 ⟨rfl, hi, hb, hk⟩
           refine ⟨_, rfl, ?_⟩
           replace BK142 := Aside0.mk (KeepBut.blk hk (g' := gb142) (o := .cells #[.slice A0_0 l0_0.length c0_0, .bool a0_1, .int .i64 a0_2, .slice (some ad144) l0_3.length c0_3] 30 (0, 0)) (bkp BK142) NB142_3.out (by simp))
           replace BK145 := Aside0.mk (KeepBut.blk hk (g' := gb145) (o := .cells #[.slice A144_0 ((rd_T30 l0_3 x72_3).f0).length c144_0, .bool ((rd_T30 l0_3 x72_3).f1), .int .i64 ((rd_T30 l0_3 x72_3).f2), .slice A144_3 ((rd_T30 l0_3 x72_3).f3).length c144_3] 30 (0, 0)) (bkp BK145) NB145_3.out (by simp))
           replace HK := Aside0.mk (KeepBut.trans (by repeat (first | (with_reducible first | exact HK.out | apply KeepBut.set_ | apply keep_drewN | apply keep_drew | apply keep_alloc | refine keep_far ?_ GW142.out _ | refine keep_far ?_ GW145.out _) | exact HK.out)) hk (.inl rfl))
           replace HB := Aside0.mk (hb)
           replace HI3 := Aside0.mk (hi)
           (try clear hb)
           (try clear hb2)
           (try clear hk)
           (try clear hi)
           refine hK.out _ _ (cells_4 BK145.out (cellz_4 BK142.out)) (fun hHeld => ?_)
           clear hK K
           refine nrm_ (some 86) (h := ?_)
           iterate 5 (refine pvn_ HT_ (h := ?_))
           refine puns_ HT_ 14 [some _, some _, some _, some _, some _, some _, some _, some _, some _, some _, some _, some _, some _, some _] (h := ?_)
           iterate 2 (refine pvn_ HT_ (h := ?_))
           refine done_ (done_of HT_.out (by kernel_rfl)) ?_
           try go_wp2
           go_roundg k3
           case measure => have := HJ4.out; have := HJ19.out; have := HK3.out; omega
           case rel => exact ⟨(wrap64 (x72_3 + 1)), (t147), rs_, H', ⟨by have := HJ4.out; have := HJ19.out; have := HK3.out; omega⟩, ⟨bkp BK142⟩, ⟨by repeat (first | (with_reducible first | exact HI3.out | apply IsS3.alloc | apply IsS3.drewN | apply IsS3.drew | apply IsS3.set_0 | refine IsS3.far ?_ NB3_142.out _ | refine IsS3.far ?_ NB3_145.out _) | exact HI3.out)⟩, ⟨by repeat (first | (with_reducible first | exact HK.out | apply KeepBut.set_ | apply keep_drewN | apply keep_drew | apply keep_alloc | refine keep_far ?_ GW142.out _ | refine keep_far ?_ GW145.out _) | exact HK.out)⟩, ⟨by repeat (first | (with_reducible first | exact HB.out | apply below_alloc | apply pw_below_drewN | apply below_drew1 | refine below_set ?_ (IsS3.ge HI3.out) | refine below_set ?_ GE142.out | refine below_set ?_ GE145.out) | exact HB.out)⟩⟩
          replace c43 := Bool.eq_false_iff.mpr c43
          subst c43
          have H1 : (some (false, t147)) = some (r1, r2) := by rw [if_neg (show ¬ (false = true) by decide)] at H; exact H
          clear H
          have H := H1
          clear H1
          simp only [Option.some.injEq, Prod.mk.injEq] at H
          obtain ⟨rfl, rfl⟩ := H
          have p144 : 0 ≤ (x72_3 : Int) := od
          have q144 : x72_3 < (l0_3.length : Int) := od
          obtain ⟨ad144, A144_0, c144_0, A144_3, c144_3, e144, hx144_0, hx144_1, hx144_2, hx144_3, hl144_0, hi144_0, hl144_3, hi144_3⟩ := atF_T30 HK.out HR0_3.out x72_3 p144 q144
          cases e144
          have HR144_0 := Aside0.mk hi144_0
          have HC144_0 := Aside0.mk hl144_0
          clear hi144_0 hl144_0
          have HR144_3 := Aside0.mk hi144_3
          have HC144_3 := Aside0.mk hl144_3
          clear hi144_3 hl144_3
          replace p144 := eq_true p144
          replace q144 := eq_true q144
          try go_wp2_with (first | ((with_reducible refine gate_dst (N := 10) rfl ?_); (try (refine gate_guard (by rfl) ?_; dsimp only)); refine bx_ 10 #[.slice none 0 0, .bool false, .int .i64 0, .slice none 0 0] 30 (h := ?_); intro gb145 hg w72 hbox hb; have BK145 := Aside0.mk (hbox); have GW145 := Aside0.mk ((by rw [hg]; exact (keep_size (w := w) (g := g) (row := none) (by repeat (first | (with_reducible first | exact HK.out | apply KeepBut.set_ | apply keep_drewN | apply keep_drew | apply keep_alloc | refine keep_far ?_ GW142.out _) | exact HK.out))) : w.heap.size ≤ gb145)); have GE145 := Aside0.mk ((Nat.le_trans HW0.out (by rw [hg]; exact (keep_size (w := w) (g := g) (row := none) (by repeat (first | (with_reducible first | exact HK.out | apply KeepBut.set_ | apply keep_drewN | apply keep_drew | apply keep_alloc | refine keep_far ?_ GW142.out _) | exact HK.out))) : w.heap.size ≤ gb145) : w0.heap.size ≤ gb145)); have NB142_145 := Aside0.mk ((by rw [hg]; exact Nat.ne_of_lt (blt BK142) : gb142 ≠ gb145)); have NB145_142 := Aside0.mk NB142_145.out.symm; have NB3_145 := Aside0.mk ((by rw [hg]; exact Nat.ne_of_lt (IsS3.lt (show IsS3 w0 _ g x4000_3 from by repeat (first | (with_reducible first | exact HI3.out | apply IsS3.alloc | apply IsS3.drewN | apply IsS3.drew | apply IsS3.set_0 | refine IsS3.far ?_ NB3_142.out _) | exact HI3.out))) : g ≠ gb145)); have NB145_3 := Aside0.mk ((by rw [hg]; exact Nat.ne_of_gt (IsS3.lt (show IsS3 w0 _ g x4000_3 from by repeat (first | (with_reducible first | exact HI3.out | apply IsS3.alloc | apply IsS3.drewN | apply IsS3.drew | apply IsS3.set_0 | refine IsS3.far ?_ NB3_142.out _) | exact HI3.out))) : gb145 ≠ g)); replace BK142 := Aside0.mk (blb BK142 hb); replace HK := Aside0.mk (KeepBut.trans (by repeat (first | (with_reducible first | exact HK.out | apply KeepBut.set_ | apply keep_drewN | apply keep_drew | apply keep_alloc | refine keep_far ?_ GW142.out _) | exact HK.out)) (KeepBut.of_below hb g none) (.inl rfl)); replace HB := Aside0.mk (below_step (by repeat (first | (with_reducible first | exact HB.out | apply below_alloc | apply pw_below_drewN | apply below_drew1 | refine below_set ?_ (IsS3.ge HI3.out) | refine below_set ?_ GE142.out) | exact HB.out)) hb); replace HI3 := Aside0.mk (IsS3.below (by repeat (first | (with_reducible first | exact HI3.out | apply IsS3.alloc | apply IsS3.drewN | apply IsS3.drew | apply IsS3.set_0 | refine IsS3.far ?_ NB3_142.out _) | exact HI3.out)) hb); clear hb hbox hg; have hnb73 := NB145_142.out; have hnc73 := NB142_145.out; have hnb74 := NB145_3.out; have hnc74 := NB3_145.out; obtain ⟨C75_0, C75_1, C75_2, C75_3, -⟩ := cells_4 BK145.out trivial; obtain ⟨F75_0, F75_1, F75_2, F75_3, -⟩ := frz_4 BK145.out))
          have n0_ : Aside0 (((((w72.setCell ⟨gb145, 0, none⟩ (.slice A144_0 ((rd_T30 l0_3 x72_3).f0).length c144_0)).setCell ⟨gb145, 1, none⟩ (.bool ((rd_T30 l0_3 x72_3).f1))).setCell ⟨gb145, 2, none⟩ (.int .i64 ((rd_T30 l0_3 x72_3).f2))).setCell ⟨gb145, 3, none⟩ (.slice A144_3 ((rd_T30 l0_3 x72_3).f3).length c144_3)).heap[gb142]? = some (.cells #[.slice A0_0 l0_0.length c0_0, .bool a0_1, .int .i64 a0_2, .slice (some ad144) l0_3.length c0_3] 30 (0, 0))) := ⟨by (with_reducible repeat (first | refine blk_drewN ?_ _ | refine blk_drew ?_ | refine blk_alloc ?_ _)); refine blk_far ?_ NB142_145.out _; (with_reducible repeat (first | refine blk_drewN ?_ _ | refine blk_drew ?_ | refine blk_alloc ?_ _)); refine blk_far ?_ NB142_145.out _; (with_reducible repeat (first | refine blk_drewN ?_ _ | refine blk_drew ?_ | refine blk_alloc ?_ _)); refine blk_far ?_ NB142_145.out _; (with_reducible repeat (first | refine blk_drewN ?_ _ | refine blk_drew ?_ | refine blk_alloc ?_ _)); refine blk_far ?_ NB142_145.out _; (with_reducible repeat (first | refine blk_drewN ?_ _ | refine blk_drew ?_ | refine blk_alloc ?_ _)); exact BK142.out⟩
          have n1_ : Aside0 (((((w72.setCell ⟨gb145, 0, none⟩ (.slice A144_0 ((rd_T30 l0_3 x72_3).f0).length c144_0)).setCell ⟨gb145, 1, none⟩ (.bool ((rd_T30 l0_3 x72_3).f1))).setCell ⟨gb145, 2, none⟩ (.int .i64 ((rd_T30 l0_3 x72_3).f2))).setCell ⟨gb145, 3, none⟩ (.slice A144_3 ((rd_T30 l0_3 x72_3).f3).length c144_3)).heap[gb145]? = some (.cells #[.slice A144_0 ((rd_T30 l0_3 x72_3).f0).length c144_0, .bool ((rd_T30 l0_3 x72_3).f1), .int .i64 ((rd_T30 l0_3 x72_3).f2), .slice A144_3 ((rd_T30 l0_3 x72_3).f3).length c144_3] 30 (0, 0))) := ⟨by (with_reducible repeat (first | refine blk_drewN ?_ _ | refine blk_drew ?_ | refine blk_alloc ?_ _)); refine blk_put (cs := #[.slice A144_0 ((rd_T30 l0_3 x72_3).f0).length c144_0, .bool ((rd_T30 l0_3 x72_3).f1), .int .i64 ((rd_T30 l0_3 x72_3).f2), .slice none 0 0]) ?_ 3 _ rfl; (with_reducible repeat (first | refine blk_drewN ?_ _ | refine blk_drew ?_ | refine blk_alloc ?_ _)); refine blk_put (cs := #[.slice A144_0 ((rd_T30 l0_3 x72_3).f0).length c144_0, .bool ((rd_T30 l0_3 x72_3).f1), .int .i64 0, .slice none 0 0]) ?_ 2 _ rfl; (with_reducible repeat (first | refine blk_drewN ?_ _ | refine blk_drew ?_ | refine blk_alloc ?_ _)); refine blk_put (cs := #[.slice A144_0 ((rd_T30 l0_3 x72_3).f0).length c144_0, .bool false, .int .i64 0, .slice none 0 0]) ?_ 1 _ rfl; (with_reducible repeat (first | refine blk_drewN ?_ _ | refine blk_drew ?_ | refine blk_alloc ?_ _)); refine blk_put (cs := #[.slice none 0 0, .bool false, .int .i64 0, .slice none 0 0]) ?_ 0 _ rfl; (with_reducible repeat (first | refine blk_drewN ?_ _ | refine blk_drew ?_ | refine blk_alloc ?_ _)); exact BK145.out⟩
          have n2_ : Aside0 (IsS3 w0 ((((w72.setCell ⟨gb145, 0, none⟩ (.slice A144_0 ((rd_T30 l0_3 x72_3).f0).length c144_0)).setCell ⟨gb145, 1, none⟩ (.bool ((rd_T30 l0_3 x72_3).f1))).setCell ⟨gb145, 2, none⟩ (.int .i64 ((rd_T30 l0_3 x72_3).f2))).setCell ⟨gb145, 3, none⟩ (.slice A144_3 ((rd_T30 l0_3 x72_3).f3).length c144_3)) g x4000_3) := ⟨by repeat (first | (with_reducible first | exact HI3.out | apply IsS3.alloc | apply IsS3.drewN | apply IsS3.drew | apply IsS3.set_0 | refine IsS3.far ?_ NB3_142.out _ | refine IsS3.far ?_ NB3_145.out _) | exact HI3.out)⟩
          have n3_ : Aside0 (KeepBut w ((((w72.setCell ⟨gb145, 0, none⟩ (.slice A144_0 ((rd_T30 l0_3 x72_3).f0).length c144_0)).setCell ⟨gb145, 1, none⟩ (.bool ((rd_T30 l0_3 x72_3).f1))).setCell ⟨gb145, 2, none⟩ (.int .i64 ((rd_T30 l0_3 x72_3).f2))).setCell ⟨gb145, 3, none⟩ (.slice A144_3 ((rd_T30 l0_3 x72_3).f3).length c144_3)) g none) := ⟨by repeat (first | (with_reducible first | exact HK.out | apply KeepBut.set_ | apply keep_drewN | apply keep_drew | apply keep_alloc | refine keep_far ?_ GW142.out _ | refine keep_far ?_ GW145.out _) | exact HK.out)⟩
          have n4_ : Aside0 (Below w0.heap.size w0 ((((w72.setCell ⟨gb145, 0, none⟩ (.slice A144_0 ((rd_T30 l0_3 x72_3).f0).length c144_0)).setCell ⟨gb145, 1, none⟩ (.bool ((rd_T30 l0_3 x72_3).f1))).setCell ⟨gb145, 2, none⟩ (.int .i64 ((rd_T30 l0_3 x72_3).f2))).setCell ⟨gb145, 3, none⟩ (.slice A144_3 ((rd_T30 l0_3 x72_3).f3).length c144_3))) := ⟨by repeat (first | (with_reducible first | exact HB.out | apply below_alloc | apply pw_below_drewN | apply below_drew1 | refine below_set ?_ (IsS3.ge HI3.out) | refine below_set ?_ GE142.out | refine below_set ?_ GE145.out) | exact HB.out)⟩
          (try clear BK142)
          (try clear BK145)
          (try clear HI3)
          (try clear HK)
          (try clear HB)
          generalize ((((w72.setCell ⟨gb145, 0, none⟩ (.slice A144_0 ((rd_T30 l0_3 x72_3).f0).length c144_0)).setCell ⟨gb145, 1, none⟩ (.bool ((rd_T30 l0_3 x72_3).f1))).setCell ⟨gb145, 2, none⟩ (.int .i64 ((rd_T30 l0_3 x72_3).f2))).setCell ⟨gb145, 3, none⟩ (.slice A144_3 ((rd_T30 l0_3 x72_3).f3).length c144_3)) = w76 at n0_ n1_ n2_ n3_ n4_ ⊢
          have BK142 := n0_
          have BK145 := n1_
          have HI3 := n2_
          have HK := n3_
          have HB := n4_
          clear n0_ n1_ n2_ n3_ n4_
          replace BK142 := Aside0.mk (blk_drew BK142.out)
          replace BK145 := Aside0.mk (blk_drew BK145.out)
          replace HI3 := Aside0.mk (IsS3.drew HI3.out)
          replace HK := Aside0.mk (keep_drew HK.out)
          replace HB := Aside0.mk (below_drew1 HB.out)
          refine start_ (n := 31) (S := fun w' => w'.cell? ⟨gb145, 0, none⟩ = some (.slice A144_0 ((rd_T30 l0_3 x72_3).f0).length c144_0) ∧ w'.cell? ⟨gb145, 1, none⟩ = some (.bool ((rd_T30 l0_3 x72_3).f1)) ∧ w'.cell? ⟨gb145, 2, none⟩ = some (.int .i64 ((rd_T30 l0_3 x72_3).f2)) ∧ w'.cell? ⟨gb145, 3, none⟩ = some (.slice A144_3 ((rd_T30 l0_3 x72_3).f3).length c144_3) ∧ w'.cell? ⟨gb142, 0, none⟩ = some (.slice A0_0 l0_0.length c0_0) ∧ w'.cell? ⟨gb142, 1, none⟩ = some (.bool a0_1) ∧ w'.cell? ⟨gb142, 2, none⟩ = some (.int .i64 a0_2) ∧ w'.cell? ⟨gb142, 3, none⟩ = some (.slice (some ad144) l0_3.length c0_3)) (ds := []) (tf 0 31) (by kernel_rfl) rfl rfl (cells_4 BK145.out (cellz_4 BK142.out)) (fun hHeld => ?_); refine with_tabW impl_scan.tab9 impl_scan.bits9 (fun HT_ HW_ => ?_)
          generalize w76.drew = w77 at BK142 BK145 HI3 HK HB hHeld ⊢
          refine pv_ HT_ 1 (some 78) (tb 31 2) (h := ?_)
          refine pv_ HT_ 2 (some 79) (tb 31 6) (h := ?_)
          refine pv_ HT_ 3 (some 80) (tb 31 14) (h := ?_)
          refine pv_ HT_ 4 (some 81) (tb 31 30) (h := ?_)
          refine pv_ HT_ 8 (some 85) (tb 31 286) (h := ?_)
          refine tv_ HT_ HW_ hHeld 0 (some 77) (tb 31 287) (h := ?_)
          refine tv_ HT_ HW_ hHeld 5 (some 82) (tb 31 319) (h := ?_)
          refine pv_ HT_ 6 (some 83) (tb 31 383) (h := ?_)
          refine pv_ HT_ 7 (some 84) (tf 9 22) (h := ?_)
          refine one_ (i := 9) (N := some 86) (tf 10 21) rfl rfl (one_of HT_.out (by kernel_rfl)) (by decide) (fun K hK => ?_)
          refine gs_ Try.func62 #[.agg #[.slice A144_0 ((rd_T30 l0_3 x72_3).f0).length c144_0, .bool ((rd_T30 l0_3 x72_3).f1), .int .i64 ((rd_T30 l0_3 x72_3).f2), .slice A144_3 ((rd_T30 l0_3 x72_3).f3).length c144_3], .int .i64 (wrap64 (a1 + 1)), .int .i64 (wrap64 (a2 + (l0_0.length : Int))), .pointer (some ⟨g, 0, none⟩)] (h := ?_)
          with_reducible refine (ih k3 (by have := HJ4.out; have := HJ19.out; have := HK3.out; omega) _ _ ((rd_T30 l0_3 x72_3).f0) ((rd_T30 l0_3 x72_3).f1) ((rd_T30 l0_3 x72_3).f2) _ _ ((rd_T30 l0_3 x72_3).f3) (wrap64 (a1 + 1)) (wrap64 (a2 + (l0_0.length : Int))) g x4000_3 false t147 w0 _ ?side1 ?side2 ?side3 ?side4 ?side5 ?side6 ?side7 A42.out).mono ?_
          (case side1 => repeat (first | (with_reducible first | exact HI3.out | apply IsS3.alloc | apply IsS3.drewN | apply IsS3.drew | apply IsS3.set_0 | refine IsS3.far ?_ NB3_142.out _ | refine IsS3.far ?_ NB3_145.out _) | exact HI3.out))
          (case side2 => repeat (first | (with_reducible first | exact HB.out | apply below_alloc | apply pw_below_drewN | apply below_drew1 | refine below_set ?_ (IsS3.ge HI3.out) | refine below_set ?_ GE142.out | refine below_set ?_ GE145.out) | exact HB.out))
          (case side3 => exact Kd.C_foot_now HR144_0.out (by repeat (first | (with_reducible first | exact HK.out | apply KeepBut.set_ | apply keep_drewN | apply keep_drew | apply keep_alloc | refine keep_far ?_ GW142.out _ | refine keep_far ?_ GW145.out _) | exact HK.out)))
          (case side4 => exact HC144_0.out)
          (case side5 => exact foot_far HR144_0.out (by decide))
          (case side6 => exact Kd.C_foot_step HR144_3.out (by repeat (first | (with_reducible first | exact HK.out | apply KeepBut.set_ | apply keep_drewN | apply keep_drew | apply keep_alloc | refine keep_far ?_ GW142.out _ | refine keep_far ?_ GW145.out _) | exact HK.out)))
          (case side7 => exact HC144_3.out)
          rintro e w78 ⟨rfl, hi, hb, hk⟩
          refine ⟨_, rfl, ?_⟩
          replace BK142 := Aside0.mk (KeepBut.blk hk (g' := gb142) (o := .cells #[.slice A0_0 l0_0.length c0_0, .bool a0_1, .int .i64 a0_2, .slice (some ad144) l0_3.length c0_3] 30 (0, 0)) (bkp BK142) NB142_3.out (by simp))
          replace BK145 := Aside0.mk (KeepBut.blk hk (g' := gb145) (o := .cells #[.slice A144_0 ((rd_T30 l0_3 x72_3).f0).length c144_0, .bool ((rd_T30 l0_3 x72_3).f1), .int .i64 ((rd_T30 l0_3 x72_3).f2), .slice A144_3 ((rd_T30 l0_3 x72_3).f3).length c144_3] 30 (0, 0)) (bkp BK145) NB145_3.out (by simp))
          replace HK := Aside0.mk (KeepBut.trans (by repeat (first | (with_reducible first | exact HK.out | apply KeepBut.set_ | apply keep_drewN | apply keep_drew | apply keep_alloc | refine keep_far ?_ GW142.out _ | refine keep_far ?_ GW145.out _) | exact HK.out)) hk (.inl rfl))
          replace HB := Aside0.mk (hb)
          replace HI3 := Aside0.mk (hi)
          (try clear hb)
          (try clear hb2)
          (try clear hk)
          (try clear hi)
          refine hK.out _ _ (cells_4 BK145.out (cellz_4 BK142.out)) (fun hHeld => ?_)
          clear hK K
          refine nrm_ (some 86) (h := ?_)
          iterate 2 (refine pvn_ HT_ (h := ?_))
          refine puns_ HT_ 18 [some _, some _, some _, some _, some _, some _, some _, some _, some _, some _, some _, some _, some _, some _, some _, some _, some _, some _] (h := ?_)
          refine pvn_ HT_ (h := ?_)
          refine done_ (done_of HT_.out (by kernel_rfl)) ?_
          try go_wp2
          go_ret
          exact ⟨rz_, by repeat (first | (with_reducible first | exact HI3.out | apply IsS3.alloc | apply IsS3.drewN | apply IsS3.drew | apply IsS3.set_0 | refine IsS3.far ?_ NB3_142.out _ | refine IsS3.far ?_ NB3_145.out _) | exact HI3.out), by repeat (first | (with_reducible first | exact HB.out | apply below_alloc | apply pw_below_drewN | apply below_drew1 | refine below_set ?_ (IsS3.ge HI3.out) | refine below_set ?_ GE142.out | refine below_set ?_ GE145.out) | exact HB.out), by repeat (first | (with_reducible first | exact HK.out | apply KeepBut.set_ | apply keep_drewN | apply keep_drew | apply keep_alloc | refine keep_far ?_ GW142.out _ | refine keep_far ?_ GW145.out _) | exact HK.out)⟩
         rw [if_neg c41] at H
         exact absurd H (by simp)
        rw [if_neg c40] at H
        exact absurd H (by simp)
       rw [if_neg c39] at H
       have c39b0 : decide (x72_3 < (l0_3.length : Int)) = false := decide_eq_false c39
       clear c39
       simp only [Option.some.injEq, Prod.mk.injEq] at H
       obtain ⟨rfl, rfl⟩ := H
       go_wp2
       go_ret
       exact ⟨rz_, by repeat (first | (with_reducible first | exact HI3.out | apply IsS3.alloc | apply IsS3.drewN | apply IsS3.drew | apply IsS3.set_0 | refine IsS3.far ?_ NB3_142.out _) | exact HI3.out), by repeat (first | (with_reducible first | exact HB.out | apply below_alloc | apply pw_below_drewN | apply below_drew1 | refine below_set ?_ (IsS3.ge HI3.out) | refine below_set ?_ GE142.out) | exact HB.out), by repeat (first | (with_reducible first | exact HK.out | apply KeepBut.set_ | apply keep_drewN | apply keep_drew | apply keep_alloc | refine keep_far ?_ GW142.out _) | exact HK.out)⟩

end Go.Proofs.Ytoaddpfoecggpaa.PS
