-- Written for this claim by the session's program pp.py, out of the kit's print and the seat's translation.
import Derived.Test.YtoaddpfoecggpaaPWx0
import Derived.Test.YtoaddpfoecggpaaPWx6
import Derived.Test.YtoaddpfoecggpaaPWx8
import Derived.Test.YtoaddpfoecggpaaPWx9
import Derived.Test.YtoaddpfoecggpaaPWx2
namespace Go.Proofs.Ytoaddpfoecggpaa.PW
open Go.RowKit Go.Proofs.YtoaddpfoecggpaaW.PrintWords Go.Proofs.YtoaddpfoecggpaaW.PrintLast Go.Proofs.YtoaddpfoecggpaaW.PrintMore
attribute [local go_sem] max2_int min2_int max_two min_two max_three min_three max_four min_four   -- for this text's walks alone
set_option linter.unusedVariables false
set_option linter.unusedSimpArgs false

/-! ### impl_treeOf: function 81 -/
def impl_treeOf.f (k : Nat) (l0 : List (S84)) : Option (List Int × Bool × Int × (List (S30))) := (impl_grown.f k l0 0 0).bind fun bt389 => (some (bt389.1, bt389.2.1, bt389.2.2.1, bt389.2.2.2))
set_option maxHeartbeats 8000000 in
set_option maxRecDepth 100000 in
theorem impl_treeOf.calls (k : Nat) (A0 : Option Addr) (c0 : Nat) (l0 : List (S84)) (r1 : List Int) (r2 : Bool) (r3 : Int) (r4 : List (S30)) (w : World) (hr0 : Kd.C k84 w A0 l0.length l0) (hc0 : l0.length ≤ c0) (h : impl_treeOf.f k l0 = some (r1, r2, r3, r4)) :
  Calls Try.prog 81 #[.slice A0 l0.length c0] w fun e w' => ∃ v0_ v3_ : Value, e = .returned (.agg #[v0_, .bool r2, .int .i64 r3, v3_]) ∧ Kd.R (Kd.int .u8) 5 w' w.heap.size (fun _ => True) v0_ r1 ∧ Kd.S kD30 30 w' w.heap.size (fun k_ => some k_ ≠ (v0_ : Value).ownBlock) v3_ r4 ∧ Below w.heap.size w w' := by
 have hu30 := Try.underlying30; have HR0 := Aside0.mk hr0; have HC0 := Aside0.mk hc0; clear hr0 hc0; have HB := Aside0.mk (Below.refl w.heap.size w); have H : ((impl_grown.f k l0 0 0).bind fun bt389 => (some (bt389.1, bt389.2.1, bt389.2.2.1, bt389.2.2.2))) = some (r1, r2, r3, r4) := h; clear h; replace H := Option.bind_eq_some_iff.mp H; obtain ⟨⟨t389, t392, t393, t394⟩, A20, H⟩ := H; replace H : (some (t389, t392, t393, t394)) = some (r1, r2, r3, r4) := H; have A2 := Aside0.mk A20; clear A20; simp only [Option.some.injEq, Prod.mk.injEq] at H; obtain ⟨rfl, rfl, rfl, rfl⟩ := H
 go_enter Try.func81, Try.ntmps81
 go_wp2_with (first | ((with_reducible refine gate_dst (N := 2) rfl ?_); refine bx_ 2 #[.slice none 0 0, .bool false, .int .i64 0, .slice none 0 0] 30 (h := ?_); intro gb388 hg w3 hbox hb; have BK388 := Aside0.mk (hbox); have GW388 := Aside0.mk ((by rw [hg]; exact (below_size bel) : w.heap.size ≤ gb388)); have GE388 := GW388; replace HB := bst hb; clear hb hbox hg) | ((with_reducible refine gate_callee (f := 123) rfl ?_); refine gl_ (some 4) Try.func123 #[.slice A0 l0.length c0, .int .i64 0, .int .i64 0] (h := ?_); (with_reducible refine (impl_grown.calls k (fun k_ => k_ < w.heap.size) _ _ l0 0 0 t389 t392 t393 t394 _ ?side1 A2.out).mono ?_); (case side1 => exact Kd.V_mk HC0.out (Kd.F_below (Kd.C_F k84_heap HR0.out) bel)); rintro e w4 ⟨v390, v395, rfl, ho0, ho1, hb⟩; refine ⟨_, rfl, ?_⟩; have HO391 := Aside0.mk (Kd.R_lower (Kd.R_mono (ok' := fun k_ => True) ho0 (fun _ hk_ => trivial)) (below_size bel)); have HO396 := Aside0.mk (Kd.S_lower (Kd.S_newB (Kd.S_mono (ok' := fun k_ => some k_ ≠ (v390 : Value).ownBlock) ho1 (fun _ hk_ => hk_.2)) (g := gb388) (o := .cells #[.slice none 0 0, .bool false, .int .i64 0, .slice none 0 0] 30 (0, 0)) (bkp BK388)) (below_size bel)); replace BK388 := Aside0.mk (blb BK388 hb); replace HB := bst hb; (try clear hb); (try clear hb2); (try clear hk); (try clear hi); (try clear ho0); (try clear ho1); obtain ⟨Ao5, co5, eo5⟩ := Kd.R_slice HO391.out; subst eo5; obtain ⟨C6_0, C6_1, C6_2, C6_3, -⟩ := cells_4 BK388.out trivial; obtain ⟨F6_0, F6_1, F6_2, F6_3, -⟩ := frz_4 BK388.out; obtain ⟨Ao7, co7, eo7⟩ := Kd.S_slice HO396.out; subst eo7))
 refine bodyPost_ret (results_cell_row rfl _ _ gb388 30 #[.slice Ao5 t389.length co5, .bool t392, .int .i64 t393, .slice Ao7 t394.length co7] (0, 0) _ rfl (by (with_reducible repeat (first | refine blk_drewN ?_ _ | refine blk_drew ?_ | refine blk_alloc ?_ _)); apply blk_put4; (with_reducible repeat (first | refine blk_drewN ?_ _ | refine blk_drew ?_ | refine blk_alloc ?_ _)); exact BK388.out) Try.underlying30 rfl (by kernel_rfl)) rfl ?_
 exact ⟨_, _, rz_, by (with_reducible repeat (first | apply Kd.R_alloc | apply Kd.R_drewN | apply Kd.R_drew | apply Kd.S_alloc | apply Kd.S_drewN | apply Kd.S_drew)); exact Kd.R_mono (Kd.R_far4 (q := gb388) (Kd.R_types HO391.out BK388.out (by decide)) (fun _ hk => hk.2)) (fun _ hk => trivial), by (with_reducible repeat (first | apply Kd.R_alloc | apply Kd.R_drewN | apply Kd.R_drew | apply Kd.S_alloc | apply Kd.S_drewN | apply Kd.S_drew)); exact Kd.S_mono (Kd.S_far4 (q := gb388) (Kd.S_mono HO396.out (fun k_ hk => (⟨hk, hk.2⟩ : _ ∧ k_ ≠ gb388))) (fun _ hk => hk.2)) (fun _ hk => hk.1.1), bel⟩

/-! ### impl_TreeDrop: function 42 -/
def impl_TreeDrop.is (p : List Int) (e : S84) : Bool := decide (p.length ≤ e.f0.length ∧ e.f0.take p.length = p)
def impl_TreeDrop.fits (p : List Int) (l : List S84) : Prop := ∀ e ∈ l, impl_HasPrefix.f e.f0 p = some (impl_TreeDrop.is p e)
def impl_TreeDrop.idx (p : List Int) : List S84 → Int → Int
 | [], _ => -1
 | x :: xs, i => if impl_TreeDrop.is p x = true then i else impl_TreeDrop.idx p xs (i + 1)
set_option maxHeartbeats 4000000 in
theorem impl_TreeDrop.pred (e : S84) (Ak : Option Addr) (ck : Nat) (p : List Int) (Ap : Option Addr) (cp gb : Nat) (b : Bool) (W : World) (hk : Kd.C (Kd.int .u8) W Ak e.f0.length e.f0) (hkc : e.f0.length ≤ ck) (hp : Kd.C (Kd.int .u8) W Ap p.length p) (hpc : p.length ≤ cp) (hc : W.cell? ⟨gb, 0, none⟩ = some (.slice Ap p.length cp)) (h : impl_HasPrefix.f e.f0 p = some b) :
  Calls Try.prog 80 #[.agg #[.slice Ak e.f0.length ck, .int .i64 e.f1], .pointer (some ⟨gb, 0, none⟩)] W fun e_ w' => e_ = .returned (.bool b) ∧ Below W.heap.size W w' := by
 have hu := Try.underlying84; have HK := Aside0.mk hk; have HKC := Aside0.mk hkc; have HP := Aside0.mk hp; have HPC := Aside0.mk hpc; have HC := Aside0.mk hc; have HH := Aside0.mk h; clear hk hkc hp hpc hc h; go_enter Try.func80, Try.ntmps80
 go_wp2_with (first
  | ((with_reducible refine gate_dst (N := 2) rfl ?_); refine bx_ 2 #[.slice Ak e.f0.length ck, .int .i64 e.f1] 84 (h := ?_); intro gb1 hg w1 hbox hb; have BK1 := Aside0.mk hbox; have HB1 := Aside0.mk hb; have hcp := (hb.cell (World.block_lt_of_cell? W _ HC.out)).trans HC.out; clear hb hbox hg; have C1_0 : w1.cell? ⟨gb1, 0, none⟩ = some (.slice Ak e.f0.length ck) := (blk_cell BK1.out 0).trans rfl)
  | ((with_reducible refine gate_callee (f := 31) rfl ?_); refine gl_ (some 7) Try.func31 #[.slice Ak e.f0.length ck, .slice Ap p.length cp] (h := ?_); refine (impl_HasPrefix.calls Ak ck e.f0 Ap cp p b w1 (Kd.C_below HK.out HB1.out) HKC.out (Kd.C_below HP.out HB1.out) HPC.out HH.out).mono ?_; rintro e_ w2 ⟨rfl, ⟨nd, rfl⟩⟩; refine ⟨_, rfl, ?_⟩))
 go_ret; exact ⟨rfl, pw_below_drewN HB1.out nd⟩
set_option maxHeartbeats 8000000 in
set_option maxRecDepth 100000 in
theorem impl_TreeDrop.index (A0 : Option Addr) (c0 : Nat) (l : List S84) (p : List Int) (Ap : Option Addr) (cp gb : Nat) (w : World) (hr0 : Kd.C k84 w A0 l.length l) (hl : l.length < 1000000) (hp : Kd.C (Kd.int .u8) w Ap p.length p) (hpc : p.length ≤ cp) (hc : w.cell? ⟨gb, 0, none⟩ = some (.slice Ap p.length cp)) (hf : impl_TreeDrop.fits p l) :
  Calls Try.prog 122 #[.slice A0 l.length c0, .func (.func 80) #[] #[.pointer (some ⟨gb, 0, none⟩)]] w fun e w' => e = .returned (.int .i64 (impl_TreeDrop.idx p l 0)) ∧ Below w.heap.size w w' := by
 have hu := Try.underlying84; have HR0 := Aside0.mk hr0; have HP := Aside0.mk hp; have HC := Aside0.mk hc; have HF := Aside0.mk hf; clear hr0 hp hc hf
 have eg : ∀ args w, (callFunc 80 args).run Try.prog w = .ok (.enter 80 args) w := by
  intro args w; have h1 : ¬ Try.f80.name = "runtime.NumGoroutine" := by simp [Try.f80]
  obtain ⟨c, hb⟩ : ∃ c, Try.f80.body = some c := ⟨_, rfl⟩; simp [callFunc, Try.func80, h1, hb, mark]
 go_enter Try.func122, Try.ntmps122; go_wp2; go_loopg [5, 8] l.length (fun gg _ s8 wr => ∃ x : Int, s8 = .int .i64 x ∧ 0 ≤ x ∧ x ≤ (l.length : Int) ∧ l.length - x.toNat ≤ gg ∧ Aside0 (Below w.heap.size w wr) ∧ Aside0 (impl_TreeDrop.idx p l 0 = impl_TreeDrop.idx p (l.drop x.toNat) x))
 case atStart => exact ⟨0, rfl, by omega, by omega, by omega, ⟨Below.refl _ w⟩, ⟨rfl⟩⟩
 case round =>
  obtain ⟨x, rfl, hx0, hx1, hg, BW, A⟩ := hrel; by_cases hlt : x < (l.length : Int)
  ·obtain ⟨ad, Ak, ck, e, h0, h1, hkc, hk⟩ := at_T84 (Kd.C_below HR0.out BW.out) x hx0 hlt
   cases e
   have hd : l.drop x.toNat = rd_T84 l x :: l.drop (x.toNat + 1) := by
    rw [List.drop_eq_getElem_cons (by omega)]; congr 1; unfold rd_T84; simp [List.getD, show x.toNat < l.length by omega]
   have hmem : rd_T84 l x ∈ l := by
    unfold rd_T84; simp [List.getD, show x.toNat < l.length by omega]
   have hcall := impl_TreeDrop.pred (rd_T84 l x) Ak ck p Ap cp gb _ wr hk hkc (Kd.C_below HP.out BW.out) hpc ((BW.out.cell (World.block_lt_of_cell? w _ HC.out)).trans HC.out) (HF.out _ hmem); have HD := Aside0.mk hd; clear hd hk hmem; by_cases hq : impl_TreeDrop.is p (rd_T84 l x) = true
   ·rw [hq] at hcall
    have HQ := Aside0.mk hq; clear hq; go_wp2_with (refine hcall.mono ?_; rintro e w' ⟨rfl, hb'⟩)
    go_ret; refine ⟨?_, BW.out.trans (hb'.mono BW.out.size)⟩; rw [A.out, HD.out, impl_TreeDrop.idx, if_pos HQ.out]; rfl
   have hqf : impl_TreeDrop.is p (rd_T84 l x) = false := by simpa using hq
   rw [hqf] at hcall; have HQ := Aside0.mk hq; clear hq hqf; go_wp2_with (refine hcall.mono ?_; rintro e w' ⟨rfl, hb'⟩)
   go_roundg (l.length - (x.toNat + 1))
   case measure => omega
   case rel =>
    have ex : (x + 1).toNat = x.toNat + 1 := by omega
    refine ⟨x + 1, by go_num, by omega, by omega, by omega, ⟨BW.out.trans (hb'.mono BW.out.size)⟩, ⟨?_⟩⟩; rw [A.out, HD.out, impl_TreeDrop.idx, if_neg HQ.out, ex]
  have hx : x.toNat = l.length := by omega
  go_wp2; go_ret; refine ⟨?_, BW.out⟩; rw [A.out, hx, List.drop_length, impl_TreeDrop.idx]; rfl
set_option maxHeartbeats 8000000 in
set_option maxRecDepth 100000 in
theorem impl_TreeDrop.clone (P0_ : Nat → Prop) (u0 : Value) (l0 : List S84) (w0 w : World) (hB : Below w0.heap.size w0 w) (ho0 : Kd.R k84 84 w w0.heap.size P0_ u0 l0) (hl : l0.length ≤ 1000000) :
  Calls Try.prog 79 #[u0] w fun e w' => ∃ v0_ : Value, e = .returned (v0_) ∧ Kd.R k84 84 w' w0.heap.size (fun k_ => P0_ k_ ∨ w.heap.size ≤ k_) v0_ l0 ∧ (∀ k_, v0_.ownBlock = some k_ → w.heap.size ≤ k_) ∧ Below w.heap.size w w' := by
 obtain ⟨A0, c0, rfl⟩ := Kd.R_slice ho0; have HB := Aside0.mk hB; cases A0 with
 | none =>
  have hr0 := (Kd.R_reads' ho0).2.2
  have hz : l0.length = 0 := by
   rcases Nat.eq_zero_or_pos l0.length with h | h
   ·exact h
   ·obtain ⟨ad, e, _⟩ := hr0.2.2 h
    cases e
  obtain rfl := List.eq_nil_of_length_eq_zero hz; clear ho0 hr0 hz; have hq := Lib.run_eql_slice_nil (P := Try.prog) w 80 84 none 0 c0 0 0 Try.underlying80; go_enter Try.func79, Try.ntmps79; go_wp2; go_ret; exact ⟨_, rfl, Kd.R_nil _ _ _ _ _, fun k_ h_ => by simp [Value.ownBlock] at h_, Below.refl _ _⟩
 | some ad =>
  have HR0 := Aside0.mk (Kd.R_mono (Kd.R_bound ho0) (fun k_ h_ => (⟨h_.1, h_.2.2.1⟩ : P0_ k_ ∧ k_ < w.heap.size))); have HLL := Aside0.mk hl; have HW := Aside0.mk (Below.refl w.heap.size w); clear ho0 hB hl; have hq := Lib.run_eql_slice_nil (P := Try.prog) w 80 84 (some ad) l0.length c0 0 0 Try.underlying80; go_enter Try.func79, Try.ntmps79
  go_wp2_with (first
   | ((with_reducible refine gate_dst (N := 5) rfl ?_); refine Kd.R_lit k84 (w0 := w0) w0.heap.size 84 ?hg (N := 5) ?hd (xs := ([] : List S84)) (inner := []) (ok := fun k_ => P0_ k_ ∨ w.heap.size ≤ k_) (okp := fun _ => False) ?hr ?hp (fun _ hk => hk.elim) (.inr (Nat.le_refl _)) HB.out HB.out.size (by simp) ?_; (case hd => rfl); (case hg => rfl); (case hr => first | (go_simp; done) | (go_simp; rfl)); (case hp => exact (Reps.none _ _)); intro v5 w5 ho5 hb5 hg5 hn5; have HO5 := Aside0.mk ho5; have HB5 := Aside0.mk hb5; have HN5 := Aside0.mk hn5; have HX5 := Aside0.mk (show Below w.heap.size w w5 from (Below.refl w.heap.size w).grown hg5 (Nat.le_refl _) (fun k_ h_ => by cases h_)); clear ho5 hb5 hn5 hg5)
   | ((with_reducible refine gate_builtin (b := .append) (xs := #[.tmp 5, .tmp 6]) rfl ?_); at_builtin; refine Kd.R_append_rowsO k84 (w0 := w0) w0.heap.size rfl (.tmp 5) (.tmp 6) 80 84 (.agg #[(.slice none 0 0), (.int .i64 0)]) 32 rfl Try.underlying80 info84 rfl (by decide) (by omega) v5 [] l0 _ _ _ (fun k_ => P0_ k_ ∨ w.heap.size ≤ k_) (fun k_ => P0_ k_ ∧ k_ < w.heap.size) rfl rfl HO5.out (Kd.R_below HR0.out HX5.out) (fun k_ h_ => ⟨.inl h_.1, fun e_ => by obtain ⟨b, hb1, hb2⟩ := HN5.out; rw [hb1] at e_; injection e_ with e_; have := h_.2; omega⟩) (fun k_ h_ => .inr (Nat.le_trans HX5.out.size h_)) HB5.out HB5.out.size (by have := HLL.out; simp; omega) ?_; intro v7 w7 ho hb hg hat; have HO7 := Aside0.mk ho; have HB7 := Aside0.mk hb; have HG7 := Aside0.mk hg; have HAT7 := Aside0.mk hat; clear ho hb hg hat))
  go_ret
  have hown : ∀ k_, v7.ownBlock = some k_ → w.heap.size ≤ k_ := by
   intro k_ h_; obtain ⟨b, hb1, hb2⟩ := HN5.out; rcases HAT7.out with h | ⟨b', h1, h2⟩
   ·rw [h, hb1] at h_
    injection h_ with h_; omega
   ·rw [h1] at h_
    injection h_ with h_; have := HX5.out.size; omega
  exact ⟨_, rfl, HO7.out, hown, HX5.out.grown HG7.out HX5.out.size (fun k_ h_ => by obtain ⟨b, hb1, hb2⟩ := HN5.out; rw [hb1] at h_; injection h_ with h_; omega)⟩
/-- clear(v[n : n+q]) behind a row's end: the row stands as it was. -/
theorem R_clear_runQ {α : Type} {P : Program} (d : Kd α) {W : World} (base : Nat) (t ty e : TypeId) (z : Value) (ht : P.underlying t = some (.slice e)) (hv : ∀ w, (zeroValue e).run P w = .ok z w) (hz : z.cells.size = d.sz) (hs0 : 0 < d.sz) (hone : ∀ u ∈ z.cells.toList, u.oneCell' = true)
  {g n c m : Nat} {xs : List α} {ok : Nat → Prop} (HO : d.R e W base ok (.slice (some ⟨g, 0, none⟩) n c) xs) (q : Nat) (hc : n + q ≤ c) :
  ∃ w1, (Builtin.clear_ #[t] ty #[.slice (some ⟨g, n * d.sz, none⟩) q m]).run P W = .ok (.tuple #[]) w1 ∧ d.R e w1 base ok (.slice (some ⟨g, 0, none⟩) n c) xs ∧ W.grownBy w1 (some g) := by
 obtain ⟨hok, inner, hown, hr⟩ := HO; rcases hown.2 with ⟨h, _⟩ | ⟨g', cap, cur, h1, hbg, hg, hnc, hcm, hcs, htake⟩
 ·cases h
 ·injection h1 with h1 hn h2
  injection h1 with h1; injection h1 with h1; subst h1; subst h2
  have hzl : (Builtin.zeroCells z.cells q).toList.length = q * d.sz := by
   rw [← hz]; simp [Builtin.zeroCells]
  have hzo : ∀ u ∈ (Builtin.zeroCells z.cells q).toList, u.oneCell' = true := by
   intro u hu; obtain ⟨i, hi, rfl⟩ := List.mem_iff_getElem.1 hu; have hm : i % z.cells.size < z.cells.size := Nat.mod_lt _ (by omega); have : (Builtin.zeroCells z.cells q).toList[i] = z.cells[i % z.cells.size] := by simp [Builtin.zeroCells, getElem!_pos, hm]
   rw [this]; exact hone _ (by simp)
  have hlen : xs.length = n := by
   have := hn; omega
  have hfit : n * d.sz + (Builtin.zeroCells z.cells q).toList.length ≤ cur.size := by
   rw [hcs, hzl, ← Nat.add_mul]; exact Nat.mul_le_mul_right _ hc
  obtain ⟨cur', h3, h4, h5⟩ := setCells_row (Builtin.zeroCells z.cells q).toList (n * d.sz) W cur hg hfit; obtain ⟨s1, s2, s3, s4⟩ := setCells_same g (Builtin.zeroCells z.cells q).toList (n * d.sz) W; have hst := run_storeCells_cells (P := P) g (n * d.sz) (Builtin.zeroCells z.cells q).toList 0 W (fun j hj => by rw [cell_of_row W g _ cur e (0, 0) hg]; simp; omega) (fun j _ => blk_frozen hg _) hzo; simp only [Nat.add_zero] at hst
  refine ⟨W.setCells g (n * d.sz) (Builtin.zeroCells z.cells q).toList, ?_, ⟨hok, inner, ⟨hown.1, .inr ⟨g, c, cur', by rw [hlen], hbg, h3, hnc, hcm, by rw [h4, hcs], ?_⟩⟩, ?_⟩, ⟨s1, s2, s3, by rw [s4]; exact Nat.le_refl _, fun k _ hk => setCells_far _ _ k (fun e => hk (by rw [e]))⟩⟩
  ·rcases Nat.eq_zero_or_pos q with hq0 | hq0
   ·subst hq0
    have hz0 : (Builtin.zeroCells z.cells 0).toList = [] := List.eq_nil_of_length_eq_zero (by rw [hzl]; simp); rw [hz0]; simp [Builtin.clear_, run_underlying ht, World.setCells]
   ·obtain ⟨q', rfl⟩ : ∃ q', q = q' + 1 := ⟨q - 1, by omega⟩
    simp [Builtin.clear_, run_underlying ht, hv, hst]
  ·rw [h5, hlen]
   have : n * d.sz ≤ cur.toList.length := by
    rw [Array.length_toList]; omega
   rw [List.append_assoc, List.take_append_of_le_length (by rw [List.length_take]; omega), List.take_of_length_le (by rw [List.length_take]; omega)]; rw [hlen] at htake; exact htake
  ·refine hr.imp_ (fun q cs hq => ?_)
   refine d.M_mono (fun k hk => hk.1) (d.M_move (w1 := W.setCells g (n * d.sz) _) (fun k hk => setCells_far _ _ k (fun e => hk.1.2 (by rw [e]; rfl))) (d.M_bound hq))
theorem impl_TreeDrop.idx_spec (p : List Int) : ∀ (l : List S84) (i : Int), 0 ≤ i → (impl_TreeDrop.idx p l i = -1 ∧ ∀ e ∈ l, impl_TreeDrop.is p e = false) ∨ ∃ j, ∃ h : j < l.length, impl_TreeDrop.idx p l i = i + (j : Int) ∧ (∀ e ∈ l.take j, impl_TreeDrop.is p e = false) ∧ impl_TreeDrop.is p l[j] = true
 | [], i, _ => .inl ⟨rfl, fun e he => by simp at he⟩
 | x :: xs, i, h0 => by
  rw [impl_TreeDrop.idx]
  by_cases hx : impl_TreeDrop.is p x = true
  ·exact .inr ⟨0, by simp, by rw [if_pos hx]; simp, by simp, hx⟩
  have hxf : impl_TreeDrop.is p x = false := by simpa using hx
  rw [if_neg hx]
  rcases impl_TreeDrop.idx_spec p xs (i + 1) (by omega) with ⟨h1, h2⟩ | ⟨j, hj, h1, h2, h3⟩
  ·exact .inl ⟨h1, fun e he => by
    rcases List.mem_cons.1 he with rfl | he
    ·exact hxf
    ·exact h2 e he⟩
  ·refine .inr ⟨j + 1, by simp; omega, by rw [h1]; omega, fun e he => ?_, by simpa using h3⟩
   rw [List.take_succ_cons] at he
   rcases List.mem_cons.1 he with rfl | he
   ·exact hxf
   ·exact h2 e he
theorem impl_TreeDrop.rdT (l cur : List S84) (y : Int) (h0 : 0 ≤ y) (hl : y < (l.length : Int)) (hc : cur.length = l.length) (hd : cur.drop y.toNat = l.drop y.toNat) : rd_T84 cur y = rd_T84 l y := by
 have h1 : y.toNat < l.length := by omega
 have h2 : y.toNat < cur.length := by omega
 have := congrArg (fun z => z[0]?) hd; simp only [List.getElem?_drop, Nat.add_zero] at this; unfold rd_T84; simp only [List.getD]; rw [this]
theorem impl_TreeDrop.two {W : World} {g o : Nat} (c : List Value) (a b : Value) (hl : c.length = k84.sz) (h0 : ∀ u, c[0]? = some u → W.cell? ⟨g, o + 0, none⟩ = some u) (h1 : ∀ u, c[1]? = some u → W.cell? ⟨g, o + 1, none⟩ = some u) (ha : W.cell? ⟨g, o, none⟩ = some a) (hb : W.cell? ⟨g, o + 1, none⟩ = some b) : [a, b] = c := by
 match c, hl, h0, h1 with
 | [x, y], _, h0, h1 =>
  have e0 := (h0 x rfl).symm.trans ha; have e1 := (h1 y rfl).symm.trans hb; injection e0 with e0; injection e1 with e1; rw [e0, e1]
theorem impl_TreeDrop.seg2 (c : List Value) (a b : Value) (h : c.length = k84.sz) : c.take 0 ++ [a, b] ++ c.drop (0 + [a, b].length) = [a, b] := by
 have h' : c.drop (0 + [a, b].length) = [] := List.drop_eq_nil_of_le (by rw [h]; exact Nat.le_refl 2); rw [h']; simp
theorem impl_TreeDrop.keepT (q : S84 → Bool) (l : List S84) (j : Nat) (e : S84) (h : l[j]? = some e) : (l.take (j + 1)).filter q = (l.take j).filter q ++ (if q e = true then [e] else []) := by
 rw [List.take_add_one, h, List.filter_append]; simp [List.filter]; split <;> simp_all
set_option maxHeartbeats 16000000 in
set_option maxRecDepth 100000 in
theorem impl_TreeDrop.del (ok : Nat → Prop) (u0 : Value) (l : List S84) (p : List Int) (Ap : Option Addr) (cp gb : Nat) (wb w : World) (hB : Below wb.heap.size wb w) (ho0 : Kd.R k84 84 w wb.heap.size ok u0 l) (hl : l.length < 1000000) (hp : Kd.C (Kd.int .u8) wb Ap p.length p) (hpc : p.length ≤ cp) (hc : wb.cell? ⟨gb, 0, none⟩ = some (.slice Ap p.length cp)) (hf : impl_TreeDrop.fits p l) :
  Calls Try.prog 78 #[u0, .func (.func 80) #[] #[.pointer (some ⟨gb, 0, none⟩)]] w fun e w' => ∃ v0_ : Value, e = .returned (v0_) ∧ Kd.R k84 84 w' wb.heap.size ok v0_ (l.filter (fun e => ! impl_TreeDrop.is p e)) ∧ Below wb.heap.size wb w' := by
 obtain ⟨A0, c0, rfl⟩ := Kd.R_slice ho0; have hcall0 := impl_TreeDrop.index A0 c0 l p Ap cp gb w (Kd.R_reads' ho0).2.2 hl (Kd.C_below hp hB) hpc ((hB.cell (World.block_lt_of_cell? wb _ hc)).trans hc) hf; rcases impl_TreeDrop.idx_spec p l 0 (by omega) with ⟨hi, hall⟩ | ⟨j0, hj0, hi, hbef, hat⟩
 ·rw [hi] at hcall0
  have hfl : l.filter (fun e => ! impl_TreeDrop.is p e) = l := by
   rw [List.filter_eq_self]; intro e he; rw [hall e he]; rfl
  rw [hfl]; have HO := Aside0.mk ho0; have HB := Aside0.mk hB; clear ho0 hB hp hc hf hall hi hfl; go_enter Try.func78, Try.ntmps78
  go_wp2_with (first
   | ((with_reducible refine gate_callee (f := 122) rfl ?_); refine gl_ (some 10) Try.func122 #[.slice A0 l.length c0, .func (.func 80) #[] #[.pointer (some ⟨gb, 0, none⟩)]] (h := ?_); refine hcall0.mono ?_; rintro e_ w2 ⟨rfl, hb2⟩; refine ⟨_, rfl, ?_⟩))
  go_ret; exact ⟨_, rfl, Kd.R_below HO.out hb2, HB.out.trans (hb2.mono HB.out.size)⟩
 ·have hcap := (Kd.R_reads' ho0).2.1
  obtain ⟨ad, rfl, -⟩ := (Kd.R_reads' ho0).2.2.2.2 (by omega); obtain ⟨g, rfl⟩ := Kd.R_head ho0; have HGB := Aside0.mk <| Kd.R_base ho0 g (by simp [Value.ownBlock])
  rw [hi] at hcall0; have hne : decide ((0 : Int) + (j0 : Int) = -1) = false := decide_eq_false (by omega); have hne2 : ((0 : Int) + (j0 : Int) == -1) = false := beq_eq_false_iff_ne.mpr (by omega); have hkn : ¬ ((0 : Int) + (j0 : Int) = -1) := by omega
  have hel : Try.prog.elem 80 = 84 := by kernel_rfl
  have hu : Try.prog.underlying 80 = some (.slice (Try.prog.elem 80)) := by kernel_rfl
  have hsz : ∀ W : World, (sizeOf 84).run Try.prog W = .ok 2 W := fun W => by
   obtain ⟨i0, hi, hzz⟩ := Option.map_eq_some_iff.1 info84; simp only [Prod.mk.injEq] at hzz; simp [sizeOf, typeInfo, hi, hzz.2.1]
  have HZV := Aside0.mk (show ∀ W : World, (zeroValue 84).run Try.prog W = .ok (.agg #[.slice none 0 0, .int .i64 0]) W from fun W => by
   obtain ⟨i0, hi, hzz⟩ := Option.map_eq_some_iff.1 info84; simp only [Prod.mk.injEq] at hzz; simp [zeroValue, typeInfo, hi, hzz.1])
  have HO := Aside0.mk ho0; have HB := Aside0.mk hB; have HP := Aside0.mk hp; have HC := Aside0.mk hc; have HF := Aside0.mk hf; have HBEF := Aside0.mk hbef; have HAT := Aside0.mk hat; have HCAP := Aside0.mk hcap; have HEL := Aside0.mk hel; have HU := Aside0.mk hu; have HSZ := Aside0.mk hsz; clear ho0 hB hp hc hf hbef hat hi hcap hel hu hsz; go_enter Try.func78, Try.ntmps78
  go_wp2_with (first
   | ((with_reducible refine gate_callee (f := 122) rfl ?_); refine gl_ (some 10) Try.func122 #[.slice (some ⟨g, 0, none⟩) l.length c0, .func (.func 80) #[] #[.pointer (some ⟨gb, 0, none⟩)]] (h := ?_); refine hcall0.mono ?_; rintro e_ w2 ⟨rfl, hb2⟩; refine ⟨_, rfl, ?_⟩))
  have HBw := Aside0.mk (HB.out.trans (hb2.mono HB.out.size)); replace HO := Aside0.mk (Kd.R_below HO.out hb2); clear hb2 hcall0 hne hne2 hkn; go_loopg [5, 6, 7] l.length (fun gg s5 s6 s7 wr => ∃ (x y : Int) (cur : List S84), s5 = .int .i64 x ∧ s6 = .int .i64 y ∧ 0 ≤ x ∧ x < y ∧ y ≤ (l.length : Int) ∧ l.length - y.toNat ≤ gg ∧ Aside0 (cur.length = l.length ∧ cur.take x.toNat = (l.take y.toNat).filter (fun e => ! impl_TreeDrop.is p e) ∧ cur.drop y.toNat = l.drop y.toNat) ∧ Aside0 (Below wb.heap.size wb wr) ∧ Aside0 (Kd.R k84 84 wr wb.heap.size ok (.slice (some ⟨g, 0, none⟩) l.length c0) cur))
  case atStart =>
   refine ⟨(j0 : Int), (j0 : Int) + 1, l, rfl, rfl, by omega, by omega, by omega, by omega, ⟨rfl, ?_, rfl⟩, HBw, HO⟩; have e1 : ((j0 : Int)).toNat = j0 := by omega
   have e2 : ((j0 : Int) + 1).toNat = j0 + 1 := by omega
   rw [e1, e2, impl_TreeDrop.keepT _ l j0 l[j0] (List.getElem?_eq_getElem hj0), HAT.out]
   have : (l.take j0).filter (fun e => ! impl_TreeDrop.is p e) = l.take j0 := by
    rw [List.filter_eq_self]; intro e he; rw [HBEF.out e he]; rfl
   rw [this]; simp
  case round =>
   obtain ⟨x, y, cur, rfl, rfl, hx0, hxy, hyl, hg, HI, BW, HR⟩ := hrel; have hy0 : 0 ≤ y := by omega
   by_cases hlt : y < (l.length : Int)
   ·have hCr := (Kd.R_reads' HR.out).2.2
    rw [HI.out.1] at hCr; obtain ⟨ad, Ak, ck, e, h0, h1, hkc, hk⟩ := at_T84 hCr y hy0 hlt; cases e; have hrd := impl_TreeDrop.rdT l cur y hy0 hlt HI.out.1 HI.out.2.2; rw [hrd] at h0 h1 hkc hk; rw [add_plain] at h0 h1; replace h1 : wr.cell? ⟨g, y.toNat * 2 + 1, none⟩ = some (.int .i64 (rd_T84 l y).f1) := h1
    have hge : l[y.toNat]? = some (rd_T84 l y) := by
     rw [List.getElem?_eq_getElem (show y.toNat < l.length by omega)]; unfold rd_T84; simp [List.getD, show y.toNat < l.length by omega]
    have hmem : rd_T84 l y ∈ l := List.mem_of_getElem? hge; have hcall := impl_TreeDrop.pred (rd_T84 l y) Ak ck p Ap cp gb _ (wr.alloc (.cells #[.slice Ak (rd_T84 l y).f0.length ck, .int .i64 (rd_T84 l y).f1] 84 (0, 0))) (Kd.C_alloc hk _) hkc (Kd.C_alloc (Kd.C_below HP.out BW.out) _) hpc (((below_alloc BW.out _).cell (World.block_lt_of_cell? wb _ HC.out)).trans HC.out) (HF.out _ hmem); have hkp := impl_TreeDrop.keepT (fun e => ! impl_TreeDrop.is p e) l y.toNat _ hge; have HD := Aside0.mk hrd; have HGE := Aside0.mk hge; have HKP := Aside0.mk hkp; have H0 := Aside0.mk h0; have H1 := Aside0.mk h1
    have hxl : x < (l.length : Int) := by omega
    have EY := Aside0.mk (show (y + 1).toNat = y.toNat + 1 by omega); clear hrd hge hkp hk hCr hmem; by_cases hq : impl_TreeDrop.is p (rd_T84 l y) = true
    ·rw [hq] at hcall
     have HQ := Aside0.mk hq; clear hq; go_wp2_with (refine hcall.mono ?_; rintro e w' ⟨rfl, hb'⟩)
     have BA : Below wr.heap.size wr w' := (below_alloc (Below.refl wr.heap.size wr) _).trans (hb'.mono (below_alloc (Below.refl wr.heap.size wr) _).size); go_roundg (l.length - (y.toNat + 1))
     case measure => omega
     case rel =>
      refine ⟨x, y + 1, cur, rfl, by go_num, by omega, by omega, by omega, by omega, ⟨HI.out.1, ?_, ?_⟩, ⟨BW.out.trans (BA.mono BW.out.size)⟩, ⟨Kd.R_below HR.out BA⟩⟩
      ·rw [EY.out, HKP.out, HQ.out, HI.out.2.1]
       simp
      ·rw [EY.out, ← List.drop_drop, ← List.drop_drop, HI.out.2.2]
    have hqf : impl_TreeDrop.is p (rd_T84 l y) = false := by simpa using hq
    rw [hqf] at hcall; have HQ := Aside0.mk hqf; clear hq hqf
    go_wp2_with (first
     | (refine hcall.mono ?_; rintro e w' ⟨rfl, hb'⟩; have BA := Aside0.mk (show Below wr.heap.size wr w' from (below_alloc (Below.refl wr.heap.size wr) _).trans (hb'.mono (below_alloc (Below.refl wr.heap.size wr) _).size)); have HRn := Aside0.mk (Kd.R_below HR.out BA.out); have z0 : w'.cell? ⟨wr.heap.size, 0, none⟩ = some (.slice Ak (rd_T84 l y).f0.length ck) := (blk_cell (blk_below (blk_new wr (.cells #[.slice Ak (rd_T84 l y).f0.length ck, .int .i64 (rd_T84 l y).f1] 84 (0, 0))) hb') 0).trans rfl; have z1 : w'.cell? ⟨wr.heap.size, 1, none⟩ = some (.int .i64 (rd_T84 l y).f1) := (blk_cell (blk_below (blk_new wr (.cells #[.slice Ak (rd_T84 l y).f0.length ck, .int .i64 (rd_T84 l y).f1] 84 (0, 0))) hb') 1).trans rfl; clear hb')
     | ((with_reducible refine gate_ (.store 84 (.tmp 33) (.tmp 32)) rfl ?_); go_loud (obtain ⟨cj, hcl, hM, hcc, -⟩ := Kd.R_elem HRn.out z84 y hy0 hlt; obtain ⟨ci, hdl, -, hdc, -⟩ := Kd.R_elem HRn.out z84 x hx0 hxl; obtain rfl := impl_TreeDrop.two cj _ _ hcl (hcc 0) (hcc 1) ((BA.out.cell (World.block_lt_of_cell? wr _ H0.out)).trans H0.out) ((BA.out.cell (World.block_lt_of_cell? wr _ H1.out)).trans H1.out); refine Kd.R_store k84 (w0 := wb) wb.heap.size rfl rfl 84 (.tmp 33) (.tmp 32) rfl 84 x 0 cur (rd_T84 l y) (.agg #[.slice Ak (rd_T84 l y).f0.length ck, .int .i64 (rd_T84 l y).f1]) [.slice Ak (rd_T84 l y).f0.length ck, .int .i64 (rd_T84 l y).f1] ci ok (fun k => ok k ∧ k ≠ g) rfl rfl rfl rfl (by obtain ⟨i0, hi, hzz⟩ := Option.map_eq_some_iff.1 info84; simp only [Prod.mk.injEq] at hzz; rw [hi, Option.map_some, hzz.2.1]; rfl) (fun q hq => by simp only [List.mem_cons, List.not_mem_nil, or_false] at hq; rcases hq with rfl | rfl <;> rfl) HRn.out hx0 hxl hdl hdc (show 0 + 2 ≤ 2 from Nat.le_refl 2) ?_ (fun _ h_ => h_) (BW.out.trans (BA.out.mono BW.out.size)) ?_; (· rw [impl_TreeDrop.seg2 ci _ _ hdl]; have hM2 := hM; change k84.M w' wb.heap.size (fun k => ok k ∧ k ≠ g) (rd_T84 cur y) _ at hM2; rw [HD.out] at hM2; exact hM2); intro w3 hr3 hb3 hg3; have HR3 := Aside0.mk hr3; have HB3 := Aside0.mk hb3; clear hr3 hb3 hg3 hM hcc hdc hcl hdl)))
    go_roundg (l.length - (y.toNat + 1))
    case measure => omega
    case rel =>
     refine ⟨x + 1, y + 1, _, by go_num, by go_num, by omega, by omega, by omega, by omega, ⟨?_, ?_, ?_⟩, HB3, HR3⟩
     ·rw [List.length_set, HI.out.1]
     ·rw [EY.out, HKP.out, HQ.out, show (x + 1).toNat = x.toNat + 1 by omega, List.take_succ_eq_append_getElem (by rw [List.length_set, HI.out.1]; omega), List.take_set, List.getElem_set_self, ← HI.out.2.1]
      rw [List.set_eq_of_length_le (by rw [List.length_take]; omega)]; rfl
     ·rw [EY.out, ← List.drop_drop, ← List.drop_drop, List.drop_set_of_lt (by omega), HI.out.2.2]
   have hy : y.toNat = l.length := by omega
   have hlx : cur.length = l.length := HI.out.1
   have hres : cur.take x.toNat = l.filter (fun e => ! impl_TreeDrop.is p e) := by
    rw [HI.out.2.1, hy, List.take_length]
   have hcut1 : ∀ W : World, (Instr.slice 80 (.slice (some ⟨g, 0, none⟩) l.length c0) (some (.int .i64 x)) none none).run Try.prog W = .ok (.slice (some ⟨g, x.toNat * 2, none⟩) (l.length - x.toNat) (c0 - x.toNat)) W := fun W => by
    have := HCAP.out; rw [run_slice_l W 80 _ _ _ HU.out .i64 _ (by omega) (by omega), HEL.out, HSZ.out]; simp only [sliced, Result.andThen, if_neg (show ¬ c0 = x.toNat by omega), Option.map_some, add_plain, Nat.zero_add]
   have hcut2 : ∀ W : World, (Instr.slice 80 (.slice (some ⟨g, 0, none⟩) l.length c0) none (some (.int .i64 x)) none).run Try.prog W = .ok (.slice (some ⟨g, 0, none⟩) x.toNat c0) W := fun W => by
    have := HCAP.out; rw [run_slice_h W 80 _ _ _ HU.out .i64 _ (by omega) (by omega), HEL.out, HSZ.out]; simp [sliced, Result.andThen, add_plain]
   obtain ⟨w3, hclr, hr3, hg3⟩ := R_clear_runQ (P := Try.prog) k84 (m := c0 - x.toNat) wb.heap.size 80 0 84 (.agg #[.slice none 0 0, .int .i64 0]) Try.underlying80 HZV.out rfl (by decide) (by decide) (Kd.R_take HR.out (m := x.toNat) (by omega)) (l.length - x.toNat) (by have := HCAP.out; omega); have hclr2 : (Builtin.clear_ #[80] 0 #[.slice (some ⟨g, x.toNat * 2, none⟩) (l.length - x.toNat) (c0 - x.toNat)]).run Try.prog wr = .ok (.tuple #[]) w3 := hclr; rw [hres] at hr3; have HR3 := Aside0.mk hr3
   have HB3 := Aside0.mk (BW.out.grown hg3 BW.out.size (fun k_ e_ => by injection e_ with e_; subst e_; exact HGB.out)); clear hclr hr3 hg3 hres hlx; go_wp2; go_ret; exact ⟨_, rfl, HR3.out, HB3.out⟩
def impl_TreeDrop.left (p : List Int) (l : List S84) : List S84 := l.filter (fun e => ! impl_TreeDrop.is p e)
def impl_TreeDrop.f (k : Nat) (l0_0 : List Int) (a0_1 : Bool) (a0_2 : Int) (l0_3 : List (S30)) (l1 : List Int) : Option (List Int × Bool × Int × (List (S30)) × Int) := (impl_TreeOk.f k l0_0 a0_1 a0_2 l0_3).bind fun t => (if t = true then ((impl_Tree_entries.f k l0_0 a0_1 a0_2 l0_3 ([] : List Int)).bind fun q => (if (q.all (fun e => decide (impl_HasPrefix.f e.f0 l1 = some (impl_TreeDrop.is l1 e))) = true) ∧ q.length < 1000000 then ((impl_treeOf.f k (impl_TreeDrop.left l1 q)).bind fun bt => (some (bt.1, bt.2.1, bt.2.2.1, bt.2.2.2, (q.length : Int) - ((impl_TreeDrop.left l1 q).length : Int)))) else none)) else (some (([] : List Int), false, 0, ([] : List (S30)), 0)))
set_option maxHeartbeats 16000000 in
set_option maxRecDepth 100000 in
theorem impl_TreeDrop.calls (k : Nat) (A0_0 : Option Addr) (c0_0 : Nat) (l0_0 : List Int) (a0_1 : Bool) (a0_2 : Int) (A0_3 : Option Addr) (c0_3 : Nat) (l0_3 : List (S30)) (A1 : Option Addr) (c1 : Nat) (l1 : List Int) (r1 : List Int) (r2 : Bool) (r3 : Int) (r4 : List (S30)) (r5 : Int) (w : World) (hr0_0 : Kd.C (Kd.int .u8) w A0_0 l0_0.length l0_0) (hc0_0 : l0_0.length ≤ c0_0) (hr0_3 : Kd.C k30 w A0_3 l0_3.length l0_3) (hc0_3 : l0_3.length ≤ c0_3) (hr1 : Kd.C (Kd.int .u8) w A1 l1.length l1) (hc1 : l1.length ≤ c1) (h : impl_TreeDrop.f k l0_0 a0_1 a0_2 l0_3 l1 = some (r1, r2, r3, r4, r5)) :
  Calls Try.prog 42 #[.agg #[.slice A0_0 l0_0.length c0_0, .bool a0_1, .int .i64 a0_2, .slice A0_3 l0_3.length c0_3], .slice A1 l1.length c1] w fun e w' => ∃ v0_ v3_ : Value, e = .returned (.tuple #[.agg #[v0_, .bool r2, .int .i64 r3, v3_], .int .i64 r5]) ∧ Kd.R (Kd.int .u8) 5 w' w.heap.size (fun _ => True) v0_ r1 ∧ Kd.S kD30 30 w' w.heap.size (fun k_ => some k_ ≠ (v0_ : Value).ownBlock) v3_ r4 ∧ Below w.heap.size w w' := by
 have hu30 := Try.underlying30; have HR0_0 := Aside0.mk hr0_0; have HC0_0 := Aside0.mk hc0_0; have HR0_3 := Aside0.mk hr0_3; have HC0_3 := Aside0.mk hc0_3; have HR1 := Aside0.mk hr1; have HC1 := Aside0.mk hc1; clear hr0_0 hc0_0 hr0_3 hc0_3 hr1 hc1; have HB := Aside0.mk (Below.refl w.heap.size w); unfold impl_TreeDrop.f at h; obtain ⟨t, hok, H⟩ := Option.bind_eq_some_iff.mp h; clear h; have A3 := Aside0.mk hok; clear hok; by_cases c4 : t = true
 ·subst c4
  rw [if_pos rfl] at H; obtain ⟨q, hent, H⟩ := Option.bind_eq_some_iff.mp H; have A5 := Aside0.mk hent; clear hent; by_cases c5 : (q.all (fun e => decide (impl_HasPrefix.f e.f0 l1 = some (impl_TreeDrop.is l1 e))) = true) ∧ q.length < 1000000
  ·rw [if_pos c5] at H
   obtain ⟨⟨t1, t2, t3, t4⟩, hof, H⟩ := Option.bind_eq_some_iff.mp H; simp only [Option.some.injEq, Prod.mk.injEq] at H; obtain ⟨rfl, rfl, rfl, rfl, rfl⟩ := H; have A9 := Aside0.mk hof; have HQL := Aside0.mk c5.2; have HF := Aside0.mk (show impl_TreeDrop.fits l1 q from fun e he => by simpa using List.all_eq_true.mp c5.1 e he); have hle : (impl_TreeDrop.left l1 q).length ≤ q.length := List.length_filter_le _ _; have hq1 : q.length < 1000000 := c5.2; clear hof c5; go_enter Try.func42, Try.ntmps42
   go_wp2_with (first
    | ((with_reducible refine gate_dst (N := 2) rfl ?_); refine bx_ 2 #[.slice A0_0 l0_0.length c0_0, .bool a0_1, .int .i64 a0_2, .slice A0_3 l0_3.length c0_3] 30 (h := ?_); intro gb1 hg w1 hbox hb; have BK1 := Aside0.mk (hbox); have GW1 := Aside0.mk ((by rw [hg]; exact (below_size bel) : w.heap.size ≤ gb1)); replace HB := bst hb; clear hb hbox hg)
    | ((with_reducible refine gate_dst (N := 3) rfl ?_); refine bx_ 3 #[.slice A1 l1.length c1] 22 (h := ?_); intro gb2 hg w2 hbox hb; have BK2 := Aside0.mk (hbox); have GW2 := Aside0.mk ((by rw [hg]; exact (below_size bel) : w.heap.size ≤ gb2)); replace BK1 := Aside0.mk (blb BK1 hb); replace HB := bst hb; clear hb hbox hg)
    | ((with_reducible refine gate_dst (N := 4) rfl ?_); refine bx_ 4 #[.slice none 0 0, .bool false, .int .i64 0, .slice none 0 0] 30 (h := ?_); intro gb3 hg w3 hbox hb; have BK3 := Aside0.mk (hbox); have GW3 := Aside0.mk ((by rw [hg]; exact (below_size bel) : w.heap.size ≤ gb3)); replace BK1 := Aside0.mk (blb BK1 hb); replace BK2 := Aside0.mk (blb BK2 hb); replace HB := bst hb; clear hb hbox hg; obtain ⟨Ca0, Ca1, Ca2, Ca3, -⟩ := cells_4 BK1.out trivial; obtain ⟨Fa0, Fa1, Fa2, Fa3, -⟩ := frz_4 BK1.out)
    | ((with_reducible refine gate_callee (f := 18) rfl ?_); refine gl_ (some 9) Try.func18 #[.agg #[.slice A0_0 l0_0.length c0_0, .bool a0_1, .int .i64 a0_2, .slice A0_3 l0_3.length c0_3]] (h := ?_); (with_reducible refine (impl_TreeOk.calls k _ _ l0_0 a0_1 a0_2 _ _ l0_3 true _ ?side1 ?side2 ?side3 ?side4 A3.out).mono ?_); (case side1 => exact kcb); (case side2 => exact HC0_0.out); (case side3 => exact kcb); (case side4 => exact HC0_3.out); rintro e w5 ⟨rfl, hb⟩; refine ⟨_, rfl, ?_⟩; replace BK1 := Aside0.mk (blb BK1 hb); replace BK2 := Aside0.mk (blb BK2 hb); replace BK3 := Aside0.mk (blb BK3 hb); replace HB := bst hb; clear hb; obtain ⟨Cb0, Cb1, Cb2, Cb3, -⟩ := cells_4 BK1.out trivial; obtain ⟨Fb0, Fb1, Fb2, Fb3, -⟩ := frz_4 BK1.out)
    | ((with_reducible refine gate_callee (f := 65) rfl ?_); refine gl_ (some 13) Try.func65 #[.agg #[.slice A0_0 l0_0.length c0_0, .bool a0_1, .int .i64 a0_2, .slice A0_3 l0_3.length c0_3], .slice none 0 0] (h := ?_); (refine (impl_Tree_entries.calls k _ _ l0_0 a0_1 a0_2 _ _ l0_3 _ _ ([] : List Int) q _ ?side1 ?side2 ?side3 ?side4 ?side5 ?side6 A5.out).mono ?_); (case side1 => exact kcb); (case side2 => exact HC0_0.out); (case side3 => exact kcb); (case side4 => exact HC0_3.out); (case side5 => exact Kd.C_nil _ _); (case side6 => exact Nat.le_refl _); rintro e w6 ⟨v6, rfl, ho0, hb⟩; refine ⟨_, rfl, ?_⟩; have HO6 := Aside0.mk ho0; have HB6 := Aside0.mk hb; clear ho0 hb; obtain ⟨Ao6, co6, eo6⟩ := Kd.R_slice HO6.out; subst eo6)
    | ((with_reducible refine gate_callee (f := 79) rfl ?_); refine gl_ (some 15) Try.func79 #[.slice Ao6 q.length co6] (h := ?_); (refine (impl_TreeDrop.clone _ _ q w5 _ HB6.out HO6.out (Nat.le_of_lt HQL.out)).mono ?_); rintro e w7 ⟨v7, rfl, ho0, -, hb⟩; refine ⟨_, rfl, ?_⟩; have HO7 := Aside0.mk ho0; have HB7 := Aside0.mk (HB6.out.trans (hb.mono HB6.out.size)); clear ho0 hb; obtain ⟨Ao7, co7, eo7⟩ := Kd.R_slice HO7.out; subst eo7)
    | ((with_reducible refine gate_callee (f := 78) rfl ?_); refine gl_ (some 17) Try.func78 #[.slice Ao7 q.length co7, .func (.func 80) #[] #[.pointer (some ⟨gb2, 0, none⟩)]] (h := ?_); (refine (impl_TreeDrop.del _ _ q l1 A1 c1 gb2 w5 _ HB7.out HO7.out HQL.out ?side1 HC1.out ?side2 HF.out).mono ?_); (case side1 => exact kcb); (case side2 => exact (blk_cell BK2.out 0).trans rfl); rintro e w8 ⟨v8, rfl, ho0, hb⟩; refine ⟨_, rfl, ?_⟩; have HO8 := Aside0.mk (show Kd.R k84 84 w8 w5.heap.size _ v8 (impl_TreeDrop.left l1 q) from ho0); replace BK1 := Aside0.mk (blk_below BK1.out hb); replace BK3 := Aside0.mk (blk_below BK3.out hb); replace HB := Aside0.mk (below_step HB.out hb); clear ho0 hb; obtain ⟨Ao8, co8, eo8⟩ := Kd.R_slice HO8.out; subst eo8)
    | ((with_reducible refine gate_callee (f := 81) rfl ?_); refine gl_ (some 19) Try.func81 #[.slice Ao8 (impl_TreeDrop.left l1 q).length co8] (h := ?_); (with_reducible refine (impl_treeOf.calls k _ _ (impl_TreeDrop.left l1 q) t1 t2 t3 t4 _ ?side1 ?side2 A9.out).mono ?_); (case side1 => exact (Kd.R_reads' HO8.out).2.2); (case side2 => exact (Kd.R_reads' HO8.out).2.1); rintro e w9 ⟨v9, v10, rfl, ho0, ho1, hb⟩; refine ⟨_, rfl, ?_⟩; have HO9 := Aside0.mk (Kd.R_lower ho0 (below_size bel)); have HO10 := Aside0.mk (Kd.S_lower (Kd.S_newB ho1 (g := gb3) (o := .cells #[.slice none 0 0, .bool false, .int .i64 0, .slice none 0 0] 30 (0, 0)) BK3.out) (below_size bel)); replace BK3 := Aside0.mk (blb BK3 hb); replace HB := bst hb; clear hb ho0 ho1; obtain ⟨Ao9, co9, eo9⟩ := Kd.R_slice HO9.out; subst eo9; obtain ⟨Cc0, Cc1, Cc2, Cc3, -⟩ := cells_4 BK3.out trivial; obtain ⟨Fc0, Fc1, Fc2, Fc3, -⟩ := frz_4 BK3.out; obtain ⟨Ao10, co10, eo10⟩ := Kd.S_slice HO10.out; subst eo10))
   refine bodyPost_ret (results_ct rfl _ _ gb3 30 #[.slice Ao9 t1.length co9, .bool t2, .int .i64 t3, .slice Ao10 t4.length co10] (0, 0) _ rfl (by refine blk_put (cs := #[.slice Ao9 t1.length co9, .bool t2, .int .i64 t3, .slice none 0 0]) ?_ 3 _ rfl; refine blk_put (cs := #[.slice Ao9 t1.length co9, .bool t2, .int .i64 0, .slice none 0 0]) ?_ 2 _ rfl; refine blk_put (cs := #[.slice Ao9 t1.length co9, .bool false, .int .i64 0, .slice none 0 0]) ?_ 1 _ rfl; refine blk_put (cs := #[.slice none 0 0, .bool false, .int .i64 0, .slice none 0 0]) ?_ 0 _ rfl; exact BK3.out) Try.underlying30 rfl (by kernel_rfl)) rfl ?_
   exact ⟨_, _, rfl, Kd.R_mono (Kd.R_far4 (q := gb3) (Kd.R_types HO9.out BK3.out (by decide)) (fun _ hk => hk.2)) (fun _ _ => trivial), Kd.S_mono (Kd.S_far4 (q := gb3) HO10.out (fun _ hk => hk.2)) (fun _ hk => hk.1), below_set (below_set (below_set (below_set HB.out GW3.out) GW3.out) GW3.out) GW3.out⟩
  rw [if_neg c5] at H; exact absurd H (by simp)
 rw [if_neg c4] at H; replace c4 := Bool.eq_false_iff.mpr c4; subst c4; simp only [Option.some.injEq, Prod.mk.injEq] at H; obtain ⟨rfl, rfl, rfl, rfl, rfl⟩ := H; go_enter Try.func42, Try.ntmps42
 go_wp2_with (first
  | ((with_reducible refine gate_dst (N := 2) rfl ?_); refine bx_ 2 #[.slice A0_0 l0_0.length c0_0, .bool a0_1, .int .i64 a0_2, .slice A0_3 l0_3.length c0_3] 30 (h := ?_); intro gb1 hg w1 hbox hb; have BK1 := Aside0.mk (hbox); have GW1 := Aside0.mk ((by rw [hg]; exact (below_size bel) : w.heap.size ≤ gb1)); replace HB := bst hb; clear hb hbox hg)
  | ((with_reducible refine gate_dst (N := 3) rfl ?_); refine bx_ 3 #[.slice A1 l1.length c1] 22 (h := ?_); intro gb2 hg w2 hbox hb; have BK2 := Aside0.mk (hbox); have GW2 := Aside0.mk ((by rw [hg]; exact (below_size bel) : w.heap.size ≤ gb2)); replace BK1 := Aside0.mk (blb BK1 hb); replace HB := bst hb; clear hb hbox hg)
  | ((with_reducible refine gate_dst (N := 4) rfl ?_); refine bx_ 4 #[.slice none 0 0, .bool false, .int .i64 0, .slice none 0 0] 30 (h := ?_); intro gb3 hg w3 hbox hb; have BK3 := Aside0.mk (hbox); have GW3 := Aside0.mk ((by rw [hg]; exact (below_size bel) : w.heap.size ≤ gb3)); replace BK1 := Aside0.mk (blb BK1 hb); replace BK2 := Aside0.mk (blb BK2 hb); replace HB := bst hb; clear hb hbox hg; obtain ⟨Ca0, Ca1, Ca2, Ca3, -⟩ := cells_4 BK1.out trivial; obtain ⟨Fa0, Fa1, Fa2, Fa3, -⟩ := frz_4 BK1.out)
  | ((with_reducible refine gate_callee (f := 18) rfl ?_); refine gl_ (some 9) Try.func18 #[.agg #[.slice A0_0 l0_0.length c0_0, .bool a0_1, .int .i64 a0_2, .slice A0_3 l0_3.length c0_3]] (h := ?_); (with_reducible refine (impl_TreeOk.calls k _ _ l0_0 a0_1 a0_2 _ _ l0_3 false _ ?side1 ?side2 ?side3 ?side4 A3.out).mono ?_); (case side1 => exact kcb); (case side2 => exact HC0_0.out); (case side3 => exact kcb); (case side4 => exact HC0_3.out); rintro e w5 ⟨rfl, hb⟩; refine ⟨_, rfl, ?_⟩; replace BK1 := Aside0.mk (blb BK1 hb); replace BK2 := Aside0.mk (blb BK2 hb); replace BK3 := Aside0.mk (blb BK3 hb); replace HB := bst hb; clear hb; obtain ⟨Cb0, Cb1, Cb2, Cb3, -⟩ := cells_4 BK3.out trivial; obtain ⟨Fb0, Fb1, Fb2, Fb3, -⟩ := frz_4 BK3.out))
 refine bodyPost_ret (results_ct rfl _ _ gb3 30 #[.slice none 0 0, .bool false, .int .i64 0, .slice none 0 0] (0, 0) _ rfl (by refine blk_put (cs := #[.slice none 0 0, .bool false, .int .i64 0, .slice none 0 0]) ?_ 3 _ rfl; refine blk_put (cs := #[.slice none 0 0, .bool false, .int .i64 0, .slice none 0 0]) ?_ 2 _ rfl; refine blk_put (cs := #[.slice none 0 0, .bool false, .int .i64 0, .slice none 0 0]) ?_ 1 _ rfl; refine blk_put (cs := #[.slice none 0 0, .bool false, .int .i64 0, .slice none 0 0]) ?_ 0 _ rfl; exact BK3.out) Try.underlying30 rfl (by kernel_rfl)) rfl ?_
 exact ⟨_, _, rfl, Kd.R_nil _ _ _ _ _, Kd.S_nil _ _ _ _ _, below_set (below_set (below_set (below_set HB.out GW3.out) GW3.out) GW3.out) GW3.out⟩

/-! ### laws_heldByteS: function 35 -/
def laws_heldByteS.l0 : Nat → List Int → Int → Int → Option (Int)
 | 0, _, _, _ => none
 | k + 1, x0, x1, x5 => if x5 < (x0.length : Int) then (if 0 ≤ x5 then (if (rd x0 x5) = ((x1) % 256) then (laws_heldByteS.l0 k x0 (wrap64 (x1 + 1)) (wrap64 (x5 + 1))) else (some (-1))) else (none)) else (some x1)
def laws_heldByteS.f (k : Nat) (l0 : List Int) (a1 : Int) : Option (Int) := laws_heldByteS.l0 k l0 a1 0
set_option maxHeartbeats 8000000 in
set_option maxRecDepth 100000 in
theorem laws_heldByteS.calls (k : Nat) (A0 : Option Addr) (c0 : Nat) (l0 : List Int) (a1 : Int) (r : Int) (w : World) (hr0 : Kd.C (Kd.int .u8) w A0 l0.length l0) (hc0 : l0.length ≤ c0) (h : laws_heldByteS.f k l0 a1 = some r) :
  Calls Try.prog 35 #[.slice A0 l0.length c0, .int .i64 a1] w fun e w' => e = .returned (.int .i64 r) ∧ Drawn0 w w' := by
 have HR0 := Aside0.mk hr0; have HC0 := Aside0.mk hc0; clear hr0 hc0; have H : (laws_heldByteS.l0 k l0 a1 0) = some r := h; clear h; have H' := Aside0.mk H; clear H; go_enter Try.func35, Try.ntmps35; go_wp2; go_loopg [1, 5] k (fun kq v1 v5 w' => ∃ (x1_1 : Int) (x5_1 : Int), v1 = .int .i64 x1_1 ∧ v5 = .int .i64 x5_1 ∧ Aside0 (laws_heldByteS.l0 kq l0 x1_1 x5_1 = some r) ∧ Aside0 (kq ≤ k) ∧ Drawn0 w w')
 case atStart => exact ⟨(a1), (0), rs_, rs_, H', ⟨Nat.le_refl _⟩, by repeat (first | exact Drawn0.refl _ | apply Drawn0.step)⟩
 case round =>
  clear H'; try clear p2
  obtain ⟨x1_1, x5_1, rfl, rfl, HA, HK1, ⟨m1, rfl⟩⟩ := hrel; cases gk with
  | zero => exact absurd HA.out (by simp [laws_heldByteS.l0])
  | succ k1 =>
   have H := HA.out; clear HA; simp only [laws_heldByteS.l0] at H; by_cases c3 : x5_1 < (l0.length : Int)
   ·rw [if_pos c3] at H
    have c3b0 : decide (x5_1 < (l0.length : Int)) = true := decide_eq_true c3; clear c3; by_cases c4 : 0 ≤ x5_1
    ·rw [if_pos c4] at H
     have c4b0 : decide (0 ≤ x5_1) = true := decide_eq_true c4; clear c4; by_cases c5 : (rd l0 x5_1) = ((x1_1) % 256)
     ·rw [if_pos c5] at H
      have c5b0 : ((rd l0 x5_1) == ((x1_1) % 256)) = true := beq_iff_eq.mpr c5; have c5b1 : ((rd l0 x5_1) != ((x1_1) % 256)) = false := bne_eq_false_iff_eq.mpr c5; clear c5; have H' := Aside0.mk H; clear H; have p397 : 0 ≤ (x5_1 : Int) := od; have q397 : x5_1 < (l0.length : Int) := od; obtain ⟨ad397, e397, hx397_0⟩ := Kd.at_int HR0.out x5_1 p397 q397; cases e397; replace p397 := eq_true p397; replace q397 := eq_true q397; go_wp2; go_roundg k1
      case measure => have := HK1.out; omega
      case rel => exact ⟨(wrap64 (x1_1 + 1)), (wrap64 (x5_1 + 1)), rs_, rs_, H', ⟨by have := HK1.out; omega⟩, by repeat (first | exact Drawn0.refl _ | apply Drawn0.step)⟩
     rw [if_neg c5] at H; have c5b0 : ((rd l0 x5_1) == ((x1_1) % 256)) = false := beq_eq_false_iff_ne.mpr c5; have c5b1 : ((rd l0 x5_1) != ((x1_1) % 256)) = true := bne_iff_ne.mpr c5; obtain rfl := Option.some.inj H; have p397 : 0 ≤ (x5_1 : Int) := od; have q397 : x5_1 < (l0.length : Int) := od; obtain ⟨ad397, e397, hx397_0⟩ := Kd.at_int HR0.out x5_1 p397 q397; cases e397; replace p397 := eq_true p397; replace q397 := eq_true q397; go_wp2; go_ret; exact ⟨by first | rfl | (simp; done) | (simp [*]; done), by repeat (first | exact Drawn0.refl _ | apply Drawn0.step)⟩
    rw [if_neg c4] at H; exact absurd H (by simp)
   rw [if_neg c3] at H; have c3b0 : decide (x5_1 < (l0.length : Int)) = false := decide_eq_false c3; clear c3; obtain rfl := Option.some.inj H; go_wp2; go_ret; exact ⟨by first | rfl | (simp; done) | (simp [*]; done), by repeat (first | exact Drawn0.refl _ | apply Drawn0.step)⟩

/-! ### laws_heldTreeS: function 82 -/
mutual
def laws_heldTreeS.l0 : Nat → List (S30) → Int → Int → Option (Int)
 | 0, _, _, _ => none
 | k + 1, x0, x1, x5 => if x5 < (x0.length : Int) then (if 0 ≤ x5 then ((laws_heldByteS.f k ((rd_T30 x0 x5).f0) x1).bind fun t399 => (if t399 < 0 then (some (-1)) else (if (((rd_T30 x0 x5).f1) != ((Int.tmod t399 3) == 0)) = true then (some (-1)) else (if ((rd_T30 x0 x5).f2) = (wrap64 (t399 + 1)) then ((laws_heldTreeS.f k ((rd_T30 x0 x5).f3) (wrap64 ((wrap64 (t399 + 1)) + 1))).bind fun t403 => (if t403 < 0 then (some (-1)) else (laws_heldTreeS.l0 k x0 t403 (wrap64 (x5 + 1))))) else (some (-1)))))) else (none)) else (some x1)
def laws_heldTreeS.f : Nat → List (S30) → Int → Option (Int)
 | 0, _, _ => none
 | k + 1, l0, a1 => laws_heldTreeS.l0 k l0 a1 0
end
set_option maxHeartbeats 8000000 in
set_option maxRecDepth 100000 in
theorem laws_heldTreeS.calls (k : Nat) : ∀ (A0 : Option Addr) (c0 : Nat) (l0 : List (S30)) (a1 : Int) (r : Int) (w : World) (hr0 : Kd.C k30 w A0 l0.length l0) (hc0 : l0.length ≤ c0) (h : laws_heldTreeS.f k l0 a1 = some r),
  Calls Try.prog 82 #[.slice A0 l0.length c0, .int .i64 a1] w fun e w' => e = .returned (.int .i64 r) ∧ Drawn0 w w' := by
 induction k using Nat.strongRecOn with
 | _ k ih =>
 intro A0 c0 l0 a1 r w hr0 hc0 h; cases k with
 | zero => exact absurd h (by simp [laws_heldTreeS.f])
 | succ k =>
 simp only [laws_heldTreeS.f] at h; have HR0 := Aside0.mk hr0; have HC0 := Aside0.mk hc0; clear hr0 hc0; have H : (laws_heldTreeS.l0 k l0 a1 0) = some r := h; clear h; have H' := Aside0.mk H; clear H; go_enter Try.func82, Try.ntmps82; go_wp2; go_loopg [1, 5] k (fun kq v1 v5 w' => ∃ (x1_1 : Int) (x5_1 : Int), v1 = .int .i64 x1_1 ∧ v5 = .int .i64 x5_1 ∧ Aside0 (laws_heldTreeS.l0 kq l0 x1_1 x5_1 = some r) ∧ Aside0 (kq ≤ k) ∧ Drawn0 w w')
 case atStart => exact ⟨(a1), (0), rs_, rs_, H', ⟨Nat.le_refl _⟩, by repeat (first | exact Drawn0.refl _ | apply Drawn0.step)⟩
 case round =>
  clear H'; try clear p2
  obtain ⟨x1_1, x5_1, rfl, rfl, HA, HK1, ⟨m1, rfl⟩⟩ := hrel; cases gk with
  | zero => exact absurd HA.out (by simp [laws_heldTreeS.l0])
  | succ k1 =>
   have H := HA.out; clear HA; simp only [laws_heldTreeS.l0] at H; by_cases c3 : x5_1 < (l0.length : Int)
   ·rw [if_pos c3] at H
    have c3b0 : decide (x5_1 < (l0.length : Int)) = true := decide_eq_true c3; clear c3; by_cases c4 : 0 ≤ x5_1
    ·rw [if_pos c4] at H
     have c4b0 : decide (0 ≤ x5_1) = true := decide_eq_true c4; clear c4; replace H := Option.bind_eq_some_iff.mp H; obtain ⟨t399, A50, H⟩ := H; replace H : (if t399 < 0 then (some (-1)) else (if (((rd_T30 l0 x5_1).f1) != ((Int.tmod t399 3) == 0)) = true then (some (-1)) else (if ((rd_T30 l0 x5_1).f2) = (wrap64 (t399 + 1)) then ((laws_heldTreeS.f k1 ((rd_T30 l0 x5_1).f3) (wrap64 ((wrap64 (t399 + 1)) + 1))).bind fun t403 => (if t403 < 0 then (some (-1)) else (laws_heldTreeS.l0 k1 l0 t403 (wrap64 (x5_1 + 1))))) else (some (-1))))) = some r := H; have A5 := Aside0.mk A50; clear A50
     by_cases c6 : t399 < 0
     ·rw [if_pos c6] at H
      have c6b0 : decide (t399 < 0) = true := decide_eq_true c6; clear c6; obtain rfl := Option.some.inj H; have p398 : 0 ≤ (x5_1 : Int) := od; have q398 : x5_1 < (l0.length : Int) := od; obtain ⟨ad398, A398_0, c398_0, A398_3, c398_3, e398, hx398_0, hx398_1, hx398_2, hx398_3, hl398_0, hi398_0, hl398_3, hi398_3⟩ := at_T30 HR0.out x5_1 p398 q398; cases e398; have HR398_0 := Aside0.mk hi398_0; have HC398_0 := Aside0.mk hl398_0; clear hi398_0 hl398_0; have HR398_3 := Aside0.mk hi398_3; have HC398_3 := Aside0.mk hl398_3; clear hi398_3 hl398_3; replace p398 := eq_true p398
      replace q398 := eq_true q398
      go_wp2_with (first | ((with_reducible refine gate_callee (f := 35) rfl ?_); refine gl_ (some 18) Try.func35 #[.slice A398_0 ((rd_T30 l0 x5_1).f0).length c398_0, .int .i64 x1_1] (h := ?_); (with_reducible refine (laws_heldByteS.calls k1 _ _ ((rd_T30 l0 x5_1).f0) x1_1 t399 _ ?side1 ?side2 A5.out).mono ?_); (case side1 => repeat (first | exact HR398_0.out | (with_reducible refine Kd.C_alloc ?_ _) | (with_reducible refine Kd.C_drewN ?_ _) | (with_reducible refine Kd.C_drew ?_))); (case side2 => exact HC398_0.out); rintro e w' ⟨rfl, ⟨nd, rfl⟩⟩; refine ⟨_, rfl, ?_⟩))
      go_ret; exact ⟨by first | rfl | (simp; done) | (simp [*]; done), by repeat (first | exact Drawn0.refl _ | apply Drawn0.step)⟩
     rw [if_neg c6] at H; have c6b0 : decide (t399 < 0) = false := decide_eq_false c6; clear c6; by_cases c7 : (((rd_T30 l0 x5_1).f1) != ((Int.tmod t399 3) == 0)) = true
     ·rw [if_pos c7] at H
      have c7b0 : (((rd_T30 l0 x5_1).f1) != ((Int.tmod t399 3) == 0)) = true := c7; (try (have c7b1 : decide (((rd_T30 l0 x5_1).f1) = ((Int.tmod t399 3) == 0)) = false := by simpa using c7)); (try (have c7b2 : (((rd_T30 l0 x5_1).f1) == ((Int.tmod t399 3) == 0)) = false := by simpa using c7)); (try (have c7b3 : ¬ (((rd_T30 l0 x5_1).f1) = ((Int.tmod t399 3) == 0)) := by simpa using c7)); clear c7; obtain rfl := Option.some.inj H; have p398 : 0 ≤ (x5_1 : Int) := od; have q398 : x5_1 < (l0.length : Int) := od
      obtain ⟨ad398, A398_0, c398_0, A398_3, c398_3, e398, hx398_0, hx398_1, hx398_2, hx398_3, hl398_0, hi398_0, hl398_3, hi398_3⟩ := at_T30 HR0.out x5_1 p398 q398; cases e398; have HR398_0 := Aside0.mk hi398_0; have HC398_0 := Aside0.mk hl398_0; clear hi398_0 hl398_0; have HR398_3 := Aside0.mk hi398_3; have HC398_3 := Aside0.mk hl398_3; clear hi398_3 hl398_3; replace p398 := eq_true p398; replace q398 := eq_true q398
      go_wp2_with (first | ((with_reducible refine gate_callee (f := 35) rfl ?_); refine gl_ (some 18) Try.func35 #[.slice A398_0 ((rd_T30 l0 x5_1).f0).length c398_0, .int .i64 x1_1] (h := ?_); (with_reducible refine (laws_heldByteS.calls k1 _ _ ((rd_T30 l0 x5_1).f0) x1_1 t399 _ ?side1 ?side2 A5.out).mono ?_); (case side1 => repeat (first | exact HR398_0.out | (with_reducible refine Kd.C_alloc ?_ _) | (with_reducible refine Kd.C_drewN ?_ _) | (with_reducible refine Kd.C_drew ?_))); (case side2 => exact HC398_0.out); rintro e w' ⟨rfl, ⟨nd, rfl⟩⟩; refine ⟨_, rfl, ?_⟩; have p400 : 0 ≤ (x5_1 : Int) := od; have q400 : x5_1 < (l0.length : Int) := od; obtain ⟨ad400, A400_0, c400_0, A400_3, c400_3, e400, hx400_0, hx400_1, hx400_2, hx400_3, hl400_0, hi400_0, hl400_3, hi400_3⟩ := at_T30 HR0.out x5_1 p400 q400; obtain rfl : ad398 = ad400 := (by injection e400); have HR400_0 := Aside0.mk hi400_0; have HC400_0 := Aside0.mk hl400_0; clear hi400_0 hl400_0; have HR400_3 := Aside0.mk hi400_3; have HC400_3 := Aside0.mk hl400_3; clear hi400_3 hl400_3; replace p400 := eq_true p400; replace q400 := eq_true q400; have ea_ := Option.some.inj (hx398_0.symm.trans hx400_0); injection ea_ with ea_ en_ ec_; subst ea_; subst ec_; clear en_; have ea_ := Option.some.inj (hx398_3.symm.trans hx400_3); injection ea_ with ea_ en_ ec_; subst ea_; subst ec_; clear en_))
      go_ret; exact ⟨by first | rfl | (simp; done) | (simp [*]; done), by repeat (first | exact Drawn0.refl _ | apply Drawn0.step)⟩
     rw [if_neg c7] at H; have c7b0 : (((rd_T30 l0 x5_1).f1) != ((Int.tmod t399 3) == 0)) = false := by simpa using c7
     (try (have c7b1 : decide (((rd_T30 l0 x5_1).f1) = ((Int.tmod t399 3) == 0)) = true := by simpa using c7)); (try (have c7b2 : (((rd_T30 l0 x5_1).f1) == ((Int.tmod t399 3) == 0)) = true := by simpa using c7)); clear c7; by_cases c8 : ((rd_T30 l0 x5_1).f2) = (wrap64 (t399 + 1))
     ·rw [if_pos c8] at H
      have c8b0 : (((rd_T30 l0 x5_1).f2) == (wrap64 (t399 + 1))) = true := beq_iff_eq.mpr c8; have c8b1 : (((rd_T30 l0 x5_1).f2) != (wrap64 (t399 + 1))) = false := bne_eq_false_iff_eq.mpr c8; clear c8; replace H := Option.bind_eq_some_iff.mp H; obtain ⟨t403, A90, H⟩ := H; replace H : (if t403 < 0 then (some (-1)) else (laws_heldTreeS.l0 k1 l0 t403 (wrap64 (x5_1 + 1)))) = some r := H; have A9 := Aside0.mk A90; clear A90; by_cases c10 : t403 < 0
      ·rw [if_pos c10] at H
       have c10b0 : decide (t403 < 0) = true := decide_eq_true c10; clear c10; obtain rfl := Option.some.inj H; have p398 : 0 ≤ (x5_1 : Int) := od; have q398 : x5_1 < (l0.length : Int) := od; obtain ⟨ad398, A398_0, c398_0, A398_3, c398_3, e398, hx398_0, hx398_1, hx398_2, hx398_3, hl398_0, hi398_0, hl398_3, hi398_3⟩ := at_T30 HR0.out x5_1 p398 q398; cases e398; have HR398_0 := Aside0.mk hi398_0; have HC398_0 := Aside0.mk hl398_0; clear hi398_0 hl398_0; have HR398_3 := Aside0.mk hi398_3; have HC398_3 := Aside0.mk hl398_3; clear hi398_3 hl398_3; replace p398 := eq_true p398
       replace q398 := eq_true q398
       go_wp2_with (first | ((with_reducible refine gate_callee (f := 35) rfl ?_); refine gl_ (some 18) Try.func35 #[.slice A398_0 ((rd_T30 l0 x5_1).f0).length c398_0, .int .i64 x1_1] (h := ?_); (with_reducible refine (laws_heldByteS.calls k1 _ _ ((rd_T30 l0 x5_1).f0) x1_1 t399 _ ?side1 ?side2 A5.out).mono ?_); (case side1 => repeat (first | exact HR398_0.out | (with_reducible refine Kd.C_alloc ?_ _) | (with_reducible refine Kd.C_drewN ?_ _) | (with_reducible refine Kd.C_drew ?_))); (case side2 => exact HC398_0.out); rintro e w' ⟨rfl, ⟨nd, rfl⟩⟩; refine ⟨_, rfl, ?_⟩; have p400 : 0 ≤ (x5_1 : Int) := od; have q400 : x5_1 < (l0.length : Int) := od; obtain ⟨ad400, A400_0, c400_0, A400_3, c400_3, e400, hx400_0, hx400_1, hx400_2, hx400_3, hl400_0, hi400_0, hl400_3, hi400_3⟩ := at_T30 HR0.out x5_1 p400 q400; obtain rfl : ad398 = ad400 := (by injection e400); have HR400_0 := Aside0.mk hi400_0; have HC400_0 := Aside0.mk hl400_0; clear hi400_0 hl400_0; have HR400_3 := Aside0.mk hi400_3; have HC400_3 := Aside0.mk hl400_3; clear hi400_3 hl400_3; replace p400 := eq_true p400; replace q400 := eq_true q400; have ea_ := Option.some.inj (hx398_0.symm.trans hx400_0); injection ea_ with ea_ en_ ec_; subst ea_; subst ec_; clear en_; have ea_ := Option.some.inj (hx398_3.symm.trans hx400_3); injection ea_ with ea_ en_ ec_; subst ea_; subst ec_; clear en_; have p401 : 0 ≤ (x5_1 : Int) := od; have q401 : x5_1 < (l0.length : Int) := od; obtain ⟨ad401, A401_0, c401_0, A401_3, c401_3, e401, hx401_0, hx401_1, hx401_2, hx401_3, hl401_0, hi401_0, hl401_3, hi401_3⟩ := at_T30 HR0.out x5_1 p401 q401; obtain rfl : ad398 = ad401 := (by injection e401); have HR401_0 := Aside0.mk hi401_0; have HC401_0 := Aside0.mk hl401_0; clear hi401_0 hl401_0; have HR401_3 := Aside0.mk hi401_3; have HC401_3 := Aside0.mk hl401_3; clear hi401_3 hl401_3; replace p401 := eq_true p401; replace q401 := eq_true q401; have ea_ := Option.some.inj (hx398_0.symm.trans hx401_0); injection ea_ with ea_ en_ ec_; subst ea_; subst ec_; clear en_; have ea_ := Option.some.inj (hx398_3.symm.trans hx401_3); injection ea_ with ea_ en_ ec_; subst ea_; subst ec_; clear en_; have p402 : 0 ≤ (x5_1 : Int) := od; have q402 : x5_1 < (l0.length : Int) := od; obtain ⟨ad402, A402_0, c402_0, A402_3, c402_3, e402, hx402_0, hx402_1, hx402_2, hx402_3, hl402_0, hi402_0, hl402_3, hi402_3⟩ := at_T30 HR0.out x5_1 p402 q402; obtain rfl : ad398 = ad402 := (by injection e402); have HR402_0 := Aside0.mk hi402_0; have HC402_0 := Aside0.mk hl402_0; clear hi402_0 hl402_0; have HR402_3 := Aside0.mk hi402_3; have HC402_3 := Aside0.mk hl402_3; clear hi402_3 hl402_3; replace p402 := eq_true p402; replace q402 := eq_true q402; have ea_ := Option.some.inj (hx398_0.symm.trans hx402_0); injection ea_ with ea_ en_ ec_; subst ea_; subst ec_; clear en_; have ea_ := Option.some.inj (hx398_3.symm.trans hx402_3); injection ea_ with ea_ en_ ec_; subst ea_; subst ec_; clear en_) | ((with_reducible refine gate_callee (f := 82) rfl ?_); refine gl_ (some 47) Try.func82 #[.slice A398_3 ((rd_T30 l0 x5_1).f3).length c398_3, .int .i64 (wrap64 ((wrap64 (t399 + 1)) + 1))] (h := ?_); (with_reducible refine (ih k1 (by have := HK1.out; omega) _ _ ((rd_T30 l0 x5_1).f3) (wrap64 ((wrap64 (t399 + 1)) + 1)) t403 _ ?side1 ?side2 A9.out).mono ?_); (case side1 => repeat (first | exact HR402_3.out | (with_reducible refine Kd.C_alloc ?_ _) | (with_reducible refine Kd.C_drewN ?_ _) | (with_reducible refine Kd.C_drew ?_))); (case side2 => exact HC402_3.out); rintro e w' ⟨rfl, ⟨nd, rfl⟩⟩; refine ⟨_, rfl, ?_⟩))
       go_ret; exact ⟨by first | rfl | (simp; done) | (simp [*]; done), by repeat (first | exact Drawn0.refl _ | apply Drawn0.step)⟩
      rw [if_neg c10] at H; have c10b0 : decide (t403 < 0) = false := decide_eq_false c10; clear c10; have H' := Aside0.mk H; clear H; have p398 : 0 ≤ (x5_1 : Int) := od; have q398 : x5_1 < (l0.length : Int) := od; obtain ⟨ad398, A398_0, c398_0, A398_3, c398_3, e398, hx398_0, hx398_1, hx398_2, hx398_3, hl398_0, hi398_0, hl398_3, hi398_3⟩ := at_T30 HR0.out x5_1 p398 q398; cases e398; have HR398_0 := Aside0.mk hi398_0; have HC398_0 := Aside0.mk hl398_0; clear hi398_0 hl398_0; have HR398_3 := Aside0.mk hi398_3; have HC398_3 := Aside0.mk hl398_3; clear hi398_3 hl398_3; replace p398 := eq_true p398
      replace q398 := eq_true q398
      go_wp2_with (first | ((with_reducible refine gate_callee (f := 35) rfl ?_); refine gl_ (some 18) Try.func35 #[.slice A398_0 ((rd_T30 l0 x5_1).f0).length c398_0, .int .i64 x1_1] (h := ?_); (with_reducible refine (laws_heldByteS.calls k1 _ _ ((rd_T30 l0 x5_1).f0) x1_1 t399 _ ?side1 ?side2 A5.out).mono ?_); (case side1 => repeat (first | exact HR398_0.out | (with_reducible refine Kd.C_alloc ?_ _) | (with_reducible refine Kd.C_drewN ?_ _) | (with_reducible refine Kd.C_drew ?_))); (case side2 => exact HC398_0.out); rintro e w' ⟨rfl, ⟨nd, rfl⟩⟩; refine ⟨_, rfl, ?_⟩; have p400 : 0 ≤ (x5_1 : Int) := od; have q400 : x5_1 < (l0.length : Int) := od; obtain ⟨ad400, A400_0, c400_0, A400_3, c400_3, e400, hx400_0, hx400_1, hx400_2, hx400_3, hl400_0, hi400_0, hl400_3, hi400_3⟩ := at_T30 HR0.out x5_1 p400 q400; obtain rfl : ad398 = ad400 := (by injection e400); have HR400_0 := Aside0.mk hi400_0; have HC400_0 := Aside0.mk hl400_0; clear hi400_0 hl400_0; have HR400_3 := Aside0.mk hi400_3; have HC400_3 := Aside0.mk hl400_3; clear hi400_3 hl400_3; replace p400 := eq_true p400; replace q400 := eq_true q400; have ea_ := Option.some.inj (hx398_0.symm.trans hx400_0); injection ea_ with ea_ en_ ec_; subst ea_; subst ec_; clear en_; have ea_ := Option.some.inj (hx398_3.symm.trans hx400_3); injection ea_ with ea_ en_ ec_; subst ea_; subst ec_; clear en_; have p401 : 0 ≤ (x5_1 : Int) := od; have q401 : x5_1 < (l0.length : Int) := od; obtain ⟨ad401, A401_0, c401_0, A401_3, c401_3, e401, hx401_0, hx401_1, hx401_2, hx401_3, hl401_0, hi401_0, hl401_3, hi401_3⟩ := at_T30 HR0.out x5_1 p401 q401; obtain rfl : ad398 = ad401 := (by injection e401); have HR401_0 := Aside0.mk hi401_0; have HC401_0 := Aside0.mk hl401_0; clear hi401_0 hl401_0; have HR401_3 := Aside0.mk hi401_3; have HC401_3 := Aside0.mk hl401_3; clear hi401_3 hl401_3; replace p401 := eq_true p401; replace q401 := eq_true q401; have ea_ := Option.some.inj (hx398_0.symm.trans hx401_0); injection ea_ with ea_ en_ ec_; subst ea_; subst ec_; clear en_; have ea_ := Option.some.inj (hx398_3.symm.trans hx401_3); injection ea_ with ea_ en_ ec_; subst ea_; subst ec_; clear en_; have p402 : 0 ≤ (x5_1 : Int) := od; have q402 : x5_1 < (l0.length : Int) := od; obtain ⟨ad402, A402_0, c402_0, A402_3, c402_3, e402, hx402_0, hx402_1, hx402_2, hx402_3, hl402_0, hi402_0, hl402_3, hi402_3⟩ := at_T30 HR0.out x5_1 p402 q402; obtain rfl : ad398 = ad402 := (by injection e402); have HR402_0 := Aside0.mk hi402_0; have HC402_0 := Aside0.mk hl402_0; clear hi402_0 hl402_0; have HR402_3 := Aside0.mk hi402_3; have HC402_3 := Aside0.mk hl402_3; clear hi402_3 hl402_3; replace p402 := eq_true p402; replace q402 := eq_true q402; have ea_ := Option.some.inj (hx398_0.symm.trans hx402_0); injection ea_ with ea_ en_ ec_; subst ea_; subst ec_; clear en_; have ea_ := Option.some.inj (hx398_3.symm.trans hx402_3); injection ea_ with ea_ en_ ec_; subst ea_; subst ec_; clear en_) | ((with_reducible refine gate_callee (f := 82) rfl ?_); refine gl_ (some 47) Try.func82 #[.slice A398_3 ((rd_T30 l0 x5_1).f3).length c398_3, .int .i64 (wrap64 ((wrap64 (t399 + 1)) + 1))] (h := ?_); (with_reducible refine (ih k1 (by have := HK1.out; omega) _ _ ((rd_T30 l0 x5_1).f3) (wrap64 ((wrap64 (t399 + 1)) + 1)) t403 _ ?side1 ?side2 A9.out).mono ?_); (case side1 => repeat (first | exact HR402_3.out | (with_reducible refine Kd.C_alloc ?_ _) | (with_reducible refine Kd.C_drewN ?_ _) | (with_reducible refine Kd.C_drew ?_))); (case side2 => exact HC402_3.out); rintro e w' ⟨rfl, ⟨nd, rfl⟩⟩; refine ⟨_, rfl, ?_⟩))
      go_roundg k1
      case measure => have := HK1.out; omega
      case rel => exact ⟨(t403), (wrap64 (x5_1 + 1)), rs_, rs_, H', ⟨by have := HK1.out; omega⟩, by repeat (first | exact Drawn0.refl _ | apply Drawn0.step)⟩
     rw [if_neg c8] at H; have c8b0 : (((rd_T30 l0 x5_1).f2) == (wrap64 (t399 + 1))) = false := beq_eq_false_iff_ne.mpr c8; have c8b1 : (((rd_T30 l0 x5_1).f2) != (wrap64 (t399 + 1))) = true := bne_iff_ne.mpr c8; obtain rfl := Option.some.inj H; have p398 : 0 ≤ (x5_1 : Int) := od; have q398 : x5_1 < (l0.length : Int) := od; obtain ⟨ad398, A398_0, c398_0, A398_3, c398_3, e398, hx398_0, hx398_1, hx398_2, hx398_3, hl398_0, hi398_0, hl398_3, hi398_3⟩ := at_T30 HR0.out x5_1 p398 q398; cases e398; have HR398_0 := Aside0.mk hi398_0; have HC398_0 := Aside0.mk hl398_0; clear hi398_0 hl398_0
     have HR398_3 := Aside0.mk hi398_3; have HC398_3 := Aside0.mk hl398_3; clear hi398_3 hl398_3; replace p398 := eq_true p398; replace q398 := eq_true q398
     go_wp2_with (first | ((with_reducible refine gate_callee (f := 35) rfl ?_); refine gl_ (some 18) Try.func35 #[.slice A398_0 ((rd_T30 l0 x5_1).f0).length c398_0, .int .i64 x1_1] (h := ?_); (with_reducible refine (laws_heldByteS.calls k1 _ _ ((rd_T30 l0 x5_1).f0) x1_1 t399 _ ?side1 ?side2 A5.out).mono ?_); (case side1 => repeat (first | exact HR398_0.out | (with_reducible refine Kd.C_alloc ?_ _) | (with_reducible refine Kd.C_drewN ?_ _) | (with_reducible refine Kd.C_drew ?_))); (case side2 => exact HC398_0.out); rintro e w' ⟨rfl, ⟨nd, rfl⟩⟩; refine ⟨_, rfl, ?_⟩; have p400 : 0 ≤ (x5_1 : Int) := od; have q400 : x5_1 < (l0.length : Int) := od; obtain ⟨ad400, A400_0, c400_0, A400_3, c400_3, e400, hx400_0, hx400_1, hx400_2, hx400_3, hl400_0, hi400_0, hl400_3, hi400_3⟩ := at_T30 HR0.out x5_1 p400 q400; obtain rfl : ad398 = ad400 := (by injection e400); have HR400_0 := Aside0.mk hi400_0; have HC400_0 := Aside0.mk hl400_0; clear hi400_0 hl400_0; have HR400_3 := Aside0.mk hi400_3; have HC400_3 := Aside0.mk hl400_3; clear hi400_3 hl400_3; replace p400 := eq_true p400; replace q400 := eq_true q400; have ea_ := Option.some.inj (hx398_0.symm.trans hx400_0); injection ea_ with ea_ en_ ec_; subst ea_; subst ec_; clear en_; have ea_ := Option.some.inj (hx398_3.symm.trans hx400_3); injection ea_ with ea_ en_ ec_; subst ea_; subst ec_; clear en_; have p401 : 0 ≤ (x5_1 : Int) := od; have q401 : x5_1 < (l0.length : Int) := od; obtain ⟨ad401, A401_0, c401_0, A401_3, c401_3, e401, hx401_0, hx401_1, hx401_2, hx401_3, hl401_0, hi401_0, hl401_3, hi401_3⟩ := at_T30 HR0.out x5_1 p401 q401; obtain rfl : ad398 = ad401 := (by injection e401); have HR401_0 := Aside0.mk hi401_0; have HC401_0 := Aside0.mk hl401_0; clear hi401_0 hl401_0; have HR401_3 := Aside0.mk hi401_3; have HC401_3 := Aside0.mk hl401_3; clear hi401_3 hl401_3; replace p401 := eq_true p401; replace q401 := eq_true q401; have ea_ := Option.some.inj (hx398_0.symm.trans hx401_0); injection ea_ with ea_ en_ ec_; subst ea_; subst ec_; clear en_; have ea_ := Option.some.inj (hx398_3.symm.trans hx401_3); injection ea_ with ea_ en_ ec_; subst ea_; subst ec_; clear en_))
     go_ret; exact ⟨by first | rfl | (simp; done) | (simp [*]; done), by repeat (first | exact Drawn0.refl _ | apply Drawn0.step)⟩
    rw [if_neg c4] at H; exact absurd H (by simp)
   rw [if_neg c3] at H; have c3b0 : decide (x5_1 < (l0.length : Int)) = false := decide_eq_false c3; clear c3; obtain rfl := Option.some.inj H; go_wp2; go_ret; exact ⟨by first | rfl | (simp; done) | (simp [*]; done), by repeat (first | exact Drawn0.refl _ | apply Drawn0.step)⟩

/-! ### laws_heldTree: function 43 -/
def laws_heldTree.f (k : Nat) (l0_0 : List Int) (a0_1 : Bool) (a0_2 : Int) (l0_3 : List (S30)) (a1 : Int) : Option (Int) := (laws_heldByteS.f k l0_0 a1).bind fun t405 => (if t405 < 0 then (some (-1)) else ((laws_heldTreeS.f k l0_3 t405).bind fun t406 => (if t406 < 0 then (some (-1)) else (some t406))))
set_option maxHeartbeats 8000000 in
set_option maxRecDepth 100000 in
theorem laws_heldTree.calls (k : Nat) (A0_0 : Option Addr) (c0_0 : Nat) (l0_0 : List Int) (a0_1 : Bool) (a0_2 : Int) (A0_3 : Option Addr) (c0_3 : Nat) (l0_3 : List (S30)) (a1 : Int) (r : Int) (w : World) (hr0_0 : Kd.C (Kd.int .u8) w A0_0 l0_0.length l0_0) (hc0_0 : l0_0.length ≤ c0_0) (hr0_3 : Kd.C k30 w A0_3 l0_3.length l0_3) (hc0_3 : l0_3.length ≤ c0_3) (h : laws_heldTree.f k l0_0 a0_1 a0_2 l0_3 a1 = some r) :
  Calls Try.prog 43 #[.agg #[.slice A0_0 l0_0.length c0_0, .bool a0_1, .int .i64 a0_2, .slice A0_3 l0_3.length c0_3], .int .i64 a1] w fun e w' => e = .returned (.int .i64 r) ∧ Below w.heap.size w w' := by
 have hu30 := Try.underlying30; have HR0_0 := Aside0.mk hr0_0; have HC0_0 := Aside0.mk hc0_0; clear hr0_0 hc0_0; have HR0_3 := Aside0.mk hr0_3; have HC0_3 := Aside0.mk hc0_3; clear hr0_3 hc0_3; have HB := Aside0.mk (Below.refl w.heap.size w); have H : ((laws_heldByteS.f k l0_0 a1).bind fun t405 => (if t405 < 0 then (some (-1)) else ((laws_heldTreeS.f k l0_3 t405).bind fun t406 => (if t406 < 0 then (some (-1)) else (some t406))))) = some r := h; clear h; replace H := Option.bind_eq_some_iff.mp H; obtain ⟨t405, A30, H⟩ := H
 replace H : (if t405 < 0 then (some (-1)) else ((laws_heldTreeS.f k l0_3 t405).bind fun t406 => (if t406 < 0 then (some (-1)) else (some t406)))) = some r := H; have A3 := Aside0.mk A30; clear A30; by_cases c4 : t405 < 0
 ·rw [if_pos c4] at H
  have c4b0 : decide (t405 < 0) = true := decide_eq_true c4; clear c4; obtain rfl := Option.some.inj H; go_enter Try.func43, Try.ntmps43
  go_wp2_with (first | ((with_reducible refine gate_dst (N := 2) rfl ?_); refine bx_ 2 #[.slice A0_0 l0_0.length c0_0, .bool a0_1, .int .i64 a0_2, .slice A0_3 l0_3.length c0_3] 30 (h := ?_); intro gb404 hg w5 hbox hb; have BK404 := Aside0.mk (hbox); have GW404 := Aside0.mk ((by rw [hg]; exact (below_size bel) : w.heap.size ≤ gb404)); have GE404 := GW404; replace HB := bst hb; clear hb hbox hg; obtain ⟨C6_0, C6_1, C6_2, C6_3, -⟩ := cells_4 BK404.out trivial; obtain ⟨F6_0, F6_1, F6_2, F6_3, -⟩ := frz_4 BK404.out) | ((with_reducible refine gate_callee (f := 35) rfl ?_); refine gl_ (some 8) Try.func35 #[.slice A0_0 l0_0.length c0_0, .int .i64 a1] (h := ?_); (with_reducible refine (laws_heldByteS.calls k _ _ l0_0 a1 t405 _ ?side1 ?side2 A3.out).mono ?_); (case side1 => exact kcb); (case side2 => exact HC0_0.out); rintro e w' ⟨rfl, ⟨nd, rfl⟩⟩; refine ⟨_, rfl, ?_⟩))
  go_ret; exact ⟨rz_, bel⟩
 rw [if_neg c4] at H; have c4b0 : decide (t405 < 0) = false := decide_eq_false c4; clear c4; replace H := Option.bind_eq_some_iff.mp H; obtain ⟨t406, A70, H⟩ := H; replace H : (if t406 < 0 then (some (-1)) else (some t406)) = some r := H; have A7 := Aside0.mk A70; clear A70; by_cases c8 : t406 < 0
 ·rw [if_pos c8] at H
  have c8b0 : decide (t406 < 0) = true := decide_eq_true c8; clear c8; obtain rfl := Option.some.inj H; go_enter Try.func43, Try.ntmps43
  go_wp2_with (first | ((with_reducible refine gate_dst (N := 2) rfl ?_); refine bx_ 2 #[.slice A0_0 l0_0.length c0_0, .bool a0_1, .int .i64 a0_2, .slice A0_3 l0_3.length c0_3] 30 (h := ?_); intro gb404 hg w9 hbox hb; have BK404 := Aside0.mk (hbox); have GW404 := Aside0.mk ((by rw [hg]; exact (below_size bel) : w.heap.size ≤ gb404)); have GE404 := GW404; replace HB := bst hb; clear hb hbox hg; obtain ⟨C10_0, C10_1, C10_2, C10_3, -⟩ := cells_4 BK404.out trivial; obtain ⟨F10_0, F10_1, F10_2, F10_3, -⟩ := frz_4 BK404.out) | ((with_reducible refine gate_callee (f := 35) rfl ?_); refine gl_ (some 8) Try.func35 #[.slice A0_0 l0_0.length c0_0, .int .i64 a1] (h := ?_); (with_reducible refine (laws_heldByteS.calls k _ _ l0_0 a1 t405 _ ?side1 ?side2 A3.out).mono ?_); (case side1 => exact kcb); (case side2 => exact HC0_0.out); rintro e w' ⟨rfl, ⟨nd, rfl⟩⟩; refine ⟨_, rfl, ?_⟩) | ((with_reducible refine gate_callee (f := 82) rfl ?_); refine gl_ (some 14) Try.func82 #[.slice A0_3 l0_3.length c0_3, .int .i64 t405] (h := ?_); (with_reducible refine (laws_heldTreeS.calls k _ _ l0_3 t405 t406 _ ?side1 ?side2 A7.out).mono ?_); (case side1 => exact kcb); (case side2 => exact HC0_3.out); rintro e w' ⟨rfl, ⟨nd, rfl⟩⟩; refine ⟨_, rfl, ?_⟩))
  go_ret; exact ⟨rz_, bel⟩
 rw [if_neg c8] at H; have c8b0 : decide (t406 < 0) = false := decide_eq_false c8; clear c8; obtain rfl := Option.some.inj H; go_enter Try.func43, Try.ntmps43
 go_wp2_with (first | ((with_reducible refine gate_dst (N := 2) rfl ?_); refine bx_ 2 #[.slice A0_0 l0_0.length c0_0, .bool a0_1, .int .i64 a0_2, .slice A0_3 l0_3.length c0_3] 30 (h := ?_); intro gb404 hg w11 hbox hb; have BK404 := Aside0.mk (hbox); have GW404 := Aside0.mk ((by rw [hg]; exact (below_size bel) : w.heap.size ≤ gb404)); have GE404 := GW404; replace HB := bst hb; clear hb hbox hg; obtain ⟨C12_0, C12_1, C12_2, C12_3, -⟩ := cells_4 BK404.out trivial; obtain ⟨F12_0, F12_1, F12_2, F12_3, -⟩ := frz_4 BK404.out) | ((with_reducible refine gate_callee (f := 35) rfl ?_); refine gl_ (some 8) Try.func35 #[.slice A0_0 l0_0.length c0_0, .int .i64 a1] (h := ?_); (with_reducible refine (laws_heldByteS.calls k _ _ l0_0 a1 t405 _ ?side1 ?side2 A3.out).mono ?_); (case side1 => exact kcb); (case side2 => exact HC0_0.out); rintro e w' ⟨rfl, ⟨nd, rfl⟩⟩; refine ⟨_, rfl, ?_⟩) | ((with_reducible refine gate_callee (f := 82) rfl ?_); refine gl_ (some 14) Try.func82 #[.slice A0_3 l0_3.length c0_3, .int .i64 t405] (h := ?_); (with_reducible refine (laws_heldTreeS.calls k _ _ l0_3 t405 t406 _ ?side1 ?side2 A7.out).mono ?_); (case side1 => exact kcb); (case side2 => exact HC0_3.out); rintro e w' ⟨rfl, ⟨nd, rfl⟩⟩; refine ⟨_, rfl, ?_⟩))
 go_ret; exact ⟨rz_, bel⟩

/-! ### marks of trees, with what the rows hold then -/
theorem H_frz30 {W : World} {base g n cap : Nat} {ok oki : Nat → Prop} {xs : List S30} {i : Int} {c : List Value} (h : Kd.H kD30 30 W base ok (.slice (some ⟨g, 0, none⟩) n cap) xs i oki c) (h0 : 0 ≤ i) (h1 : i < n) : (∀ j u, c[j]? = some u → W.cell? ⟨g, i.toNat * 4 + j, none⟩ = some u) ∧ ∀ j, W.frozen? ⟨g, i.toNat * 4 + j, none⟩ = false := by
  obtain ⟨rows, _, hraw, _, _, hcc, _⟩ := Kd.H_raw h h0 h1; obtain ⟨_, _, _, _, hfr⟩ := Kd.R_elem hraw [] i h0 h1; exact ⟨hcc, hfr⟩
def laws_markTreeV.row (a : Int) (n : Nat) : List Int := (List.range n).map (fun (i : Nat) => (a + (i : Int)) % 256)
def laws_markTreeV.list (g : List Int → Int → Option (Int × List Int)) (rec : List S30 → Int → Option (Int × List S30)) : List S30 → Int → Option (Int × List S30)
  | [], a => some (a, [])
  | x :: xs, a => (g x.f0 a).bind fun b => if (0 ≤ b.1 ∧ b.1 ≤ 1000000000) ∧ b.1 = a + (x.f0.length : Int) ∧ b.2 = laws_markTreeV.row a x.f0.length then (rec x.f3 (b.1 + 1 + 1)).bind fun c => (laws_markTreeV.list g rec xs c.1).bind fun d => some (d.1, ⟨b.2, Int.tmod b.1 3 == 0, b.1 + 1, c.2⟩ :: d.2) else none
def laws_markTreeV.rows (kb : Nat) : Nat → List S30 → Int → Option (Int × List S30)
  | 0 => fun _ _ => none
  | k + 1 => laws_markTreeV.list (laws_markByteS.f kb) (laws_markTreeV.rows kb k)
/-- The count, and the two rows then. -/
def laws_markTreeV.g (k : Nat) (l0 : List Int) (l3 : List S30) (a : Int) : Option (Int × List Int × List S30) :=
  (laws_markByteS.f k l0 a).bind fun b => if b.1 = a + (l0.length : Int) ∧ b.2 = laws_markTreeV.row a l0.length then (laws_markTreeV.rows k k l3 b.1).bind fun c => some (c.1, b.2, c.2) else none
def laws_markTreeV.f (k : Nat) (l0 : List Int) (_a1 : Bool) (_a2 : Int) (l3 : List S30) (a : Int) : Option Int := (laws_markTreeV.g k l0 l3 a).bind fun m => some m.1
/-- What is found of marks that began at one. -/
def laws_heldTreem.f (k : Nat) (l0 : List Int) (a1 : Bool) (a2 : Int) (l3 : List S30) (a : Int) : Option Int := (laws_markTreeV.g k l0 l3 1).bind fun m => laws_heldTree.f k m.2.1 a1 a2 m.2.2 a
set_option maxHeartbeats 16000000 in
set_option maxRecDepth 100000 in
theorem laws_markTreeV.deep (kb k : Nat) : ∀ (P0_ : Nat → Prop) (v : Value) (l : List S30) (a r : Int) (m : List S30) (w0 w : World) (hB : Below w0.heap.size w0 w) (ho : Kd.S kD30 30 w w0.heap.size P0_ v l) (h : laws_markTreeV.rows kb k l a = some (r, m)),
    Calls Try.prog 74 #[v, .int .i64 a] w fun e w' => e = .returned (.int .i64 r) ∧ Kd.S kD30 30 w' w0.heap.size P0_ v m ∧ Below w0.heap.size w0 w' ∧ Kept w w' P0_ := by
  induction k with
  | zero => intro _ _ _ _ _ _ _ _ _ _ h; exact absurd h (by simp [laws_markTreeV.rows])
  | succ k ih =>
  intro P0_ v l a r m w0 w hB ho h; obtain ⟨A, c, rfl⟩ := Kd.S_slice ho; simp only [laws_markTreeV.rows] at h; have HS0 := Aside0.mk ho; have HB := Aside0.mk hB; have H0 := Aside0.mk h; have IH := Aside0.mk ih; clear ho hB h ih; go_enter Try.func74, Try.ntmps74; go_wp2
  go_loopg [1, 5] l.length (fun gg v1 v5 wr => ∃ (x N1 : Int) (cur : List S30), v1 = .int .i64 N1 ∧ v5 = .int .i64 x ∧ 0 ≤ x ∧ x ≤ (l.length : Int) ∧ l.length - x.toNat ≤ gg ∧ Aside0 (cur.length = l.length ∧ cur.drop x.toNat = l.drop x.toNat) ∧ Aside0 (∃ m', laws_markTreeV.list (laws_markByteS.f kb) (laws_markTreeV.rows kb k) (l.drop x.toNat) N1 = some (r, m') ∧ m = cur.take x.toNat ++ m') ∧ Aside0 (Kd.S kD30 30 wr w0.heap.size P0_ (.slice A l.length c) cur) ∧ Aside0 (Below w0.heap.size w0 wr) ∧ Aside0 (Kept w wr P0_))
  case atStart => exact ⟨0, a, l, rfl, rfl, by omega, by omega, by omega, ⟨rfl, rfl⟩, ⟨m, H0.out, by simp⟩, HS0, HB, ⟨Kept.refl _ _⟩⟩
  case round =>
    obtain ⟨x, N1, cur, rfl, rfl, hx0, hx1, hg, HL, HF, HS, HBr, HK⟩ := hrel; by_cases hlt : x < (l.length : Int)
    · have hn : x.toNat < l.length := by omega
      have hn' : x.toNat < cur.length := by rw [HL.out.1]; exact hn
      obtain ⟨g, cap, e, hbg, hgl, cells, hcell⟩ := Kd.S_form HS.out (by omega); injection e with ea en ec; subst ea; obtain ⟨oki, cs, hcl, hM, _, _, hoki, hH⟩ := Kd.S_elem HS.out z30 x hx0 (by omega); obtain ⟨oka, v0, v3, rfl, hv0, hv3⟩ := kD30_openM hM
      have hrow : cur.getD x.toNat z30 = l[x.toNat] := by
        have h1 := HL.out.2; rw [List.drop_eq_getElem_cons hn, List.drop_eq_getElem_cons hn'] at h1; rw [List.getD_eq_getElem?_getD, List.getElem?_eq_getElem hn', Option.getD_some]; exact (List.cons.inj h1).1
      have htail : cur.drop (x.toNat + 1) = l.drop (x.toNat + 1) := by
        have h1 := HL.out.2; rw [List.drop_eq_getElem_cons hn, List.drop_eq_getElem_cons hn'] at h1; exact (List.cons.inj h1).2
      rw [hrow] at hv0 hv3 hH; obtain ⟨m', hf, hm⟩ := HF.out; rw [List.drop_eq_getElem_cons hn, laws_markTreeV.list] at hf; generalize l[x.toNat] = y at hv0 hv3 hH hf; obtain ⟨⟨b1, b2⟩, hb, hf⟩ := Option.bind_eq_some_iff.mp hf; simp only at hf; split at hf
      case isFalse => cases hf
      case isTrue hbb0 =>
      have hbb := hbb0.1; clear hbb0; obtain ⟨⟨c1, c2⟩, hc, hf⟩ := Option.bind_eq_some_iff.mp hf; obtain ⟨⟨d1, d2⟩, hd, hf⟩ := Option.bind_eq_some_iff.mp hf; simp only [Option.some.injEq, Prod.mk.injEq] at hf hc hd; obtain ⟨rfl, rfl⟩ := hf; obtain ⟨A0, c0, rfl⟩ := Kd.R_slice hv0; obtain ⟨A3, c3, rfl⟩ := Kd.S_slice hv3; have hcc := (H_frz30 hH hx0 (by omega)).1; have hx_0 : wr.cell? ⟨g, x.toNat * 4, none⟩ = some (.slice A0 y.f0.length c0) := hcc 0 _ rfl; have hw1 : wrap64 (b1 + 1) = b1 + 1 := by unfold wrap64; omega
      have hw2 : wrap64 (b1 + 1 + 1) = b1 + 1 + 1 := by unfold wrap64; omega
      have hwx : wrap64 (x + 1) = x + 1 := by have := (Kd.S_reads' HS.out).2.2.2.1; unfold wrap64; omega
      have HNG := Aside0.mk (show ∀ k, oki k → k ≠ g from fun k hk => (hoki k hk).2); have HLT := Aside0.mk (show x < (l.length : Int) from hlt); have HGB := Aside0.mk hbg; have HV0 := Aside0.mk hv0; have HV3 := Aside0.mk hv3; have HH := Aside0.mk hH; have HOK := Aside0.mk hoki; have HBB := Aside0.mk hb; have HCC := Aside0.mk hc; have HDD := Aside0.mk hd; have HMM := Aside0.mk hm; have HN2 := Aside0.mk hn'; have HTL := Aside0.mk htail; have HG := Aside0.mk hg; have HX0 := Aside0.mk hx0; have HWX := Aside0.mk hwx
      clear hv0 hv3 hH hoki hb hc hd hm hrow htail hcc hcl hcell hgl hbg en ec hg hM hbb hlt hn hn' hx1; have e1 : decide (x < (l.length : Int)) = true := decide_eq_true HLT.out; have p5 : (0 ≤ x) = True := eq_true hx0; have q5 : (x < (l.length : Int)) = True := eq_true HLT.out
      go_wp2_with (first
        | ((with_reducible refine gate_callee (f := 34) rfl ?_); refine gl_ (some 18) Try.func34 #[.slice A0 y.f0.length c0, .int .i64 N1] (h := ?_); refine (laws_markByteS.calls kb (fun k_ => oki k_ ∧ oka k_) (.slice A0 y.f0.length c0) y.f0 N1 b1 b2 w0 wr HBr.out HV0.out HBB.out).mono ?_; rintro e w8 ⟨rfl, ho, hb8, hk8⟩; refine ⟨_, rfl, ?_⟩; have HO8 := Aside0.mk (Kd.R_mono (Kd.R_tight rfl ho) (fun k e_ => HV0.out.1 k e_.symm)); have HB8 := Aside0.mk hb8; have HK8 := Aside0.mk hk8; have HH8 := Aside0.mk (Kd.H_kept HH.out hk8 (fun k _ hno hs => hno hs.1)); have HV8 := Aside0.mk (Kd.S_kept HV3.out hk8 (fun k hk hs => hk.2 hs.2)); clear ho hb8 hk8; obtain ⟨hcc8, hfr8⟩ := H_frz30 HH8.out HX0.out HLT.out; have hy_1 : w8.cell? ⟨g, x.toNat * 4 + 1, none⟩ = some (.bool y.f1) := hcc8 1 _ rfl; have hy_2 : w8.cell? ⟨g, x.toNat * 4 + 2, none⟩ = some (.int .i64 y.f2) := hcc8 2 _ rfl; have hy_3 : w8.cell? ⟨g, x.toNat * 4 + 3, none⟩ = some (.slice A3 y.f3.length c3) := hcc8 3 _ rfl; have hz_1 := hfr8 1; have hz_2 := hfr8 2; clear hcc8 hfr8)
        | (go_at_call 74; refine (IH.out (fun k_ => oki k_ ∧ ¬ oka k_) (.slice A3 y.f3.length c3) y.f3 (b1 + 1 + 1) c1 c2 w0 _ ?hB ?hS HCC.out).mono ?_; (case hB => exact (HB8.out.setCell HGB.out _).setCell HGB.out _); (case hS => exact Kd.S_far (p := ⟨g, x.toNat * 4 + 2, none⟩) (Kd.S_far (p := ⟨g, x.toNat * 4 + 1, none⟩) HV8.out (fun k hk => HNG.out k hk.1) _) (fun k hk => HNG.out k hk.1) _); rintro e w11 ⟨rfl, ho3, hb11, hk11⟩; have HO11 := Aside0.mk ho3; have HB11 := Aside0.mk hb11; have HK11 := Aside0.mk hk11; clear ho3 hb11 hk11))
      go_roundg (l.length - (x.toNat + 1))
      case measure => have := HG.out; have := HLT.out; omega
      case rel =>
        have hx0 := HX0.out; have ex : (x + 1).toNat = x.toNat + 1 := by omega
        have hn' := HN2.out; have hs10 := (Kd.H_seg HH8.out HX0.out HLT.out (seg := [.bool (Int.tmod b1 3 == 0), .int .i64 (b1 + 1)]) (j := 1) (by show 1 + 2 ≤ 4; omega) (by intro q hq; simp at hq; rcases hq with rfl | rfl <;> rfl)).1; have hs11 := Kd.H_kept hs10 HK11.out (fun k _ hno hs => hno hs.1); have hr0 := Kd.R_kept (Kd.R_far (p := ⟨g, x.toNat * 4 + 2, none⟩) (Kd.R_far (p := ⟨g, x.toNat * 4 + 1, none⟩) HO8.out (fun k hk => HNG.out k hk.1) (.bool (Int.tmod b1 3 == 0))) (fun k hk => HNG.out k hk.1) (.int .i64 (b1 + 1))) HK11.out (fun k hk hs => hs.2 hk.2)
        have hs1 := Kd.H_back hs11 (x' := ⟨b2, Int.tmod b1 3 == 0, b1 + 1, c2⟩) (okp := oki) (kD30_mkA _ _ oki oka ⟨b2, Int.tmod b1 3 == 0, b1 + 1, c2⟩ hr0 HO11.out) (fun k hk => hk); refine ⟨x + 1, c1, cur.set x.toNat ⟨b2, Int.tmod b1 3 == 0, b1 + 1, c2⟩, by first | rfl | simp, by first | rw [HWX.out] | simp [HWX.out], by omega, by have := HLT.out; omega, by have := HG.out; omega, ⟨?_, ?_⟩, ⟨d2, ?_, ?_⟩, ⟨hs1⟩, HB11, ⟨?_⟩⟩
        · rw [List.length_set]; exact HL.out.1
        · rw [ex, List.drop_set_of_lt (by omega)]; exact HTL.out
        · rw [ex]; exact HDD.out
        · rw [ex, HMM.out, List.take_add_one, List.take_set_of_le (by omega), List.getElem?_set_self hn', Option.toList_some, List.append_assoc]
          rfl
        · refine HK.out.then_ ((HK8.out.mono (S' := fun k => oki k ∨ k = g) (fun k hk => .inl hk.1)).then_ (S2 := fun k => oki k ∨ k = g) ((((Kept.refl w8 (fun k => oki k ∨ k = g)).setCell (p := ⟨g, x.toNat * 4 + 1, none⟩) (.inl (.inr rfl)) (.bool (Int.tmod b1 3 == 0))).setCell (p := ⟨g, x.toNat * 4 + 2, none⟩) (.inl (.inr rfl)) (.int .i64 (b1 + 1))).then_ HK11.out (fun k hk => .inl (.inl hk.1))) (fun k hk => .inl hk)) (fun k hk => .inl ?_)
          rcases hk with hk | rfl
          · exact (HOK.out k hk).1
          · exact HS.out.elim (fun _ h_ => h_.1 _ rfl)
    · have hx : x.toNat = l.length := by omega
      obtain ⟨m', hf, hm⟩ := HF.out; rw [hx, List.drop_length, laws_markTreeV.list] at hf; simp only [Option.some.injEq, Prod.mk.injEq] at hf; obtain ⟨rfl, rfl⟩ := hf; rw [hx, List.append_nil, List.take_of_length_le (by rw [HL.out.1]; exact Nat.le_refl _)] at hm; have e1 : decide (x < (l.length : Int)) = false := decide_eq_false hlt; go_wp2; go_ret; exact ⟨rfl, by first | exact HS.out | (rw [hm]; exact HS.out), HBr.out, HK.out⟩
set_option maxHeartbeats 16000000 in
set_option maxRecDepth 100000 in
theorem laws_markTreeV.calls (k : Nat) (P0_ : Nat → Prop) (u0 u3 : Value) (l0 : List Int) (a1 : Bool) (a2 : Int) (l3 : List S30) (a4 r : Int) (m0 : List Int) (m3 : List S30) (w0 w : World) (hB : Below w0.heap.size w0 w) (ho : TS30 w w0.heap.size P0_ u0 u3 l0 l3) (h : laws_markTreeV.g k l0 l3 a4 = some (r, m0, m3)) :
    Calls Try.prog 33 #[.agg #[u0, .bool a1, .int .i64 a2, u3], .int .i64 a4] w fun e w' => e = .returned (.int .i64 r) ∧ TS30 w' w0.heap.size P0_ u0 u3 m0 m3 ∧ Below w0.heap.size w0 w' ∧ Kept w w' P0_ := by
  have hu := Try.underlying30; obtain ⟨A0, c0, A3, c3, rfl, rfl⟩ := ho.tr.slices; obtain ⟨⟨b1, b2⟩, hb, h⟩ := Option.bind_eq_some_iff.mp h; simp only at h; split at h
  case isFalse => cases h
  case isTrue hbb0 =>
  clear hbb0; obtain ⟨⟨c1, c2⟩, hc, h⟩ := Option.bind_eq_some_iff.mp h; simp only [Option.some.injEq, Prod.mk.injEq] at h hc; obtain ⟨rfl, rfl, rfl⟩ := h; obtain ⟨oka, h0, h3⟩ := ho; have H0 := Aside0.mk (Kd.R_mono (Kd.R_bound h0) (fun k hk => (⟨hk.1, hk.2.2.1⟩ : (P0_ k ∧ oka k) ∧ k < w.heap.size))); have H3 := Aside0.mk (Kd.S_mono (Kd.S_bound h3) (fun k hk => (⟨hk.1, hk.2.2.1⟩ : (P0_ k ∧ ¬ oka k) ∧ k < w.heap.size))); have HBB := Aside0.mk hB; have HB1 := Aside0.mk hb; have HC1 := Aside0.mk hc; clear h0 h3 hB hb hc; go_enter Try.func33, Try.ntmps33
  go_wp2_with (first
    | ((with_reducible refine gate_dst (N := 2) rfl ?_); refine bx_ 2 #[.slice A0 l0.length c0, .bool a1, .int .i64 a2, .slice A3 l3.length c3] 30 (h := ?_); intro gb1 hg w1 hbox hb; have BK1 := Aside0.mk (hbox); have HG1 := Aside0.mk hg; have HX1 := Aside0.mk hb; clear hb hbox hg; have hcz1_0 : w1.cell? ⟨gb1, 0, none⟩ = some (.slice A0 l0.length c0) := (blk_cell BK1.out 0).trans rfl)
    | ((with_reducible refine gate_callee (f := 34) rfl ?_); refine gl_ (some 8) Try.func34 #[.slice A0 l0.length c0, .int .i64 a4] (h := ?_); refine (laws_markByteS.calls k (fun k_ => (P0_ k_ ∧ oka k_) ∧ k_ < w.heap.size) _ l0 a4 b1 b2 w0 w1 (below_step HBB.out HX1.out) (Kd.R_below H0.out HX1.out) HB1.out).mono ?_; rintro e w2 ⟨rfl, ho, hb2, hk2⟩; refine ⟨_, rfl, ?_⟩; have HO2 := Aside0.mk (Kd.R_mono (Kd.R_tight rfl ho) (fun k e_ => H0.out.1 k e_.symm)); have HB2 := Aside0.mk hb2; have HK2 := Aside0.mk hk2; have BK2 := Aside0.mk (blk_kept BK1.out hk2 (fun h_ => by have := h_.2; have := HG1.out; omega)); clear ho hb2 hk2; have hcz2_3 : w2.cell? ⟨gb1, 3, none⟩ = some (.slice A3 l3.length c3) := (blk_cell BK2.out 3).trans rfl)
    | ((with_reducible refine gate_callee (f := 74) rfl ?_); refine gl_ (some 12) Try.func74 #[.slice A3 l3.length c3, .int .i64 b1] (h := ?_); refine (laws_markTreeV.deep k k (fun k_ => (P0_ k_ ∧ ¬ oka k_) ∧ k_ < w.heap.size) _ l3 b1 c1 c2 w0 w2 HB2.out (Kd.S_kept (Kd.S_below H3.out HX1.out) HK2.out (fun k_ h_ hs_ => h_.1.2 hs_.1.2)) HC1.out).mono ?_; rintro e w3 ⟨rfl, ho3, hb3, hk3⟩; refine ⟨_, rfl, ?_⟩; have HO3 := Aside0.mk ho3; have HB3 := Aside0.mk hb3; have HK3 := Aside0.mk hk3; clear ho3 hb3 hk3))
  go_ret; exact ⟨rfl, ⟨oka, Kd.R_mono (Kd.R_kept HO2.out HK3.out (fun k_ h_ hs_ => hs_.1.2 h_.1.2)) (fun _ h_ => h_.1), Kd.S_mono HO3.out (fun _ h_ => h_.1)⟩, HB3.out, (((Kept.of_below HX1.out P0_).then_ HK2.out (fun _ h_ => .inl h_.1.1)).then_ HK3.out (fun _ h_ => .inl h_.1.1))⟩
theorem laws_markTreeV.list_one {g g' : List Int → Int → Option (Int × List Int)} {rec rec' : List S30 → Int → Option (Int × List S30)} (hr : ∀ l a x y, rec l a = some x → rec' l a = some y → x = y) :
    ∀ (l : List S30) (a : Int) (x y : Int × List S30), laws_markTreeV.list g rec l a = some x → laws_markTreeV.list g' rec' l a = some y → x = y
  | [], a, x, y, h, h' => by
    rw [laws_markTreeV.list] at h h'
    exact Option.some.inj (h.symm.trans h')
  | z :: zs, a, x, y, h, h' => by
    rw [laws_markTreeV.list] at h h'
    obtain ⟨b, _, h⟩ := Option.bind_eq_some_iff.mp h
    obtain ⟨b', _, h'⟩ := Option.bind_eq_some_iff.mp h'
    split at h
    case isFalse => cases h
    case isTrue hb =>
    split at h'
    case isFalse => cases h'
    case isTrue hb' =>
    obtain ⟨c, hc, h⟩ := Option.bind_eq_some_iff.mp h
    obtain ⟨c', hc', h'⟩ := Option.bind_eq_some_iff.mp h'
    obtain ⟨d, hd, h⟩ := Option.bind_eq_some_iff.mp h
    obtain ⟨d', hd', h'⟩ := Option.bind_eq_some_iff.mp h'
    have e1 : b'.1 = b.1 := hb'.2.1.trans hb.2.1.symm
    have e2 : b'.2 = b.2 := hb'.2.2.trans hb.2.2.symm
    rw [e1] at hc'
    obtain rfl := hr _ _ _ _ hc hc'
    obtain rfl := laws_markTreeV.list_one hr zs _ _ _ hd hd'
    rw [e1, e2] at h'
    exact Option.some.inj (h.symm.trans h')
theorem laws_markTreeV.rows_one (kb kb' : Nat) : ∀ (k k' : Nat) (l : List S30) (a : Int) (x y : Int × List S30), laws_markTreeV.rows kb k l a = some x → laws_markTreeV.rows kb' k' l a = some y → x = y
  | 0, _, _, _, _, _, h, _ => by cases h
  | _ + 1, 0, _, _, _, _, _, h => by cases h
  | k + 1, k' + 1, l, a, x, y, h, h' => laws_markTreeV.list_one (fun l a x y => laws_markTreeV.rows_one kb kb' k k' l a x y) l a x y h h'
theorem laws_markTreeV.one {k k' : Nat} {l0 : List Int} {l3 : List S30} {a : Int} {x y : Int × List Int × List S30} (h : laws_markTreeV.g k l0 l3 a = some x) (h' : laws_markTreeV.g k' l0 l3 a = some y) : x = y := by
  unfold laws_markTreeV.g at h h'; obtain ⟨b, _, h⟩ := Option.bind_eq_some_iff.mp h; obtain ⟨b', _, h'⟩ := Option.bind_eq_some_iff.mp h'; split at h
  case isFalse => cases h
  case isTrue hb =>
  split at h'
  case isFalse => cases h'
  case isTrue hb' =>
  obtain ⟨c, hc, h⟩ := Option.bind_eq_some_iff.mp h; obtain ⟨c', hc', h'⟩ := Option.bind_eq_some_iff.mp h'; have e1 : b'.1 = b.1 := hb'.1.trans hb.1.symm; have e2 : b'.2 = b.2 := hb'.2.trans hb.2.symm; rw [e1] at hc'; obtain rfl := laws_markTreeV.rows_one _ _ _ _ _ _ _ _ hc hc'; rw [e2] at h'; exact Option.some.inj (h.symm.trans h')
theorem laws_markTreeV.get {k : Nat} {l0 : List Int} {a1 : Bool} {a2 : Int} {l3 : List S30} {a r : Int} (h : laws_markTreeV.f k l0 a1 a2 l3 a = some r) : ∃ m0 m3, laws_markTreeV.g k l0 l3 a = some (r, m0, m3) := by
  obtain ⟨⟨r', m0, m3⟩, h1, h2⟩ := Option.bind_eq_some_iff.mp h; exact ⟨m0, m3, by rw [h1, show r' = r from Option.some.inj h2]⟩
theorem laws_heldTreem.get {k k' : Nat} {l0 : List Int} {a1 : Bool} {a2 : Int} {l3 : List S30} {a r n : Int} {m0 : List Int} {m3 : List S30} (hg : laws_markTreeV.g k' l0 l3 1 = some (n, m0, m3)) (h : laws_heldTreem.f k l0 a1 a2 l3 a = some r) : laws_heldTree.f k m0 a1 a2 m3 a = some r := by
  obtain ⟨x, h1, h2⟩ := Option.bind_eq_some_iff.mp h; obtain rfl := laws_markTreeV.one h1 hg; exact h2
end Go.Proofs.Ytoaddpfoecggpaa.PW
