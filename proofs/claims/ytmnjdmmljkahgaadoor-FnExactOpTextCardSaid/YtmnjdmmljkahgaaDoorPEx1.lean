-- Written for this claim by the session's program pp.py, out of the kit's print and the seat's translation.
import Derived.Test.YtmnjdmmljkahgaaDoorPEx0
import Derived.Test.YtmnjdmmljkahgaaDoorShelf
import Derived.Lib.SlFresh
import Derived.Lib.AppendIntMem
import Derived.Lib.SmallJoins
import Derived.Laws.CopyRow
import Derived.Laws.Tables
import Derived.Laws.RangeString
namespace Go.Proofs.YtmnjdmmljkahgaaDoor.PE
open Go.RowKit Go.Proofs.YtmnjdmmljkahgaaDoorW.PrintWords Go.Proofs.YtmnjdmmljkahgaaDoorW.PrintLast Go.Proofs.YtmnjdmmljkahgaaDoorW.PrintMore
attribute [local go_sem] max2_int min2_int max_two min_two max_three min_three max_four min_four   -- for this text's walks alone
set_option linter.unusedVariables false
set_option linter.unusedSimpArgs false

/-- A row of bytes of the call's own, told cell by cell (whatever mark its block bears), or no row. -/
def RM (w : World) (base : Nat) (v : Value) (l : List Int) : Prop :=
  (v = .slice none 0 0 ∧ l = []) ∨ ∃ (g cap : Nat), v = .slice (some ⟨g, 0, none⟩) l.length cap ∧ l.length ≤ cap ∧ l.length ≤ 9223372036854775807 ∧ base ≤ g ∧ g < w.heap.size ∧ 0 < l.length ∧ ∀ (j : Nat) (x : Int), l[j]? = some x → w.cell? ⟨g, j, none⟩ = some (.int .u8 x) ∧ w.frozen? ⟨g, j, none⟩ = false
theorem RM_nil (w : World) (base : Nat) : RM w base (.slice none 0 0) [] := .inl ⟨rfl, rfl⟩
theorem RM_same {w w1 : World} {g : Nat} (h : w1.heap[g]? = w.heap[g]?) (j : Nat) : w1.cell? ⟨g, j, none⟩ = w.cell? ⟨g, j, none⟩ ∧ w1.frozen? ⟨g, j, none⟩ = w.frozen? ⟨g, j, none⟩ := by
  constructor
  · simp only [World.cell?, h]
  · simp only [World.frozen?, h]
theorem RM_move {w w1 : World} {base : Nat} {v : Value} {l : List Int} (h : RM w base v l) (hs : w.heap.size ≤ w1.heap.size) (hm : ∀ k, v.ownBlock = some k → base ≤ k → k < w.heap.size → w1.heap[k]? = w.heap[k]?) : RM w1 base v l := by
  rcases h with h | ⟨g, cap, h1, h2, h3, h4, h5, h6⟩
  · exact .inl h
  · have hg := hm g (by rw [h1]; simp [Value.ownBlock]) h4 h5
    refine .inr ⟨g, cap, h1, h2, h3, h4, Nat.lt_of_lt_of_le h5 hs, h6.1, fun j x hj => ?_⟩
    have e := RM_same hg j
    rw [e.1, e.2]
    exact h6.2 j x hj
theorem RM_below {w w1 : World} {base : Nat} {v : Value} {l : List Int} (h : RM w base v l) (hb : Below w.heap.size w w1) : RM w1 base v l := RM_move h hb.size (fun k _ _ hk => hb.block k hk)
theorem RM_lower {w : World} {base b : Nat} {v : Value} {l : List Int} (h : RM w base v l) (hb : b ≤ base) : RM w b v l := by
  rcases h with h | ⟨g, cap, h1, h2, h3, h4, h5⟩
  · exact .inl h
  · exact .inr ⟨g, cap, h1, h2, h3, Nat.le_trans hb h4, h5⟩
theorem RM_alloc {w : World} {base : Nat} {v : Value} {l : List Int} {o : Obj} (h : RM w base v l) : RM (w.alloc o) base v l := RM_below h (below_alloc (Below.refl _ _) o)
theorem RM_drew {w : World} {base : Nat} {v : Value} {l : List Int} (h : RM w base v l) : RM w.drew base v l := RM_below h (below_drew (Below.refl _ _))
theorem RM_drewN {w : World} {base : Nat} {v : Value} {l : List Int} {m : Nat} (h : RM w base v l) : RM (w.drewN m) base v l := RM_below h (pw_below_drewN (Below.refl _ _) m)
theorem RM_C {w : World} {base : Nat} {v : Value} {l : List Int} (h : RM w base v l) : ∃ A c, v = .slice A l.length c ∧ l.length ≤ c ∧ Kd.C (Kd.int .u8) w A l.length l := by
  rcases h with ⟨rfl, rfl⟩ | ⟨g, cap, rfl, h2, h3, h4, h5, h7⟩
  · exact ⟨none, 0, rfl, Nat.le_refl _, rfl, by decide, fun h => absurd h (by decide)⟩
  · refine ⟨_, cap, rfl, h2, rfl, h3, fun _ => ⟨_, rfl, fun j p hj => ⟨[.int .u8 p], rfl, rfl, fun i u hu => ?_⟩⟩⟩
    have hi : i = 0 := by
      rcases i with _ | i
      · rfl
      · simp at hu
    subst hi
    have hu2 : .int .u8 p = u := by simpa using hu
    subst hu2
    rw [show (Kd.int .u8).sz = 1 from rfl, Nat.mul_one, Nat.add_zero, add_plain]
    exact (h7.2 j p hj).1
theorem RM_reads {w : World} {base : Nat} {A : Option Addr} {n c : Nat} {l : List Int} (h : RM w base (.slice A n c) l) : n = l.length ∧ n ≤ c ∧ Kd.C (Kd.int .u8) w A l.length l := by
  obtain ⟨A', c', he, h1, h2⟩ := RM_C h
  injection he with e1 e2 e3
  subst e1; subst e2; subst e3
  exact ⟨rfl, h1, h2⟩
theorem RM_celln {w : World} {base g n c : Nat} {l : List Int} (h : RM w base (.slice (some ⟨g, 0, none⟩) n c) l) (i : Int) (h0 : 0 ≤ i) (hi : i < n) : w.frozen? ⟨g, i.toNat, none⟩ = false := by
  rcases h with ⟨h, _⟩ | ⟨g', cap, h1, h2, h3, h4, h5, h7⟩
  · cases h
  · injection h1 with h1 hn
    injection h1 with h1
    injection h1 with h1
    subst h1
    subst hn
    have hlt : i.toNat < l.length := by omega
    exact (h7.2 i.toNat _ (List.getElem?_eq_getElem hlt)).2
theorem RM_put {w : World} {base g n c : Nat} {l : List Int} (h : RM w base (.slice (some ⟨g, 0, none⟩) n c) l) (i : Int) (x : Int) : RM (w.setCell ⟨g, i.toNat, none⟩ (.int .u8 x)) base (.slice (some ⟨g, 0, none⟩) n c) (l.set i.toNat x) ∧ w.grownBy (w.setCell ⟨g, i.toNat, none⟩ (.int .u8 x)) (some g) := by
  refine ⟨?_, ⟨rfl, rfl, rfl, by simp [World.setCell], fun k _ hne => Below.heap_setCell w ⟨g, i.toNat, none⟩ _ k (fun e => hne (by rw [e]))⟩⟩
  rcases h with ⟨h, _⟩ | ⟨g', cap, h1, h2, h3, h4, h5, h7⟩
  · cases h
  · injection h1 with h1 hn hc
    injection h1 with h1
    injection h1 with h1
    subst h1
    subst hn
    subst hc
    refine .inr ⟨g, c, by rw [List.length_set], by rw [List.length_set]; exact h2, by rw [List.length_set]; exact h3, h4, by simpa [World.setCell] using h5, by rw [List.length_set]; exact h7.1, fun j y hj => ?_⟩
    have hjl : j < l.length := by
      have := (List.getElem?_eq_some_iff.1 hj).1
      rwa [List.length_set] at this
    obtain ⟨hc, hf⟩ := h7.2 j _ (List.getElem?_eq_getElem hjl)
    have hob : ∃ cs t m, w.heap[g]? = some (.cells cs t m) ∧ cs[j]? = some (.int .u8 l[j]) := by
      simp only [World.cell?] at hc
      cases ho : w.heap[g]? with
      | none => rw [ho] at hc; simp at hc
      | some o =>
        rw [ho] at hc
        cases o with
        | cells cs t m => exact ⟨cs, t, m, rfl, by simpa using hc⟩
        | _ => simp at hc
    obtain ⟨cs, t, m, hb, hcj⟩ := hob
    have hb2 : (w.setCell ⟨g, i.toNat, none⟩ (.int .u8 x)).heap[g]? = some (.cells (cs.setIfInBounds i.toNat (.int .u8 x)) t m) := by simp [World.setCell, Array.getElem?_modify, hb]
    constructor
    · rw [cell_of_row _ g j _ t m hb2, Array.getElem?_setIfInBounds]
      rw [List.getElem?_set] at hj
      by_cases e : i.toNat = j
      · rw [if_pos e] at hj ⊢
        subst e
        rw [if_pos hjl] at hj
        injection hj with hj
        subst hj
        rw [if_pos (Array.getElem?_eq_some_iff.1 hcj).1]
      · rw [if_neg e] at hj ⊢
        rw [hcj]
        rw [List.getElem?_eq_getElem hjl] at hj
        injection hj with hj
        rw [hj]
    · simp only [World.frozen?, hb2]
      simp only [World.frozen?, hb] at hf
      exact hf
theorem RM_bel (w : World) (e : TypeId) (s : ByteArray) : Below w.heap.size w (Lib.bytesWorld w e s) :=
  ⟨rfl, rfl, rfl, by rw [Lib.bytesWorld_size]; omega, fun k hk => Lib.bytesWorld_at_old w e s k hk⟩
/-- The same, and which block it is. -/
def RMk (w : World) (base : Nat) (ok : Nat → Prop) (v : Value) (l : List Int) : Prop := (∀ k, v.ownBlock = some k → ok k) ∧ RM w base v l
section
variable {w w1 W W2 : World} {base b n c g : Nat} {ok ok' ok1 S : Nat → Prop} {u v : Value} {l : List Int} {A : Option Addr}
theorem RM_own (h : RM w base v l) : ∀ k, v.ownBlock = some k → base ≤ k ∧ k < w.heap.size := by
  intro k hk
  rcases h with ⟨rfl, _⟩ | ⟨g, cap, rfl, h2, h3, h4, h5, h6⟩
  · simp [Value.ownBlock] at hk
  · have : g = k := by simpa [Value.ownBlock] using hk
    subst this
    exact ⟨h4, h5⟩
theorem RMk_nil (w : World) (base : Nat) (ok : Nat → Prop) : RMk w base ok (.slice none 0 0) [] := ⟨fun k hk => by simp [Value.ownBlock] at hk, RM_nil _ _⟩
theorem RMk_mono (h : RMk w base ok v l) (hok : ∀ k, ok k → ok' k) : RMk w base ok' v l := ⟨fun k hk => hok k (h.1 k hk), h.2⟩
theorem RMk_lower (h : RMk w base ok v l) (hb : b ≤ base) : RMk w b ok v l := ⟨h.1, RM_lower h.2 hb⟩
theorem RMk_bound (h : RMk w base ok v l) : RMk w base (fun k => ok k ∧ base ≤ k ∧ k < w.heap.size) v l := ⟨fun k hk => ⟨h.1 k hk, RM_own h.2 k hk⟩, h.2⟩
theorem RMk_step (h : RMk w base ok v l) (hs : w.heap.size ≤ w1.heap.size) (hm : ∀ k, ok k → k < w.heap.size → w1.heap[k]? = w.heap[k]?) : RMk w1 base ok v l := ⟨h.1, RM_move h.2 hs (fun k hk _ hlt => hm k (h.1 k hk) hlt)⟩
theorem RMk_below (h : RMk w base ok v l) (hb : Below w.heap.size w w1) : RMk w1 base ok v l := RMk_step h hb.size (fun k _ hk => hb.block k hk)
theorem RMk_alloc {o : Obj} (h : RMk w base ok v l) : RMk (w.alloc o) base ok v l := ⟨h.1, RM_alloc h.2⟩
theorem RMk_drew (h : RMk w base ok v l) : RMk w.drew base ok v l := ⟨h.1, RM_drew h.2⟩
theorem RMk_drewN {m : Nat} (h : RMk w base ok v l) : RMk (w.drewN m) base ok v l := ⟨h.1, RM_drewN h.2⟩
theorem RMk_lt (h : RMk w base ok v l) : ∀ k, v.ownBlock = some k → k < w.heap.size := fun k hk => (RM_own h.2 k hk).2
theorem RMk_base (h : RMk w base ok v l) : ∀ k, v.ownBlock = some k → base ≤ k := fun k hk => (RM_own h.2 k hk).1
theorem RMk_new' (h : RMk w1 W.heap.size ok v l) (hlt : ∀ k, u.ownBlock = some k → k < W.heap.size) : RMk w1 W.heap.size (fun k => ok k ∧ some k ≠ u.ownBlock) v l :=
  RMk_mono (RMk_bound h) (fun k hk => ⟨hk.1, fun he => by have := hlt k he.symm; have := hk.2.1; omega⟩)
theorem RMk_elder' (hu : RMk W base ok u l) (hbase : ∀ k, v.ownBlock = some k → W.heap.size ≤ k) (hb : Below W.heap.size W w1) : RMk w1 base (fun k => ok k ∧ some k ≠ v.ownBlock) u l :=
  RMk_mono (RMk_below (RMk_bound hu) hb) (fun k hk => ⟨hk.1, fun he => by have := hbase k he.symm; have := hk.2.2; omega⟩)
theorem RMk_slice (h : RMk w base ok v l) : ∃ A c, v = .slice A l.length c := by
  obtain ⟨A, c, h1, _⟩ := RM_C h.2
  exact ⟨A, c, h1⟩
theorem RMk_reads' (h : RMk w base ok (.slice A n c) l) : n = l.length ∧ n ≤ c ∧ Kd.C (Kd.int .u8) w A l.length l := RM_reads h.2
theorem RMk_tight (_ : 0 = 0) (h : RMk w base ok v l) : RMk w base (fun k => some k = v.ownBlock) v l := ⟨fun _ hk => hk.symm, h.2⟩
theorem RMk_reok (_ : 0 = 0) (h : RMk w base ok1 v l) (hok : ∀ k, v.ownBlock = some k → ok k) : RMk w base ok v l := ⟨hok, h.2⟩
theorem RMk_keptB (h : RMk W base ok v l) (hk : Kept W W2 S) (hne : ∀ k, ok k → ¬ S k) : RMk W2 base (fun k => ok k ∧ (¬ S k ∧ k < W.heap.size)) v l :=
  RMk_mono (RMk_step (RMk_bound h) hk.1 (fun k ho hlt => hk.2 k hlt (hne k ho.1))) (fun k hk => ⟨hk.1, hne k hk.1, hk.2.2⟩)
theorem RMk_form (h : RMk w base ok v l) (hp : 0 < l.length) : ∃ g cap, v = .slice (some ⟨g, 0, none⟩) l.length cap ∧ base ≤ g ∧ g < w.heap.size ∧ ∃ _ : Nat, True := by
  rcases h.2 with ⟨_, rfl⟩ | ⟨g, cap, h1, h2, h3, h4, h5, h6⟩
  · exact absurd hp (by decide)
  · exact ⟨g, cap, h1, h4, h5, 0, trivial⟩
theorem RMk_celln (_ : Nat) (h : RMk w base ok (.slice (some ⟨g, 0, none⟩) n c) l) (i : Int) (h0 : 0 ≤ i) (hi : i < n) : w.cell? ⟨g, i.toNat, none⟩ = some (.int .u8 (rdOf 0 l i)) ∧ w.frozen? ⟨g, i.toNat, none⟩ = false := by
  refine ⟨?_, RM_celln h.2 i h0 hi⟩
  have hr := RM_reads h.2
  obtain ⟨ad, e, hc⟩ := Kd.at_int (k := .u8) hr.2.2 i h0 (by omega)
  injection e with e
  subst e
  rw [add_plain] at hc
  exact hc
theorem RMk_putg (h : RMk w base ok (.slice (some ⟨g, 0, none⟩) n c) l) (i : Int) (x : Int) : RMk (w.setCell ⟨g, i.toNat, none⟩ (.int .u8 x)) base ok (.slice (some ⟨g, 0, none⟩) n c) (l.set i.toNat x) ∧ w.grownBy (w.setCell ⟨g, i.toNat, none⟩ (.int .u8 x)) (some g) := ⟨⟨h.1, (RM_put h.2 i x).1⟩, (RM_put h.2 i x).2⟩
end
theorem rmp {W0 W : World} {base : Nat} {ok : Nat → Prop} {v : Value} {xs : List Int} (_h : Aside0 (RMk W0 base ok v xs)) (f : RMk W base ok v xs := by ((with_reducible repeat (first | apply RMk_alloc | apply RMk_drewN | apply RMk_drew)); exact Aside0.out (by assumption))) : RMk W base ok v xs := f
theorem RMk_fresh {B : Nat} {w : World} {v : Value} {l : List UInt8} (h : Lib.FreshBytes B w v l) (h0 : 0 < l.length) : RMk w B (fun _ => True) v (l.map (fun b => (b.toNat : Int))) := by
  obtain ⟨g, cap, zs, rfl, hB, hc, hm, hz, hr, he, hcell, hfr⟩ := h
  refine ⟨fun _ _ => trivial, .inr ⟨g, cap, by rw [List.length_map], by rw [List.length_map]; exact hc, by rw [List.length_map]; exact Nat.le_trans hc (by unfold maxLen at hm; omega), hB, ?_, by rw [List.length_map]; exact h0, fun j x hj => ?_⟩⟩
  · have h1 := hcell 0 (by omega)
    simp only [World.cell?] at h1
    cases ho : w.heap[g]? with
    | none => rw [ho] at h1; simp at h1
    | some o => exact (Array.getElem?_eq_some_iff.1 ho).1
  · rw [List.getElem?_map] at hj
    obtain ⟨b, hb, rfl⟩ := Option.map_eq_some_iff.1 hj
    have hjl : j < l.length := (List.getElem?_eq_some_iff.1 hb).1
    refine ⟨?_, hfr j (by omega)⟩
    rw [hcell j (by omega)]
    have hjz : j < zs.length := by omega
    have hx := hr _ (List.getElem_mem hjz)
    rw [List.getD_eq_getElem?_getD, List.getElem?_eq_getElem hjz]
    rw [← he] at hb
    simp only [Lib.bytesOf, List.getElem?_map, List.getElem?_take, hjl, if_true, List.getElem?_eq_getElem hjz, Option.map_some] at hb
    injection hb with hb
    rw [← hb]
    simp only [Option.getD_some]
    congr 2
    simp [UInt8.toNat_ofNat']
    omega
theorem RMk_newM {M ok : Nat → Prop} {w w1 W : World} {v : Value} {xs : List Int} (h : RMk w1 W.heap.size ok v xs) (hle : w.heap.size ≤ W.heap.size) (hM : ∀ k, w.heap.size ≤ k → M k) : RMk w1 W.heap.size (fun k => M k ∧ ok k) v xs := RMk_mono (RMk_bound h) (fun k hk => ⟨hM k (Nat.le_trans hle hk.2.1), hk.1⟩)
theorem RMk_neC {w : World} {base g : Nat} {ok : Nat → Prop} {v : Value} {l : List Int} {cs : Array Value} {t : TypeId} {m : Nat × Nat} (h : RMk w base ok v l) (hb : w.heap[g]? = some (.cells cs t m)) (hc : ∃ z, cs[0]? = some (.int .i64 z)) : some g ≠ v.ownBlock := by
  obtain ⟨z, hz⟩ := hc
  rcases h.2 with ⟨rfl, _⟩ | ⟨g', cap, h1, h2, h3, h4, h5, h6, h7⟩
  · simp [Value.ownBlock]
  · intro e
    rw [h1] at e
    have : g = g' := by simpa [Value.ownBlock] using e
    subst this
    have hq := (h7 0 _ (List.getElem?_eq_getElem h6)).1
    rw [cell_of_row w g 0 cs t m hb, hz] at hq
    cases hq
/-- A row of bytes of the call's own: its cells up to its capacity may be written, whatever mark its block bears. -/
def RT (w : World) (base : Nat) (v : Value) (l : List Int) : Prop :=
  ∃ (g cap : Nat) (cs : Array Value) (m : Nat × Nat), v = .slice (some ⟨g, 0, none⟩) l.length cap ∧ l.length ≤ cap ∧ cap ≤ maxLen ∧ base ≤ g ∧ w.heap[g]? = some (.cells cs 5 m) ∧ (∀ j, j < cs.size → ¬ (m.1 ≤ j ∧ j < m.2)) ∧ cs.size = cap ∧ cs.toList.take l.length = l.map (Value.int .u8)
theorem RT_store (P : Program) (g o : Nat) (t : TypeId) (fz : Nat × Nat) : ∀ (vs : List Value) (i : Nat) (cur : Array Value) (w : World), w.heap[g]? = some (.cells cur t fz) → (∀ j, j < cur.size → ¬ (fz.1 ≤ j ∧ j < fz.2)) → o + i + vs.length ≤ cur.size → (∀ v ∈ vs, v.oneCell' = true) →
    (storeCells ⟨g, o, none⟩ vs i).run P w = .ok () (w.setRow g (cur.toList.take (o + i) ++ vs ++ cur.toList.drop (o + i + vs.length)).toArray)
  | [], i, cur, w, hg, _, _, _ => by
    simp only [storeCells, List.append_nil, List.length_nil, Nat.add_zero, List.take_append_drop, Array.toArray_toList]
    rw [setRow_self w g cur t fz hg]
    rfl
  | v :: rest, i, cur, w, hg, hfz, hl, h1 => by
    have hi : o + i < cur.size := by simp at hl; omega
    have hadd : (⟨g, o, none⟩ : Addr).add i = ⟨g, o + i, none⟩ := by unfold Addr.add; split <;> simp_all
    have hcell : w.cell? ⟨g, o + i, none⟩ = some cur[o + i] := by simp [World.cell?, hg, hi]
    have hfro : w.frozen? ⟨g, o + i, none⟩ = false := by
      have := hfz (o + i) hi
      simp only [World.frozen?, hg, Bool.and_eq_false_iff, decide_eq_false_iff_not]
      omega
    have hst : (store ((⟨g, o, none⟩ : Addr).add i) v).run P w = .ok () (w.setRow g (cur.setIfInBounds (o + i) v)) := by
      rw [hadd, run_store P w _ v _ (h1 v (by simp)), hcell]
      simp [hfro, setCell_eq_setRow w g (o + i) cur t fz v hg]
    have ih := RT_store P g o t fz rest (i + 1) (cur.setIfInBounds (o + i) v) (w.setRow g (cur.setIfInBounds (o + i) v)) (setRow_heap w g cur _ t _ hg) (by simpa using hfz) (by simp at hl ⊢; omega) (fun x hx => h1 x (by simp [hx]))
    simp only [storeCells, Sem.run_bind, hst, Result.andThen_ok, ih, setRow_setRow]
    congr 3
    have e := list_seg_step cur.toList (o + i) v rest (by simp at hl ⊢; omega)
    simpa [Array.toList_setIfInBounds, Nat.add_assoc] using e
theorem RT_cells {w : World} {base : Nat} {g n c : Nat} {l : List Int} (h : RT w base (.slice (some ⟨g, 0, none⟩) n c) l) : n = l.length ∧ ∀ (j : Nat) (u : Value), (l.map (Value.int .u8))[j]? = some u → w.cell? ((⟨g, 0, none⟩ : Addr).add j) = some u := by
  obtain ⟨g', cap, cs, m, h1, h2, h3, h4, h5, h6, h7, h8⟩ := h
  injection h1 with h1 hn hc
  injection h1 with h1
  injection h1 with h1
  subst h1
  refine ⟨hn, fun j u hj => ?_⟩
  rw [add_plain, cell_of_row w g j cs 5 m h5]
  rw [← h8, List.getElem?_take] at hj
  split at hj
  · simpa using hj
  · cases hj
theorem RT_run (P : Program) (W : World) (base : Nat) (t ty : TypeId) (ht : P.underlying t = some (.slice 5)) (hinfo : (P.info? 5).map (fun i => (i.zero, i.size, i.bytes)) = some (some (Value.int .u8 0), 1, 1))
    (v : Value) (xs ys : List Int) (HO : RT W base v xs) (A : Option Addr) (m c : Nat) (HR : Kd.C (Kd.int .u8) W A m ys) (hbase : base ≤ W.heap.size) (hl : xs.length + m ≤ 140737488355328) :
    ∃ v1 w1, (Builtin.append_ #[t, t] ty #[v, .slice A m c]).run P W = .ok v1 w1 ∧ RT w1 base v1 (xs ++ ys) ∧ W.grownBy w1 v.ownBlock ∧ (v1.ownBlock = v.ownBlock ∨ ∃ b, v1.ownBlock = some b ∧ W.heap.size ≤ b) := by
  obtain ⟨i, hi, hzz⟩ := Option.map_eq_some_iff.1 hinfo
  simp only [Prod.mk.injEq] at hzz
  obtain ⟨hz, hsz, hby⟩ := hzz
  have HO' := HO
  obtain ⟨g, cap, cs, mk, rfl, h2, h3, h4, h5, h6, h7, h8⟩ := HO
  have hcells := (RT_cells HO').2
  have hm : ys.length = m := HR.1
  rcases A with _ | ad
  · have h0 : m = 0 := by
      rcases Nat.eq_zero_or_pos m with h0 | h0
      · exact h0
      · obtain ⟨ad, h, _⟩ := HR.2.2 h0
        cases h
    subst h0
    obtain rfl : ys = [] := List.eq_nil_of_length_eq_zero hm
    refine ⟨_, W, ?_, by rw [List.append_nil]; exact HO', World.grownBy.refl W _, .inl rfl⟩
    simp [Builtin.append_, run_underlying ht, sizeOf, typeInfo, hi, Builtin.lenOf, Builtin.firstCells, h2, storeCells]
  · obtain ⟨news, hnr, hnc⟩ := ReadsRow.inner_ HR
    have hnews : news = ys.map (Value.int .u8) := by
      apply List.ext_getElem?
      intro j
      have hl1 : news.length = ys.length := by rw [hnr.1]; show _ * 1 = _; rw [Nat.mul_one]
      rcases Nat.lt_or_ge j ys.length with hj | hj
      · have hq := hnr.2 j _ (List.getElem?_eq_getElem hj)
        have e1 : (news.drop (j * 1)).take 1 = [Value.int .u8 ys[j]] := hq
        rw [Nat.mul_one] at e1
        have e2 : (news.drop j)[0]? = some (Value.int .u8 ys[j]) := by
          have := congrArg (fun l => l[0]?) e1
          simpa using this
        rw [List.getElem?_drop, Nat.add_zero] at e2
        rw [e2, List.getElem?_map, List.getElem?_eq_getElem hj]
        rfl
      · rw [List.getElem?_eq_none (by omega), List.getElem?_eq_none (by rw [List.length_map]; omega)]
    have hlen : news.length = m := by rw [hnews, List.length_map, hm]
    have hone : ∀ u ∈ news, u.oneCell' = true := by
      intro u hu
      rw [hnews] at hu
      obtain ⟨x, _, rfl⟩ := List.mem_map.1 hu
      rfl
    by_cases hroom : xs.length + m ≤ cap
    · have hfit : xs.length + news.length ≤ cs.size := by omega
      have hf := run_firstCells_some (P := P) W 1 m ad m c news (by omega) hnc
      have hst := RT_store P g xs.length 5 mk news 0 cs W h5 h6 (by simpa using hfit) hone
      simp only [Nat.add_zero] at hst
      have hr : (Builtin.append_ #[t, t] ty #[.slice (some ⟨g, 0, none⟩) xs.length cap, .slice (some ad) m c]).run P W = .ok (.slice (some ⟨g, 0, none⟩) (xs.length + m) cap) (W.setRow g (cs.toList.take xs.length ++ news ++ cs.toList.drop (xs.length + news.length)).toArray) := by
        simp [Builtin.append_, run_underlying ht, sizeOf, typeInfo, hi, hsz, Builtin.lenOf, hroom, hf, Addr.add_lit, hst]
      have hsize : (cs.toList.take xs.length ++ news ++ cs.toList.drop (xs.length + news.length)).toArray.size = cs.size := by
        simp only [List.size_toArray, List.length_append, List.length_take, List.length_drop, Array.length_toList]
        omega
      refine ⟨_, _, hr, ⟨g, cap, _, mk, by rw [List.length_append, hm], by rw [List.length_append, hm]; exact hroom, h3, h4, setRow_heap W g cs _ 5 _ h5, by rw [hsize]; exact h6, by rw [hsize]; exact h7, ?_⟩, ⟨rfl, rfl, rfl, by simp, fun k _ hk => setRow_other W g k _ (fun e => hk (by simp [Value.ownBlock, e]))⟩, .inl (by simp [Value.ownBlock])⟩
      rw [h8, hnews, ← List.map_append]
      exact List.take_left' (by simp)
    · have hr := run_append_grow (P := P) W t ty 5 i _ ht hi hz ⟨g, 0, none⟩ xs.length cap (xs.map (Value.int .u8)) (by rw [List.length_map, hsz, Nat.mul_one]) hcells ad m c news (by rw [hsz, Nat.mul_one]; exact hlen) hnc (by omega) (by omega) (growslice_fits (by omega) (by rw [hby]; omega))
      have hge := grownCap_ge W (xs.length + m) cap 5
      have hcm2 : grownCap W (xs.length + m) cap 5 ≤ maxLen := grownCap_le_maxLen W (xs.length + m) cap 5 (by simp only [maxLen]; omega)
      refine ⟨_, _, hr, ⟨W.heap.size, _, _, (0, 0), by rw [List.length_append, hm], by rw [List.length_append, hm]; exact hge, hcm2, hbase, heap_alloc_new W.drew _, fun j _ h => absurd h.2 (Nat.not_lt_zero _), ?_, ?_⟩, ⟨rfl, rfl, rfl, by simp, fun k hk _ => (below_alloc (below_drew (Below.refl W.heap.size W)) _).block k hk⟩, .inr ⟨W.heap.size, by simp [Value.ownBlock], Nat.le_refl _⟩⟩
      · simp only [Array.size_append, List.size_toArray, size_zeroCells, List.length_map, hlen]
        show xs.length + m + _ * 1 = _
        omega
      · simp only [Array.toList_append]
        rw [hnews, ← List.map_append]
        exact List.take_left' (by simp)
/-- The same, and which block it is. -/
def RTk (w : World) (base : Nat) (ok : Nat → Prop) (v : Value) (l : List Int) : Prop := (∀ k, v.ownBlock = some k → ok k) ∧ RT w base v l
section
variable {w w1 W W2 : World} {base b n c g : Nat} {ok ok' ok1 S : Nat → Prop} {u v : Value} {l : List Int} {A : Option Addr}
theorem RT_own (h : RT w base v l) : ∀ k, v.ownBlock = some k → base ≤ k ∧ k < w.heap.size := by
  intro k hk
  obtain ⟨g, cap, cs, m, rfl, h2, h3, h4, h5, h6⟩ := h
  have : g = k := by simpa [Value.ownBlock] using hk
  subst this
  exact ⟨h4, (Array.getElem?_eq_some_iff.1 h5).1⟩
theorem RTk_mono (h : RTk w base ok v l) (hok : ∀ k, ok k → ok' k) : RTk w base ok' v l := ⟨fun k hk => hok k (h.1 k hk), h.2⟩
theorem RTk_lower (h : RTk w base ok v l) (hb : b ≤ base) : RTk w b ok v l := by
  obtain ⟨h0, g, cap, cs, m, h1, h2, h3, h4, h5⟩ := h
  exact ⟨h0, g, cap, cs, m, h1, h2, h3, Nat.le_trans hb h4, h5⟩
theorem RTk_bound (h : RTk w base ok v l) : RTk w base (fun k => ok k ∧ base ≤ k ∧ k < w.heap.size) v l := ⟨fun k hk => ⟨h.1 k hk, RT_own h.2 k hk⟩, h.2⟩
theorem RTk_step (h : RTk w base ok v l) (hm : ∀ k, ok k → k < w.heap.size → w1.heap[k]? = w.heap[k]?) : RTk w1 base ok v l := by
  obtain ⟨h0, g, cap, cs, m, h1, h2, h3, h4, h5, h6⟩ := h
  exact ⟨h0, g, cap, cs, m, h1, h2, h3, h4, (hm g (h0 g (by rw [h1]; simp [Value.ownBlock])) (Array.getElem?_eq_some_iff.1 h5).1).trans h5, h6⟩
theorem RTk_below (h : RTk w base ok v l) (hb : Below w.heap.size w w1) : RTk w1 base ok v l := RTk_step h (fun k _ hk => hb.block k hk)
theorem RTk_alloc {o : Obj} (h : RTk w base ok v l) : RTk (w.alloc o) base ok v l := RTk_below h (below_alloc (Below.refl _ _) o)
theorem RTk_drew (h : RTk w base ok v l) : RTk w.drew base ok v l := RTk_below h (below_drew (Below.refl _ _))
theorem RTk_drewN {m : Nat} (h : RTk w base ok v l) : RTk (w.drewN m) base ok v l := RTk_below h (pw_below_drewN (Below.refl _ _) m)
theorem RTk_lt (h : RTk w base ok v l) : ∀ k, v.ownBlock = some k → k < w.heap.size := fun k hk => (RT_own h.2 k hk).2
theorem RTk_base (h : RTk w base ok v l) : ∀ k, v.ownBlock = some k → base ≤ k := fun k hk => (RT_own h.2 k hk).1
theorem RTk_new' (h : RTk w1 W.heap.size ok v l) (hlt : ∀ k, u.ownBlock = some k → k < W.heap.size) : RTk w1 W.heap.size (fun k => ok k ∧ some k ≠ u.ownBlock) v l :=
  RTk_mono (RTk_bound h) (fun k hk => ⟨hk.1, fun he => by have := hlt k he.symm; have := hk.2.1; omega⟩)
theorem RTk_elder' (hu : RTk W base ok u l) (hbase : ∀ k, v.ownBlock = some k → W.heap.size ≤ k) (hb : Below W.heap.size W w1) : RTk w1 base (fun k => ok k ∧ some k ≠ v.ownBlock) u l :=
  RTk_mono (RTk_below (RTk_bound hu) hb) (fun k hk => ⟨hk.1, fun he => by have := hbase k he.symm; have := hk.2.2; omega⟩)
theorem RTk_slice (h : RTk w base ok v l) : ∃ A c, v = .slice A l.length c := by
  obtain ⟨h0, g, cap, cs, m, h1, h2⟩ := h
  exact ⟨_, cap, h1⟩
theorem RTk_reads' (h : RTk w base ok (.slice A n c) l) : n = l.length ∧ n ≤ c ∧ Kd.C (Kd.int .u8) w A l.length l := by
  have hq := h.2
  obtain ⟨h0, g, cap, cs, m, h1, h2, h3, h4, h5⟩ := h
  injection h1 with e1 e2 e3
  subst e1; subst e2; subst e3
  refine ⟨rfl, h2, rfl, Nat.le_trans h2 (by unfold maxLen at h3; omega), fun _ => ⟨_, rfl, fun j p hj => ⟨[.int .u8 p], rfl, rfl, fun i u hu => ?_⟩⟩⟩
  have hi : i = 0 := by
    rcases i with _ | i
    · rfl
    · simp at hu
  subst hi
  have hu2 : .int .u8 p = u := by simpa using hu
  subst hu2
  rw [show (Kd.int .u8).sz = 1 from rfl, Nat.mul_one, Nat.add_zero]
  exact (RT_cells hq).2 j _ (by rw [List.getElem?_map, hj]; rfl)
theorem RTk_tight (_ : 0 = 0) (h : RTk w base ok v l) : RTk w base (fun k => some k = v.ownBlock) v l := ⟨fun _ hk => hk.symm, h.2⟩
theorem RTk_keptB (h : RTk W base ok v l) (hk : Kept W W2 S) (hne : ∀ k, ok k → ¬ S k) : RTk W2 base (fun k => ok k ∧ (¬ S k ∧ k < W.heap.size)) v l :=
  RTk_mono (RTk_step (RTk_bound h) (fun k ho hlt => hk.2 k hlt (hne k ho.1))) (fun k hk => ⟨hk.1, hne k hk.1, hk.2.2⟩)
theorem RTk_ne (h : RTk w base ok v l) {t : TypeId} {cs : Array Value} (hb : w.heap[g]? = some (.cells cs t (0, 0))) (hne : 5 ≠ t) : some g ≠ v.ownBlock := by
  obtain ⟨h0, g', cap, cs', m, h1, h2, h3, h4, h5, _⟩ := h
  intro e
  rw [h1] at e
  have : g = g' := by simpa [Value.ownBlock] using e
  subst this
  rw [hb] at h5
  injection h5 with h5
  injection h5 with _ h5
  exact hne h5.symm
theorem RT_bytes (w : World) (s : ByteArray) (hs : s.size ≤ 1000000) : RTk (Lib.bytesWorld w 5 s) w.heap.size (fun _ => True) (.slice (some ⟨w.heap.size, 0, none⟩) s.size (grownCap w s.size 0 5)) (s.data.toList.map (fun b => (b.toNat : Int))) := by
  have hl : (s.data.toList.map (fun b => (b.toNat : Int))).length = s.size := by simp
  have hc : s.size ≤ grownCap w s.size 0 5 := grownCap_ge w s.size 0 5
  have hcm : grownCap w s.size 0 5 ≤ maxLen := grownCap_le_maxLen w s.size 0 5 (by simp only [maxLen]; omega)
  refine ⟨fun _ _ => trivial, _, _, _, _, by rw [hl], by rw [hl]; exact hc, hcm, Nat.le_refl _, Lib.bytesWorld_at_new w 5 s, fun j hj h => absurd h.1 (by simpa using hj), ?_, ?_⟩
  · simp only [Lib.bytesCells, Array.size_append, Array.size_map, Array.size_replicate]
    have : s.data.size = s.size := rfl
    omega
  · rw [hl]
    simp only [Lib.bytesCells, Array.toList_append, Array.toList_map, List.map_map]
    rw [List.take_left' (by rw [List.length_map]; rfl)]
    rfl
end
section
variable {P : Program} {ops : Array Oper} {Q : Exit → Act → World → Prop} {rest : List Oper} {o : Oper} {a : Act} {w0 W : World}
theorem RTk_append_rows (base : Nat) (hgd : o.guard = none) (s x : Operand) (t : TypeId)
    (ho : o.op = .call { callee := .builtin .append, args := #[s, x], argTypes := #[t, t] })
    (ht : P.underlying t = some (.slice 5)) (hinfo : (P.info? 5).map (fun i => (i.zero, i.size, i.bytes)) = some (some (Value.int .u8 0), 1, 1))
    (v : Value) (xs ys : List Int) (A : Option Addr) (m c : Nat) (ok : Nat → Prop) (hs : a.eval s = v) (hx : a.eval x = .slice A m c)
    (HO : RTk W base ok v xs) (HR : Kd.C (Kd.int .u8) W A m ys) (hfresh : ∀ k, W.heap.size ≤ k → ok k)
    (HB : Below base w0 W) (hbase : base ≤ W.heap.size) (hl : xs.length + m ≤ 140737488355328)
    (h : ∀ v1 w1, RTk w1 base ok v1 (xs ++ ys) → Below base w0 w1 → W.grownBy w1 v.ownBlock → (v1.ownBlock = v.ownBlock ∨ ∃ b, v1.ownBlock = some b ∧ W.heap.size ≤ b) → wpList P ops Q rest (a.put o.dst v1) w1) :
    wpList P ops Q (o :: rest) a W := by
  obtain ⟨v1, w1, hrun, h1, hg, hat⟩ := RT_run P W base t o.type ht hinfo v xs ys HO.2 A m c HR hbase hl
  have hb1 : Below base w0 w1 := HB.grown hg hbase (fun k hk => (RT_own HO.2 k hk).1)
  refine wpList_plain hgd fun K hK => ?_
  unfold Oper.wp execOp
  simp only [ho, resolve, invoke, builtin, Sem.run_bind, Sem.run_pure, Result.andThen_ok, List.map_toArray, List.map_cons, List.map_nil, hs, hx, hrun]
  refine hK _ _ (h v1 w1 ⟨fun k hk => ?_, h1⟩ hb1 hg hat)
  rcases hat with hat | ⟨b, hb, hle⟩
  · exact HO.1 k (hat ▸ hk)
  · rw [hb] at hk
    injection hk with hk
    exact hfresh k (by omega)
theorem RTk_append (base : Nat) (hgd : o.guard = none) (s x : Operand) (t : TypeId)
    (ho : o.op = .call { callee := .builtin .append, args := #[s, x], argTypes := #[t, t] })
    (ht : P.underlying t = some (.slice 5)) (hinfo : (P.info? 5).map (fun i => (i.zero, i.size, i.bytes)) = some (some (Value.int .u8 0), 1, 1))
    (v : Value) (xs : List Int) (p : Int) (ok : Nat → Prop) (hs : a.eval s = v) (hx : a.eval x = .slice (some ⟨W.heap.size, 0, none⟩) 1 1)
    (HO : RTk W base ok v xs) (hfresh : ∀ k, W.heap.size ≤ k → ok k)
    (HB : Below base w0 W) (hbase : base ≤ W.heap.size) (hl : xs.length + 1 ≤ 140737488355328)
    (h : ∀ v1 w1, RTk w1 base ok v1 (xs ++ [p]) → Below base w0 w1 → W.grownBy w1 v.ownBlock → (v1.ownBlock = v.ownBlock ∨ ∃ b, v1.ownBlock = some b ∧ W.heap.size ≤ b) → wpList P ops Q rest (a.put o.dst v1) w1) :
    wpList P ops Q (o :: rest) a (W.alloc (.cells #[.int .u8 p] 5)) := by
  have hsz : (W.alloc (.cells #[.int .u8 p] 5)).heap.size = W.heap.size + 1 := by simp
  refine RTk_append_rows (w0 := w0) base hgd s x t ho ht hinfo v xs [p] _ _ _ ok hs hx (RTk_alloc HO) ?_ (fun k hk => hfresh k (by omega)) (HB.alloc hbase _) (by omega) hl ?_
  · refine ⟨rfl, by decide, fun _ => ⟨_, rfl, fun j q hj => ⟨[.int .u8 q], rfl, rfl, fun i u hu => ?_⟩⟩⟩
    match j, i with
    | 0, 0 =>
      have e1 : q = p := by simpa using hj.symm
      have e2 : u = .int .u8 q := by simpa using hu.symm
      subst e1; subst e2
      rw [show (0 * (Kd.int .u8).sz + 0) = 0 from rfl, add_plain]
      exact (cell_of_row _ _ 0 _ 5 (0, 0) (heap_alloc_new W _)).trans rfl
    | 0, i + 1 => simp at hu
    | j + 1, _ => simp at hj
  · intro v1 w1 h1 h2 h3 h4
    refine h v1 w1 h1 h2 (World.grownBy.trans (World.grownBy_alloc W _ _) h3) ?_
    rcases h4 with h4 | ⟨b, h4, h5⟩
    · exact .inl h4
    · exact .inr ⟨b, h4, by omega⟩
end
/-- What '[]byte(s)' hands back, in the words of a call. -/
def CV (w : World) (s : ByteArray) (Q : Ending → World → Prop) : Prop := Q (.returned (.slice (some ⟨w.heap.size, 0, none⟩) s.size (grownCap w s.size 0 5))) (Lib.bytesWorld w 5 s)
protected theorem CV.mono {w : World} {s : ByteArray} {Q Q' : Ending → World → Prop} (h : CV w s Q) (hq : ∀ e w', Q e w' → Q' e w') : CV w s Q' := hq _ _ h
theorem CV_run {P : Program} {a : Act} {oi : Oper} {w : World} {t1 t2 : TypeId} {x : Operand} (s : ByteArray) (h1 : P.underlying t1 = some .string) (h2 : P.underlying t2 = some (.slice 5)) (h5 : P.underlying 5 = some (.int .u8)) (hop : oi.op = .convert t1 t2 x) (hx : a.eval x = .string s) :
    (execOp a.eval oi).run P w = .ok (.value (.slice (some ⟨w.heap.size, 0, none⟩) s.size (grownCap w s.size 0 5))) (Lib.bytesWorld w 5 s) := by
  have h := Lib.run_convert_string_bytes w t1 t2 5 s h1 h2 h5
  unfold execOp
  simp only [hop, hx]
  simp [h]
theorem cvs_ {P : Program} {ops : Array Oper} {Q : Exit → Act → World → Prop} {oi : Oper} {N : Option Tmp} {a : Act} {w : World} {K : Act → World → Prop} {t1 t2 : TypeId} {x : Operand} (s : ByteArray) (h1 : P.underlying t1 = some .string) (h2 : P.underlying t2 = some (.slice 5)) (h5 : P.underlying 5 = some (.int .u8))
    (hw : Region.wanted oi (yielded ops a.tmps) = true := by rfl) (hN : oi.dst = N := by exact rfl) (hop : oi.op = .convert t1 t2 x := by exact rfl) (hx : a.eval x = .string s := by rfl)
    (h : CV w s fun e w' => ∃ v, e = .returned v ∧ K (a.put N v) w') : if Region.wanted oi (yielded ops a.tmps) = true then Oper.wp P oi a w K Q else K (a.put N undef) w := by
  obtain ⟨v, he, hk⟩ := h
  injection he with he
  subst he
  subst hN
  exact event_step hw (CV_run s h1 h2 h5 hop hx) hk
theorem RMk_neB {w w1 : World} {ok : Nat → Prop} {v : Value} {l : List Int} {g : Nat} {o : Obj} (h : RMk w1 w.heap.size ok v l) (hb : w.heap[g]? = some o) : some g ≠ v.ownBlock := fun e => Nat.lt_irrefl _ (Nat.lt_of_lt_of_le (blk_lt hb) (RMk_base h g e.symm))
theorem rml {W0 W W1 : World} {base : Nat} {ok : Nat → Prop} {v : Value} {xs : List Int} (_h : Aside0 (RMk W0 base ok v xs)) (hb : Below W.heap.size W W1) (f : RMk W base ok v xs := by ((with_reducible repeat (first | apply RMk_alloc | apply RMk_drewN | apply RMk_drew)); exact Aside0.out (by assumption))) : RMk W1 base ok v xs := RMk_below f hb
theorem rtp {W0 W : World} {base : Nat} {ok : Nat → Prop} {v : Value} {xs : List Int} (_h : Aside0 (RTk W0 base ok v xs)) (f : RTk W base ok v xs := by ((with_reducible repeat (first | apply RTk_alloc | apply RTk_drewN | apply RTk_drew)); exact Aside0.out (by assumption))) : RTk W base ok v xs := f
theorem Kd.V_bytes (w : World) (s : ByteArray) (hs : s.size ≤ 1000000) : Kd.V (Kd.int .u8) 5 (Lib.bytesWorld w 5 s) w.heap.size (fun k_ => w.heap.size ≤ k_) (.slice (some ⟨w.heap.size, 0, none⟩) s.size (grownCap w s.size 0 5)) (s.data.toList.map (fun b => (b.toNat : Int))) := by
  have h := RT_bytes w s hs
  have hl : (s.data.toList.map (fun b => (b.toNat : Int))).length = s.size := by simp
  rw [← hl] at h ⊢
  refine ⟨_, _, rfl, (RTk_reads' h).2.1, ?_⟩
  intro W' hm
  exact (RTk_reads' (RTk_step (w1 := W') (RTk_bound h) (fun k hk hlt => hm k hk.2.1 hlt))).2.2
theorem cvl_ {P : Program} {ops : Array Oper} {Q : Exit → Act → World → Prop} {rest : List Oper} {oi : Oper} {a : Act} {w : World} (N : Tmp) {t1 t2 : TypeId} {x : Operand} (s : ByteArray) (h1 : P.underlying t1 = some .string) (h2 : P.underlying t2 = some (.slice 5)) (h5 : P.underlying 5 = some (.int .u8))
    (hd : oi.dst = some N := by exact rfl) (hg : oi.guard = none := by exact rfl) (hop : oi.op = .convert t1 t2 x := by exact rfl) (hx : a.eval x = .string s := by rfl)
    (h : CV w s fun e w' => ∃ v, e = .returned v ∧ wpList P ops Q rest (a.put (some N) v) w') : wpList P ops Q (oi :: rest) a w := by
  obtain ⟨v, he, hk⟩ := h
  injection he with he
  subst he
  rw [← hd] at hk
  exact Kd.event_run hg (CV_run s h1 h2 h5 hop hx) hk
/-- The same, or no row. -/
def RNk (w : World) (base : Nat) (ok : Nat → Prop) (v : Value) (l : List Int) : Prop := (∀ k, v.ownBlock = some k → ok k) ∧ ((v = .slice none 0 0 ∧ l = []) ∨ RT w base v l)
section
variable {w w1 W W2 : World} {base b n c g N : Nat} {ok ok' ok1 S : Nat → Prop} {u v : Value} {l : List Int} {A : Option Addr}
theorem RNk_of_RTk (h : RTk w base ok v l) : RNk w base ok v l := ⟨h.1, .inr h.2⟩
theorem RNk_nil (w : World) (base : Nat) (ok : Nat → Prop) : RNk w base ok (.slice none 0 0) [] := ⟨fun k hk => by simp [Value.ownBlock] at hk, .inl ⟨rfl, rfl⟩⟩
theorem RNk_own (h : RNk w base ok v l) : ∀ k, v.ownBlock = some k → base ≤ k ∧ k < w.heap.size := by
  intro k hk
  rcases h.2 with ⟨rfl, _⟩ | h2
  · simp [Value.ownBlock] at hk
  · exact RT_own h2 k hk
theorem RNk_mono (h : RNk w base ok v l) (hok : ∀ k, ok k → ok' k) : RNk w base ok' v l := ⟨fun k hk => hok k (h.1 k hk), h.2⟩
theorem RNk_lower (h : RNk w base ok v l) (hb : b ≤ base) : RNk w b ok v l := by
  rcases h with ⟨h0, h1 | h2⟩
  · exact ⟨h0, .inl h1⟩
  · exact ⟨h0, .inr (RTk_lower (ok := ok) ⟨h0, h2⟩ hb).2⟩
theorem RNk_bound (h : RNk w base ok v l) : RNk w base (fun k => ok k ∧ base ≤ k ∧ k < w.heap.size) v l := ⟨fun k hk => ⟨h.1 k hk, RNk_own h k hk⟩, h.2⟩
theorem RNk_step (h : RNk w base ok v l) (hm : ∀ k, ok k → k < w.heap.size → w1.heap[k]? = w.heap[k]?) : RNk w1 base ok v l := by
  rcases h with ⟨h0, h1 | h2⟩
  · exact ⟨h0, .inl h1⟩
  · exact ⟨h0, .inr (RTk_step (ok := ok) ⟨h0, h2⟩ hm).2⟩
theorem RNk_below (h : RNk w base ok v l) (hb : Below w.heap.size w w1) : RNk w1 base ok v l := RNk_step h (fun k _ hk => hb.block k hk)
theorem RNk_alloc {o : Obj} (h : RNk w base ok v l) : RNk (w.alloc o) base ok v l := RNk_below h (below_alloc (Below.refl _ _) o)
theorem RNk_drew (h : RNk w base ok v l) : RNk w.drew base ok v l := RNk_below h (below_drew (Below.refl _ _))
theorem RNk_drewN {m : Nat} (h : RNk w base ok v l) : RNk (w.drewN m) base ok v l := RNk_below h (pw_below_drewN (Below.refl _ _) m)
theorem RNk_lt (h : RNk w base ok v l) : ∀ k, v.ownBlock = some k → k < w.heap.size := fun k hk => (RNk_own h k hk).2
theorem RNk_base (h : RNk w base ok v l) : ∀ k, v.ownBlock = some k → base ≤ k := fun k hk => (RNk_own h k hk).1
theorem RNk_new' (h : RNk w1 W.heap.size ok v l) (hlt : ∀ k, u.ownBlock = some k → k < W.heap.size) : RNk w1 W.heap.size (fun k => ok k ∧ some k ≠ u.ownBlock) v l :=
  RNk_mono (RNk_bound h) (fun k hk => ⟨hk.1, fun he => by have := hlt k he.symm; have := hk.2.1; omega⟩)
theorem RNk_elder' (hu : RNk W base ok u l) (hbase : ∀ k, v.ownBlock = some k → W.heap.size ≤ k) (hb : Below W.heap.size W w1) : RNk w1 base (fun k => ok k ∧ some k ≠ v.ownBlock) u l :=
  RNk_mono (RNk_below (RNk_bound hu) hb) (fun k hk => ⟨hk.1, fun he => by have := hbase k he.symm; have := hk.2.2; omega⟩)
theorem RNk_old (hu : RNk W base ok u l) (hb : Below W.heap.size W w1) : RNk w1 base (fun k => ok k ∧ k < W.heap.size) u l := RNk_mono (RNk_below (RNk_bound hu) hb) (fun _ h => ⟨h.1, h.2.2⟩)
theorem RNk_told (h : RNk w1 base (fun k => ok k ∧ k < N) u l) (hbase : ∀ k, v.ownBlock = some k → N ≤ k) : RNk w1 base (fun k => (ok k ∧ some k ≠ v.ownBlock) ∧ k < N) u l := RNk_mono h (fun k hk => ⟨⟨hk.1, fun e => Nat.lt_irrefl _ (Nat.lt_of_lt_of_le hk.2 (hbase k e.symm))⟩, hk.2⟩)
theorem RNk_slice (h : RNk w base ok v l) : ∃ A c, v = .slice A l.length c := by
  rcases h with ⟨h0, ⟨rfl, rfl⟩ | h2⟩
  · exact ⟨none, 0, rfl⟩
  · exact RTk_slice (ok := ok) ⟨h0, h2⟩
theorem RNk_reads' (h : RNk w base ok (.slice A n c) l) : n = l.length ∧ n ≤ c ∧ Kd.C (Kd.int .u8) w A l.length l := by
  rcases h with ⟨h0, ⟨h1, rfl⟩ | h2⟩
  · injection h1 with e1 e2 e3
    subst e1; subst e2; subst e3
    exact ⟨rfl, Nat.le_refl _, rfl, by decide, fun h => absurd h (by decide)⟩
  · exact RTk_reads' (ok := ok) ⟨h0, h2⟩
theorem RNk_keptB (h : RNk W base ok v l) (hk : Kept W W2 S) (hne : ∀ k, ok k → ¬ S k) : RNk W2 base (fun k => ok k ∧ (¬ S k ∧ k < W.heap.size)) v l :=
  RNk_mono (RNk_step (RNk_bound h) (fun k ho hlt => hk.2 k hlt (hne k ho.1))) (fun k hk => ⟨hk.1, hne k hk.1, hk.2.2⟩)
theorem RNk_ne (h : RNk w base ok v l) {t : TypeId} {cs : Array Value} (hb : w.heap[g]? = some (.cells cs t (0, 0))) (hne : 5 ≠ t) : some g ≠ v.ownBlock := by
  rcases h with ⟨h0, ⟨rfl, _⟩ | h2⟩
  · simp [Value.ownBlock]
  · exact RTk_ne (ok := ok) ⟨h0, h2⟩ hb hne
theorem RNk_types (h : RNk w base ok v l) {t : TypeId} {cs : Array Value} (hb : w.heap[g]? = some (.cells cs t (0, 0))) (ht : ∀ q, q ∈ [5] → q ≠ t) : RNk w base (fun k => ok k ∧ k ≠ g) v l :=
  ⟨fun k hk => ⟨h.1 k hk, fun e => RNk_ne h hb (ht 5 (by simp)) (by rw [hk, e])⟩, h.2⟩
theorem RNk_far (h : RNk w base ok v l) {p : Addr} (hok : ∀ k, ok k → k ≠ p.block) (u : Value) : RNk (w.setCell p u) base ok v l := RNk_step h (fun k ho _ => Below.heap_setCell w p u k (hok k ho))
theorem RNk_kept (h : RNk W base ok v l) (hk : Kept W W2 S) (hne : ∀ k, ok k → ¬ S k) : RNk W2 base ok v l := RNk_step h (fun k ho hlt => hk.2 k hlt (hne k ho))
theorem RMk_old (hu : RMk W base ok u l) (hb : Below W.heap.size W w1) : RMk w1 base (fun k => ok k ∧ k < W.heap.size) u l := RMk_mono (RMk_below (RMk_bound hu) hb) (fun _ h => ⟨h.1, h.2.2⟩)
theorem RMk_told (h : RMk w1 base (fun k => ok k ∧ k < N) u l) (hbase : ∀ k, v.ownBlock = some k → N ≤ k) : RMk w1 base (fun k => (ok k ∧ some k ≠ v.ownBlock) ∧ k < N) u l := RMk_mono h (fun k hk => ⟨⟨hk.1, fun e => Nat.lt_irrefl _ (Nat.lt_of_lt_of_le hk.2 (hbase k e.symm))⟩, hk.2⟩)
theorem RMk_kept (h : RMk W base ok v l) (hk : Kept W W2 S) (hne : ∀ k, ok k → ¬ S k) : RMk W2 base ok v l := RMk_step h hk.1 (fun k ho hlt => hk.2 k hlt (hne k ho))
end
theorem rnp {W0 W : World} {base : Nat} {ok : Nat → Prop} {v : Value} {xs : List Int} (_h : Aside0 (RNk W0 base ok v xs)) (f : RNk W base ok v xs := by ((with_reducible repeat (first | apply RNk_alloc | apply RNk_drewN | apply RNk_drew)); exact Aside0.out (by assumption))) : RNk W base ok v xs := f
theorem rnl {W0 W W1 : World} {base : Nat} {ok : Nat → Prop} {v : Value} {xs : List Int} (_h : Aside0 (RNk W0 base ok v xs)) (hb : Below W.heap.size W W1) (f : RNk W base ok v xs := by ((with_reducible repeat (first | apply RNk_alloc | apply RNk_drewN | apply RNk_drew)); exact Aside0.out (by assumption))) : RNk W1 base ok v xs := RNk_below f hb
theorem nx_run {P : Program} {W : World} {g p : Nat} {s : ByteArray} {ty : TypeId} (hb : W.heap[g]? = some (.stringIter s p)) (h : p < s.size) (ha : (s[p]'h).toNat < 128) :
    (Instr.next (.pointer (some ⟨g, 0, none⟩)) true ty).run P W = .ok (.tuple #[.bool true, .int .i64 p, .int .i32 (s[p]'h).toNat]) { W with heap := W.heap.setIfInBounds g (.stringIter s (p + 1)) } := by
  simp only [Instr.next, getObj, setObj, Sem.run_bind, Sem.run, hb, Result.andThen, h, if_true, decode_ascii s p h ha]
  simp [goInt, Sem.run, hb]
theorem nxe_run {P : Program} {W : World} {g p : Nat} {s : ByteArray} {ty : TypeId} (hb : W.heap[g]? = some (.stringIter s p)) (h : ¬ p < s.size) :
    (Instr.next (.pointer (some ⟨g, 0, none⟩)) true ty).run P W = .ok (.tuple #[.bool false]) W := by
  simp [Instr.next, getObj, Sem.run, hb, h]
section
variable {P : Program} {ops : Array Oper} {Q : Exit → Act → World → Prop} {rest : List Oper} {oi : Oper} {a : Act} {W : World}
/-- A range over a string begins: its iterator. -/
theorem rg_ (N : Tmp) {t : TypeId} {x : Operand} (s : ByteArray) (ht : P.underlying t = some .string) (hd : oi.dst = some N := by exact rfl) (hgd : oi.guard = none := by exact rfl) (hop : oi.op = .range t x := by exact rfl) (hx : a.eval x = .string s := by rfl)
    (h : ∀ g, g = W.heap.size → ∀ w1, w1.heap[g]? = some (.stringIter s 0) → Below W.heap.size W w1 → wpList P ops Q rest (a.put (some N) (.pointer (some ⟨g, 0, none⟩))) w1) : wpList P ops Q (oi :: rest) a W := by
  have hrun : (execOp a.eval oi).run P W = .ok (.value (.pointer (some ⟨W.heap.size, 0, none⟩))) (W.iter s 0) := by
    have h1 := run_range_string W t s ht
    unfold execOp
    simp only [hop, hx]
    simp [h1]
  have h2 := h _ rfl _ (World.iter_heap W s 0) (below_alloc (Below.refl _ _) _)
  rw [← hd] at h2
  exact Kd.event_run hgd hrun h2
/-- The next letter, a plain one. -/
theorem nx_ (N : Tmp) {x : Operand} {g p : Nat} {s : ByteArray} {r : Int} (hb : W.heap[g]? = some (.stringIter s p)) (hr : ∃ h : p < s.size, (s[p]'h).toNat < 128 ∧ ((s[p]'h).toNat : Int) = r) (hd : oi.dst = some N := by exact rfl) (hgd : oi.guard = none := by exact rfl) (hop : oi.op = .next x true := by exact rfl) (hx : a.eval x = .pointer (some ⟨g, 0, none⟩) := by rfl)
    (h : ∀ w1, KeepBut W w1 g none → w1.heap[g]? = some (.stringIter s (p + 1)) → (∀ B, B ≤ g → Below B W w1) → wpList P ops Q rest (a.put (some N) (.tuple #[.bool true, .int .i64 p, .int .i32 r])) w1) : wpList P ops Q (oi :: rest) a W := by
  obtain ⟨hlt, ha, rfl⟩ := hr
  have hrun : (execOp a.eval oi).run P W = .ok (.value (.tuple #[.bool true, .int .i64 p, .int .i32 (s[p]'hlt).toNat])) { W with heap := W.heap.setIfInBounds g (.stringIter s (p + 1)) } := by
    have h1 := nx_run (P := P) (ty := oi.type) hb hlt ha
    unfold execOp
    simp only [hop, hx]
    simp [h1]
  have hne : ∀ k, k ≠ g → (W.heap.setIfInBounds g (.stringIter s (p + 1)))[k]? = W.heap[k]? := fun k hk => by
    rw [Array.getElem?_setIfInBounds, if_neg (fun e => hk e.symm)]
  have hsz : (W.heap.setIfInBounds g (.stringIter s (p + 1))).size = W.heap.size := by simp
  have h2 := h { W with heap := W.heap.setIfInBounds g (.stringIter s (p + 1)) } ⟨Nat.le_of_eq hsz.symm, fun i _ hi _ => hne i hi⟩ (by
    show (W.heap.setIfInBounds g (.stringIter s (p + 1)))[g]? = _
    rw [Array.getElem?_setIfInBounds, if_pos rfl, if_pos (blk_lt hb)]) (fun B hB => ⟨rfl, rfl, rfl, Nat.le_of_eq hsz.symm, fun k hk => hne k (by omega)⟩)
  rw [← hd] at h2
  exact Kd.event_run hgd hrun h2
/-- No letter more. -/
theorem nxe_ (N : Tmp) {x : Operand} {g p : Nat} {s : ByteArray} (hb : W.heap[g]? = some (.stringIter s p)) (hge : ¬ p < s.size) (hd : oi.dst = some N := by exact rfl) (hgd : oi.guard = none := by exact rfl) (hop : oi.op = .next x true := by exact rfl) (hx : a.eval x = .pointer (some ⟨g, 0, none⟩) := by rfl)
    (h : wpList P ops Q rest (a.put (some N) (.tuple #[.bool false])) W) : wpList P ops Q (oi :: rest) a W := by
  have hrun : (execOp a.eval oi).run P W = .ok (.value (.tuple #[.bool false])) W := by
    have h1 := nxe_run (P := P) (ty := oi.type) hb hge
    unfold execOp
    simp only [hop, hx]
    simp [h1]
  rw [← hd] at h
  exact Kd.event_run hgd hrun h
end
theorem Kd.R_iter {α : Type} {d : Kd α} {e base g p : Nat} {ok : Nat → Prop} {w : World} {v : Value} {xs : List α} {s : ByteArray} (h : d.R e w base ok v xs) (hb : w.heap[g]? = some (.stringIter s p)) : d.R e w base (fun k => ok k ∧ k ≠ g) v xs :=
  Kd.R_mono (Kd.R_bound h) (fun k hk => ⟨hk.1, fun he => by
    obtain ⟨_, _, _, q, _, cells, hc⟩ := hk
    rw [he, hb] at hc
    cases hc⟩)
theorem Kd.N_neI {α : Type} {d : Kd α} {e base g p : Nat} {ok : Nat → Prop} {w : World} {v : Value} {xs : List α} {s : ByteArray} (h : Kd.N d e w base ok v xs) (hb : w.heap[g]? = some (.stringIter s p)) : some g ≠ v.ownBlock := fun he => by
  obtain ⟨cells, hc⟩ := Kd.N_typed h g he.symm
  rw [hb] at hc
  cases hc
theorem w8_ (y : Int) : wrap64 (IntKind.u8.wrap y) = y % 256 := by
  have h : IntKind.u8.wrap y = y % 256 := by
    simp [IntKind.wrap, IntKind.signed, IntKind.bits]
  rw [h]
  unfold wrap64
  omega
theorem tbl_ {w w' : World} (h : Lib.TabIs Tryd.prog w "internal/strconv.uint64pow10" .u64 Lib.pow10Tab) (hb : Below w.heap.size w w') : Lib.TabIs Tryd.prog w' "internal/strconv.uint64pow10" .u64 Lib.pow10Tab := by
  obtain ⟨g, hg⟩ := Option.isSome_iff_exists.1 (show (Tryd.prog.globalNamed "internal/strconv.uint64pow10").isSome = true by kernel_rfl)
  exact Joins.tab_stays hg h hb (Nat.le_refl _)
/-! ### impl_within: function 38 -/
def impl_within.f (a0 : Int) (a1 : Int) (a2 : Int) : Option (Bool) := if a1 ≤ a0 then (some (decide (a0 ≤ a2))) else (some false)
set_option maxHeartbeats 8000000 in
set_option maxRecDepth 100000 in
theorem impl_within.calls (a0 : Int) (a1 : Int) (a2 : Int) (r : Bool) (w : World) (h : impl_within.f a0 a1 a2 = some r) :
  Calls Tryd.prog 38 #[.int .i64 a0, .int .i64 a1, .int .i64 a2] w fun e w' => e = .returned (.bool r) ∧ Drawn0 w w' := by
 have H : (if a1 ≤ a0 then (some (decide (a0 ≤ a2))) else (some false)) = some r := h
 clear h
 by_cases c4 : a1 ≤ a0
 ·rw [if_pos c4] at H
  have c4b0 : decide (a1 ≤ a0) = true := decide_eq_true c4
  clear c4
  obtain rfl := Option.some.inj H
  go_enter Tryd.func38, Tryd.ntmps38
  go_wp2
  go_ret
  exact ⟨by first | rfl | (simp; done) | (simp [*]; done), by repeat (first | exact Drawn0.refl _ | apply Drawn0.step)⟩
 rw [if_neg c4] at H
 have c4b0 : decide (a1 ≤ a0) = false := decide_eq_false c4
 clear c4
 obtain rfl := Option.some.inj H
 go_enter Tryd.func38, Tryd.ntmps38
 go_wp2
 go_ret
 exact ⟨by first | rfl | (simp; done) | (simp [*]; done), by repeat (first | exact Drawn0.refl _ | apply Drawn0.step)⟩

/-! ### impl_KeyOk: function 39 -/
def impl_KeyOk.l0 : Nat → List Int → List Int → Int → Int → Option (Bool)
 | 0, _, _, _, _ => none
 | k + 1, x0, x5, x6, x7 => if x7 < x6 then (if 0 ≤ x7 then (if x7 < (x5.length : Int) then (if (rd x5 x7) < 97 then (if (rd x5 x7) = 47 then (impl_KeyOk.l0 k x0 x5 x6 (wrap64 (x7 + 1))) else (some false)) else (if (rd x5 x7) > 122 then (if (rd x5 x7) = 47 then (impl_KeyOk.l0 k x0 x5 x6 (wrap64 (x7 + 1))) else (some false)) else (impl_KeyOk.l0 k x0 x5 x6 (wrap64 (x7 + 1))))) else (none)) else (none)) else ((impl_within.f (x0.length : Int) 1 20).bind fun t102 => (some t102))
def impl_KeyOk.f (k : Nat) (l0 : List Int) : Option (Bool) := impl_KeyOk.l0 k l0 l0 (l0.length : Int) 0
set_option maxHeartbeats 8000000 in
set_option maxRecDepth 100000 in
theorem impl_KeyOk.calls (k : Nat) (A0 : Option Addr) (c0 : Nat) (l0 : List Int) (r : Bool) (w : World) (hr0 : Kd.C (Kd.int .u8) w A0 l0.length l0) (hc0 : l0.length ≤ c0) (h : impl_KeyOk.f k l0 = some r) :
  Calls Tryd.prog 39 #[.slice A0 l0.length c0] w fun e w' => e = .returned (.bool r) ∧ Drawn0 w w' := by
 have HR0 := Aside0.mk hr0
 have HC0 := Aside0.mk hc0
 clear hr0 hc0
 have H : (impl_KeyOk.l0 k l0 l0 (l0.length : Int) 0) = some r := h
 clear h
 have H' := Aside0.mk H
 clear H
 go_enter Tryd.func39, Tryd.ntmps39
 go_wp2
 go_loopg [7] k (fun kq v7 w' => ∃ (x7_1 : Int), v7 = .int .i64 x7_1 ∧ Aside0 (impl_KeyOk.l0 kq l0 l0 (l0.length : Int) x7_1 = some r) ∧ Aside0 (kq ≤ k) ∧ Drawn0 w w')
 case atStart => exact ⟨(0), rs_, H', ⟨Nat.le_refl _⟩, by repeat (first | exact Drawn0.refl _ | apply Drawn0.step)⟩
 case round =>
  clear H'
  obtain ⟨x7_1, rfl, HA, HK1, ⟨m1, rfl⟩⟩ := hrel
  cases gk with
  | zero => exact absurd HA.out (by simp [impl_KeyOk.l0])
  | succ k1 =>
   have H := HA.out
   clear HA
   simp only [impl_KeyOk.l0] at H
   by_cases c2 : x7_1 < (l0.length : Int)
   ·rw [if_pos c2] at H
    have c2b0 : decide (x7_1 < (l0.length : Int)) = true := decide_eq_true c2
    clear c2
    by_cases c3 : 0 ≤ x7_1
    ·rw [if_pos c3] at H
     have c3b0 : decide (0 ≤ x7_1) = true := decide_eq_true c3
     clear c3
     by_cases c4 : x7_1 < (l0.length : Int)
     ·rw [if_pos c4] at H
      have c4b0 : decide (x7_1 < (l0.length : Int)) = true := decide_eq_true c4
      clear c4
      by_cases c5 : (rd l0 x7_1) < 97
      ·rw [if_pos c5] at H
       have c5b0 : decide ((rd l0 x7_1) < 97) = true := decide_eq_true c5
       clear c5
       by_cases c6 : (rd l0 x7_1) = 47
       ·rw [if_pos c6] at H
        have c6b0 : ((rd l0 x7_1) == 47) = true := beq_iff_eq.mpr c6
        have c6b1 : ((rd l0 x7_1) != 47) = false := bne_eq_false_iff_eq.mpr c6
        clear c6
        have H' := Aside0.mk H
        clear H
        have p101 : 0 ≤ (x7_1 : Int) := od
        have q101 : x7_1 < (l0.length : Int) := od
        obtain ⟨ad101, e101, hx101_0⟩ := Kd.at_int HR0.out x7_1 p101 q101
        cases e101
        replace p101 := eq_true p101
        replace q101 := eq_true q101
        go_wp2
        go_roundg k1
        case measure => have := HK1.out; omega
        case rel => exact ⟨(wrap64 (x7_1 + 1)), rs_, H', ⟨by have := HK1.out; omega⟩, by repeat (first | exact Drawn0.refl _ | apply Drawn0.step)⟩
       rw [if_neg c6] at H
       have c6b0 : ((rd l0 x7_1) == 47) = false := beq_eq_false_iff_ne.mpr c6
       have c6b1 : ((rd l0 x7_1) != 47) = true := bne_iff_ne.mpr c6
       obtain rfl := Option.some.inj H
       have p101 : 0 ≤ (x7_1 : Int) := od
       have q101 : x7_1 < (l0.length : Int) := od
       obtain ⟨ad101, e101, hx101_0⟩ := Kd.at_int HR0.out x7_1 p101 q101
       cases e101
       replace p101 := eq_true p101
       replace q101 := eq_true q101
       go_wp2
       go_ret
       exact ⟨by first | rfl | (simp; done) | (simp [*]; done), by repeat (first | exact Drawn0.refl _ | apply Drawn0.step)⟩
      rw [if_neg c5] at H
      have c5b0 : decide ((rd l0 x7_1) < 97) = false := decide_eq_false c5
      clear c5
      by_cases c7 : (rd l0 x7_1) > 122
      ·rw [if_pos c7] at H
       have c7b0 : decide (122 < (rd l0 x7_1)) = true := decide_eq_true c7
       clear c7
       by_cases c8 : (rd l0 x7_1) = 47
       ·rw [if_pos c8] at H
        have c8b0 : ((rd l0 x7_1) == 47) = true := beq_iff_eq.mpr c8
        have c8b1 : ((rd l0 x7_1) != 47) = false := bne_eq_false_iff_eq.mpr c8
        clear c8
        have H' := Aside0.mk H
        clear H
        have p101 : 0 ≤ (x7_1 : Int) := od
        have q101 : x7_1 < (l0.length : Int) := od
        obtain ⟨ad101, e101, hx101_0⟩ := Kd.at_int HR0.out x7_1 p101 q101
        cases e101
        replace p101 := eq_true p101
        replace q101 := eq_true q101
        go_wp2
        go_roundg k1
        case measure => have := HK1.out; omega
        case rel => exact ⟨(wrap64 (x7_1 + 1)), rs_, H', ⟨by have := HK1.out; omega⟩, by repeat (first | exact Drawn0.refl _ | apply Drawn0.step)⟩
       rw [if_neg c8] at H
       have c8b0 : ((rd l0 x7_1) == 47) = false := beq_eq_false_iff_ne.mpr c8
       have c8b1 : ((rd l0 x7_1) != 47) = true := bne_iff_ne.mpr c8
       obtain rfl := Option.some.inj H
       have p101 : 0 ≤ (x7_1 : Int) := od
       have q101 : x7_1 < (l0.length : Int) := od
       obtain ⟨ad101, e101, hx101_0⟩ := Kd.at_int HR0.out x7_1 p101 q101
       cases e101
       replace p101 := eq_true p101
       replace q101 := eq_true q101
       go_wp2
       go_ret
       exact ⟨by first | rfl | (simp; done) | (simp [*]; done), by repeat (first | exact Drawn0.refl _ | apply Drawn0.step)⟩
      rw [if_neg c7] at H
      have c7b0 : decide (122 < (rd l0 x7_1)) = false := decide_eq_false c7
      clear c7
      have H' := Aside0.mk H
      clear H
      have p101 : 0 ≤ (x7_1 : Int) := od
      have q101 : x7_1 < (l0.length : Int) := od
      obtain ⟨ad101, e101, hx101_0⟩ := Kd.at_int HR0.out x7_1 p101 q101
      cases e101
      replace p101 := eq_true p101
      replace q101 := eq_true q101
      go_wp2
      go_roundg k1
      case measure => have := HK1.out; omega
      case rel => exact ⟨(wrap64 (x7_1 + 1)), rs_, H', ⟨by have := HK1.out; omega⟩, by repeat (first | exact Drawn0.refl _ | apply Drawn0.step)⟩
     rw [if_neg c4] at H
     exact absurd H (by simp)
    rw [if_neg c3] at H
    exact absurd H (by simp)
   rw [if_neg c2] at H
   have c2b0 : decide (x7_1 < (l0.length : Int)) = false := decide_eq_false c2
   clear c2
   replace H := Option.bind_eq_some_iff.mp H
   obtain ⟨t102, A90, H⟩ := H
   replace H : (some t102) = some r := H
   have A9 := Aside0.mk A90
   clear A90
   obtain rfl := Option.some.inj H
   go_wp2_with (first | ((with_reducible refine gate_callee (f := 38) rfl ?_); refine gl_ (some 24) Tryd.func38 #[.int .i64 (l0.length : Int), .int .i64 1, .int .i64 20] (h := ?_); (with_reducible refine (impl_within.calls (l0.length : Int) 1 20 t102 _ A9.out).mono ?_); rintro e w' ⟨rfl, ⟨nd, rfl⟩⟩; refine ⟨_, rfl, ?_⟩))
   go_ret
   exact ⟨by first | rfl | (simp; done) | (simp [*]; done), by repeat (first | exact Drawn0.refl _ | apply Drawn0.step)⟩

/-! ### impl_isValue: function 40 -/
def impl_isValue.f (l0 : List Int) : Option (Bool) := some (decide ((l0.length : Int) ≤ 20))
set_option maxHeartbeats 8000000 in
set_option maxRecDepth 100000 in
theorem impl_isValue.calls (A0 : Option Addr) (c0 : Nat) (l0 : List Int) (r : Bool) (w : World) (hr0 : Kd.C (Kd.int .u8) w A0 l0.length l0) (hc0 : l0.length ≤ c0) (h : impl_isValue.f l0 = some r) :
  Calls Tryd.prog 40 #[.slice A0 l0.length c0] w fun e w' => e = .returned (.bool r) ∧ Drawn0 w w' := by
 have HR0 := Aside0.mk hr0
 have HC0 := Aside0.mk hc0
 clear hr0 hc0
 have H : (some (decide ((l0.length : Int) ≤ 20))) = some r := h
 clear h
 obtain rfl := Option.some.inj H
 go_enter Tryd.func40, Tryd.ntmps40
 go_wp2
 go_ret
 exact ⟨by first | rfl | (simp; done) | (simp [*]; done), by repeat (first | exact Drawn0.refl _ | apply Drawn0.step)⟩

/-! ### impl_OpOk: function 10 -/
def impl_OpOk.f (k : Nat) (a0_0 : Int) (l0_1 : List Int) (l0_2 : List Int) (a0_3 : Int) : Option (Bool) := if a0_0 = 0 then ((impl_within.f a0_3 0 0).bind fun t104 => (if t104 = true then (if (l0_1.length : Int) = 0 then (some ((l0_2.length : Int) == 0)) else (some false)) else (some false))) else (if a0_0 = 1 then ((impl_within.f a0_3 0 0).bind fun t105 => (if t105 = true then ((impl_KeyOk.f k l0_1).bind fun t106 => (if t106 = true then ((impl_isValue.f l0_2).bind fun t107 => (if t107 = true then (some true) else (some false))) else (some false))) else (some false))) else (if a0_0 = 2 then ((impl_within.f a0_3 0 1000000).bind fun t108 => (if t108 = true then ((impl_KeyOk.f k l0_1).bind fun t109 => (if t109 = true then ((impl_isValue.f l0_2).bind fun t110 => (if t110 = true then (some true) else (some false))) else (some false))) else (some false))) else (if a0_0 = 3 then ((impl_within.f a0_3 0 0).bind fun t111 => (if t111 = true then ((impl_KeyOk.f k l0_1).bind fun t112 => (if t112 = true then (some ((l0_2.length : Int) == 0)) else (some false))) else (some false))) else (if a0_0 = 4 then ((impl_within.f a0_3 0 1).bind fun t113 => (if t113 = true then (if (l0_1.length : Int) = 0 then (some ((l0_2.length : Int) == 0)) else (some false)) else (some false))) else (if a0_0 = 5 then ((impl_within.f a0_3 1 1000000).bind fun t114 => (if t114 = true then (if (l0_1.length : Int) = 0 then (some ((l0_2.length : Int) == 0)) else (some false)) else (some false))) else (if a0_0 = 6 then ((impl_within.f a0_3 1 1000000).bind fun t115 => (if t115 = true then ((impl_KeyOk.f k l0_1).bind fun t116 => (if t116 = true then ((impl_isValue.f l0_2).bind fun t117 => (if t117 = true then (some true) else (some false))) else (some false))) else (some false))) else (if a0_0 = 7 then ((impl_within.f a0_3 1 1000000).bind fun t118 => (if t118 = true then ((impl_KeyOk.f k l0_1).bind fun t119 => (if t119 = true then (some ((l0_2.length : Int) == 0)) else (some false))) else (some false))) else (some false))))))))
set_option maxHeartbeats 8000000 in
set_option maxRecDepth 100000 in
theorem impl_OpOk.calls (k : Nat) (a0_0 : Int) (A0_1 : Option Addr) (c0_1 : Nat) (l0_1 : List Int) (A0_2 : Option Addr) (c0_2 : Nat) (l0_2 : List Int) (a0_3 : Int) (r : Bool) (w : World) (hr0_1 : Kd.C (Kd.int .u8) w A0_1 l0_1.length l0_1) (hc0_1 : l0_1.length ≤ c0_1) (hr0_2 : Kd.C (Kd.int .u8) w A0_2 l0_2.length l0_2) (hc0_2 : l0_2.length ≤ c0_2) (h : impl_OpOk.f k a0_0 l0_1 l0_2 a0_3 = some r) :
  Calls Tryd.prog 10 #[.agg #[.int .i64 a0_0, .slice A0_1 l0_1.length c0_1, .slice A0_2 l0_2.length c0_2, .int .i64 a0_3]] w fun e w' => e = .returned (.bool r) ∧ Below w.heap.size w w' := by
 have hu24 := Tryd.underlying24
 have HR0_1 := Aside0.mk hr0_1
 have HC0_1 := Aside0.mk hc0_1
 clear hr0_1 hc0_1
 have HR0_2 := Aside0.mk hr0_2
 have HC0_2 := Aside0.mk hc0_2
 clear hr0_2 hc0_2
 have HB := Aside0.mk (Below.refl w.heap.size w)
 have H : (if a0_0 = 0 then ((impl_within.f a0_3 0 0).bind fun t104 => (if t104 = true then (if (l0_1.length : Int) = 0 then (some ((l0_2.length : Int) == 0)) else (some false)) else (some false))) else (if a0_0 = 1 then ((impl_within.f a0_3 0 0).bind fun t105 => (if t105 = true then ((impl_KeyOk.f k l0_1).bind fun t106 => (if t106 = true then ((impl_isValue.f l0_2).bind fun t107 => (if t107 = true then (some true) else (some false))) else (some false))) else (some false))) else (if a0_0 = 2 then ((impl_within.f a0_3 0 1000000).bind fun t108 => (if t108 = true then ((impl_KeyOk.f k l0_1).bind fun t109 => (if t109 = true then ((impl_isValue.f l0_2).bind fun t110 => (if t110 = true then (some true) else (some false))) else (some false))) else (some false))) else (if a0_0 = 3 then ((impl_within.f a0_3 0 0).bind fun t111 => (if t111 = true then ((impl_KeyOk.f k l0_1).bind fun t112 => (if t112 = true then (some ((l0_2.length : Int) == 0)) else (some false))) else (some false))) else (if a0_0 = 4 then ((impl_within.f a0_3 0 1).bind fun t113 => (if t113 = true then (if (l0_1.length : Int) = 0 then (some ((l0_2.length : Int) == 0)) else (some false)) else (some false))) else (if a0_0 = 5 then ((impl_within.f a0_3 1 1000000).bind fun t114 => (if t114 = true then (if (l0_1.length : Int) = 0 then (some ((l0_2.length : Int) == 0)) else (some false)) else (some false))) else (if a0_0 = 6 then ((impl_within.f a0_3 1 1000000).bind fun t115 => (if t115 = true then ((impl_KeyOk.f k l0_1).bind fun t116 => (if t116 = true then ((impl_isValue.f l0_2).bind fun t117 => (if t117 = true then (some true) else (some false))) else (some false))) else (some false))) else (if a0_0 = 7 then ((impl_within.f a0_3 1 1000000).bind fun t118 => (if t118 = true then ((impl_KeyOk.f k l0_1).bind fun t119 => (if t119 = true then (some ((l0_2.length : Int) == 0)) else (some false))) else (some false))) else (some false))))))))) = some r := h
 clear h
 by_cases c2 : a0_0 = 0
 ·rw [if_pos c2] at H
  have c2b0 : (a0_0 == 0) = true := beq_iff_eq.mpr c2
  have c2b1 : (a0_0 != 0) = false := bne_eq_false_iff_eq.mpr c2
  clear c2
  replace H := Option.bind_eq_some_iff.mp H
  obtain ⟨t104, A30, H⟩ := H
  replace H : (if t104 = true then (if (l0_1.length : Int) = 0 then (some ((l0_2.length : Int) == 0)) else (some false)) else (some false)) = some r := H
  have A3 := Aside0.mk A30
  clear A30
  by_cases c4 : t104 = true
  ·subst c4
   have H1 : (if (l0_1.length : Int) = 0 then (some ((l0_2.length : Int) == 0)) else (some false)) = some r := by rw [if_pos rfl] at H; exact H
   clear H
   have H := H1
   clear H1
   by_cases c5 : (l0_1.length : Int) = 0
   ·rw [if_pos c5] at H
    have c5b0 : ((l0_1.length : Int) == 0) = true := beq_iff_eq.mpr c5
    have c5b1 : ((l0_1.length : Int) != 0) = false := bne_eq_false_iff_eq.mpr c5
    clear c5
    obtain rfl := Option.some.inj H
    go_enter Tryd.func10, Tryd.ntmps10
    go_wp2_with (first | ((with_reducible refine gate_dst (N := 1) rfl ?_); (try (refine gate_guard (by rfl) ?_; dsimp only)); refine bx_ 1 #[.int .i64 a0_0, .slice A0_1 l0_1.length c0_1, .slice A0_2 l0_2.length c0_2, .int .i64 a0_3] 24 (h := ?_); intro gb103 hg w6 hbox hb; have BK103 := Aside0.mk (hbox); have GW103 := Aside0.mk ((by rw [hg]; exact (below_size bel) : w.heap.size ≤ gb103)); have GE103 := GW103; replace HB := bst hb; clear hb hbox hg; obtain ⟨C7_0, C7_1, C7_2, C7_3, -⟩ := cells_4 BK103.out trivial; obtain ⟨F7_0, F7_1, F7_2, F7_3, -⟩ := frz_4 BK103.out) | ((with_reducible refine gate_callee (f := 38) rfl ?_); refine gl_ (some 29) Tryd.func38 #[.int .i64 a0_3, .int .i64 0, .int .i64 0] (h := ?_); (with_reducible refine (impl_within.calls a0_3 0 0 true _ A3.out).mono ?_); rintro e w' ⟨rfl, ⟨nd, rfl⟩⟩; refine ⟨_, rfl, ?_⟩))
    go_ret
    exact ⟨rz_, bel⟩
   rw [if_neg c5] at H
   have c5b0 : ((l0_1.length : Int) == 0) = false := beq_eq_false_iff_ne.mpr c5
   have c5b1 : ((l0_1.length : Int) != 0) = true := bne_iff_ne.mpr c5
   have c5b2 : ¬ (l0_1 = []) := fun h_ => c5 (by rw [h_]; rfl)
   obtain rfl := Option.some.inj H
   go_enter Tryd.func10, Tryd.ntmps10
   go_wp2_with (first | ((with_reducible refine gate_dst (N := 1) rfl ?_); (try (refine gate_guard (by rfl) ?_; dsimp only)); refine bx_ 1 #[.int .i64 a0_0, .slice A0_1 l0_1.length c0_1, .slice A0_2 l0_2.length c0_2, .int .i64 a0_3] 24 (h := ?_); intro gb103 hg w8 hbox hb; have BK103 := Aside0.mk (hbox); have GW103 := Aside0.mk ((by rw [hg]; exact (below_size bel) : w.heap.size ≤ gb103)); have GE103 := GW103; replace HB := bst hb; clear hb hbox hg; obtain ⟨C9_0, C9_1, C9_2, C9_3, -⟩ := cells_4 BK103.out trivial; obtain ⟨F9_0, F9_1, F9_2, F9_3, -⟩ := frz_4 BK103.out) | ((with_reducible refine gate_callee (f := 38) rfl ?_); refine gl_ (some 29) Tryd.func38 #[.int .i64 a0_3, .int .i64 0, .int .i64 0] (h := ?_); (with_reducible refine (impl_within.calls a0_3 0 0 true _ A3.out).mono ?_); rintro e w' ⟨rfl, ⟨nd, rfl⟩⟩; refine ⟨_, rfl, ?_⟩))
   go_ret
   exact ⟨rz_, bel⟩
  replace c4 := Bool.eq_false_iff.mpr c4
  subst c4
  have H1 : (some false) = some r := by rw [if_neg (show ¬ (false = true) by decide)] at H; exact H
  clear H
  have H := H1
  clear H1
  obtain rfl := Option.some.inj H
  go_enter Tryd.func10, Tryd.ntmps10
  go_wp2_with (first | ((with_reducible refine gate_dst (N := 1) rfl ?_); (try (refine gate_guard (by rfl) ?_; dsimp only)); refine bx_ 1 #[.int .i64 a0_0, .slice A0_1 l0_1.length c0_1, .slice A0_2 l0_2.length c0_2, .int .i64 a0_3] 24 (h := ?_); intro gb103 hg w10 hbox hb; have BK103 := Aside0.mk (hbox); have GW103 := Aside0.mk ((by rw [hg]; exact (below_size bel) : w.heap.size ≤ gb103)); have GE103 := GW103; replace HB := bst hb; clear hb hbox hg; obtain ⟨C11_0, C11_1, C11_2, C11_3, -⟩ := cells_4 BK103.out trivial; obtain ⟨F11_0, F11_1, F11_2, F11_3, -⟩ := frz_4 BK103.out) | ((with_reducible refine gate_callee (f := 38) rfl ?_); refine gl_ (some 29) Tryd.func38 #[.int .i64 a0_3, .int .i64 0, .int .i64 0] (h := ?_); (with_reducible refine (impl_within.calls a0_3 0 0 false _ A3.out).mono ?_); rintro e w' ⟨rfl, ⟨nd, rfl⟩⟩; refine ⟨_, rfl, ?_⟩))
  go_ret
  exact ⟨rz_, bel⟩
 rw [if_neg c2] at H
 have c2b0 : (a0_0 == 0) = false := beq_eq_false_iff_ne.mpr c2
 have c2b1 : (a0_0 != 0) = true := bne_iff_ne.mpr c2
 by_cases c12 : a0_0 = 1
 ·rw [if_pos c12] at H
  have c12b0 : (a0_0 == 1) = true := beq_iff_eq.mpr c12
  have c12b1 : (a0_0 != 1) = false := bne_eq_false_iff_eq.mpr c12
  clear c12
  replace H := Option.bind_eq_some_iff.mp H
  obtain ⟨t105, A130, H⟩ := H
  replace H : (if t105 = true then ((impl_KeyOk.f k l0_1).bind fun t106 => (if t106 = true then ((impl_isValue.f l0_2).bind fun t107 => (if t107 = true then (some true) else (some false))) else (some false))) else (some false)) = some r := H
  have A13 := Aside0.mk A130
  clear A130
  by_cases c14 : t105 = true
  ·subst c14
   have H1 : ((impl_KeyOk.f k l0_1).bind fun t106 => (if t106 = true then ((impl_isValue.f l0_2).bind fun t107 => (if t107 = true then (some true) else (some false))) else (some false))) = some r := by rw [if_pos rfl] at H; exact H
   clear H
   have H := H1
   clear H1
   replace H := Option.bind_eq_some_iff.mp H
   obtain ⟨t106, A150, H⟩ := H
   replace H : (if t106 = true then ((impl_isValue.f l0_2).bind fun t107 => (if t107 = true then (some true) else (some false))) else (some false)) = some r := H
   have A15 := Aside0.mk A150
   clear A150
   by_cases c16 : t106 = true
   ·subst c16
    have H1 : ((impl_isValue.f l0_2).bind fun t107 => (if t107 = true then (some true) else (some false))) = some r := by rw [if_pos rfl] at H; exact H
    clear H
    have H := H1
    clear H1
    replace H := Option.bind_eq_some_iff.mp H
    obtain ⟨t107, A170, H⟩ := H
    replace H : (if t107 = true then (some true) else (some false)) = some r := H
    have A17 := Aside0.mk A170
    clear A170
    by_cases c18 : t107 = true
    ·subst c18
     have H1 : (some true) = some r := by rw [if_pos rfl] at H; exact H
     clear H
     have H := H1
     clear H1
     obtain rfl := Option.some.inj H
     go_enter Tryd.func10, Tryd.ntmps10
     go_wp2_with (first | ((with_reducible refine gate_dst (N := 1) rfl ?_); (try (refine gate_guard (by rfl) ?_; dsimp only)); refine bx_ 1 #[.int .i64 a0_0, .slice A0_1 l0_1.length c0_1, .slice A0_2 l0_2.length c0_2, .int .i64 a0_3] 24 (h := ?_); intro gb103 hg w19 hbox hb; have BK103 := Aside0.mk (hbox); have GW103 := Aside0.mk ((by rw [hg]; exact (below_size bel) : w.heap.size ≤ gb103)); have GE103 := GW103; replace HB := bst hb; clear hb hbox hg; obtain ⟨C20_0, C20_1, C20_2, C20_3, -⟩ := cells_4 BK103.out trivial; obtain ⟨F20_0, F20_1, F20_2, F20_3, -⟩ := frz_4 BK103.out) | ((with_reducible refine gate_callee (f := 38) rfl ?_); refine gl_ (some 29) Tryd.func38 #[.int .i64 a0_3, .int .i64 0, .int .i64 0] (h := ?_); (with_reducible refine (impl_within.calls a0_3 0 0 true _ A13.out).mono ?_); rintro e w' ⟨rfl, ⟨nd, rfl⟩⟩; refine ⟨_, rfl, ?_⟩) | (go_at_call 39; (with_reducible refine (impl_KeyOk.calls k _ _ l0_1 true _ ?side1 ?side2 A15.out).mono ?_); (case side1 => exact kcb); (case side2 => exact HC0_1.out); rintro e w' ⟨rfl, ⟨nd, rfl⟩⟩) | (go_at_call 40; (with_reducible refine (impl_isValue.calls _ _ l0_2 true _ ?side1 ?side2 A17.out).mono ?_); (case side1 => exact kcb); (case side2 => exact HC0_2.out); rintro e w' ⟨rfl, ⟨nd, rfl⟩⟩))
     go_ret
     exact ⟨rz_, bel⟩
    replace c18 := Bool.eq_false_iff.mpr c18
    subst c18
    have H1 : (some false) = some r := by rw [if_neg (show ¬ (false = true) by decide)] at H; exact H
    clear H
    have H := H1
    clear H1
    obtain rfl := Option.some.inj H
    go_enter Tryd.func10, Tryd.ntmps10
    go_wp2_with (first | ((with_reducible refine gate_dst (N := 1) rfl ?_); (try (refine gate_guard (by rfl) ?_; dsimp only)); refine bx_ 1 #[.int .i64 a0_0, .slice A0_1 l0_1.length c0_1, .slice A0_2 l0_2.length c0_2, .int .i64 a0_3] 24 (h := ?_); intro gb103 hg w21 hbox hb; have BK103 := Aside0.mk (hbox); have GW103 := Aside0.mk ((by rw [hg]; exact (below_size bel) : w.heap.size ≤ gb103)); have GE103 := GW103; replace HB := bst hb; clear hb hbox hg; obtain ⟨C22_0, C22_1, C22_2, C22_3, -⟩ := cells_4 BK103.out trivial; obtain ⟨F22_0, F22_1, F22_2, F22_3, -⟩ := frz_4 BK103.out) | ((with_reducible refine gate_callee (f := 38) rfl ?_); refine gl_ (some 29) Tryd.func38 #[.int .i64 a0_3, .int .i64 0, .int .i64 0] (h := ?_); (with_reducible refine (impl_within.calls a0_3 0 0 true _ A13.out).mono ?_); rintro e w' ⟨rfl, ⟨nd, rfl⟩⟩; refine ⟨_, rfl, ?_⟩) | (go_at_call 39; (with_reducible refine (impl_KeyOk.calls k _ _ l0_1 true _ ?side1 ?side2 A15.out).mono ?_); (case side1 => exact kcb); (case side2 => exact HC0_1.out); rintro e w' ⟨rfl, ⟨nd, rfl⟩⟩) | (go_at_call 40; (with_reducible refine (impl_isValue.calls _ _ l0_2 false _ ?side1 ?side2 A17.out).mono ?_); (case side1 => exact kcb); (case side2 => exact HC0_2.out); rintro e w' ⟨rfl, ⟨nd, rfl⟩⟩))
    go_ret
    exact ⟨rz_, bel⟩
   replace c16 := Bool.eq_false_iff.mpr c16
   subst c16
   have H1 : (some false) = some r := by rw [if_neg (show ¬ (false = true) by decide)] at H; exact H
   clear H
   have H := H1
   clear H1
   obtain rfl := Option.some.inj H
   go_enter Tryd.func10, Tryd.ntmps10
   go_wp2_with (first | ((with_reducible refine gate_dst (N := 1) rfl ?_); (try (refine gate_guard (by rfl) ?_; dsimp only)); refine bx_ 1 #[.int .i64 a0_0, .slice A0_1 l0_1.length c0_1, .slice A0_2 l0_2.length c0_2, .int .i64 a0_3] 24 (h := ?_); intro gb103 hg w23 hbox hb; have BK103 := Aside0.mk (hbox); have GW103 := Aside0.mk ((by rw [hg]; exact (below_size bel) : w.heap.size ≤ gb103)); have GE103 := GW103; replace HB := bst hb; clear hb hbox hg; obtain ⟨C24_0, C24_1, C24_2, C24_3, -⟩ := cells_4 BK103.out trivial; obtain ⟨F24_0, F24_1, F24_2, F24_3, -⟩ := frz_4 BK103.out) | ((with_reducible refine gate_callee (f := 38) rfl ?_); refine gl_ (some 29) Tryd.func38 #[.int .i64 a0_3, .int .i64 0, .int .i64 0] (h := ?_); (with_reducible refine (impl_within.calls a0_3 0 0 true _ A13.out).mono ?_); rintro e w' ⟨rfl, ⟨nd, rfl⟩⟩; refine ⟨_, rfl, ?_⟩) | (go_at_call 39; (with_reducible refine (impl_KeyOk.calls k _ _ l0_1 false _ ?side1 ?side2 A15.out).mono ?_); (case side1 => exact kcb); (case side2 => exact HC0_1.out); rintro e w' ⟨rfl, ⟨nd, rfl⟩⟩))
   go_ret
   exact ⟨rz_, bel⟩
  replace c14 := Bool.eq_false_iff.mpr c14
  subst c14
  have H1 : (some false) = some r := by rw [if_neg (show ¬ (false = true) by decide)] at H; exact H
  clear H
  have H := H1
  clear H1
  obtain rfl := Option.some.inj H
  go_enter Tryd.func10, Tryd.ntmps10
  go_wp2_with (first | ((with_reducible refine gate_dst (N := 1) rfl ?_); (try (refine gate_guard (by rfl) ?_; dsimp only)); refine bx_ 1 #[.int .i64 a0_0, .slice A0_1 l0_1.length c0_1, .slice A0_2 l0_2.length c0_2, .int .i64 a0_3] 24 (h := ?_); intro gb103 hg w25 hbox hb; have BK103 := Aside0.mk (hbox); have GW103 := Aside0.mk ((by rw [hg]; exact (below_size bel) : w.heap.size ≤ gb103)); have GE103 := GW103; replace HB := bst hb; clear hb hbox hg; obtain ⟨C26_0, C26_1, C26_2, C26_3, -⟩ := cells_4 BK103.out trivial; obtain ⟨F26_0, F26_1, F26_2, F26_3, -⟩ := frz_4 BK103.out) | ((with_reducible refine gate_callee (f := 38) rfl ?_); refine gl_ (some 29) Tryd.func38 #[.int .i64 a0_3, .int .i64 0, .int .i64 0] (h := ?_); (with_reducible refine (impl_within.calls a0_3 0 0 false _ A13.out).mono ?_); rintro e w' ⟨rfl, ⟨nd, rfl⟩⟩; refine ⟨_, rfl, ?_⟩))
  go_ret
  exact ⟨rz_, bel⟩
 rw [if_neg c12] at H
 have c12b0 : (a0_0 == 1) = false := beq_eq_false_iff_ne.mpr c12
 have c12b1 : (a0_0 != 1) = true := bne_iff_ne.mpr c12
 by_cases c27 : a0_0 = 2
 ·rw [if_pos c27] at H
  have c27b0 : (a0_0 == 2) = true := beq_iff_eq.mpr c27
  have c27b1 : (a0_0 != 2) = false := bne_eq_false_iff_eq.mpr c27
  clear c27
  replace H := Option.bind_eq_some_iff.mp H
  obtain ⟨t108, A280, H⟩ := H
  replace H : (if t108 = true then ((impl_KeyOk.f k l0_1).bind fun t109 => (if t109 = true then ((impl_isValue.f l0_2).bind fun t110 => (if t110 = true then (some true) else (some false))) else (some false))) else (some false)) = some r := H
  have A28 := Aside0.mk A280
  clear A280
  by_cases c29 : t108 = true
  ·subst c29
   have H1 : ((impl_KeyOk.f k l0_1).bind fun t109 => (if t109 = true then ((impl_isValue.f l0_2).bind fun t110 => (if t110 = true then (some true) else (some false))) else (some false))) = some r := by rw [if_pos rfl] at H; exact H
   clear H
   have H := H1
   clear H1
   replace H := Option.bind_eq_some_iff.mp H
   obtain ⟨t109, A300, H⟩ := H
   replace H : (if t109 = true then ((impl_isValue.f l0_2).bind fun t110 => (if t110 = true then (some true) else (some false))) else (some false)) = some r := H
   have A30 := Aside0.mk A300
   clear A300
   by_cases c31 : t109 = true
   ·subst c31
    have H1 : ((impl_isValue.f l0_2).bind fun t110 => (if t110 = true then (some true) else (some false))) = some r := by rw [if_pos rfl] at H; exact H
    clear H
    have H := H1
    clear H1
    replace H := Option.bind_eq_some_iff.mp H
    obtain ⟨t110, A320, H⟩ := H
    replace H : (if t110 = true then (some true) else (some false)) = some r := H
    have A32 := Aside0.mk A320
    clear A320
    by_cases c33 : t110 = true
    ·subst c33
     have H1 : (some true) = some r := by rw [if_pos rfl] at H; exact H
     clear H
     have H := H1
     clear H1
     obtain rfl := Option.some.inj H
     go_enter Tryd.func10, Tryd.ntmps10
     go_wp2_with (first | ((with_reducible refine gate_dst (N := 1) rfl ?_); (try (refine gate_guard (by rfl) ?_; dsimp only)); refine bx_ 1 #[.int .i64 a0_0, .slice A0_1 l0_1.length c0_1, .slice A0_2 l0_2.length c0_2, .int .i64 a0_3] 24 (h := ?_); intro gb103 hg w34 hbox hb; have BK103 := Aside0.mk (hbox); have GW103 := Aside0.mk ((by rw [hg]; exact (below_size bel) : w.heap.size ≤ gb103)); have GE103 := GW103; replace HB := bst hb; clear hb hbox hg; obtain ⟨C35_0, C35_1, C35_2, C35_3, -⟩ := cells_4 BK103.out trivial; obtain ⟨F35_0, F35_1, F35_2, F35_3, -⟩ := frz_4 BK103.out) | ((with_reducible refine gate_callee (f := 38) rfl ?_); refine gl_ (some 29) Tryd.func38 #[.int .i64 a0_3, .int .i64 0, .int .i64 1000000] (h := ?_); (with_reducible refine (impl_within.calls a0_3 0 1000000 true _ A28.out).mono ?_); rintro e w' ⟨rfl, ⟨nd, rfl⟩⟩; refine ⟨_, rfl, ?_⟩) | (go_at_call 39; (with_reducible refine (impl_KeyOk.calls k _ _ l0_1 true _ ?side1 ?side2 A30.out).mono ?_); (case side1 => exact kcb); (case side2 => exact HC0_1.out); rintro e w' ⟨rfl, ⟨nd, rfl⟩⟩) | (go_at_call 40; (with_reducible refine (impl_isValue.calls _ _ l0_2 true _ ?side1 ?side2 A32.out).mono ?_); (case side1 => exact kcb); (case side2 => exact HC0_2.out); rintro e w' ⟨rfl, ⟨nd, rfl⟩⟩))
     go_ret
     exact ⟨rz_, bel⟩
    replace c33 := Bool.eq_false_iff.mpr c33
    subst c33
    have H1 : (some false) = some r := by rw [if_neg (show ¬ (false = true) by decide)] at H; exact H
    clear H
    have H := H1
    clear H1
    obtain rfl := Option.some.inj H
    go_enter Tryd.func10, Tryd.ntmps10
    go_wp2_with (first | ((with_reducible refine gate_dst (N := 1) rfl ?_); (try (refine gate_guard (by rfl) ?_; dsimp only)); refine bx_ 1 #[.int .i64 a0_0, .slice A0_1 l0_1.length c0_1, .slice A0_2 l0_2.length c0_2, .int .i64 a0_3] 24 (h := ?_); intro gb103 hg w36 hbox hb; have BK103 := Aside0.mk (hbox); have GW103 := Aside0.mk ((by rw [hg]; exact (below_size bel) : w.heap.size ≤ gb103)); have GE103 := GW103; replace HB := bst hb; clear hb hbox hg; obtain ⟨C37_0, C37_1, C37_2, C37_3, -⟩ := cells_4 BK103.out trivial; obtain ⟨F37_0, F37_1, F37_2, F37_3, -⟩ := frz_4 BK103.out) | ((with_reducible refine gate_callee (f := 38) rfl ?_); refine gl_ (some 29) Tryd.func38 #[.int .i64 a0_3, .int .i64 0, .int .i64 1000000] (h := ?_); (with_reducible refine (impl_within.calls a0_3 0 1000000 true _ A28.out).mono ?_); rintro e w' ⟨rfl, ⟨nd, rfl⟩⟩; refine ⟨_, rfl, ?_⟩) | (go_at_call 39; (with_reducible refine (impl_KeyOk.calls k _ _ l0_1 true _ ?side1 ?side2 A30.out).mono ?_); (case side1 => exact kcb); (case side2 => exact HC0_1.out); rintro e w' ⟨rfl, ⟨nd, rfl⟩⟩) | (go_at_call 40; (with_reducible refine (impl_isValue.calls _ _ l0_2 false _ ?side1 ?side2 A32.out).mono ?_); (case side1 => exact kcb); (case side2 => exact HC0_2.out); rintro e w' ⟨rfl, ⟨nd, rfl⟩⟩))
    go_ret
    exact ⟨rz_, bel⟩
   replace c31 := Bool.eq_false_iff.mpr c31
   subst c31
   have H1 : (some false) = some r := by rw [if_neg (show ¬ (false = true) by decide)] at H; exact H
   clear H
   have H := H1
   clear H1
   obtain rfl := Option.some.inj H
   go_enter Tryd.func10, Tryd.ntmps10
   go_wp2_with (first | ((with_reducible refine gate_dst (N := 1) rfl ?_); (try (refine gate_guard (by rfl) ?_; dsimp only)); refine bx_ 1 #[.int .i64 a0_0, .slice A0_1 l0_1.length c0_1, .slice A0_2 l0_2.length c0_2, .int .i64 a0_3] 24 (h := ?_); intro gb103 hg w38 hbox hb; have BK103 := Aside0.mk (hbox); have GW103 := Aside0.mk ((by rw [hg]; exact (below_size bel) : w.heap.size ≤ gb103)); have GE103 := GW103; replace HB := bst hb; clear hb hbox hg; obtain ⟨C39_0, C39_1, C39_2, C39_3, -⟩ := cells_4 BK103.out trivial; obtain ⟨F39_0, F39_1, F39_2, F39_3, -⟩ := frz_4 BK103.out) | ((with_reducible refine gate_callee (f := 38) rfl ?_); refine gl_ (some 29) Tryd.func38 #[.int .i64 a0_3, .int .i64 0, .int .i64 1000000] (h := ?_); (with_reducible refine (impl_within.calls a0_3 0 1000000 true _ A28.out).mono ?_); rintro e w' ⟨rfl, ⟨nd, rfl⟩⟩; refine ⟨_, rfl, ?_⟩) | (go_at_call 39; (with_reducible refine (impl_KeyOk.calls k _ _ l0_1 false _ ?side1 ?side2 A30.out).mono ?_); (case side1 => exact kcb); (case side2 => exact HC0_1.out); rintro e w' ⟨rfl, ⟨nd, rfl⟩⟩))
   go_ret
   exact ⟨rz_, bel⟩
  replace c29 := Bool.eq_false_iff.mpr c29
  subst c29
  have H1 : (some false) = some r := by rw [if_neg (show ¬ (false = true) by decide)] at H; exact H
  clear H
  have H := H1
  clear H1
  obtain rfl := Option.some.inj H
  go_enter Tryd.func10, Tryd.ntmps10
  go_wp2_with (first | ((with_reducible refine gate_dst (N := 1) rfl ?_); (try (refine gate_guard (by rfl) ?_; dsimp only)); refine bx_ 1 #[.int .i64 a0_0, .slice A0_1 l0_1.length c0_1, .slice A0_2 l0_2.length c0_2, .int .i64 a0_3] 24 (h := ?_); intro gb103 hg w40 hbox hb; have BK103 := Aside0.mk (hbox); have GW103 := Aside0.mk ((by rw [hg]; exact (below_size bel) : w.heap.size ≤ gb103)); have GE103 := GW103; replace HB := bst hb; clear hb hbox hg; obtain ⟨C41_0, C41_1, C41_2, C41_3, -⟩ := cells_4 BK103.out trivial; obtain ⟨F41_0, F41_1, F41_2, F41_3, -⟩ := frz_4 BK103.out) | ((with_reducible refine gate_callee (f := 38) rfl ?_); refine gl_ (some 29) Tryd.func38 #[.int .i64 a0_3, .int .i64 0, .int .i64 1000000] (h := ?_); (with_reducible refine (impl_within.calls a0_3 0 1000000 false _ A28.out).mono ?_); rintro e w' ⟨rfl, ⟨nd, rfl⟩⟩; refine ⟨_, rfl, ?_⟩))
  go_ret
  exact ⟨rz_, bel⟩
 rw [if_neg c27] at H
 have c27b0 : (a0_0 == 2) = false := beq_eq_false_iff_ne.mpr c27
 have c27b1 : (a0_0 != 2) = true := bne_iff_ne.mpr c27
 by_cases c42 : a0_0 = 3
 ·rw [if_pos c42] at H
  have c42b0 : (a0_0 == 3) = true := beq_iff_eq.mpr c42
  have c42b1 : (a0_0 != 3) = false := bne_eq_false_iff_eq.mpr c42
  clear c42
  replace H := Option.bind_eq_some_iff.mp H
  obtain ⟨t111, A430, H⟩ := H
  replace H : (if t111 = true then ((impl_KeyOk.f k l0_1).bind fun t112 => (if t112 = true then (some ((l0_2.length : Int) == 0)) else (some false))) else (some false)) = some r := H
  have A43 := Aside0.mk A430
  clear A430
  by_cases c44 : t111 = true
  ·subst c44
   have H1 : ((impl_KeyOk.f k l0_1).bind fun t112 => (if t112 = true then (some ((l0_2.length : Int) == 0)) else (some false))) = some r := by rw [if_pos rfl] at H; exact H
   clear H
   have H := H1
   clear H1
   replace H := Option.bind_eq_some_iff.mp H
   obtain ⟨t112, A450, H⟩ := H
   replace H : (if t112 = true then (some ((l0_2.length : Int) == 0)) else (some false)) = some r := H
   have A45 := Aside0.mk A450
   clear A450
   by_cases c46 : t112 = true
   ·subst c46
    have H1 : (some ((l0_2.length : Int) == 0)) = some r := by rw [if_pos rfl] at H; exact H
    clear H
    have H := H1
    clear H1
    obtain rfl := Option.some.inj H
    go_enter Tryd.func10, Tryd.ntmps10
    go_wp2_with (first | ((with_reducible refine gate_dst (N := 1) rfl ?_); (try (refine gate_guard (by rfl) ?_; dsimp only)); refine bx_ 1 #[.int .i64 a0_0, .slice A0_1 l0_1.length c0_1, .slice A0_2 l0_2.length c0_2, .int .i64 a0_3] 24 (h := ?_); intro gb103 hg w47 hbox hb; have BK103 := Aside0.mk (hbox); have GW103 := Aside0.mk ((by rw [hg]; exact (below_size bel) : w.heap.size ≤ gb103)); have GE103 := GW103; replace HB := bst hb; clear hb hbox hg; obtain ⟨C48_0, C48_1, C48_2, C48_3, -⟩ := cells_4 BK103.out trivial; obtain ⟨F48_0, F48_1, F48_2, F48_3, -⟩ := frz_4 BK103.out) | ((with_reducible refine gate_callee (f := 38) rfl ?_); refine gl_ (some 29) Tryd.func38 #[.int .i64 a0_3, .int .i64 0, .int .i64 0] (h := ?_); (with_reducible refine (impl_within.calls a0_3 0 0 true _ A43.out).mono ?_); rintro e w' ⟨rfl, ⟨nd, rfl⟩⟩; refine ⟨_, rfl, ?_⟩) | (go_at_call 39; (with_reducible refine (impl_KeyOk.calls k _ _ l0_1 true _ ?side1 ?side2 A45.out).mono ?_); (case side1 => exact kcb); (case side2 => exact HC0_1.out); rintro e w' ⟨rfl, ⟨nd, rfl⟩⟩))
    go_ret
    exact ⟨rz_, bel⟩
   replace c46 := Bool.eq_false_iff.mpr c46
   subst c46
   have H1 : (some false) = some r := by rw [if_neg (show ¬ (false = true) by decide)] at H; exact H
   clear H
   have H := H1
   clear H1
   obtain rfl := Option.some.inj H
   go_enter Tryd.func10, Tryd.ntmps10
   go_wp2_with (first | ((with_reducible refine gate_dst (N := 1) rfl ?_); (try (refine gate_guard (by rfl) ?_; dsimp only)); refine bx_ 1 #[.int .i64 a0_0, .slice A0_1 l0_1.length c0_1, .slice A0_2 l0_2.length c0_2, .int .i64 a0_3] 24 (h := ?_); intro gb103 hg w49 hbox hb; have BK103 := Aside0.mk (hbox); have GW103 := Aside0.mk ((by rw [hg]; exact (below_size bel) : w.heap.size ≤ gb103)); have GE103 := GW103; replace HB := bst hb; clear hb hbox hg; obtain ⟨C50_0, C50_1, C50_2, C50_3, -⟩ := cells_4 BK103.out trivial; obtain ⟨F50_0, F50_1, F50_2, F50_3, -⟩ := frz_4 BK103.out) | ((with_reducible refine gate_callee (f := 38) rfl ?_); refine gl_ (some 29) Tryd.func38 #[.int .i64 a0_3, .int .i64 0, .int .i64 0] (h := ?_); (with_reducible refine (impl_within.calls a0_3 0 0 true _ A43.out).mono ?_); rintro e w' ⟨rfl, ⟨nd, rfl⟩⟩; refine ⟨_, rfl, ?_⟩) | (go_at_call 39; (with_reducible refine (impl_KeyOk.calls k _ _ l0_1 false _ ?side1 ?side2 A45.out).mono ?_); (case side1 => exact kcb); (case side2 => exact HC0_1.out); rintro e w' ⟨rfl, ⟨nd, rfl⟩⟩))
   go_ret
   exact ⟨rz_, bel⟩
  replace c44 := Bool.eq_false_iff.mpr c44
  subst c44
  have H1 : (some false) = some r := by rw [if_neg (show ¬ (false = true) by decide)] at H; exact H
  clear H
  have H := H1
  clear H1
  obtain rfl := Option.some.inj H
  go_enter Tryd.func10, Tryd.ntmps10
  go_wp2_with (first | ((with_reducible refine gate_dst (N := 1) rfl ?_); (try (refine gate_guard (by rfl) ?_; dsimp only)); refine bx_ 1 #[.int .i64 a0_0, .slice A0_1 l0_1.length c0_1, .slice A0_2 l0_2.length c0_2, .int .i64 a0_3] 24 (h := ?_); intro gb103 hg w51 hbox hb; have BK103 := Aside0.mk (hbox); have GW103 := Aside0.mk ((by rw [hg]; exact (below_size bel) : w.heap.size ≤ gb103)); have GE103 := GW103; replace HB := bst hb; clear hb hbox hg; obtain ⟨C52_0, C52_1, C52_2, C52_3, -⟩ := cells_4 BK103.out trivial; obtain ⟨F52_0, F52_1, F52_2, F52_3, -⟩ := frz_4 BK103.out) | ((with_reducible refine gate_callee (f := 38) rfl ?_); refine gl_ (some 29) Tryd.func38 #[.int .i64 a0_3, .int .i64 0, .int .i64 0] (h := ?_); (with_reducible refine (impl_within.calls a0_3 0 0 false _ A43.out).mono ?_); rintro e w' ⟨rfl, ⟨nd, rfl⟩⟩; refine ⟨_, rfl, ?_⟩))
  go_ret
  exact ⟨rz_, bel⟩
 rw [if_neg c42] at H
 have c42b0 : (a0_0 == 3) = false := beq_eq_false_iff_ne.mpr c42
 have c42b1 : (a0_0 != 3) = true := bne_iff_ne.mpr c42
 by_cases c53 : a0_0 = 4
 ·rw [if_pos c53] at H
  have c53b0 : (a0_0 == 4) = true := beq_iff_eq.mpr c53
  have c53b1 : (a0_0 != 4) = false := bne_eq_false_iff_eq.mpr c53
  clear c53
  replace H := Option.bind_eq_some_iff.mp H
  obtain ⟨t113, A540, H⟩ := H
  replace H : (if t113 = true then (if (l0_1.length : Int) = 0 then (some ((l0_2.length : Int) == 0)) else (some false)) else (some false)) = some r := H
  have A54 := Aside0.mk A540
  clear A540
  by_cases c55 : t113 = true
  ·subst c55
   have H1 : (if (l0_1.length : Int) = 0 then (some ((l0_2.length : Int) == 0)) else (some false)) = some r := by rw [if_pos rfl] at H; exact H
   clear H
   have H := H1
   clear H1
   by_cases c56 : (l0_1.length : Int) = 0
   ·rw [if_pos c56] at H
    have c56b0 : ((l0_1.length : Int) == 0) = true := beq_iff_eq.mpr c56
    have c56b1 : ((l0_1.length : Int) != 0) = false := bne_eq_false_iff_eq.mpr c56
    clear c56
    obtain rfl := Option.some.inj H
    go_enter Tryd.func10, Tryd.ntmps10
    go_wp2_with (first | ((with_reducible refine gate_dst (N := 1) rfl ?_); (try (refine gate_guard (by rfl) ?_; dsimp only)); refine bx_ 1 #[.int .i64 a0_0, .slice A0_1 l0_1.length c0_1, .slice A0_2 l0_2.length c0_2, .int .i64 a0_3] 24 (h := ?_); intro gb103 hg w57 hbox hb; have BK103 := Aside0.mk (hbox); have GW103 := Aside0.mk ((by rw [hg]; exact (below_size bel) : w.heap.size ≤ gb103)); have GE103 := GW103; replace HB := bst hb; clear hb hbox hg; obtain ⟨C58_0, C58_1, C58_2, C58_3, -⟩ := cells_4 BK103.out trivial; obtain ⟨F58_0, F58_1, F58_2, F58_3, -⟩ := frz_4 BK103.out) | ((with_reducible refine gate_callee (f := 38) rfl ?_); refine gl_ (some 29) Tryd.func38 #[.int .i64 a0_3, .int .i64 0, .int .i64 1] (h := ?_); (with_reducible refine (impl_within.calls a0_3 0 1 true _ A54.out).mono ?_); rintro e w' ⟨rfl, ⟨nd, rfl⟩⟩; refine ⟨_, rfl, ?_⟩))
    go_ret
    exact ⟨rz_, bel⟩
   rw [if_neg c56] at H
   have c56b0 : ((l0_1.length : Int) == 0) = false := beq_eq_false_iff_ne.mpr c56
   have c56b1 : ((l0_1.length : Int) != 0) = true := bne_iff_ne.mpr c56
   have c56b2 : ¬ (l0_1 = []) := fun h_ => c56 (by rw [h_]; rfl)
   obtain rfl := Option.some.inj H
   go_enter Tryd.func10, Tryd.ntmps10
   go_wp2_with (first | ((with_reducible refine gate_dst (N := 1) rfl ?_); (try (refine gate_guard (by rfl) ?_; dsimp only)); refine bx_ 1 #[.int .i64 a0_0, .slice A0_1 l0_1.length c0_1, .slice A0_2 l0_2.length c0_2, .int .i64 a0_3] 24 (h := ?_); intro gb103 hg w59 hbox hb; have BK103 := Aside0.mk (hbox); have GW103 := Aside0.mk ((by rw [hg]; exact (below_size bel) : w.heap.size ≤ gb103)); have GE103 := GW103; replace HB := bst hb; clear hb hbox hg; obtain ⟨C60_0, C60_1, C60_2, C60_3, -⟩ := cells_4 BK103.out trivial; obtain ⟨F60_0, F60_1, F60_2, F60_3, -⟩ := frz_4 BK103.out) | ((with_reducible refine gate_callee (f := 38) rfl ?_); refine gl_ (some 29) Tryd.func38 #[.int .i64 a0_3, .int .i64 0, .int .i64 1] (h := ?_); (with_reducible refine (impl_within.calls a0_3 0 1 true _ A54.out).mono ?_); rintro e w' ⟨rfl, ⟨nd, rfl⟩⟩; refine ⟨_, rfl, ?_⟩))
   go_ret
   exact ⟨rz_, bel⟩
  replace c55 := Bool.eq_false_iff.mpr c55
  subst c55
  have H1 : (some false) = some r := by rw [if_neg (show ¬ (false = true) by decide)] at H; exact H
  clear H
  have H := H1
  clear H1
  obtain rfl := Option.some.inj H
  go_enter Tryd.func10, Tryd.ntmps10
  go_wp2_with (first | ((with_reducible refine gate_dst (N := 1) rfl ?_); (try (refine gate_guard (by rfl) ?_; dsimp only)); refine bx_ 1 #[.int .i64 a0_0, .slice A0_1 l0_1.length c0_1, .slice A0_2 l0_2.length c0_2, .int .i64 a0_3] 24 (h := ?_); intro gb103 hg w61 hbox hb; have BK103 := Aside0.mk (hbox); have GW103 := Aside0.mk ((by rw [hg]; exact (below_size bel) : w.heap.size ≤ gb103)); have GE103 := GW103; replace HB := bst hb; clear hb hbox hg; obtain ⟨C62_0, C62_1, C62_2, C62_3, -⟩ := cells_4 BK103.out trivial; obtain ⟨F62_0, F62_1, F62_2, F62_3, -⟩ := frz_4 BK103.out) | ((with_reducible refine gate_callee (f := 38) rfl ?_); refine gl_ (some 29) Tryd.func38 #[.int .i64 a0_3, .int .i64 0, .int .i64 1] (h := ?_); (with_reducible refine (impl_within.calls a0_3 0 1 false _ A54.out).mono ?_); rintro e w' ⟨rfl, ⟨nd, rfl⟩⟩; refine ⟨_, rfl, ?_⟩))
  go_ret
  exact ⟨rz_, bel⟩
 rw [if_neg c53] at H
 have c53b0 : (a0_0 == 4) = false := beq_eq_false_iff_ne.mpr c53
 have c53b1 : (a0_0 != 4) = true := bne_iff_ne.mpr c53
 by_cases c63 : a0_0 = 5
 ·rw [if_pos c63] at H
  have c63b0 : (a0_0 == 5) = true := beq_iff_eq.mpr c63
  have c63b1 : (a0_0 != 5) = false := bne_eq_false_iff_eq.mpr c63
  clear c63
  replace H := Option.bind_eq_some_iff.mp H
  obtain ⟨t114, A640, H⟩ := H
  replace H : (if t114 = true then (if (l0_1.length : Int) = 0 then (some ((l0_2.length : Int) == 0)) else (some false)) else (some false)) = some r := H
  have A64 := Aside0.mk A640
  clear A640
  by_cases c65 : t114 = true
  ·subst c65
   have H1 : (if (l0_1.length : Int) = 0 then (some ((l0_2.length : Int) == 0)) else (some false)) = some r := by rw [if_pos rfl] at H; exact H
   clear H
   have H := H1
   clear H1
   by_cases c66 : (l0_1.length : Int) = 0
   ·rw [if_pos c66] at H
    have c66b0 : ((l0_1.length : Int) == 0) = true := beq_iff_eq.mpr c66
    have c66b1 : ((l0_1.length : Int) != 0) = false := bne_eq_false_iff_eq.mpr c66
    clear c66
    obtain rfl := Option.some.inj H
    go_enter Tryd.func10, Tryd.ntmps10
    go_wp2_with (first | ((with_reducible refine gate_dst (N := 1) rfl ?_); (try (refine gate_guard (by rfl) ?_; dsimp only)); refine bx_ 1 #[.int .i64 a0_0, .slice A0_1 l0_1.length c0_1, .slice A0_2 l0_2.length c0_2, .int .i64 a0_3] 24 (h := ?_); intro gb103 hg w67 hbox hb; have BK103 := Aside0.mk (hbox); have GW103 := Aside0.mk ((by rw [hg]; exact (below_size bel) : w.heap.size ≤ gb103)); have GE103 := GW103; replace HB := bst hb; clear hb hbox hg; obtain ⟨C68_0, C68_1, C68_2, C68_3, -⟩ := cells_4 BK103.out trivial; obtain ⟨F68_0, F68_1, F68_2, F68_3, -⟩ := frz_4 BK103.out) | ((with_reducible refine gate_callee (f := 38) rfl ?_); refine gl_ (some 29) Tryd.func38 #[.int .i64 a0_3, .int .i64 1, .int .i64 1000000] (h := ?_); (with_reducible refine (impl_within.calls a0_3 1 1000000 true _ A64.out).mono ?_); rintro e w' ⟨rfl, ⟨nd, rfl⟩⟩; refine ⟨_, rfl, ?_⟩))
    go_ret
    exact ⟨rz_, bel⟩
   rw [if_neg c66] at H
   have c66b0 : ((l0_1.length : Int) == 0) = false := beq_eq_false_iff_ne.mpr c66
   have c66b1 : ((l0_1.length : Int) != 0) = true := bne_iff_ne.mpr c66
   have c66b2 : ¬ (l0_1 = []) := fun h_ => c66 (by rw [h_]; rfl)
   obtain rfl := Option.some.inj H
   go_enter Tryd.func10, Tryd.ntmps10
   go_wp2_with (first | ((with_reducible refine gate_dst (N := 1) rfl ?_); (try (refine gate_guard (by rfl) ?_; dsimp only)); refine bx_ 1 #[.int .i64 a0_0, .slice A0_1 l0_1.length c0_1, .slice A0_2 l0_2.length c0_2, .int .i64 a0_3] 24 (h := ?_); intro gb103 hg w69 hbox hb; have BK103 := Aside0.mk (hbox); have GW103 := Aside0.mk ((by rw [hg]; exact (below_size bel) : w.heap.size ≤ gb103)); have GE103 := GW103; replace HB := bst hb; clear hb hbox hg; obtain ⟨C70_0, C70_1, C70_2, C70_3, -⟩ := cells_4 BK103.out trivial; obtain ⟨F70_0, F70_1, F70_2, F70_3, -⟩ := frz_4 BK103.out) | ((with_reducible refine gate_callee (f := 38) rfl ?_); refine gl_ (some 29) Tryd.func38 #[.int .i64 a0_3, .int .i64 1, .int .i64 1000000] (h := ?_); (with_reducible refine (impl_within.calls a0_3 1 1000000 true _ A64.out).mono ?_); rintro e w' ⟨rfl, ⟨nd, rfl⟩⟩; refine ⟨_, rfl, ?_⟩))
   go_ret
   exact ⟨rz_, bel⟩
  replace c65 := Bool.eq_false_iff.mpr c65
  subst c65
  have H1 : (some false) = some r := by rw [if_neg (show ¬ (false = true) by decide)] at H; exact H
  clear H
  have H := H1
  clear H1
  obtain rfl := Option.some.inj H
  go_enter Tryd.func10, Tryd.ntmps10
  go_wp2_with (first | ((with_reducible refine gate_dst (N := 1) rfl ?_); (try (refine gate_guard (by rfl) ?_; dsimp only)); refine bx_ 1 #[.int .i64 a0_0, .slice A0_1 l0_1.length c0_1, .slice A0_2 l0_2.length c0_2, .int .i64 a0_3] 24 (h := ?_); intro gb103 hg w71 hbox hb; have BK103 := Aside0.mk (hbox); have GW103 := Aside0.mk ((by rw [hg]; exact (below_size bel) : w.heap.size ≤ gb103)); have GE103 := GW103; replace HB := bst hb; clear hb hbox hg; obtain ⟨C72_0, C72_1, C72_2, C72_3, -⟩ := cells_4 BK103.out trivial; obtain ⟨F72_0, F72_1, F72_2, F72_3, -⟩ := frz_4 BK103.out) | ((with_reducible refine gate_callee (f := 38) rfl ?_); refine gl_ (some 29) Tryd.func38 #[.int .i64 a0_3, .int .i64 1, .int .i64 1000000] (h := ?_); (with_reducible refine (impl_within.calls a0_3 1 1000000 false _ A64.out).mono ?_); rintro e w' ⟨rfl, ⟨nd, rfl⟩⟩; refine ⟨_, rfl, ?_⟩))
  go_ret
  exact ⟨rz_, bel⟩
 rw [if_neg c63] at H
 have c63b0 : (a0_0 == 5) = false := beq_eq_false_iff_ne.mpr c63
 have c63b1 : (a0_0 != 5) = true := bne_iff_ne.mpr c63
 by_cases c73 : a0_0 = 6
 ·rw [if_pos c73] at H
  have c73b0 : (a0_0 == 6) = true := beq_iff_eq.mpr c73
  have c73b1 : (a0_0 != 6) = false := bne_eq_false_iff_eq.mpr c73
  clear c73
  replace H := Option.bind_eq_some_iff.mp H
  obtain ⟨t115, A740, H⟩ := H
  replace H : (if t115 = true then ((impl_KeyOk.f k l0_1).bind fun t116 => (if t116 = true then ((impl_isValue.f l0_2).bind fun t117 => (if t117 = true then (some true) else (some false))) else (some false))) else (some false)) = some r := H
  have A74 := Aside0.mk A740
  clear A740
  by_cases c75 : t115 = true
  ·subst c75
   have H1 : ((impl_KeyOk.f k l0_1).bind fun t116 => (if t116 = true then ((impl_isValue.f l0_2).bind fun t117 => (if t117 = true then (some true) else (some false))) else (some false))) = some r := by rw [if_pos rfl] at H; exact H
   clear H
   have H := H1
   clear H1
   replace H := Option.bind_eq_some_iff.mp H
   obtain ⟨t116, A760, H⟩ := H
   replace H : (if t116 = true then ((impl_isValue.f l0_2).bind fun t117 => (if t117 = true then (some true) else (some false))) else (some false)) = some r := H
   have A76 := Aside0.mk A760
   clear A760
   by_cases c77 : t116 = true
   ·subst c77
    have H1 : ((impl_isValue.f l0_2).bind fun t117 => (if t117 = true then (some true) else (some false))) = some r := by rw [if_pos rfl] at H; exact H
    clear H
    have H := H1
    clear H1
    replace H := Option.bind_eq_some_iff.mp H
    obtain ⟨t117, A780, H⟩ := H
    replace H : (if t117 = true then (some true) else (some false)) = some r := H
    have A78 := Aside0.mk A780
    clear A780
    by_cases c79 : t117 = true
    ·subst c79
     have H1 : (some true) = some r := by rw [if_pos rfl] at H; exact H
     clear H
     have H := H1
     clear H1
     obtain rfl := Option.some.inj H
     go_enter Tryd.func10, Tryd.ntmps10
     go_wp2_with (first | ((with_reducible refine gate_dst (N := 1) rfl ?_); (try (refine gate_guard (by rfl) ?_; dsimp only)); refine bx_ 1 #[.int .i64 a0_0, .slice A0_1 l0_1.length c0_1, .slice A0_2 l0_2.length c0_2, .int .i64 a0_3] 24 (h := ?_); intro gb103 hg w80 hbox hb; have BK103 := Aside0.mk (hbox); have GW103 := Aside0.mk ((by rw [hg]; exact (below_size bel) : w.heap.size ≤ gb103)); have GE103 := GW103; replace HB := bst hb; clear hb hbox hg; obtain ⟨C81_0, C81_1, C81_2, C81_3, -⟩ := cells_4 BK103.out trivial; obtain ⟨F81_0, F81_1, F81_2, F81_3, -⟩ := frz_4 BK103.out) | ((with_reducible refine gate_callee (f := 38) rfl ?_); refine gl_ (some 29) Tryd.func38 #[.int .i64 a0_3, .int .i64 1, .int .i64 1000000] (h := ?_); (with_reducible refine (impl_within.calls a0_3 1 1000000 true _ A74.out).mono ?_); rintro e w' ⟨rfl, ⟨nd, rfl⟩⟩; refine ⟨_, rfl, ?_⟩) | (go_at_call 39; (with_reducible refine (impl_KeyOk.calls k _ _ l0_1 true _ ?side1 ?side2 A76.out).mono ?_); (case side1 => exact kcb); (case side2 => exact HC0_1.out); rintro e w' ⟨rfl, ⟨nd, rfl⟩⟩) | (go_at_call 40; (with_reducible refine (impl_isValue.calls _ _ l0_2 true _ ?side1 ?side2 A78.out).mono ?_); (case side1 => exact kcb); (case side2 => exact HC0_2.out); rintro e w' ⟨rfl, ⟨nd, rfl⟩⟩))
     go_ret
     exact ⟨rz_, bel⟩
    replace c79 := Bool.eq_false_iff.mpr c79
    subst c79
    have H1 : (some false) = some r := by rw [if_neg (show ¬ (false = true) by decide)] at H; exact H
    clear H
    have H := H1
    clear H1
    obtain rfl := Option.some.inj H
    go_enter Tryd.func10, Tryd.ntmps10
    go_wp2_with (first | ((with_reducible refine gate_dst (N := 1) rfl ?_); (try (refine gate_guard (by rfl) ?_; dsimp only)); refine bx_ 1 #[.int .i64 a0_0, .slice A0_1 l0_1.length c0_1, .slice A0_2 l0_2.length c0_2, .int .i64 a0_3] 24 (h := ?_); intro gb103 hg w82 hbox hb; have BK103 := Aside0.mk (hbox); have GW103 := Aside0.mk ((by rw [hg]; exact (below_size bel) : w.heap.size ≤ gb103)); have GE103 := GW103; replace HB := bst hb; clear hb hbox hg; obtain ⟨C83_0, C83_1, C83_2, C83_3, -⟩ := cells_4 BK103.out trivial; obtain ⟨F83_0, F83_1, F83_2, F83_3, -⟩ := frz_4 BK103.out) | ((with_reducible refine gate_callee (f := 38) rfl ?_); refine gl_ (some 29) Tryd.func38 #[.int .i64 a0_3, .int .i64 1, .int .i64 1000000] (h := ?_); (with_reducible refine (impl_within.calls a0_3 1 1000000 true _ A74.out).mono ?_); rintro e w' ⟨rfl, ⟨nd, rfl⟩⟩; refine ⟨_, rfl, ?_⟩) | (go_at_call 39; (with_reducible refine (impl_KeyOk.calls k _ _ l0_1 true _ ?side1 ?side2 A76.out).mono ?_); (case side1 => exact kcb); (case side2 => exact HC0_1.out); rintro e w' ⟨rfl, ⟨nd, rfl⟩⟩) | (go_at_call 40; (with_reducible refine (impl_isValue.calls _ _ l0_2 false _ ?side1 ?side2 A78.out).mono ?_); (case side1 => exact kcb); (case side2 => exact HC0_2.out); rintro e w' ⟨rfl, ⟨nd, rfl⟩⟩))
    go_ret
    exact ⟨rz_, bel⟩
   replace c77 := Bool.eq_false_iff.mpr c77
   subst c77
   have H1 : (some false) = some r := by rw [if_neg (show ¬ (false = true) by decide)] at H; exact H
   clear H
   have H := H1
   clear H1
   obtain rfl := Option.some.inj H
   go_enter Tryd.func10, Tryd.ntmps10
   go_wp2_with (first | ((with_reducible refine gate_dst (N := 1) rfl ?_); (try (refine gate_guard (by rfl) ?_; dsimp only)); refine bx_ 1 #[.int .i64 a0_0, .slice A0_1 l0_1.length c0_1, .slice A0_2 l0_2.length c0_2, .int .i64 a0_3] 24 (h := ?_); intro gb103 hg w84 hbox hb; have BK103 := Aside0.mk (hbox); have GW103 := Aside0.mk ((by rw [hg]; exact (below_size bel) : w.heap.size ≤ gb103)); have GE103 := GW103; replace HB := bst hb; clear hb hbox hg; obtain ⟨C85_0, C85_1, C85_2, C85_3, -⟩ := cells_4 BK103.out trivial; obtain ⟨F85_0, F85_1, F85_2, F85_3, -⟩ := frz_4 BK103.out) | ((with_reducible refine gate_callee (f := 38) rfl ?_); refine gl_ (some 29) Tryd.func38 #[.int .i64 a0_3, .int .i64 1, .int .i64 1000000] (h := ?_); (with_reducible refine (impl_within.calls a0_3 1 1000000 true _ A74.out).mono ?_); rintro e w' ⟨rfl, ⟨nd, rfl⟩⟩; refine ⟨_, rfl, ?_⟩) | (go_at_call 39; (with_reducible refine (impl_KeyOk.calls k _ _ l0_1 false _ ?side1 ?side2 A76.out).mono ?_); (case side1 => exact kcb); (case side2 => exact HC0_1.out); rintro e w' ⟨rfl, ⟨nd, rfl⟩⟩))
   go_ret
   exact ⟨rz_, bel⟩
  replace c75 := Bool.eq_false_iff.mpr c75
  subst c75
  have H1 : (some false) = some r := by rw [if_neg (show ¬ (false = true) by decide)] at H; exact H
  clear H
  have H := H1
  clear H1
  obtain rfl := Option.some.inj H
  go_enter Tryd.func10, Tryd.ntmps10
  go_wp2_with (first | ((with_reducible refine gate_dst (N := 1) rfl ?_); (try (refine gate_guard (by rfl) ?_; dsimp only)); refine bx_ 1 #[.int .i64 a0_0, .slice A0_1 l0_1.length c0_1, .slice A0_2 l0_2.length c0_2, .int .i64 a0_3] 24 (h := ?_); intro gb103 hg w86 hbox hb; have BK103 := Aside0.mk (hbox); have GW103 := Aside0.mk ((by rw [hg]; exact (below_size bel) : w.heap.size ≤ gb103)); have GE103 := GW103; replace HB := bst hb; clear hb hbox hg; obtain ⟨C87_0, C87_1, C87_2, C87_3, -⟩ := cells_4 BK103.out trivial; obtain ⟨F87_0, F87_1, F87_2, F87_3, -⟩ := frz_4 BK103.out) | ((with_reducible refine gate_callee (f := 38) rfl ?_); refine gl_ (some 29) Tryd.func38 #[.int .i64 a0_3, .int .i64 1, .int .i64 1000000] (h := ?_); (with_reducible refine (impl_within.calls a0_3 1 1000000 false _ A74.out).mono ?_); rintro e w' ⟨rfl, ⟨nd, rfl⟩⟩; refine ⟨_, rfl, ?_⟩))
  go_ret
  exact ⟨rz_, bel⟩
 rw [if_neg c73] at H
 have c73b0 : (a0_0 == 6) = false := beq_eq_false_iff_ne.mpr c73
 have c73b1 : (a0_0 != 6) = true := bne_iff_ne.mpr c73
 by_cases c88 : a0_0 = 7
 ·rw [if_pos c88] at H
  have c88b0 : (a0_0 == 7) = true := beq_iff_eq.mpr c88
  have c88b1 : (a0_0 != 7) = false := bne_eq_false_iff_eq.mpr c88
  clear c88
  replace H := Option.bind_eq_some_iff.mp H
  obtain ⟨t118, A890, H⟩ := H
  replace H : (if t118 = true then ((impl_KeyOk.f k l0_1).bind fun t119 => (if t119 = true then (some ((l0_2.length : Int) == 0)) else (some false))) else (some false)) = some r := H
  have A89 := Aside0.mk A890
  clear A890
  by_cases c90 : t118 = true
  ·subst c90
   have H1 : ((impl_KeyOk.f k l0_1).bind fun t119 => (if t119 = true then (some ((l0_2.length : Int) == 0)) else (some false))) = some r := by rw [if_pos rfl] at H; exact H
   clear H
   have H := H1
   clear H1
   replace H := Option.bind_eq_some_iff.mp H
   obtain ⟨t119, A910, H⟩ := H
   replace H : (if t119 = true then (some ((l0_2.length : Int) == 0)) else (some false)) = some r := H
   have A91 := Aside0.mk A910
   clear A910
   by_cases c92 : t119 = true
   ·subst c92
    have H1 : (some ((l0_2.length : Int) == 0)) = some r := by rw [if_pos rfl] at H; exact H
    clear H
    have H := H1
    clear H1
    obtain rfl := Option.some.inj H
    go_enter Tryd.func10, Tryd.ntmps10
    go_wp2_with (first | ((with_reducible refine gate_dst (N := 1) rfl ?_); (try (refine gate_guard (by rfl) ?_; dsimp only)); refine bx_ 1 #[.int .i64 a0_0, .slice A0_1 l0_1.length c0_1, .slice A0_2 l0_2.length c0_2, .int .i64 a0_3] 24 (h := ?_); intro gb103 hg w93 hbox hb; have BK103 := Aside0.mk (hbox); have GW103 := Aside0.mk ((by rw [hg]; exact (below_size bel) : w.heap.size ≤ gb103)); have GE103 := GW103; replace HB := bst hb; clear hb hbox hg; obtain ⟨C94_0, C94_1, C94_2, C94_3, -⟩ := cells_4 BK103.out trivial; obtain ⟨F94_0, F94_1, F94_2, F94_3, -⟩ := frz_4 BK103.out) | ((with_reducible refine gate_callee (f := 38) rfl ?_); refine gl_ (some 29) Tryd.func38 #[.int .i64 a0_3, .int .i64 1, .int .i64 1000000] (h := ?_); (with_reducible refine (impl_within.calls a0_3 1 1000000 true _ A89.out).mono ?_); rintro e w' ⟨rfl, ⟨nd, rfl⟩⟩; refine ⟨_, rfl, ?_⟩) | (go_at_call 39; (with_reducible refine (impl_KeyOk.calls k _ _ l0_1 true _ ?side1 ?side2 A91.out).mono ?_); (case side1 => exact kcb); (case side2 => exact HC0_1.out); rintro e w' ⟨rfl, ⟨nd, rfl⟩⟩))
    go_ret
    exact ⟨rz_, bel⟩
   replace c92 := Bool.eq_false_iff.mpr c92
   subst c92
   have H1 : (some false) = some r := by rw [if_neg (show ¬ (false = true) by decide)] at H; exact H
   clear H
   have H := H1
   clear H1
   obtain rfl := Option.some.inj H
   go_enter Tryd.func10, Tryd.ntmps10
   go_wp2_with (first | ((with_reducible refine gate_dst (N := 1) rfl ?_); (try (refine gate_guard (by rfl) ?_; dsimp only)); refine bx_ 1 #[.int .i64 a0_0, .slice A0_1 l0_1.length c0_1, .slice A0_2 l0_2.length c0_2, .int .i64 a0_3] 24 (h := ?_); intro gb103 hg w95 hbox hb; have BK103 := Aside0.mk (hbox); have GW103 := Aside0.mk ((by rw [hg]; exact (below_size bel) : w.heap.size ≤ gb103)); have GE103 := GW103; replace HB := bst hb; clear hb hbox hg; obtain ⟨C96_0, C96_1, C96_2, C96_3, -⟩ := cells_4 BK103.out trivial; obtain ⟨F96_0, F96_1, F96_2, F96_3, -⟩ := frz_4 BK103.out) | ((with_reducible refine gate_callee (f := 38) rfl ?_); refine gl_ (some 29) Tryd.func38 #[.int .i64 a0_3, .int .i64 1, .int .i64 1000000] (h := ?_); (with_reducible refine (impl_within.calls a0_3 1 1000000 true _ A89.out).mono ?_); rintro e w' ⟨rfl, ⟨nd, rfl⟩⟩; refine ⟨_, rfl, ?_⟩) | (go_at_call 39; (with_reducible refine (impl_KeyOk.calls k _ _ l0_1 false _ ?side1 ?side2 A91.out).mono ?_); (case side1 => exact kcb); (case side2 => exact HC0_1.out); rintro e w' ⟨rfl, ⟨nd, rfl⟩⟩))
   go_ret
   exact ⟨rz_, bel⟩
  replace c90 := Bool.eq_false_iff.mpr c90
  subst c90
  have H1 : (some false) = some r := by rw [if_neg (show ¬ (false = true) by decide)] at H; exact H
  clear H
  have H := H1
  clear H1
  obtain rfl := Option.some.inj H
  go_enter Tryd.func10, Tryd.ntmps10
  go_wp2_with (first | ((with_reducible refine gate_dst (N := 1) rfl ?_); (try (refine gate_guard (by rfl) ?_; dsimp only)); refine bx_ 1 #[.int .i64 a0_0, .slice A0_1 l0_1.length c0_1, .slice A0_2 l0_2.length c0_2, .int .i64 a0_3] 24 (h := ?_); intro gb103 hg w97 hbox hb; have BK103 := Aside0.mk (hbox); have GW103 := Aside0.mk ((by rw [hg]; exact (below_size bel) : w.heap.size ≤ gb103)); have GE103 := GW103; replace HB := bst hb; clear hb hbox hg; obtain ⟨C98_0, C98_1, C98_2, C98_3, -⟩ := cells_4 BK103.out trivial; obtain ⟨F98_0, F98_1, F98_2, F98_3, -⟩ := frz_4 BK103.out) | ((with_reducible refine gate_callee (f := 38) rfl ?_); refine gl_ (some 29) Tryd.func38 #[.int .i64 a0_3, .int .i64 1, .int .i64 1000000] (h := ?_); (with_reducible refine (impl_within.calls a0_3 1 1000000 false _ A89.out).mono ?_); rintro e w' ⟨rfl, ⟨nd, rfl⟩⟩; refine ⟨_, rfl, ?_⟩))
  go_ret
  exact ⟨rz_, bel⟩
 rw [if_neg c88] at H
 have c88b0 : (a0_0 == 7) = false := beq_eq_false_iff_ne.mpr c88
 have c88b1 : (a0_0 != 7) = true := bne_iff_ne.mpr c88
 obtain rfl := Option.some.inj H
 go_enter Tryd.func10, Tryd.ntmps10
 go_wp2_with (first | ((with_reducible refine gate_dst (N := 1) rfl ?_); (try (refine gate_guard (by rfl) ?_; dsimp only)); refine bx_ 1 #[.int .i64 a0_0, .slice A0_1 l0_1.length c0_1, .slice A0_2 l0_2.length c0_2, .int .i64 a0_3] 24 (h := ?_); intro gb103 hg w99 hbox hb; have BK103 := Aside0.mk (hbox); have GW103 := Aside0.mk ((by rw [hg]; exact (below_size bel) : w.heap.size ≤ gb103)); have GE103 := GW103; replace HB := bst hb; clear hb hbox hg; obtain ⟨C100_0, C100_1, C100_2, C100_3, -⟩ := cells_4 BK103.out trivial; obtain ⟨F100_0, F100_1, F100_2, F100_3, -⟩ := frz_4 BK103.out))
 go_ret
 exact ⟨rz_, bel⟩

/-! ### impl_opNames: function 43 -/
def impl_opNames.f  : Option (List ByteArray) := some (([(⟨#[110, 111, 110, 101]⟩ : ByteArray), (⟨#[115, 101, 116]⟩ : ByteArray), (⟨#[99, 97, 115]⟩ : ByteArray), (⟨#[100, 101, 108]⟩ : ByteArray), (⟨#[111, 112, 101, 110]⟩ : ByteArray), (⟨#[115, 104, 117, 116]⟩ : ByteArray), (⟨#[116, 97, 107, 101]⟩ : ByteArray), (⟨#[102, 114, 101, 101]⟩ : ByteArray)] : List ByteArray))
set_option maxHeartbeats 8000000 in
set_option maxRecDepth 100000 in
theorem impl_opNames.calls  (r : List ByteArray) (w : World) (h : impl_opNames.f  = some r) :
  Calls Tryd.prog 43 #[] w fun e w' => ∃ v0_ : Value, e = .returned (v0_) ∧ Kd.R Kd.string 9 w' w.heap.size (fun _ => True) v0_ r ∧ Below w.heap.size w w' := by
 have HB := Aside0.mk (Below.refl w.heap.size w)
 have H : (some (([(⟨#[110, 111, 110, 101]⟩ : ByteArray), (⟨#[115, 101, 116]⟩ : ByteArray), (⟨#[99, 97, 115]⟩ : ByteArray), (⟨#[100, 101, 108]⟩ : ByteArray), (⟨#[111, 112, 101, 110]⟩ : ByteArray), (⟨#[115, 104, 117, 116]⟩ : ByteArray), (⟨#[116, 97, 107, 101]⟩ : ByteArray), (⟨#[102, 114, 101, 101]⟩ : ByteArray)] : List ByteArray))) = some r := h
 clear h
 obtain ⟨y120, hy120⟩ : ∃ y_ : List ByteArray, y_ = (([(⟨#[110, 111, 110, 101]⟩ : ByteArray), (⟨#[115, 101, 116]⟩ : ByteArray), (⟨#[99, 97, 115]⟩ : ByteArray), (⟨#[100, 101, 108]⟩ : ByteArray), (⟨#[111, 112, 101, 110]⟩ : ByteArray), (⟨#[115, 104, 117, 116]⟩ : ByteArray), (⟨#[116, 97, 107, 101]⟩ : ByteArray), (⟨#[102, 114, 101, 101]⟩ : ByteArray)] : List ByteArray)) := ⟨_, rfl⟩
 replace H : (some y120) = some r := by first | (rw [hy120]; with_reducible exact H) | (have H2_ := (Option.bind_some _ _).symm.trans H; rw [hy120]; with_reducible exact H2_) | (have H2_ := (Option.bind_some _ _).symm.trans H; with_reducible exact H2_) | with_reducible exact H | (rw [hy120]; exact H) | exact H
 have Ny120 := Aside0.mk hy120
 clear hy120
 obtain rfl := Option.some.inj H
 go_enter Tryd.func43, Tryd.ntmps43
 go_wp2_with (first | ((with_reducible refine gate_dst (N := 1) rfl ?_); refine Kd.R_lit Kd.string _ 9 ?hg (N := 1) ?hd (xs := ([(⟨#[110, 111, 110, 101]⟩ : ByteArray), (⟨#[115, 101, 116]⟩ : ByteArray), (⟨#[99, 97, 115]⟩ : ByteArray), (⟨#[100, 101, 108]⟩ : ByteArray), (⟨#[111, 112, 101, 110]⟩ : ByteArray), (⟨#[115, 104, 117, 116]⟩ : ByteArray), (⟨#[116, 97, 107, 101]⟩ : ByteArray), (⟨#[102, 114, 101, 101]⟩ : ByteArray)] : List ByteArray)) (inner := [.string (⟨#[110, 111, 110, 101]⟩ : ByteArray), .string (⟨#[115, 101, 116]⟩ : ByteArray), .string (⟨#[99, 97, 115]⟩ : ByteArray), .string (⟨#[100, 101, 108]⟩ : ByteArray), .string (⟨#[111, 112, 101, 110]⟩ : ByteArray), .string (⟨#[115, 104, 117, 116]⟩ : ByteArray), .string (⟨#[116, 97, 107, 101]⟩ : ByteArray), .string (⟨#[102, 114, 101, 101]⟩ : ByteArray)]) (ok := fun _ => True) (okp := fun _ => True) ?hr ?hp (fun _ hk => hk) trivial (Below.refl _ _) (Nat.le_refl _) (by simp) ?_; (case hd => rfl); (case hg => rfl); (case hr => first | (go_simp; done) | (go_simp; rfl)); (case hp => exact (Reps.one (show Kd.M Kd.string _ _ _ (⟨#[110, 111, 110, 101]⟩ : ByteArray) [.string (⟨#[110, 111, 110, 101]⟩ : ByteArray)] from rfl) (Reps.one (show Kd.M Kd.string _ _ _ (⟨#[115, 101, 116]⟩ : ByteArray) [.string (⟨#[115, 101, 116]⟩ : ByteArray)] from rfl) (Reps.one (show Kd.M Kd.string _ _ _ (⟨#[99, 97, 115]⟩ : ByteArray) [.string (⟨#[99, 97, 115]⟩ : ByteArray)] from rfl) (Reps.one (show Kd.M Kd.string _ _ _ (⟨#[100, 101, 108]⟩ : ByteArray) [.string (⟨#[100, 101, 108]⟩ : ByteArray)] from rfl) (Reps.one (show Kd.M Kd.string _ _ _ (⟨#[111, 112, 101, 110]⟩ : ByteArray) [.string (⟨#[111, 112, 101, 110]⟩ : ByteArray)] from rfl) (Reps.one (show Kd.M Kd.string _ _ _ (⟨#[115, 104, 117, 116]⟩ : ByteArray) [.string (⟨#[115, 104, 117, 116]⟩ : ByteArray)] from rfl) (Reps.one (show Kd.M Kd.string _ _ _ (⟨#[116, 97, 107, 101]⟩ : ByteArray) [.string (⟨#[116, 97, 107, 101]⟩ : ByteArray)] from rfl) (Reps.one (show Kd.M Kd.string _ _ _ (⟨#[102, 114, 101, 101]⟩ : ByteArray) [.string (⟨#[102, 114, 101, 101]⟩ : ByteArray)] from rfl) (Reps.none _ _)))))))))); intro v121 w1 ho2 hb hg_ hnew_; clear hg_ hnew_; (first | rw [← Ny120.out] at ho2 | (simp only [Int.reduceToNat] at ho2; rw [← Ny120.out] at ho2)); have HO122 := Aside0.mk (Kd.R_lower ho2 (below_size bel)); replace HB := bst hb; clear hb ho2))
 go_ret
 exact ⟨_, rz_, by (with_reducible repeat (first | apply Kd.R_alloc | apply Kd.R_drewN | apply Kd.R_drew)); exact HO122.out, bel⟩

/-! ### impl_OpName: function 30 -/
def impl_OpName.f (a0 : Int) : Option (List Int) := (impl_within.f a0 0 7).bind fun b => if b = true then (impl_opNames.f).bind fun l => if 0 ≤ a0 then (if a0 < (l.length : Int) then (if (rdOf ByteArray.empty l a0).size ≤ 1000000 then some ((rdOf ByteArray.empty l a0).data.toList.map (fun b => (b.toNat : Int))) else none) else none) else none else some []
set_option maxHeartbeats 8000000 in
set_option maxRecDepth 100000 in
theorem impl_OpName.calls (a0 : Int) (r : List Int) (w : World) (h : impl_OpName.f a0 = some r) :
  Calls Tryd.prog 30 #[.int .i64 a0] w fun e w' => ∃ v0_ : Value, e = .returned (v0_) ∧ Kd.V (Kd.int .u8) 5 w' w.heap.size (fun k_ => (w.heap.size ≤ k_)) v0_ r ∧ Below w.heap.size w w' := by
 have HB := Aside0.mk (Below.refl w.heap.size w)
 unfold impl_OpName.f at h
 have hcv := fun (w : World) (s : ByteArray) => Lib.run_convert_string_bytes (P := Tryd.prog) w 9 22 5 s Tryd.underlying9 Tryd.underlying22 Tryd.underlying5
 obtain ⟨b, h1, h⟩ := Option.bind_eq_some_iff.mp h
 have A1 := Aside0.mk h1
 clear h1
 cases b with
 | false =>
  obtain rfl := Option.some.inj h
  clear h
  go_enter Tryd.func30, Tryd.ntmps30
  go_wp2_with (first | ((with_reducible refine gate_callee (f := 38) rfl ?_); refine gl_ (some 4) Tryd.func38 #[.int .i64 a0, .int .i64 0, .int .i64 7] (h := ?_); (with_reducible refine (impl_within.calls a0 0 7 false _ A1.out).mono ?_); rintro e w' ⟨rfl, ⟨nd, rfl⟩⟩; refine ⟨_, rfl, ?_⟩))
  go_ret
  exact ⟨_, rfl, Kd.V_nil _ _ _ _ _, bel⟩
 | true =>
  rw [if_pos rfl] at h
  obtain ⟨l, h2, h⟩ := Option.bind_eq_some_iff.mp h
  have A2 := Aside0.mk h2
  clear h2
  by_cases c1 : 0 ≤ a0
  ·rw [if_pos c1] at h
   by_cases c2 : a0 < (l.length : Int)
   ·rw [if_pos c2] at h
    by_cases c3 : (rdOf ByteArray.empty l a0).size ≤ 1000000
    ·rw [if_pos c3] at h
     obtain rfl := Option.some.inj h
     have A3 := Aside0.mk c3
     have A4 := Aside0.mk c1
     have A5 := Aside0.mk c2
     clear h c1 c2 c3
     go_enter Tryd.func30, Tryd.ntmps30
     go_wp2_with (first | ((with_reducible refine gate_callee (f := 38) rfl ?_); refine gl_ (some 4) Tryd.func38 #[.int .i64 a0, .int .i64 0, .int .i64 7] (h := ?_); (with_reducible refine (impl_within.calls a0 0 7 true _ A1.out).mono ?_); rintro e w' ⟨rfl, ⟨nd, rfl⟩⟩; refine ⟨_, rfl, ?_⟩) | ((with_reducible refine gate_callee (f := 43) rfl ?_); refine gl_ (some 6) Tryd.func43 #[] (h := ?_); (with_reducible refine (impl_opNames.calls l _ A2.out).mono ?_); rintro e w1 ⟨v, rfl, ho0, hb⟩; refine ⟨_, rfl, ?_⟩; replace HB := bst hb; have HS := Aside0.mk HB.out.size; obtain ⟨Ao, co, eo⟩ := Kd.R_slice ho0; subst eo; have HO := Aside0.mk ho0; clear ho0 hb; have p1 := A4.out; have q1 := A5.out; obtain ⟨ad, ea, hx⟩ := Kd.at_string (Kd.R_reads' HO.out).2.2 a0 p1 q1; cases ea; replace p1 := eq_true p1; replace q1 := eq_true q1))
     go_ret
     exact ⟨_, rfl, Kd.V_mono (Kd.V_lower (Kd.V_bytes _ _ A3.out) HS.out) (fun _ hk => Nat.le_trans HS.out hk), (bst (RM_bel _ _ _)).out⟩
    rw [if_neg c3] at h
    exact absurd h (by simp)
   rw [if_neg c2] at h
   exact absurd h (by simp)
  rw [if_neg c1] at h
  exact absurd h (by simp)

/-! ### impl_parts: function 31 -/
def impl_parts.f (a0 : Int) : Option (ByteArray) := (some (([(⟨#[]⟩ : ByteArray), (⟨#[107, 118]⟩ : ByteArray), (⟨#[107, 118, 110]⟩ : ByteArray), (⟨#[107]⟩ : ByteArray), (⟨#[110]⟩ : ByteArray), (⟨#[110]⟩ : ByteArray), (⟨#[107, 118, 110]⟩ : ByteArray), (⟨#[107, 110]⟩ : ByteArray)] : List ByteArray) : List ByteArray)).bind fun y123 => (if 0 ≤ a0 then (if a0 < (y123.length : Int) then (some (rdOf ByteArray.empty y123 a0)) else (none)) else (none))
set_option maxHeartbeats 8000000 in
set_option maxRecDepth 100000 in
theorem impl_parts.calls (a0 : Int) (r : ByteArray) (w : World) (h : impl_parts.f a0 = some r) :
  Calls Tryd.prog 31 #[.int .i64 a0] w fun e w' => e = .returned (.string r) ∧ Below w.heap.size w w' := by
 have HB := Aside0.mk (Below.refl w.heap.size w)
 have H : ((some (([(⟨#[]⟩ : ByteArray), (⟨#[107, 118]⟩ : ByteArray), (⟨#[107, 118, 110]⟩ : ByteArray), (⟨#[107]⟩ : ByteArray), (⟨#[110]⟩ : ByteArray), (⟨#[110]⟩ : ByteArray), (⟨#[107, 118, 110]⟩ : ByteArray), (⟨#[107, 110]⟩ : ByteArray)] : List ByteArray) : List ByteArray)).bind fun y123 => (if 0 ≤ a0 then (if a0 < (y123.length : Int) then (some (rdOf ByteArray.empty y123 a0)) else (none)) else (none))) = some r := h
 clear h
 obtain ⟨y123, hy123⟩ : ∃ y_ : List ByteArray, y_ = (([(⟨#[]⟩ : ByteArray), (⟨#[107, 118]⟩ : ByteArray), (⟨#[107, 118, 110]⟩ : ByteArray), (⟨#[107]⟩ : ByteArray), (⟨#[110]⟩ : ByteArray), (⟨#[110]⟩ : ByteArray), (⟨#[107, 118, 110]⟩ : ByteArray), (⟨#[107, 110]⟩ : ByteArray)] : List ByteArray)) := ⟨_, rfl⟩
 replace H : (if 0 ≤ a0 then (if a0 < (y123.length : Int) then (some (rdOf ByteArray.empty y123 a0)) else (none)) else (none)) = some r := by first | (rw [hy123]; with_reducible exact H) | (have H2_ := (Option.bind_some _ _).symm.trans H; rw [hy123]; with_reducible exact H2_) | (have H2_ := (Option.bind_some _ _).symm.trans H; with_reducible exact H2_) | with_reducible exact H | (rw [hy123]; exact H) | exact H
 have Ny123 := Aside0.mk hy123
 clear hy123
 by_cases c2 : 0 ≤ a0
 ·rw [if_pos c2] at H
  have c2b0 : decide (0 ≤ a0) = true := decide_eq_true c2
  clear c2
  by_cases c3 : a0 < (y123.length : Int)
  ·rw [if_pos c3] at H
   have c3b0 : decide (a0 < (y123.length : Int)) = true := decide_eq_true c3
   clear c3
   obtain rfl := Option.some.inj H
   go_enter Tryd.func31, Tryd.ntmps31
   go_wp2_with (first | ((with_reducible refine gate_dst (N := 3) rfl ?_); refine Kd.R_lit Kd.string _ 9 ?hg (N := 3) ?hd (xs := ([(⟨#[]⟩ : ByteArray), (⟨#[107, 118]⟩ : ByteArray), (⟨#[107, 118, 110]⟩ : ByteArray), (⟨#[107]⟩ : ByteArray), (⟨#[110]⟩ : ByteArray), (⟨#[110]⟩ : ByteArray), (⟨#[107, 118, 110]⟩ : ByteArray), (⟨#[107, 110]⟩ : ByteArray)] : List ByteArray)) (inner := [.string (⟨#[]⟩ : ByteArray), .string (⟨#[107, 118]⟩ : ByteArray), .string (⟨#[107, 118, 110]⟩ : ByteArray), .string (⟨#[107]⟩ : ByteArray), .string (⟨#[110]⟩ : ByteArray), .string (⟨#[110]⟩ : ByteArray), .string (⟨#[107, 118, 110]⟩ : ByteArray), .string (⟨#[107, 110]⟩ : ByteArray)]) (ok := fun _ => True) (okp := fun _ => True) ?hr ?hp (fun _ hk => hk) trivial (Below.refl _ _) (Nat.le_refl _) (by simp) ?_; (case hd => rfl); (case hg => rfl); (case hr => first | (go_simp; done) | (go_simp; rfl)); (case hp => exact (Reps.one (show Kd.M Kd.string _ _ _ (⟨#[]⟩ : ByteArray) [.string (⟨#[]⟩ : ByteArray)] from rfl) (Reps.one (show Kd.M Kd.string _ _ _ (⟨#[107, 118]⟩ : ByteArray) [.string (⟨#[107, 118]⟩ : ByteArray)] from rfl) (Reps.one (show Kd.M Kd.string _ _ _ (⟨#[107, 118, 110]⟩ : ByteArray) [.string (⟨#[107, 118, 110]⟩ : ByteArray)] from rfl) (Reps.one (show Kd.M Kd.string _ _ _ (⟨#[107]⟩ : ByteArray) [.string (⟨#[107]⟩ : ByteArray)] from rfl) (Reps.one (show Kd.M Kd.string _ _ _ (⟨#[110]⟩ : ByteArray) [.string (⟨#[110]⟩ : ByteArray)] from rfl) (Reps.one (show Kd.M Kd.string _ _ _ (⟨#[110]⟩ : ByteArray) [.string (⟨#[110]⟩ : ByteArray)] from rfl) (Reps.one (show Kd.M Kd.string _ _ _ (⟨#[107, 118, 110]⟩ : ByteArray) [.string (⟨#[107, 118, 110]⟩ : ByteArray)] from rfl) (Reps.one (show Kd.M Kd.string _ _ _ (⟨#[107, 110]⟩ : ByteArray) [.string (⟨#[107, 110]⟩ : ByteArray)] from rfl) (Reps.none _ _)))))))))); intro v124 w4 ho5 hb hg_ hnew_; clear hg_ hnew_; (first | rw [← Ny123.out] at ho5 | (simp only [Int.reduceToNat] at ho5; rw [← Ny123.out] at ho5)); have HO125 := Aside0.mk (Kd.R_lower ho5 (below_size bel)); replace HB := bst hb; clear hb ho5; obtain ⟨Ao6, co6, eo6⟩ := Kd.R_slice HO125.out; subst eo6; have p126 : 0 ≤ (a0 : Int) := od; have q126 : a0 < (y123.length : Int) := od; obtain ⟨ad126, e126, hx126_0⟩ := Kd.at_string (Kd.R_reads' HO125.out).2.2 a0 p126 q126; cases e126; replace p126 := eq_true p126; replace q126 := eq_true q126))
   go_ret
   exact ⟨rz_, bel⟩
  rw [if_neg c3] at H
  exact absurd H (by simp)
 rw [if_neg c2] at H
 exact absurd H (by simp)

/-! ### impl_isBare: function 57 -/
def impl_isBare.f (a0 : Int) : Option (Bool) := if a0 ≥ 32 then (if a0 ≤ 126 then (if a0 = 34 then (some false) else (some (a0 != 37))) else (some false)) else (some false)
set_option maxHeartbeats 8000000 in
set_option maxRecDepth 100000 in
theorem impl_isBare.calls (a0 : Int) (r : Bool) (w : World) (h : impl_isBare.f a0 = some r) :
  Calls Tryd.prog 57 #[.int .u8 a0] w fun e w' => e = .returned (.bool r) ∧ Drawn0 w w' := by
 have H : (if a0 ≥ 32 then (if a0 ≤ 126 then (if a0 = 34 then (some false) else (some (a0 != 37))) else (some false)) else (some false)) = some r := h
 clear h
 by_cases c2 : a0 ≥ 32
 ·rw [if_pos c2] at H
  have c2b0 : decide (32 ≤ a0) = true := decide_eq_true c2
  clear c2
  by_cases c3 : a0 ≤ 126
  ·rw [if_pos c3] at H
   have c3b0 : decide (a0 ≤ 126) = true := decide_eq_true c3
   clear c3
   by_cases c4 : a0 = 34
   ·rw [if_pos c4] at H
    have c4b0 : (a0 == 34) = true := beq_iff_eq.mpr c4
    have c4b1 : (a0 != 34) = false := bne_eq_false_iff_eq.mpr c4
    clear c4
    obtain rfl := Option.some.inj H
    go_enter Tryd.func57, Tryd.ntmps57
    go_wp2
    go_ret
    exact ⟨by first | rfl | (simp; done) | (simp [*]; done), by repeat (first | exact Drawn0.refl _ | apply Drawn0.step)⟩
   rw [if_neg c4] at H
   have c4b0 : (a0 == 34) = false := beq_eq_false_iff_ne.mpr c4
   have c4b1 : (a0 != 34) = true := bne_iff_ne.mpr c4
   obtain rfl := Option.some.inj H
   go_enter Tryd.func57, Tryd.ntmps57
   go_wp2
   go_ret
   exact ⟨by first | rfl | (simp; done) | (simp [*]; done), by repeat (first | exact Drawn0.refl _ | apply Drawn0.step)⟩
  rw [if_neg c3] at H
  have c3b0 : decide (a0 ≤ 126) = false := decide_eq_false c3
  clear c3
  obtain rfl := Option.some.inj H
  go_enter Tryd.func57, Tryd.ntmps57
  go_wp2
  go_ret
  exact ⟨by first | rfl | (simp; done) | (simp [*]; done), by repeat (first | exact Drawn0.refl _ | apply Drawn0.step)⟩
 rw [if_neg c2] at H
 have c2b0 : decide (32 ≤ a0) = false := decide_eq_false c2
 clear c2
 obtain rfl := Option.some.inj H
 go_enter Tryd.func57, Tryd.ntmps57
 go_wp2
 go_ret
 exact ⟨by first | rfl | (simp; done) | (simp [*]; done), by repeat (first | exact Drawn0.refl _ | apply Drawn0.step)⟩

end Go.Proofs.YtmnjdmmljkahgaaDoor.PE
