-- Written for this claim by the session's program pp.py, out of the kit's print and the seat's translation.
import Derived.Test.YtmnjdmmljkahgaaDoorPRx0
import Derived.Test.YtmnjdmmljkahgaaDoorShelf
import Derived.Lib.SlFresh
import Derived.Lib.AppendIntMem
import Derived.Lib.SmallJoins
import Derived.Laws.CopyRow
import Derived.Laws.Tables
namespace Go.Proofs.YtmnjdmmljkahgaaDoor.PR
open Go.RowKit Go.Proofs.YtmnjdmmljkahgaaDoorW.PrintWords Go.Proofs.YtmnjdmmljkahgaaDoorW.PrintLast Go.Proofs.YtmnjdmmljkahgaaDoorW.PrintMore
attribute [local go_sem] max2_int min2_int max_two min_two max_three min_three max_four min_four   -- for this text's walks alone
set_option linter.unusedVariables false
set_option linter.unusedSimpArgs false

/-- A row of bytes of the call's own, told cell by cell (whatever mark its block bears), or no row. -/
def RM (w : World) (base : Nat) (v : Value) (l : List Int) : Prop :=
  (v = .slice none 0 0 ∧ l = []) ∨ ∃ (g cap : Nat), v = .slice (some ⟨g, 0, none⟩) l.length cap ∧ l.length ≤ cap ∧ l.length ≤ 9223372036854775807 ∧ base ≤ g ∧ g < w.heap.size ∧ ∀ (j : Nat) (x : Int), l[j]? = some x → w.cell? ⟨g, j, none⟩ = some (.int .u8 x) ∧ w.frozen? ⟨g, j, none⟩ = false
theorem RM_nil (w : World) (base : Nat) : RM w base (.slice none 0 0) [] := .inl ⟨rfl, rfl⟩
theorem RM_same {w w1 : World} {g : Nat} (h : w1.heap[g]? = w.heap[g]?) (j : Nat) : w1.cell? ⟨g, j, none⟩ = w.cell? ⟨g, j, none⟩ ∧ w1.frozen? ⟨g, j, none⟩ = w.frozen? ⟨g, j, none⟩ := by
  constructor
  · simp only [World.cell?, h]
  · simp only [World.frozen?, h]
theorem RM_move {w w1 : World} {base : Nat} {v : Value} {l : List Int} (h : RM w base v l) (hs : w.heap.size ≤ w1.heap.size) (hm : ∀ k, v.ownBlock = some k → base ≤ k → k < w.heap.size → w1.heap[k]? = w.heap[k]?) : RM w1 base v l := by
  rcases h with h | ⟨g, cap, h1, h2, h3, h4, h5, h6⟩
  · exact .inl h
  · have hg := hm g (by rw [h1]; simp [Value.ownBlock]) h4 h5
    refine .inr ⟨g, cap, h1, h2, h3, h4, Nat.lt_of_lt_of_le h5 hs, fun j x hj => ?_⟩
    have e := RM_same hg j
    rw [e.1, e.2]
    exact h6 j x hj
theorem RM_below {w w1 : World} {base : Nat} {v : Value} {l : List Int} (h : RM w base v l) (hb : Below w.heap.size w w1) : RM w1 base v l := RM_move h hb.size (fun k _ _ hk => hb.block k hk)
theorem RM_lower {w : World} {base b : Nat} {v : Value} {l : List Int} (h : RM w base v l) (hb : b ≤ base) : RM w b v l := by
  rcases h with h | ⟨g, cap, h1, h2, h3, h4, h5⟩
  · exact .inl h
  · exact .inr ⟨g, cap, h1, h2, h3, Nat.le_trans hb h4, h5⟩
theorem RM_alloc {w : World} {base : Nat} {v : Value} {l : List Int} {o : Obj} (h : RM w base v l) : RM (w.alloc o) base v l := RM_below h (below_alloc (Below.refl _ _) o)
theorem RM_drew {w : World} {base : Nat} {v : Value} {l : List Int} (h : RM w base v l) : RM w.drew base v l := RM_below h (below_drew (Below.refl _ _))
theorem RM_drewN {w : World} {base : Nat} {v : Value} {l : List Int} {m : Nat} (h : RM w base v l) : RM (w.drewN m) base v l := RM_below h (pw_below_drewN (Below.refl _ _) m)
theorem RM_C {w : World} {base : Nat} {v : Value} {l : List Int} (h : RM w base v l) : ∃ A c, v = .slice A l.length c ∧ l.length ≤ c ∧ Kd.C (Kd.int .u8) w A l.length l := by
  rcases h with ⟨rfl, rfl⟩ | ⟨g, cap, rfl, h2, h3, h4, h5, h7⟩
  · exact ⟨none, 0, rfl, Nat.le_refl _, rfl, by decide, fun h => absurd h (by decide)⟩
  · refine ⟨_, cap, rfl, h2, rfl, h3, fun _ => ⟨_, rfl, fun j p hj => ⟨[.int .u8 p], rfl, rfl, fun i u hu => ?_⟩⟩⟩
    have hi : i = 0 := by
      rcases i with _ | i
      · rfl
      · simp at hu
    subst hi
    have hu2 : .int .u8 p = u := by simpa using hu
    subst hu2
    rw [show (Kd.int .u8).sz = 1 from rfl, Nat.mul_one, Nat.add_zero, add_plain]
    exact (h7 j p hj).1
theorem RM_reads {w : World} {base : Nat} {A : Option Addr} {n c : Nat} {l : List Int} (h : RM w base (.slice A n c) l) : n = l.length ∧ n ≤ c ∧ Kd.C (Kd.int .u8) w A l.length l := by
  obtain ⟨A', c', he, h1, h2⟩ := RM_C h
  injection he with e1 e2 e3
  subst e1; subst e2; subst e3
  exact ⟨rfl, h1, h2⟩
theorem RM_celln {w : World} {base g n c : Nat} {l : List Int} (h : RM w base (.slice (some ⟨g, 0, none⟩) n c) l) (i : Int) (h0 : 0 ≤ i) (hi : i < n) : w.frozen? ⟨g, i.toNat, none⟩ = false := by
  rcases h with ⟨h, _⟩ | ⟨g', cap, h1, h2, h3, h4, h5, h7⟩
  · cases h
  · injection h1 with h1 hn
    injection h1 with h1
    injection h1 with h1
    subst h1
    subst hn
    have hlt : i.toNat < l.length := by omega
    exact (h7 i.toNat _ (List.getElem?_eq_getElem hlt)).2
theorem RM_put {w : World} {base g n c : Nat} {l : List Int} (h : RM w base (.slice (some ⟨g, 0, none⟩) n c) l) (i : Int) (x : Int) : RM (w.setCell ⟨g, i.toNat, none⟩ (.int .u8 x)) base (.slice (some ⟨g, 0, none⟩) n c) (l.set i.toNat x) ∧ w.grownBy (w.setCell ⟨g, i.toNat, none⟩ (.int .u8 x)) (some g) := by
  refine ⟨?_, ⟨rfl, rfl, rfl, by simp [World.setCell], fun k _ hne => Below.heap_setCell w ⟨g, i.toNat, none⟩ _ k (fun e => hne (by rw [e]))⟩⟩
  rcases h with ⟨h, _⟩ | ⟨g', cap, h1, h2, h3, h4, h5, h7⟩
  · cases h
  · injection h1 with h1 hn hc
    injection h1 with h1
    injection h1 with h1
    subst h1
    subst hn
    subst hc
    refine .inr ⟨g, c, by rw [List.length_set], by rw [List.length_set]; exact h2, by rw [List.length_set]; exact h3, h4, by simpa [World.setCell] using h5, fun j y hj => ?_⟩
    have hjl : j < l.length := by
      have := (List.getElem?_eq_some_iff.1 hj).1
      rwa [List.length_set] at this
    obtain ⟨hc, hf⟩ := h7 j _ (List.getElem?_eq_getElem hjl)
    have hob : ∃ cs t m, w.heap[g]? = some (.cells cs t m) ∧ cs[j]? = some (.int .u8 l[j]) := by
      simp only [World.cell?] at hc
      cases ho : w.heap[g]? with
      | none => rw [ho] at hc; simp at hc
      | some o =>
        rw [ho] at hc
        cases o with
        | cells cs t m => exact ⟨cs, t, m, rfl, by simpa using hc⟩
        | _ => simp at hc
    obtain ⟨cs, t, m, hb, hcj⟩ := hob
    have hb2 : (w.setCell ⟨g, i.toNat, none⟩ (.int .u8 x)).heap[g]? = some (.cells (cs.setIfInBounds i.toNat (.int .u8 x)) t m) := by simp [World.setCell, Array.getElem?_modify, hb]
    constructor
    · rw [cell_of_row _ g j _ t m hb2, Array.getElem?_setIfInBounds]
      rw [List.getElem?_set] at hj
      by_cases e : i.toNat = j
      · rw [if_pos e] at hj ⊢
        subst e
        rw [if_pos hjl] at hj
        injection hj with hj
        subst hj
        rw [if_pos (Array.getElem?_eq_some_iff.1 hcj).1]
      · rw [if_neg e] at hj ⊢
        rw [hcj]
        rw [List.getElem?_eq_getElem hjl] at hj
        injection hj with hj
        rw [hj]
    · simp only [World.frozen?, hb2]
      simp only [World.frozen?, hb] at hf
      exact hf
theorem RM_bel (w : World) (e : TypeId) (s : ByteArray) : Below w.heap.size w (Lib.bytesWorld w e s) :=
  ⟨rfl, rfl, rfl, by rw [Lib.bytesWorld_size]; omega, fun k hk => Lib.bytesWorld_at_old w e s k hk⟩
/-- What '[]byte(s)' lays. -/
theorem RM_bytes (w : World) (s : ByteArray) (hs : s.size ≤ 1000000) : RM (Lib.bytesWorld w 5 s) w.heap.size (.slice (some ⟨w.heap.size, 0, none⟩) s.size (grownCap w s.size 0 5)) (s.data.toList.map (fun b => (b.toNat : Int))) := by
  have hl : (s.data.toList.map (fun b => (b.toNat : Int))).length = s.size := by simp
  have hc : s.size ≤ grownCap w s.size 0 5 := grownCap_ge w s.size 0 5
  refine .inr ⟨_, _, by rw [hl], by rw [hl]; exact hc, by rw [hl]; omega, Nat.le_refl _, by rw [Lib.bytesWorld_size]; omega, fun j x hj => ?_⟩
  · have hj2 : j < s.data.toList.length := by
      have := (List.getElem?_eq_some_iff.1 hj).1
      simpa using this
    rw [List.getElem?_map] at hj
    obtain ⟨b, hb, rfl⟩ := Option.map_eq_some_iff.1 hj
    have hz : j < s.data.size := by simpa using hj2
    have hb2 : s.data[j] = b := by
      have := hb
      rw [Array.getElem?_toList, Array.getElem?_eq_getElem hz] at this
      injection this
    have hz2 : j < s.size := hz
    have hcs : (Lib.bytesCells w 5 s)[j]? = some (.int .u8 (b.toNat : Int)) := by
      simp only [Lib.bytesCells, Array.getElem?_append]
      simp [hz2, hb2]
    have hlt : j < (Lib.bytesCells w 5 s).size := (Array.getElem?_eq_some_iff.1 hcs).1
    have hnb := Lib.bytesWorld_at_new w 5 s
    have hno : ¬ ((Lib.bytesCells w 5 s).size ≤ j) := by omega
    exact ⟨by rw [cell_of_row _ _ j _ 5 _ hnb]; exact hcs, by simp [World.frozen?, hnb, hno]⟩
/-- The same, and which block it is. -/
def RMk (w : World) (base : Nat) (ok : Nat → Prop) (v : Value) (l : List Int) : Prop := (∀ k, v.ownBlock = some k → ok k) ∧ RM w base v l
section
variable {w w1 W W2 : World} {base b n c g : Nat} {ok ok' ok1 S : Nat → Prop} {u v : Value} {l : List Int} {A : Option Addr}
theorem RM_own (h : RM w base v l) : ∀ k, v.ownBlock = some k → base ≤ k ∧ k < w.heap.size := by
  intro k hk
  rcases h with ⟨rfl, _⟩ | ⟨g, cap, rfl, h2, h3, h4, h5, h6⟩
  · simp [Value.ownBlock] at hk
  · have : g = k := by simpa [Value.ownBlock] using hk
    subst this
    exact ⟨h4, h5⟩
theorem RMk_nil (w : World) (base : Nat) (ok : Nat → Prop) : RMk w base ok (.slice none 0 0) [] := ⟨fun k hk => by simp [Value.ownBlock] at hk, RM_nil _ _⟩
theorem RMk_mono (h : RMk w base ok v l) (hok : ∀ k, ok k → ok' k) : RMk w base ok' v l := ⟨fun k hk => hok k (h.1 k hk), h.2⟩
theorem RMk_lower (h : RMk w base ok v l) (hb : b ≤ base) : RMk w b ok v l := ⟨h.1, RM_lower h.2 hb⟩
theorem RMk_bound (h : RMk w base ok v l) : RMk w base (fun k => ok k ∧ base ≤ k ∧ k < w.heap.size) v l := ⟨fun k hk => ⟨h.1 k hk, RM_own h.2 k hk⟩, h.2⟩
theorem RMk_step (h : RMk w base ok v l) (hs : w.heap.size ≤ w1.heap.size) (hm : ∀ k, ok k → k < w.heap.size → w1.heap[k]? = w.heap[k]?) : RMk w1 base ok v l := ⟨h.1, RM_move h.2 hs (fun k hk _ hlt => hm k (h.1 k hk) hlt)⟩
theorem RMk_below (h : RMk w base ok v l) (hb : Below w.heap.size w w1) : RMk w1 base ok v l := RMk_step h hb.size (fun k _ hk => hb.block k hk)
theorem RMk_alloc {o : Obj} (h : RMk w base ok v l) : RMk (w.alloc o) base ok v l := ⟨h.1, RM_alloc h.2⟩
theorem RMk_drew (h : RMk w base ok v l) : RMk w.drew base ok v l := ⟨h.1, RM_drew h.2⟩
theorem RMk_drewN {m : Nat} (h : RMk w base ok v l) : RMk (w.drewN m) base ok v l := ⟨h.1, RM_drewN h.2⟩
theorem RMk_lt (h : RMk w base ok v l) : ∀ k, v.ownBlock = some k → k < w.heap.size := fun k hk => (RM_own h.2 k hk).2
theorem RMk_base (h : RMk w base ok v l) : ∀ k, v.ownBlock = some k → base ≤ k := fun k hk => (RM_own h.2 k hk).1
theorem RMk_new' (h : RMk w1 W.heap.size ok v l) (hlt : ∀ k, u.ownBlock = some k → k < W.heap.size) : RMk w1 W.heap.size (fun k => ok k ∧ some k ≠ u.ownBlock) v l :=
  RMk_mono (RMk_bound h) (fun k hk => ⟨hk.1, fun he => by have := hlt k he.symm; have := hk.2.1; omega⟩)
theorem RMk_elder' (hu : RMk W base ok u l) (hbase : ∀ k, v.ownBlock = some k → W.heap.size ≤ k) (hb : Below W.heap.size W w1) : RMk w1 base (fun k => ok k ∧ some k ≠ v.ownBlock) u l :=
  RMk_mono (RMk_below (RMk_bound hu) hb) (fun k hk => ⟨hk.1, fun he => by have := hbase k he.symm; have := hk.2.2; omega⟩)
theorem RMk_slice (h : RMk w base ok v l) : ∃ A c, v = .slice A l.length c := by
  obtain ⟨A, c, h1, _⟩ := RM_C h.2
  exact ⟨A, c, h1⟩
theorem RMk_reads' (h : RMk w base ok (.slice A n c) l) : n = l.length ∧ n ≤ c ∧ Kd.C (Kd.int .u8) w A l.length l := RM_reads h.2
theorem RMk_tight (_ : 0 = 0) (h : RMk w base ok v l) : RMk w base (fun k => some k = v.ownBlock) v l := ⟨fun _ hk => hk.symm, h.2⟩
theorem RMk_reok (_ : 0 = 0) (h : RMk w base ok1 v l) (hok : ∀ k, v.ownBlock = some k → ok k) : RMk w base ok v l := ⟨hok, h.2⟩
theorem RMk_keptB (h : RMk W base ok v l) (hk : Kept W W2 S) (hne : ∀ k, ok k → ¬ S k) : RMk W2 base (fun k => ok k ∧ (¬ S k ∧ k < W.heap.size)) v l :=
  RMk_mono (RMk_step (RMk_bound h) hk.1 (fun k ho hlt => hk.2 k hlt (hne k ho.1))) (fun k hk => ⟨hk.1, hne k hk.1, hk.2.2⟩)
theorem RMk_form (h : RMk w base ok v l) (hp : 0 < l.length) : ∃ g cap, v = .slice (some ⟨g, 0, none⟩) l.length cap ∧ base ≤ g ∧ g < w.heap.size ∧ ∃ _ : Nat, True := by
  rcases h.2 with ⟨_, rfl⟩ | ⟨g, cap, h1, h2, h3, h4, h5, h6⟩
  · exact absurd hp (by decide)
  · exact ⟨g, cap, h1, h4, h5, 0, trivial⟩
theorem RMk_celln (_ : Nat) (h : RMk w base ok (.slice (some ⟨g, 0, none⟩) n c) l) (i : Int) (h0 : 0 ≤ i) (hi : i < n) : w.cell? ⟨g, i.toNat, none⟩ = some (.int .u8 (rdOf 0 l i)) ∧ w.frozen? ⟨g, i.toNat, none⟩ = false := by
  refine ⟨?_, RM_celln h.2 i h0 hi⟩
  have hr := RM_reads h.2
  obtain ⟨ad, e, hc⟩ := Kd.at_int (k := .u8) hr.2.2 i h0 (by omega)
  injection e with e
  subst e
  rw [add_plain] at hc
  exact hc
theorem RMk_putg (h : RMk w base ok (.slice (some ⟨g, 0, none⟩) n c) l) (i : Int) (x : Int) : RMk (w.setCell ⟨g, i.toNat, none⟩ (.int .u8 x)) base ok (.slice (some ⟨g, 0, none⟩) n c) (l.set i.toNat x) ∧ w.grownBy (w.setCell ⟨g, i.toNat, none⟩ (.int .u8 x)) (some g) := ⟨⟨h.1, (RM_put h.2 i x).1⟩, (RM_put h.2 i x).2⟩
end
theorem rmp {W0 W : World} {base : Nat} {ok : Nat → Prop} {v : Value} {xs : List Int} (_h : Aside0 (RMk W0 base ok v xs)) (f : RMk W base ok v xs := by ((with_reducible repeat (first | apply RMk_alloc | apply RMk_drewN | apply RMk_drew)); exact Aside0.out (by assumption))) : RMk W base ok v xs := f
theorem RMk_fresh {B : Nat} {w : World} {v : Value} {l : List UInt8} (h : Lib.FreshBytes B w v l) (h0 : 0 < l.length) : RMk w B (fun _ => True) v (l.map (fun b => (b.toNat : Int))) := by
  obtain ⟨g, cap, zs, rfl, hB, hc, hm, hz, hr, he, hcell, hfr⟩ := h
  refine ⟨fun _ _ => trivial, .inr ⟨g, cap, by rw [List.length_map], by rw [List.length_map]; exact hc, by rw [List.length_map]; exact Nat.le_trans hc (by unfold maxLen at hm; omega), hB, ?_, fun j x hj => ?_⟩⟩
  · have h1 := hcell 0 (by omega)
    simp only [World.cell?] at h1
    cases ho : w.heap[g]? with
    | none => rw [ho] at h1; simp at h1
    | some o => exact (Array.getElem?_eq_some_iff.1 ho).1
  · rw [List.getElem?_map] at hj
    obtain ⟨b, hb, rfl⟩ := Option.map_eq_some_iff.1 hj
    have hjl : j < l.length := (List.getElem?_eq_some_iff.1 hb).1
    refine ⟨?_, hfr j (by omega)⟩
    rw [hcell j (by omega)]
    have hjz : j < zs.length := by omega
    have hx := hr _ (List.getElem_mem hjz)
    rw [List.getD_eq_getElem?_getD, List.getElem?_eq_getElem hjz]
    rw [← he] at hb
    simp only [Lib.bytesOf, List.getElem?_map, List.getElem?_take, hjl, if_true, List.getElem?_eq_getElem hjz, Option.map_some] at hb
    injection hb with hb
    rw [← hb]
    simp only [Option.getD_some]
    congr 2
    simp [UInt8.toNat_ofNat']
    omega
/-- A row of bytes of the call's own: its cells up to its capacity may be written, whatever mark its block bears. -/
def RT (w : World) (base : Nat) (v : Value) (l : List Int) : Prop :=
  ∃ (g cap : Nat) (cs : Array Value) (m : Nat × Nat), v = .slice (some ⟨g, 0, none⟩) l.length cap ∧ l.length ≤ cap ∧ cap ≤ maxLen ∧ base ≤ g ∧ w.heap[g]? = some (.cells cs 5 m) ∧ (∀ j, j < cs.size → ¬ (m.1 ≤ j ∧ j < m.2)) ∧ cs.size = cap ∧ cs.toList.take l.length = l.map (Value.int .u8)
theorem RT_store (P : Program) (g o : Nat) (t : TypeId) (fz : Nat × Nat) : ∀ (vs : List Value) (i : Nat) (cur : Array Value) (w : World), w.heap[g]? = some (.cells cur t fz) → (∀ j, j < cur.size → ¬ (fz.1 ≤ j ∧ j < fz.2)) → o + i + vs.length ≤ cur.size → (∀ v ∈ vs, v.oneCell' = true) →
    (storeCells ⟨g, o, none⟩ vs i).run P w = .ok () (w.setRow g (cur.toList.take (o + i) ++ vs ++ cur.toList.drop (o + i + vs.length)).toArray)
  | [], i, cur, w, hg, _, _, _ => by
    simp only [storeCells, List.append_nil, List.length_nil, Nat.add_zero, List.take_append_drop, Array.toArray_toList]
    rw [setRow_self w g cur t fz hg]
    rfl
  | v :: rest, i, cur, w, hg, hfz, hl, h1 => by
    have hi : o + i < cur.size := by simp at hl; omega
    have hadd : (⟨g, o, none⟩ : Addr).add i = ⟨g, o + i, none⟩ := by unfold Addr.add; split <;> simp_all
    have hcell : w.cell? ⟨g, o + i, none⟩ = some cur[o + i] := by simp [World.cell?, hg, hi]
    have hfro : w.frozen? ⟨g, o + i, none⟩ = false := by
      have := hfz (o + i) hi
      simp only [World.frozen?, hg, Bool.and_eq_false_iff, decide_eq_false_iff_not]
      omega
    have hst : (store ((⟨g, o, none⟩ : Addr).add i) v).run P w = .ok () (w.setRow g (cur.setIfInBounds (o + i) v)) := by
      rw [hadd, run_store P w _ v _ (h1 v (by simp)), hcell]
      simp [hfro, setCell_eq_setRow w g (o + i) cur t fz v hg]
    have ih := RT_store P g o t fz rest (i + 1) (cur.setIfInBounds (o + i) v) (w.setRow g (cur.setIfInBounds (o + i) v)) (setRow_heap w g cur _ t _ hg) (by simpa using hfz) (by simp at hl ⊢; omega) (fun x hx => h1 x (by simp [hx]))
    simp only [storeCells, Sem.run_bind, hst, Result.andThen_ok, ih, setRow_setRow]
    congr 3
    have e := list_seg_step cur.toList (o + i) v rest (by simp at hl ⊢; omega)
    simpa [Array.toList_setIfInBounds, Nat.add_assoc] using e
theorem RT_cells {w : World} {base : Nat} {g n c : Nat} {l : List Int} (h : RT w base (.slice (some ⟨g, 0, none⟩) n c) l) : n = l.length ∧ ∀ (j : Nat) (u : Value), (l.map (Value.int .u8))[j]? = some u → w.cell? ((⟨g, 0, none⟩ : Addr).add j) = some u := by
  obtain ⟨g', cap, cs, m, h1, h2, h3, h4, h5, h6, h7, h8⟩ := h
  injection h1 with h1 hn hc
  injection h1 with h1
  injection h1 with h1
  subst h1
  refine ⟨hn, fun j u hj => ?_⟩
  rw [add_plain, cell_of_row w g j cs 5 m h5]
  rw [← h8, List.getElem?_take] at hj
  split at hj
  · simpa using hj
  · cases hj
theorem RT_run (P : Program) (W : World) (base : Nat) (t ty : TypeId) (ht : P.underlying t = some (.slice 5)) (hinfo : (P.info? 5).map (fun i => (i.zero, i.size, i.bytes)) = some (some (Value.int .u8 0), 1, 1))
    (v : Value) (xs ys : List Int) (HO : RT W base v xs) (A : Option Addr) (m c : Nat) (HR : Kd.C (Kd.int .u8) W A m ys) (hbase : base ≤ W.heap.size) (hl : xs.length + m ≤ 140737488355328) :
    ∃ v1 w1, (Builtin.append_ #[t, t] ty #[v, .slice A m c]).run P W = .ok v1 w1 ∧ RT w1 base v1 (xs ++ ys) ∧ W.grownBy w1 v.ownBlock ∧ (v1.ownBlock = v.ownBlock ∨ ∃ b, v1.ownBlock = some b ∧ W.heap.size ≤ b) := by
  obtain ⟨i, hi, hzz⟩ := Option.map_eq_some_iff.1 hinfo
  simp only [Prod.mk.injEq] at hzz
  obtain ⟨hz, hsz, hby⟩ := hzz
  have HO' := HO
  obtain ⟨g, cap, cs, mk, rfl, h2, h3, h4, h5, h6, h7, h8⟩ := HO
  have hcells := (RT_cells HO').2
  have hm : ys.length = m := HR.1
  rcases A with _ | ad
  · have h0 : m = 0 := by
      rcases Nat.eq_zero_or_pos m with h0 | h0
      · exact h0
      · obtain ⟨ad, h, _⟩ := HR.2.2 h0
        cases h
    subst h0
    obtain rfl : ys = [] := List.eq_nil_of_length_eq_zero hm
    refine ⟨_, W, ?_, by rw [List.append_nil]; exact HO', World.grownBy.refl W _, .inl rfl⟩
    simp [Builtin.append_, run_underlying ht, sizeOf, typeInfo, hi, Builtin.lenOf, Builtin.firstCells, h2, storeCells]
  · obtain ⟨news, hnr, hnc⟩ := ReadsRow.inner_ HR
    have hnews : news = ys.map (Value.int .u8) := by
      apply List.ext_getElem?
      intro j
      have hl1 : news.length = ys.length := by rw [hnr.1]; show _ * 1 = _; rw [Nat.mul_one]
      rcases Nat.lt_or_ge j ys.length with hj | hj
      · have hq := hnr.2 j _ (List.getElem?_eq_getElem hj)
        have e1 : (news.drop (j * 1)).take 1 = [Value.int .u8 ys[j]] := hq
        rw [Nat.mul_one] at e1
        have e2 : (news.drop j)[0]? = some (Value.int .u8 ys[j]) := by
          have := congrArg (fun l => l[0]?) e1
          simpa using this
        rw [List.getElem?_drop, Nat.add_zero] at e2
        rw [e2, List.getElem?_map, List.getElem?_eq_getElem hj]
        rfl
      · rw [List.getElem?_eq_none (by omega), List.getElem?_eq_none (by rw [List.length_map]; omega)]
    have hlen : news.length = m := by rw [hnews, List.length_map, hm]
    have hone : ∀ u ∈ news, u.oneCell' = true := by
      intro u hu
      rw [hnews] at hu
      obtain ⟨x, _, rfl⟩ := List.mem_map.1 hu
      rfl
    by_cases hroom : xs.length + m ≤ cap
    · have hfit : xs.length + news.length ≤ cs.size := by omega
      have hf := run_firstCells_some (P := P) W 1 m ad m c news (by omega) hnc
      have hst := RT_store P g xs.length 5 mk news 0 cs W h5 h6 (by simpa using hfit) hone
      simp only [Nat.add_zero] at hst
      have hr : (Builtin.append_ #[t, t] ty #[.slice (some ⟨g, 0, none⟩) xs.length cap, .slice (some ad) m c]).run P W = .ok (.slice (some ⟨g, 0, none⟩) (xs.length + m) cap) (W.setRow g (cs.toList.take xs.length ++ news ++ cs.toList.drop (xs.length + news.length)).toArray) := by
        simp [Builtin.append_, run_underlying ht, sizeOf, typeInfo, hi, hsz, Builtin.lenOf, hroom, hf, Addr.add_lit, hst]
      have hsize : (cs.toList.take xs.length ++ news ++ cs.toList.drop (xs.length + news.length)).toArray.size = cs.size := by
        simp only [List.size_toArray, List.length_append, List.length_take, List.length_drop, Array.length_toList]
        omega
      refine ⟨_, _, hr, ⟨g, cap, _, mk, by rw [List.length_append, hm], by rw [List.length_append, hm]; exact hroom, h3, h4, setRow_heap W g cs _ 5 _ h5, by rw [hsize]; exact h6, by rw [hsize]; exact h7, ?_⟩, ⟨rfl, rfl, rfl, by simp, fun k _ hk => setRow_other W g k _ (fun e => hk (by simp [Value.ownBlock, e]))⟩, .inl (by simp [Value.ownBlock])⟩
      rw [h8, hnews, ← List.map_append]
      exact List.take_left' (by simp)
    · have hr := run_append_grow (P := P) W t ty 5 i _ ht hi hz ⟨g, 0, none⟩ xs.length cap (xs.map (Value.int .u8)) (by rw [List.length_map, hsz, Nat.mul_one]) hcells ad m c news (by rw [hsz, Nat.mul_one]; exact hlen) hnc (by omega) (by omega) (growslice_fits (by omega) (by rw [hby]; omega))
      have hge := grownCap_ge W (xs.length + m) cap 5
      have hcm2 : grownCap W (xs.length + m) cap 5 ≤ maxLen := grownCap_le_maxLen W (xs.length + m) cap 5 (by simp only [maxLen]; omega)
      refine ⟨_, _, hr, ⟨W.heap.size, _, _, (0, 0), by rw [List.length_append, hm], by rw [List.length_append, hm]; exact hge, hcm2, hbase, heap_alloc_new W.drew _, fun j _ h => absurd h.2 (Nat.not_lt_zero _), ?_, ?_⟩, ⟨rfl, rfl, rfl, by simp, fun k hk _ => (below_alloc (below_drew (Below.refl W.heap.size W)) _).block k hk⟩, .inr ⟨W.heap.size, by simp [Value.ownBlock], Nat.le_refl _⟩⟩
      · simp only [Array.size_append, List.size_toArray, size_zeroCells, List.length_map, hlen]
        show xs.length + m + _ * 1 = _
        omega
      · simp only [Array.toList_append]
        rw [hnews, ← List.map_append]
        exact List.take_left' (by simp)
/-- The same, and which block it is. -/
def RTk (w : World) (base : Nat) (ok : Nat → Prop) (v : Value) (l : List Int) : Prop := (∀ k, v.ownBlock = some k → ok k) ∧ RT w base v l
section
variable {w w1 W W2 : World} {base b n c g : Nat} {ok ok' ok1 S : Nat → Prop} {u v : Value} {l : List Int} {A : Option Addr}
theorem RT_own (h : RT w base v l) : ∀ k, v.ownBlock = some k → base ≤ k ∧ k < w.heap.size := by
  intro k hk
  obtain ⟨g, cap, cs, m, rfl, h2, h3, h4, h5, h6⟩ := h
  have : g = k := by simpa [Value.ownBlock] using hk
  subst this
  exact ⟨h4, (Array.getElem?_eq_some_iff.1 h5).1⟩
theorem RTk_mono (h : RTk w base ok v l) (hok : ∀ k, ok k → ok' k) : RTk w base ok' v l := ⟨fun k hk => hok k (h.1 k hk), h.2⟩
theorem RTk_lower (h : RTk w base ok v l) (hb : b ≤ base) : RTk w b ok v l := by
  obtain ⟨h0, g, cap, cs, m, h1, h2, h3, h4, h5⟩ := h
  exact ⟨h0, g, cap, cs, m, h1, h2, h3, Nat.le_trans hb h4, h5⟩
theorem RTk_bound (h : RTk w base ok v l) : RTk w base (fun k => ok k ∧ base ≤ k ∧ k < w.heap.size) v l := ⟨fun k hk => ⟨h.1 k hk, RT_own h.2 k hk⟩, h.2⟩
theorem RTk_step (h : RTk w base ok v l) (hm : ∀ k, ok k → k < w.heap.size → w1.heap[k]? = w.heap[k]?) : RTk w1 base ok v l := by
  obtain ⟨h0, g, cap, cs, m, h1, h2, h3, h4, h5, h6⟩ := h
  exact ⟨h0, g, cap, cs, m, h1, h2, h3, h4, (hm g (h0 g (by rw [h1]; simp [Value.ownBlock])) (Array.getElem?_eq_some_iff.1 h5).1).trans h5, h6⟩
theorem RTk_below (h : RTk w base ok v l) (hb : Below w.heap.size w w1) : RTk w1 base ok v l := RTk_step h (fun k _ hk => hb.block k hk)
theorem RTk_alloc {o : Obj} (h : RTk w base ok v l) : RTk (w.alloc o) base ok v l := RTk_below h (below_alloc (Below.refl _ _) o)
theorem RTk_drew (h : RTk w base ok v l) : RTk w.drew base ok v l := RTk_below h (below_drew (Below.refl _ _))
theorem RTk_drewN {m : Nat} (h : RTk w base ok v l) : RTk (w.drewN m) base ok v l := RTk_below h (pw_below_drewN (Below.refl _ _) m)
theorem RTk_lt (h : RTk w base ok v l) : ∀ k, v.ownBlock = some k → k < w.heap.size := fun k hk => (RT_own h.2 k hk).2
theorem RTk_base (h : RTk w base ok v l) : ∀ k, v.ownBlock = some k → base ≤ k := fun k hk => (RT_own h.2 k hk).1
theorem RTk_new' (h : RTk w1 W.heap.size ok v l) (hlt : ∀ k, u.ownBlock = some k → k < W.heap.size) : RTk w1 W.heap.size (fun k => ok k ∧ some k ≠ u.ownBlock) v l :=
  RTk_mono (RTk_bound h) (fun k hk => ⟨hk.1, fun he => by have := hlt k he.symm; have := hk.2.1; omega⟩)
theorem RTk_elder' (hu : RTk W base ok u l) (hbase : ∀ k, v.ownBlock = some k → W.heap.size ≤ k) (hb : Below W.heap.size W w1) : RTk w1 base (fun k => ok k ∧ some k ≠ v.ownBlock) u l :=
  RTk_mono (RTk_below (RTk_bound hu) hb) (fun k hk => ⟨hk.1, fun he => by have := hbase k he.symm; have := hk.2.2; omega⟩)
theorem RTk_slice (h : RTk w base ok v l) : ∃ A c, v = .slice A l.length c := by
  obtain ⟨h0, g, cap, cs, m, h1, h2⟩ := h
  exact ⟨_, cap, h1⟩
theorem RTk_reads' (h : RTk w base ok (.slice A n c) l) : n = l.length ∧ n ≤ c ∧ Kd.C (Kd.int .u8) w A l.length l := by
  have hq := h.2
  obtain ⟨h0, g, cap, cs, m, h1, h2, h3, h4, h5⟩ := h
  injection h1 with e1 e2 e3
  subst e1; subst e2; subst e3
  refine ⟨rfl, h2, rfl, Nat.le_trans h2 (by unfold maxLen at h3; omega), fun _ => ⟨_, rfl, fun j p hj => ⟨[.int .u8 p], rfl, rfl, fun i u hu => ?_⟩⟩⟩
  have hi : i = 0 := by
    rcases i with _ | i
    · rfl
    · simp at hu
  subst hi
  have hu2 : .int .u8 p = u := by simpa using hu
  subst hu2
  rw [show (Kd.int .u8).sz = 1 from rfl, Nat.mul_one, Nat.add_zero]
  exact (RT_cells hq).2 j _ (by rw [List.getElem?_map, hj]; rfl)
theorem RTk_tight (_ : 0 = 0) (h : RTk w base ok v l) : RTk w base (fun k => some k = v.ownBlock) v l := ⟨fun _ hk => hk.symm, h.2⟩
theorem RTk_keptB (h : RTk W base ok v l) (hk : Kept W W2 S) (hne : ∀ k, ok k → ¬ S k) : RTk W2 base (fun k => ok k ∧ (¬ S k ∧ k < W.heap.size)) v l :=
  RTk_mono (RTk_step (RTk_bound h) (fun k ho hlt => hk.2 k hlt (hne k ho.1))) (fun k hk => ⟨hk.1, hne k hk.1, hk.2.2⟩)
theorem RTk_ne (h : RTk w base ok v l) {t : TypeId} {cs : Array Value} (hb : w.heap[g]? = some (.cells cs t (0, 0))) (hne : 5 ≠ t) : some g ≠ v.ownBlock := by
  obtain ⟨h0, g', cap, cs', m, h1, h2, h3, h4, h5, _⟩ := h
  intro e
  rw [h1] at e
  have : g = g' := by simpa [Value.ownBlock] using e
  subst this
  rw [hb] at h5
  injection h5 with h5
  injection h5 with _ h5
  exact hne h5.symm
theorem RT_bytes (w : World) (s : ByteArray) (hs : s.size ≤ 1000000) : RTk (Lib.bytesWorld w 5 s) w.heap.size (fun _ => True) (.slice (some ⟨w.heap.size, 0, none⟩) s.size (grownCap w s.size 0 5)) (s.data.toList.map (fun b => (b.toNat : Int))) := by
  have hl : (s.data.toList.map (fun b => (b.toNat : Int))).length = s.size := by simp
  have hc : s.size ≤ grownCap w s.size 0 5 := grownCap_ge w s.size 0 5
  have hcm : grownCap w s.size 0 5 ≤ maxLen := grownCap_le_maxLen w s.size 0 5 (by simp only [maxLen]; omega)
  refine ⟨fun _ _ => trivial, _, _, _, _, by rw [hl], by rw [hl]; exact hc, hcm, Nat.le_refl _, Lib.bytesWorld_at_new w 5 s, fun j hj h => absurd h.1 (by simpa using hj), ?_, ?_⟩
  · simp only [Lib.bytesCells, Array.size_append, Array.size_map, Array.size_replicate]
    have : s.data.size = s.size := rfl
    omega
  · rw [hl]
    simp only [Lib.bytesCells, Array.toList_append, Array.toList_map, List.map_map]
    rw [List.take_left' (by rw [List.length_map]; rfl)]
    rfl
end
section
variable {P : Program} {ops : Array Oper} {Q : Exit → Act → World → Prop} {rest : List Oper} {o : Oper} {a : Act} {w0 W : World}
theorem RTk_append_rows (base : Nat) (hgd : o.guard = none) (s x : Operand) (t : TypeId)
    (ho : o.op = .call { callee := .builtin .append, args := #[s, x], argTypes := #[t, t] })
    (ht : P.underlying t = some (.slice 5)) (hinfo : (P.info? 5).map (fun i => (i.zero, i.size, i.bytes)) = some (some (Value.int .u8 0), 1, 1))
    (v : Value) (xs ys : List Int) (A : Option Addr) (m c : Nat) (ok : Nat → Prop) (hs : a.eval s = v) (hx : a.eval x = .slice A m c)
    (HO : RTk W base ok v xs) (HR : Kd.C (Kd.int .u8) W A m ys) (hfresh : ∀ k, W.heap.size ≤ k → ok k)
    (HB : Below base w0 W) (hbase : base ≤ W.heap.size) (hl : xs.length + m ≤ 140737488355328)
    (h : ∀ v1 w1, RTk w1 base ok v1 (xs ++ ys) → Below base w0 w1 → W.grownBy w1 v.ownBlock → (v1.ownBlock = v.ownBlock ∨ ∃ b, v1.ownBlock = some b ∧ W.heap.size ≤ b) → wpList P ops Q rest (a.put o.dst v1) w1) :
    wpList P ops Q (o :: rest) a W := by
  obtain ⟨v1, w1, hrun, h1, hg, hat⟩ := RT_run P W base t o.type ht hinfo v xs ys HO.2 A m c HR hbase hl
  have hb1 : Below base w0 w1 := HB.grown hg hbase (fun k hk => (RT_own HO.2 k hk).1)
  refine wpList_plain hgd fun K hK => ?_
  unfold Oper.wp execOp
  simp only [ho, resolve, invoke, builtin, Sem.run_bind, Sem.run_pure, Result.andThen_ok, List.map_toArray, List.map_cons, List.map_nil, hs, hx, hrun]
  refine hK _ _ (h v1 w1 ⟨fun k hk => ?_, h1⟩ hb1 hg hat)
  rcases hat with hat | ⟨b, hb, hle⟩
  · exact HO.1 k (hat ▸ hk)
  · rw [hb] at hk
    injection hk with hk
    exact hfresh k (by omega)
theorem RTk_append (base : Nat) (hgd : o.guard = none) (s x : Operand) (t : TypeId)
    (ho : o.op = .call { callee := .builtin .append, args := #[s, x], argTypes := #[t, t] })
    (ht : P.underlying t = some (.slice 5)) (hinfo : (P.info? 5).map (fun i => (i.zero, i.size, i.bytes)) = some (some (Value.int .u8 0), 1, 1))
    (v : Value) (xs : List Int) (p : Int) (ok : Nat → Prop) (hs : a.eval s = v) (hx : a.eval x = .slice (some ⟨W.heap.size, 0, none⟩) 1 1)
    (HO : RTk W base ok v xs) (hfresh : ∀ k, W.heap.size ≤ k → ok k)
    (HB : Below base w0 W) (hbase : base ≤ W.heap.size) (hl : xs.length + 1 ≤ 140737488355328)
    (h : ∀ v1 w1, RTk w1 base ok v1 (xs ++ [p]) → Below base w0 w1 → W.grownBy w1 v.ownBlock → (v1.ownBlock = v.ownBlock ∨ ∃ b, v1.ownBlock = some b ∧ W.heap.size ≤ b) → wpList P ops Q rest (a.put o.dst v1) w1) :
    wpList P ops Q (o :: rest) a (W.alloc (.cells #[.int .u8 p] 5)) := by
  have hsz : (W.alloc (.cells #[.int .u8 p] 5)).heap.size = W.heap.size + 1 := by simp
  refine RTk_append_rows (w0 := w0) base hgd s x t ho ht hinfo v xs [p] _ _ _ ok hs hx (RTk_alloc HO) ?_ (fun k hk => hfresh k (by omega)) (HB.alloc hbase _) (by omega) hl ?_
  · refine ⟨rfl, by decide, fun _ => ⟨_, rfl, fun j q hj => ⟨[.int .u8 q], rfl, rfl, fun i u hu => ?_⟩⟩⟩
    match j, i with
    | 0, 0 =>
      have e1 : q = p := by simpa using hj.symm
      have e2 : u = .int .u8 q := by simpa using hu.symm
      subst e1; subst e2
      rw [show (0 * (Kd.int .u8).sz + 0) = 0 from rfl, add_plain]
      exact (cell_of_row _ _ 0 _ 5 (0, 0) (heap_alloc_new W _)).trans rfl
    | 0, i + 1 => simp at hu
    | j + 1, _ => simp at hj
  · intro v1 w1 h1 h2 h3 h4
    refine h v1 w1 h1 h2 (World.grownBy.trans (World.grownBy_alloc W _ _) h3) ?_
    rcases h4 with h4 | ⟨b, h4, h5⟩
    · exact .inl h4
    · exact .inr ⟨b, h4, by omega⟩
end
/-- What '[]byte(s)' hands back, in the words of a call. -/
def CV (w : World) (s : ByteArray) (Q : Ending → World → Prop) : Prop := Q (.returned (.slice (some ⟨w.heap.size, 0, none⟩) s.size (grownCap w s.size 0 5))) (Lib.bytesWorld w 5 s)
protected theorem CV.mono {w : World} {s : ByteArray} {Q Q' : Ending → World → Prop} (h : CV w s Q) (hq : ∀ e w', Q e w' → Q' e w') : CV w s Q' := hq _ _ h
theorem CV_run {P : Program} {a : Act} {oi : Oper} {w : World} {t1 t2 : TypeId} {x : Operand} (s : ByteArray) (h1 : P.underlying t1 = some .string) (h2 : P.underlying t2 = some (.slice 5)) (h5 : P.underlying 5 = some (.int .u8)) (hop : oi.op = .convert t1 t2 x) (hx : a.eval x = .string s) :
    (execOp a.eval oi).run P w = .ok (.value (.slice (some ⟨w.heap.size, 0, none⟩) s.size (grownCap w s.size 0 5))) (Lib.bytesWorld w 5 s) := by
  have h := Lib.run_convert_string_bytes w t1 t2 5 s h1 h2 h5
  unfold execOp
  simp only [hop, hx]
  simp [h]
theorem cvs_ {P : Program} {ops : Array Oper} {Q : Exit → Act → World → Prop} {oi : Oper} {N : Option Tmp} {a : Act} {w : World} {K : Act → World → Prop} {t1 t2 : TypeId} {x : Operand} (s : ByteArray) (h1 : P.underlying t1 = some .string) (h2 : P.underlying t2 = some (.slice 5)) (h5 : P.underlying 5 = some (.int .u8))
    (hw : Region.wanted oi (yielded ops a.tmps) = true := by rfl) (hN : oi.dst = N := by exact rfl) (hop : oi.op = .convert t1 t2 x := by exact rfl) (hx : a.eval x = .string s := by rfl)
    (h : CV w s fun e w' => ∃ v, e = .returned v ∧ K (a.put N v) w') : if Region.wanted oi (yielded ops a.tmps) = true then Oper.wp P oi a w K Q else K (a.put N undef) w := by
  obtain ⟨v, he, hk⟩ := h
  injection he with he
  subst he
  subst hN
  exact event_step hw (CV_run s h1 h2 h5 hop hx) hk
theorem RMk_neB {w w1 : World} {ok : Nat → Prop} {v : Value} {l : List Int} {g : Nat} {o : Obj} (h : RMk w1 w.heap.size ok v l) (hb : w.heap[g]? = some o) : some g ≠ v.ownBlock := fun e => Nat.lt_irrefl _ (Nat.lt_of_lt_of_le (blk_lt hb) (RMk_base h g e.symm))
theorem rml {W0 W W1 : World} {base : Nat} {ok : Nat → Prop} {v : Value} {xs : List Int} (_h : Aside0 (RMk W0 base ok v xs)) (hb : Below W.heap.size W W1) (f : RMk W base ok v xs := by ((with_reducible repeat (first | apply RMk_alloc | apply RMk_drewN | apply RMk_drew)); exact Aside0.out (by assumption))) : RMk W1 base ok v xs := RMk_below f hb
theorem rtp {W0 W : World} {base : Nat} {ok : Nat → Prop} {v : Value} {xs : List Int} (_h : Aside0 (RTk W0 base ok v xs)) (f : RTk W base ok v xs := by ((with_reducible repeat (first | apply RTk_alloc | apply RTk_drewN | apply RTk_drew)); exact Aside0.out (by assumption))) : RTk W base ok v xs := f
theorem RMk_of_RTk {w : World} {base : Nat} {ok : Nat → Prop} {v : Value} {l : List Int} (h : RTk w base ok v l) : RMk w base ok v l := by
  have hq := h.2
  obtain ⟨h0, g, cap, cs, m, rfl, h2, h3, h4, h5, h6, h7, h8⟩ := h
  refine ⟨h0, .inr ⟨g, cap, rfl, h2, Nat.le_trans h2 (by unfold maxLen at h3; omega), h4, (Array.getElem?_eq_some_iff.1 h5).1, fun j x hj => ?_⟩⟩
  have hc := (RT_cells hq).2 j (.int .u8 x) (by rw [List.getElem?_map, hj]; rfl)
  rw [add_plain] at hc
  refine ⟨hc, ?_⟩
  have hj2 : j < cs.size := by
    have := (List.getElem?_eq_some_iff.1 hj).1
    omega
  have := h6 j hj2
  simp only [World.frozen?, h5, Bool.and_eq_false_iff, decide_eq_false_iff_not]
  omega
theorem Kd.V_bytes (w : World) (s : ByteArray) (hs : s.size ≤ 1000000) : Kd.V (Kd.int .u8) 5 (Lib.bytesWorld w 5 s) w.heap.size (fun k_ => w.heap.size ≤ k_) (.slice (some ⟨w.heap.size, 0, none⟩) s.size (grownCap w s.size 0 5)) (s.data.toList.map (fun b => (b.toNat : Int))) := by
  have h := RT_bytes w s hs
  have hl : (s.data.toList.map (fun b => (b.toNat : Int))).length = s.size := by simp
  rw [← hl] at h ⊢
  refine ⟨_, _, rfl, (RTk_reads' h).2.1, ?_⟩
  intro W' hm
  exact (RTk_reads' (RTk_step (w1 := W') (RTk_bound h) (fun k hk hlt => hm k hk.2.1 hlt))).2.2
theorem tbl_ {w w' : World} (h : Lib.TabIs Tryd.prog w "internal/strconv.uint64pow10" .u64 Lib.pow10Tab) (hb : Below w.heap.size w w') : Lib.TabIs Tryd.prog w' "internal/strconv.uint64pow10" .u64 Lib.pow10Tab := by
  obtain ⟨g, hg⟩ := Option.isSome_iff_exists.1 (show (Tryd.prog.globalNamed "internal/strconv.uint64pow10").isSome = true by kernel_rfl)
  exact Joins.tab_stays hg h hb (Nat.le_refl _)
/-! ### laws_eqByteS: function 17 -/
def laws_eqByteS.l0 : Nat → List Int → List Int → Int → Option (Bool)
 | 0, _, _, _ => none
 | k + 1, x0, x1, x5 => if x5 < (x0.length : Int) then (if 0 ≤ x5 then (if x5 < (x1.length : Int) then (if (rd x0 x5) = (rd x1 x5) then (laws_eqByteS.l0 k x0 x1 (wrap64 (x5 + 1))) else (some false)) else (none)) else (none)) else (some true)
def laws_eqByteS.f (k : Nat) (l0 : List Int) (l1 : List Int) : Option (Bool) := if (l0.length : Int) = (l1.length : Int) then (laws_eqByteS.l0 k l0 l1 0) else (some false)
set_option maxHeartbeats 8000000 in
set_option maxRecDepth 100000 in
theorem laws_eqByteS.calls (k : Nat) (A0 : Option Addr) (c0 : Nat) (l0 : List Int) (A1 : Option Addr) (c1 : Nat) (l1 : List Int) (r : Bool) (w : World) (hr0 : Kd.C (Kd.int .u8) w A0 l0.length l0) (hc0 : l0.length ≤ c0) (hr1 : Kd.C (Kd.int .u8) w A1 l1.length l1) (hc1 : l1.length ≤ c1) (h : laws_eqByteS.f k l0 l1 = some r) :
  Calls Tryd.prog 17 #[.slice A0 l0.length c0, .slice A1 l1.length c1] w fun e w' => e = .returned (.bool r) ∧ Drawn0 w w' := by
 have HR0 := Aside0.mk hr0
 have HC0 := Aside0.mk hc0
 clear hr0 hc0
 have HR1 := Aside0.mk hr1
 have HC1 := Aside0.mk hc1
 clear hr1 hc1
 have H : (if (l0.length : Int) = (l1.length : Int) then (laws_eqByteS.l0 k l0 l1 0) else (some false)) = some r := h
 clear h
 by_cases c3 : (l0.length : Int) = (l1.length : Int)
 ·rw [if_pos c3] at H
  have c3b0 : ((l0.length : Int) == (l1.length : Int)) = true := beq_iff_eq.mpr c3
  have c3b1 : ((l0.length : Int) != (l1.length : Int)) = false := bne_eq_false_iff_eq.mpr c3
  have c3b2 : (l0.length == l1.length) = true := by first | simpa using c3 | (simp at c3 ⊢; omega)
  clear c3
  have H' := Aside0.mk H
  clear H
  go_enter Tryd.func17, Tryd.ntmps17
  go_wp2
  repeat (go_quiet (fail); try go_wp2)
  go_loopg [5] k (fun kq v5 w' => ∃ (x5_1 : Int), v5 = .int .i64 x5_1 ∧ Aside0 (laws_eqByteS.l0 kq l0 l1 x5_1 = some r) ∧ Aside0 (kq ≤ k) ∧ Drawn0 w w')
  case atStart => exact ⟨(0), rs_, H', ⟨Nat.le_refl _⟩, by repeat (first | exact Drawn0.refl _ | apply Drawn0.step)⟩
  case round =>
   clear H'
   try clear c1; try clear p2; try clear c3; try clear c3b0; try clear c3b1; try clear c3b2
   obtain ⟨x5_1, rfl, HA, HK1, ⟨m1, rfl⟩⟩ := hrel
   cases gk with
   | zero => exact absurd HA.out (by simp [laws_eqByteS.l0])
   | succ k1 =>
    have H := HA.out
    clear HA
    simp only [laws_eqByteS.l0] at H
    by_cases c4 : x5_1 < (l0.length : Int)
    ·rw [if_pos c4] at H
     have c4b0 : decide (x5_1 < (l0.length : Int)) = true := decide_eq_true c4
     clear c4
     by_cases c5 : 0 ≤ x5_1
     ·rw [if_pos c5] at H
      have c5b0 : decide (0 ≤ x5_1) = true := decide_eq_true c5
      clear c5
      by_cases c6 : x5_1 < (l1.length : Int)
      ·rw [if_pos c6] at H
       have c6b0 : decide (x5_1 < (l1.length : Int)) = true := decide_eq_true c6
       clear c6
       by_cases c7 : (rd l0 x5_1) = (rd l1 x5_1)
       ·rw [if_pos c7] at H
        have c7b0 : ((rd l0 x5_1) == (rd l1 x5_1)) = true := beq_iff_eq.mpr c7
        have c7b1 : ((rd l0 x5_1) != (rd l1 x5_1)) = false := bne_eq_false_iff_eq.mpr c7
        clear c7
        have H' := Aside0.mk H
        clear H
        have p101 : 0 ≤ (x5_1 : Int) := od
        have q101 : x5_1 < (l0.length : Int) := od
        obtain ⟨ad101, e101, hx101_0⟩ := Kd.at_int HR0.out x5_1 p101 q101
        cases e101
        replace p101 := eq_true p101
        replace q101 := eq_true q101
        have p102 : 0 ≤ (x5_1 : Int) := od
        have q102 : x5_1 < (l1.length : Int) := od
        obtain ⟨ad102, e102, hx102_0⟩ := Kd.at_int HR1.out x5_1 p102 q102
        cases e102
        replace p102 := eq_true p102
        replace q102 := eq_true q102
        go_wp2
        repeat (go_quiet (fail); try go_wp2)
        go_roundg k1
        case measure => have := HK1.out; omega
        case rel => exact ⟨(wrap64 (x5_1 + 1)), rs_, H', ⟨by have := HK1.out; omega⟩, by repeat (first | exact Drawn0.refl _ | apply Drawn0.step)⟩
       rw [if_neg c7] at H
       have c7b0 : ((rd l0 x5_1) == (rd l1 x5_1)) = false := beq_eq_false_iff_ne.mpr c7
       have c7b1 : ((rd l0 x5_1) != (rd l1 x5_1)) = true := bne_iff_ne.mpr c7
       obtain rfl := Option.some.inj H
       have p101 : 0 ≤ (x5_1 : Int) := od
       have q101 : x5_1 < (l0.length : Int) := od
       obtain ⟨ad101, e101, hx101_0⟩ := Kd.at_int HR0.out x5_1 p101 q101
       cases e101
       replace p101 := eq_true p101
       replace q101 := eq_true q101
       have p102 : 0 ≤ (x5_1 : Int) := od
       have q102 : x5_1 < (l1.length : Int) := od
       obtain ⟨ad102, e102, hx102_0⟩ := Kd.at_int HR1.out x5_1 p102 q102
       cases e102
       replace p102 := eq_true p102
       replace q102 := eq_true q102
       go_wp2
       repeat (go_quiet (fail); try go_wp2)
       go_ret
       exact ⟨by first | rfl | (simp; done) | (simp [*]; done), by repeat (first | exact Drawn0.refl _ | apply Drawn0.step)⟩
      rw [if_neg c6] at H
      exact absurd H (by simp)
     rw [if_neg c5] at H
     exact absurd H (by simp)
    rw [if_neg c4] at H
    have c4b0 : decide (x5_1 < (l0.length : Int)) = false := decide_eq_false c4
    clear c4
    obtain rfl := Option.some.inj H
    go_wp2
    repeat (go_quiet (fail); try go_wp2)
    go_ret
    exact ⟨by first | rfl | (simp; done) | (simp [*]; done), by repeat (first | exact Drawn0.refl _ | apply Drawn0.step)⟩
 rw [if_neg c3] at H
 have c3b0 : ((l0.length : Int) == (l1.length : Int)) = false := beq_eq_false_iff_ne.mpr c3
 have c3b1 : ((l0.length : Int) != (l1.length : Int)) = true := bne_iff_ne.mpr c3
 have c3b2 : (l0.length == l1.length) = false := by first | simpa using c3 | (simp at c3 ⊢; omega)
 obtain rfl := Option.some.inj H
 go_enter Tryd.func17, Tryd.ntmps17
 go_wp2
 repeat (go_quiet (fail); try go_wp2)
 go_ret
 exact ⟨by first | rfl | (simp; done) | (simp [*]; done), by repeat (first | exact Drawn0.refl _ | apply Drawn0.step)⟩

/-! ### laws_markByteS: function 18 -/
def laws_markByteS.l0 : Nat → List Int → Int → Int → Option (Int × List Int)
 | 0, _, _, _ => none
 | k + 1, x0, x1, x5 => if x5 < (x0.length : Int) then (if 0 ≤ x5 then (laws_markByteS.l0 k (x0.set (x5 : Int).toNat ((x1) % 256)) (wrap64 (x1 + 1)) (wrap64 (x5 + 1))) else (none)) else (some (x1, x0))
def laws_markByteS.f (k : Nat) (l0 : List Int) (a1 : Int) : Option (Int × List Int) := laws_markByteS.l0 k l0 a1 0
set_option maxHeartbeats 8000000 in
set_option maxRecDepth 100000 in
theorem laws_markByteS.calls (k : Nat) (P0_ : Nat → Prop) (u9000_ : Value) (l0 : List Int) (a1 : Int) (r1 : Int) (r2 : List Int) (w0 w : World) (hB : Below w0.heap.size w0 w) (ho0 : RMk w w0.heap.size P0_ u9000_ l0) (h : laws_markByteS.f k l0 a1 = some (r1, r2)) :
  Calls Tryd.prog 18 #[u9000_, .int .i64 a1] w fun e w' => e = .returned (.int .i64 r1) ∧ RMk w' w0.heap.size (fun k_ => (P0_ k_ ∨ w.heap.size ≤ k_)) u9000_ r2 ∧ Below w0.heap.size w0 w' ∧ Kept w w' (fun k_ => P0_ k_) := by
 have HO0 := Aside0.mk (show RMk w w0.heap.size (fun k_ => (P0_ k_ ∨ w.heap.size ≤ k_)) u9000_ l0 from RMk_mono ho0 (fun k_ hk => (.inl hk)))
 have HK := Aside0.mk (Kept.refl w (fun k_ => P0_ k_))
 have HW0 := Aside0.mk hB.size
 have HB := Aside0.mk hB
 clear hB
 have H : (laws_markByteS.l0 k l0 a1 0) = some (r1, r2) := h
 clear h
 have H' := Aside0.mk H
 clear H
 go_enter Tryd.func18, Tryd.ntmps18
 go_wp2
 go_loopg [1, 5] k (fun kq v1 v5 w' => ∃ (x0_1 : List Int) (x1_1 : Int) (x5_1 : Int), v1 = .int .i64 x1_1 ∧ v5 = .int .i64 x5_1 ∧ Aside0 (laws_markByteS.l0 kq x0_1 x1_1 x5_1 = some (r1, r2)) ∧ Aside0 (kq ≤ k) ∧ Aside0 (RMk w' w0.heap.size (fun k_ => (P0_ k_ ∨ w.heap.size ≤ k_)) u9000_ x0_1) ∧ Aside0 (Kept w w' (fun k_ => P0_ k_)) ∧ Aside0 (Below w0.heap.size w0 w'))
 case atStart => exact ⟨(l0), (a1), (0), rs_, rs_, H', ⟨Nat.le_refl _⟩, ⟨rmp HO0⟩, ⟨by repeat (first | (with_reducible first | exact HK.out | apply Kept.alloc | apply Kept.drewN | apply Kept.drew) | exact HK.out)⟩, ⟨bel⟩⟩
 case round =>
  clear H'
  try clear c1; try clear p2
  obtain ⟨x0_1, x1_1, x5_1, rfl, rfl, HA, HK1, HO_0, HK, HB⟩ := hrel
  cases gk with
  | zero => exact absurd HA.out (by simp [laws_markByteS.l0])
  | succ k1 =>
   have H := HA.out
   clear HA
   simp only [laws_markByteS.l0] at H
   by_cases c3 : x5_1 < (x0_1.length : Int)
   ·rw [if_pos c3] at H
    have c3b0 : decide (x5_1 < (x0_1.length : Int)) = true := decide_eq_true c3
    clear c3
    by_cases c4 : 0 ≤ x5_1
    ·rw [if_pos c4] at H
     have c4b0 : decide (0 ≤ x5_1) = true := decide_eq_true c4
     clear c4
     obtain ⟨y103, hy103⟩ : ∃ y_ : List Int, y_ = (x0_1.set (x5_1 : Int).toNat ((x1_1) % 256)) := ⟨_, rfl⟩
     replace H : (laws_markByteS.l0 k1 y103 (wrap64 (x1_1 + 1)) (wrap64 (x5_1 + 1))) = some (r1, r2) := by first | (rw [hy103]; with_reducible exact H) | (have H2_ := (Option.bind_some _ _).symm.trans H; rw [hy103]; with_reducible exact H2_) | (have H2_ := (Option.bind_some _ _).symm.trans H; with_reducible exact H2_) | with_reducible exact H | (rw [hy103]; exact H) | exact H
     have Ny103 := Aside0.mk hy103
     clear hy103
     have H' := Aside0.mk H
     clear H
     obtain ⟨Ao6, co6, eo6⟩ := RMk_slice HO_0.out
     subst eo6
     have p5 : 0 ≤ (x5_1 : Int) := od
     have q5 : (x5_1 : Int) < ((x0_1.length : Int) : Int) := od
     obtain ⟨go5, co5, eo5, gb5, gl5, cl5, HG5⟩ := RMk_form HO_0.out (by omega)
     (first | cases eo5 | (injection eo5 with ea_ en_ ec_; (first | subst ea_ | (injection ea_ with ea_; subst ea_)); subst ec_; clear en_))
     have GB5 := Aside0.mk gb5
     have GG5 := Aside0.mk HG5
     clear gb5 gl5 HG5
     have HMgo5 := Aside0.mk (show (P0_ go5 ∨ w.heap.size ≤ go5) from (HO_0.out.1 _ rfl))
     obtain ⟨hx5_0, hf5_0⟩ := RMk_celln 0 HO_0.out (x5_1 : Int) p5 q5
     replace p5 := eq_true p5
     replace q5 := eq_true q5
     have HP7 := RMk_putg HO_0.out (x5_1 : Int) ((x1_1) % 256)
     go_wp2_with (first | ((with_reducible refine gate_store (t := 5) (p := 16) rfl ?_); refine store_event (t := 5) (p := 16) (v := ?vo_w8) (w1 := (wr.setCell ⟨go5, (x5_1 : Int).toNat, none⟩ (.int .u8 ((x1_1) % 256)))) ?hg ?ho ?hn ?hr ?_; (case ho => rfl); (case hg => rfl); (case hn => rfl); (case hr => first | (go_simp; done) | (go_simp; rfl)); intro w8 hw; have hg : wr.grownBy w8 (some go5) := (by rw [hw]; exact HP7.2); have hp_ : RMk w8 w0.heap.size (fun k_ => (P0_ k_ ∨ w.heap.size ≤ k_)) (.slice (some ⟨go5, 0, none⟩) x0_1.length co6) y103 := (by rw [hw, Ny103.out]; exact HP7.1); clear HP7; replace HB := Aside0.mk ((by rw [hw]; exact below_set (HB.out) GB5.out : Below w0.heap.size w0 w8)); replace HK := Aside0.mk (Kept.of_grown (S := (fun k_ => P0_ k_)) hg (by repeat (first | (with_reducible first | exact HK.out | apply Kept.alloc | apply Kept.drewN | apply Kept.drew) | exact HK.out)) (fun k_ e_ => (HO_0.out.1 k_ e_))); replace HO_0 := Aside0.mk (hp_); clear hg hw hp_))
     go_roundg k1
     case measure => have := HK1.out; omega
     case rel => exact ⟨(y103), (wrap64 (x1_1 + 1)), (wrap64 (x5_1 + 1)), rs_, rs_, H', ⟨by have := HK1.out; omega⟩, ⟨rmp HO_0⟩, ⟨by repeat (first | (with_reducible first | exact HK.out | apply Kept.alloc | apply Kept.drewN | apply Kept.drew) | exact HK.out)⟩, ⟨bel⟩⟩
    rw [if_neg c4] at H
    exact absurd H (by simp)
   rw [if_neg c3] at H
   have c3b0 : decide (x5_1 < (x0_1.length : Int)) = false := decide_eq_false c3
   clear c3
   simp only [Option.some.injEq, Prod.mk.injEq] at H
   obtain ⟨rfl, rfl⟩ := H
   obtain ⟨Ao9, co9, eo9⟩ := RMk_slice HO_0.out
   subst eo9
   go_wp2
   go_ret
   exact ⟨rz_, by (with_reducible repeat (first | apply RMk_alloc | apply RMk_drewN | apply RMk_drew)); exact HO_0.out, by repeat (first | (with_reducible first | exact HB.out | apply below_alloc | apply pw_below_drewN | apply below_drew1) | exact HB.out), by repeat (first | (with_reducible first | exact HK.out | apply Kept.alloc | apply Kept.drewN | apply Kept.drew) | exact HK.out)⟩

/-! ### spec_l2index: function 36 -/
def spec_l2index.f (a0 : Int) : Option (Bool) := if a0 ≥ 0 then (some (decide (a0 ≤ 1000000))) else (some false)
set_option maxHeartbeats 8000000 in
set_option maxRecDepth 100000 in
theorem spec_l2index.calls (a0 : Int) (r : Bool) (w : World) (h : spec_l2index.f a0 = some r) :
  Calls Tryd.prog 36 #[.int .i64 a0] w fun e w' => e = .returned (.bool r) ∧ Drawn0 w w' := by
 have H : (if a0 ≥ 0 then (some (decide (a0 ≤ 1000000))) else (some false)) = some r := h
 clear h
 by_cases c2 : a0 ≥ 0
 ·rw [if_pos c2] at H
  have c2b0 : decide (0 ≤ a0) = true := decide_eq_true c2
  clear c2
  obtain rfl := Option.some.inj H
  go_enter Tryd.func36, Tryd.ntmps36
  go_wp2
  go_ret
  exact ⟨by first | rfl | (simp; done) | (simp [*]; done), by repeat (first | exact Drawn0.refl _ | apply Drawn0.step)⟩
 rw [if_neg c2] at H
 have c2b0 : decide (0 ≤ a0) = false := decide_eq_false c2
 clear c2
 obtain rfl := Option.some.inj H
 go_enter Tryd.func36, Tryd.ntmps36
 go_wp2
 go_ret
 exact ⟨by first | rfl | (simp; done) | (simp [*]; done), by repeat (first | exact Drawn0.refl _ | apply Drawn0.step)⟩

/-! ### spec_l8word: function 61 -/
def spec_l8word.f (l0 : List Int) (l1 : List Int) : Option (List Int) := if (l0.length : Int) > 0 then (if l0.length < 140737488355328 then ((some (l0 ++ [32] : List Int)).bind fun y104 => (if y104.length + l1.length < 140737488355328 then (some (y104 ++ l1)) else (none))) else (none)) else (if l0.length + l1.length < 140737488355328 then (some (l0 ++ l1)) else (none))
set_option maxHeartbeats 8000000 in
set_option maxRecDepth 100000 in
theorem spec_l8word.calls (P0_ : Nat → Prop) (u9000_ : Value) (l0 : List Int) (A1 : Option Addr) (c1 : Nat) (l1 : List Int) (r : List Int) (w0 w : World) (hB : Below w0.heap.size w0 w) (ho0 : RTk w w0.heap.size P0_ u9000_ l0) (hr1 : ∀ W_, Kept w W_ (fun k_ => P0_ k_) → Kd.C (Kd.int .u8) W_ A1 l1.length l1) (hc1 : l1.length ≤ c1) (h : spec_l8word.f l0 l1 = some r) :
  Calls Tryd.prog 61 #[u9000_, .slice A1 l1.length c1] w fun e w' => ∃ v0_ : Value, e = .returned (v0_) ∧ RTk w' w0.heap.size (fun k_ => (P0_ k_ ∨ w.heap.size ≤ k_)) v0_ r ∧ Below w0.heap.size w0 w' ∧ Kept w w' (fun k_ => P0_ k_) := by
 have HO0 := Aside0.mk (show RTk w w0.heap.size (fun k_ => (P0_ k_ ∨ w.heap.size ≤ k_)) u9000_ l0 from RTk_mono ho0 (fun k_ hk => (.inl hk)))
 have HR1 := Aside0.mk hr1
 have HC1 := Aside0.mk hc1
 clear hr1 hc1
 have HK := Aside0.mk (Kept.refl w (fun k_ => P0_ k_))
 have HW0 := Aside0.mk hB.size
 have HB := Aside0.mk hB
 clear hB
 have H : (if (l0.length : Int) > 0 then (if l0.length < 140737488355328 then ((some (l0 ++ [32] : List Int)).bind fun y104 => (if y104.length + l1.length < 140737488355328 then (some (y104 ++ l1)) else (none))) else (none)) else (if l0.length + l1.length < 140737488355328 then (some (l0 ++ l1)) else (none))) = some r := h
 clear h
 by_cases c3 : (l0.length : Int) > 0
 ·rw [if_pos c3] at H
  have c3b0 : decide (0 < (l0.length : Int)) = true := decide_eq_true c3
  have c3b1 : decide (0 < l0.length) = true := decide_eq_true (by omega)
  clear c3
  by_cases c4 : l0.length < 140737488355328
  ·rw [if_pos c4] at H
   have LMc4 := Aside0.mk c4
   clear c4
   obtain ⟨y104, hy104⟩ : ∃ y_ : List Int, y_ = (l0 ++ [32]) := ⟨_, rfl⟩
   replace H : (if y104.length + l1.length < 140737488355328 then (some (y104 ++ l1)) else (none)) = some r := by first | (rw [hy104]; with_reducible exact H) | (have H2_ := (Option.bind_some _ _).symm.trans H; rw [hy104]; with_reducible exact H2_) | (have H2_ := (Option.bind_some _ _).symm.trans H; with_reducible exact H2_) | with_reducible exact H | (rw [hy104]; exact H) | exact H
   have Ny104 := Aside0.mk hy104
   clear hy104
   by_cases c5 : y104.length + l1.length < 140737488355328
   ·rw [if_pos c5] at H
    have LMc5 := Aside0.mk c5
    clear c5
    obtain ⟨y107, hy107⟩ : ∃ y_ : List Int, y_ = (y104 ++ l1) := ⟨_, rfl⟩
    replace H : (some y107) = some r := by first | (rw [hy107]; with_reducible exact H) | (have H2_ := (Option.bind_some _ _).symm.trans H; rw [hy107]; with_reducible exact H2_) | (have H2_ := (Option.bind_some _ _).symm.trans H; with_reducible exact H2_) | with_reducible exact H | (rw [hy107]; exact H) | exact H
    have Ny107 := Aside0.mk hy107
    clear hy107
    obtain rfl := Option.some.inj H
    obtain ⟨Ao6, co6, eo6⟩ := RTk_slice HO0.out
    subst eo6
    go_enter Tryd.func61, Tryd.ntmps61
    go_wp2_with (first | ((with_reducible refine gate_builtin (b := .append) (xs := #[.tmp 8, .tmp 9]) rfl ?_); at_builtin; refine RTk_append (w0 := w0) w0.heap.size rfl (.tmp 8) (.tmp 9) 22 rfl Tryd.underlying22 info5 (.slice Ao6 l0.length co6) l0 32 (fun k_ => (P0_ k_ ∨ w.heap.size ≤ k_)) rfl rfl ?aO ?aF ?aB ?aS ?aL ?_; (case aB => exact bel); (case aF => exact (fun k_ hk => (.inr (Nat.le_trans (by first | exact HK.out.1 | exact (show Kept w _ (fun k_ => P0_ k_) from by repeat (first | (with_reducible first | exact HK.out | apply Kept.alloc | apply Kept.drewN | apply Kept.drew) | exact HK.out)).1) hk)))); (case aO => exact (rtp HO0)); (case aS => exact (below_size bel)); (case aL => have := LMc4.out; omega); intro v105 w7 ho hb hg hat; rw [← Ny104.out] at ho; have n0_ := Aside0.mk (hb); have n1_ := Aside0.mk (Kept.of_grown (S := (fun k_ => P0_ k_)) hg (by repeat (first | (with_reducible first | exact HK.out | apply Kept.alloc | apply Kept.drewN | apply Kept.drew) | exact HK.out)) (fun k_ e_ => (HO0.out.1 k_ e_))); have n2_ := Aside0.mk (ho); clear HB; clear HK; clear HO0; have HB := n0_; have HK := n1_; have HO106 := n2_; clear n0_ n1_ n2_; clear ho hb hg hat) | ((with_reducible refine gate_builtin (b := .append) (xs := #[.tmp 11, .tmp 12]) rfl ?_); at_builtin; refine RTk_append_rows (w0 := w0) w0.heap.size rfl (.tmp 11) (.tmp 12) 22 rfl Tryd.underlying22 info5 v105 y104 l1 _ _ _ (fun k_ => (P0_ k_ ∨ w.heap.size ≤ k_)) rfl rfl ?aO ?aR ?aF ?aB ?aS ?aL ?_; (case aR => exact Kd.C_kept_now HR1.out (by repeat (first | (with_reducible first | exact HK.out | apply Kept.alloc | apply Kept.drewN | apply Kept.drew) | exact HK.out))); (case aB => exact bel); (case aF => exact (fun k_ hk => (.inr (Nat.le_trans (by first | exact HK.out.1 | exact (show Kept w _ (fun k_ => P0_ k_) from by repeat (first | (with_reducible first | exact HK.out | apply Kept.alloc | apply Kept.drewN | apply Kept.drew) | exact HK.out)).1) hk)))); (case aO => exact (rtp HO106)); (case aS => exact (below_size bel)); (case aL => have := LMc5.out; omega); intro v108 w8 ho hb hg hat; rw [← Ny107.out] at ho; have n0_ := Aside0.mk (hb); have n1_ := Aside0.mk (Kept.of_grown (S := (fun k_ => P0_ k_)) hg (by repeat (first | (with_reducible first | exact HK.out | apply Kept.alloc | apply Kept.drewN | apply Kept.drew) | exact HK.out)) (fun k_ e_ => (HO106.out.1 k_ e_))); have n2_ := Aside0.mk (ho); clear HB; clear HK; clear HO106; have HB := n0_; have HK := n1_; have HO109 := n2_; clear n0_ n1_ n2_; clear ho hb hg hat))
    go_ret
    exact ⟨_, rz_, by (with_reducible repeat (first | apply RTk_alloc | apply RTk_drewN | apply RTk_drew)); exact HO109.out, by repeat (first | (with_reducible first | exact HB.out | apply below_alloc | apply pw_below_drewN | apply below_drew1) | exact HB.out), by repeat (first | (with_reducible first | exact HK.out | apply Kept.alloc | apply Kept.drewN | apply Kept.drew) | exact HK.out)⟩
   rw [if_neg c5] at H
   exact absurd H (by simp)
  rw [if_neg c4] at H
  exact absurd H (by simp)
 rw [if_neg c3] at H
 have c3b0 : decide (0 < (l0.length : Int)) = false := decide_eq_false c3
 have c3b1 : decide (0 < l0.length) = false := decide_eq_false (by omega)
 clear c3
 by_cases c9 : l0.length + l1.length < 140737488355328
 ·rw [if_pos c9] at H
  have LMc9 := Aside0.mk c9
  clear c9
  obtain ⟨y110, hy110⟩ : ∃ y_ : List Int, y_ = (l0 ++ l1) := ⟨_, rfl⟩
  replace H : (some y110) = some r := by first | (rw [hy110]; with_reducible exact H) | (have H2_ := (Option.bind_some _ _).symm.trans H; rw [hy110]; with_reducible exact H2_) | (have H2_ := (Option.bind_some _ _).symm.trans H; with_reducible exact H2_) | with_reducible exact H | (rw [hy110]; exact H) | exact H
  have Ny110 := Aside0.mk hy110
  clear hy110
  obtain rfl := Option.some.inj H
  obtain ⟨Ao10, co10, eo10⟩ := RTk_slice HO0.out
  subst eo10
  go_enter Tryd.func61, Tryd.ntmps61
  go_wp2_with (first | ((with_reducible refine gate_builtin (b := .append) (xs := #[.tmp 11, .tmp 12]) rfl ?_); at_builtin; refine RTk_append_rows (w0 := w0) w0.heap.size rfl (.tmp 11) (.tmp 12) 22 rfl Tryd.underlying22 info5 (.slice Ao10 l0.length co10) l0 l1 _ _ _ (fun k_ => (P0_ k_ ∨ w.heap.size ≤ k_)) rfl rfl ?aO ?aR ?aF ?aB ?aS ?aL ?_; (case aR => exact Kd.C_kept_now HR1.out (by repeat (first | (with_reducible first | exact HK.out | apply Kept.alloc | apply Kept.drewN | apply Kept.drew) | exact HK.out))); (case aB => exact bel); (case aF => exact (fun k_ hk => (.inr (Nat.le_trans (by first | exact HK.out.1 | exact (show Kept w _ (fun k_ => P0_ k_) from by repeat (first | (with_reducible first | exact HK.out | apply Kept.alloc | apply Kept.drewN | apply Kept.drew) | exact HK.out)).1) hk)))); (case aO => exact (rtp HO0)); (case aS => exact (below_size bel)); (case aL => have := LMc9.out; omega); intro v111 w11 ho hb hg hat; rw [← Ny110.out] at ho; have n0_ := Aside0.mk (hb); have n1_ := Aside0.mk (Kept.of_grown (S := (fun k_ => P0_ k_)) hg (by repeat (first | (with_reducible first | exact HK.out | apply Kept.alloc | apply Kept.drewN | apply Kept.drew) | exact HK.out)) (fun k_ e_ => (HO0.out.1 k_ e_))); have n2_ := Aside0.mk (ho); clear HB; clear HK; clear HO0; have HB := n0_; have HK := n1_; have HO112 := n2_; clear n0_ n1_ n2_; clear ho hb hg hat))
  go_ret
  exact ⟨_, rz_, by (with_reducible repeat (first | apply RTk_alloc | apply RTk_drewN | apply RTk_drew)); exact HO112.out, by repeat (first | (with_reducible first | exact HB.out | apply below_alloc | apply pw_below_drewN | apply below_drew1) | exact HB.out), by repeat (first | (with_reducible first | exact HK.out | apply Kept.alloc | apply Kept.drewN | apply Kept.drew) | exact HK.out)⟩
 rw [if_neg c9] at H
 exact absurd H (by simp)

/-! ### spec_l8digits: function 63 -/
def spec_l8digits.f : Nat → Int → Option (List Int)
 | 0, _ => none
 | k + 1, a0 => if a0 < 10 then (some (([(wrap64 (48 + a0)) % 256] : List Int))) else ((spec_l8digits.f k (wrap64 (Int.tdiv a0 10))).bind fun t116 => (if t116.length < 140737488355328 then (some (t116 ++ [(wrap64 (48 + (Int.tmod a0 10))) % 256])) else (none)))
set_option maxHeartbeats 8000000 in
set_option maxRecDepth 100000 in
theorem spec_l8digits.calls (k : Nat) : ∀ (a0 : Int) (r : List Int) (w : World) (h : spec_l8digits.f k a0 = some r),
  Calls Tryd.prog 63 #[.int .i64 a0] w fun e w' => ∃ v0_ : Value, e = .returned (v0_) ∧ Kd.R (Kd.int .u8) 5 w' w.heap.size (fun _ => True) v0_ r ∧ Below w.heap.size w w' := by
 induction k using Nat.strongRecOn with
 | _ k ih =>
 intro a0 r w h
 cases k with
 | zero => exact absurd h (by simp [spec_l8digits.f])
 | succ k =>
 simp only [spec_l8digits.f] at h
 have HB := Aside0.mk (Below.refl w.heap.size w)
 have H : (if a0 < 10 then (some (([(wrap64 (48 + a0)) % 256] : List Int))) else ((spec_l8digits.f k (wrap64 (Int.tdiv a0 10))).bind fun t116 => (if t116.length < 140737488355328 then (some (t116 ++ [(wrap64 (48 + (Int.tmod a0 10))) % 256])) else (none)))) = some r := h
 clear h
 by_cases c2 : a0 < 10
 ·rw [if_pos c2] at H
  have c2b0 : decide (a0 < 10) = true := decide_eq_true c2
  clear c2
  obtain ⟨y113, hy113⟩ : ∃ y_ : List Int, y_ = (([(wrap64 (48 + a0)) % 256] : List Int)) := ⟨_, rfl⟩
  replace H : (some y113) = some r := by first | (rw [hy113]; with_reducible exact H) | (have H2_ := (Option.bind_some _ _).symm.trans H; rw [hy113]; with_reducible exact H2_) | (have H2_ := (Option.bind_some _ _).symm.trans H; with_reducible exact H2_) | with_reducible exact H | (rw [hy113]; exact H) | exact H
  have Ny113 := Aside0.mk hy113
  clear hy113
  obtain rfl := Option.some.inj H
  go_enter Tryd.func63, Tryd.ntmps63
  go_wp2_with (first | ((with_reducible refine gate_dst (N := 8) rfl ?_); refine Kd.R_lit (Kd.int .u8) _ 5 ?hg (N := 8) ?hd (xs := ([(wrap64 (48 + a0)) % 256] : List Int)) (inner := [.int .u8 ((wrap64 (48 + a0)) % 256)]) (ok := fun _ => True) (okp := fun _ => True) ?hr ?hp (fun _ hk => hk) trivial (Below.refl _ _) (Nat.le_refl _) (by simp) ?_; (case hd => rfl); (case hg => rfl); (case hr => first | (go_simp; done) | (go_simp; rfl)); (case hp => exact (Reps.one (show Kd.M (Kd.int .u8) _ _ _ ((wrap64 (48 + a0)) % 256) [.int .u8 ((wrap64 (48 + a0)) % 256)] from rfl) (Reps.none _ _))); intro v114 w3 ho4 hb hg_ hnew_; clear hg_ hnew_; (first | rw [← Ny113.out] at ho4 | (simp only [Int.reduceToNat] at ho4; rw [← Ny113.out] at ho4)); have HO115 := Aside0.mk (Kd.R_lower ho4 (below_size bel)); replace HB := bst hb; clear hb ho4))
  go_ret
  exact ⟨_, rz_, by (with_reducible repeat (first | apply Kd.R_alloc | apply Kd.R_drewN | apply Kd.R_drew)); exact HO115.out, bel⟩
 rw [if_neg c2] at H
 have c2b0 : decide (a0 < 10) = false := decide_eq_false c2
 clear c2
 replace H := Option.bind_eq_some_iff.mp H
 obtain ⟨t116, A50, H⟩ := H
 replace H : (if t116.length < 140737488355328 then (some (t116 ++ [(wrap64 (48 + (Int.tmod a0 10))) % 256])) else (none)) = some r := H
 have A5 := Aside0.mk A50
 clear A50
 by_cases c6 : t116.length < 140737488355328
 ·rw [if_pos c6] at H
  have LMc6 := Aside0.mk c6
  clear c6
  obtain ⟨y119, hy119⟩ : ∃ y_ : List Int, y_ = (t116 ++ [(wrap64 (48 + (Int.tmod a0 10))) % 256]) := ⟨_, rfl⟩
  replace H : (some y119) = some r := by first | (rw [hy119]; with_reducible exact H) | (have H2_ := (Option.bind_some _ _).symm.trans H; rw [hy119]; with_reducible exact H2_) | (have H2_ := (Option.bind_some _ _).symm.trans H; with_reducible exact H2_) | with_reducible exact H | (rw [hy119]; exact H) | exact H
  have Ny119 := Aside0.mk hy119
  clear hy119
  obtain rfl := Option.some.inj H
  go_enter Tryd.func63, Tryd.ntmps63
  go_wp2_with (first | ((with_reducible refine gate_callee (f := 63) rfl ?_); refine gl_ (some 11) Tryd.func63 #[.int .i64 (wrap64 (Int.tdiv a0 10))] (h := ?_); (with_reducible refine (ih k (by omega) (wrap64 (Int.tdiv a0 10)) t116 _ A5.out).mono ?_); rintro e w7 ⟨v117, rfl, ho0, hb⟩; refine ⟨_, rfl, ?_⟩; have HO118 := Aside0.mk (Kd.R_lower ho0 (below_size bel)); replace HB := bst hb; (try clear hb); (try clear hb2); (try clear hk); (try clear hi); (try clear ho0)) | ((with_reducible refine gate_builtin (b := .append) (xs := #[.tmp 11, .tmp 16]) rfl ?_); at_builtin; refine Kd.R_append (Kd.int .u8) (w0 := w) w.heap.size rfl (.tmp 11) (.tmp 16) 22 5 (.int .u8 0) 1 rfl Tryd.underlying22 info5 rfl (by decide) (by omega) v117 t116 ((wrap64 (48 + (Int.tmod a0 10))) % 256) [.int .u8 ((wrap64 (48 + (Int.tmod a0 10))) % 256)] (fun _ => True) (fun _ => False) rfl rfl ?aP (fun _ hk => hk.elim) ?aF ?aO ?aB ?aS ?aL ?_; (case aP => exact rfl); (case aB => exact bel); (case aF => exact (fun _ _ => trivial)); (case aO => exact (rkp HO118)); (case aS => exact (below_size bel)); (case aL => have := LMc6.out; omega); intro v120 w8 ho hb hg hat; rw [← Ny119.out] at ho; have n0_ := Aside0.mk (hb); have n1_ := Aside0.mk (ho); clear HB; clear HO118; have HB := n0_; have HO121 := n1_; clear n0_ n1_; clear ho hb hg hat))
  go_ret
  exact ⟨_, rz_, by (with_reducible repeat (first | apply Kd.R_alloc | apply Kd.R_drewN | apply Kd.R_drew)); exact HO121.out, bel⟩
 rw [if_neg c6] at H
 exact absurd H (by simp)

/-! ### spec_l8code: function 68 -/
def spec_l8code.f (a0 : Int) : Option (ByteArray) := (some (([(⟨#[119, 101, 108, 108]⟩ : ByteArray), (⟨#[110, 111, 110, 101]⟩ : ByteArray), (⟨#[104, 101, 108, 100]⟩ : ByteArray), (⟨#[116, 117, 114, 110, 101, 100]⟩ : ByteArray), (⟨#[102, 117, 108, 108]⟩ : ByteArray), (⟨#[111, 108, 100]⟩ : ByteArray)] : List ByteArray) : List ByteArray)).bind fun y122 => (if 0 ≤ a0 then (if a0 < (y122.length : Int) then (some (rdOf ByteArray.empty y122 a0)) else (none)) else (none))
set_option maxHeartbeats 8000000 in
set_option maxRecDepth 100000 in
theorem spec_l8code.calls (a0 : Int) (r : ByteArray) (w : World) (h : spec_l8code.f a0 = some r) :
  Calls Tryd.prog 68 #[.int .i64 a0] w fun e w' => e = .returned (.string r) ∧ Below w.heap.size w w' := by
 have HB := Aside0.mk (Below.refl w.heap.size w)
 have H : ((some (([(⟨#[119, 101, 108, 108]⟩ : ByteArray), (⟨#[110, 111, 110, 101]⟩ : ByteArray), (⟨#[104, 101, 108, 100]⟩ : ByteArray), (⟨#[116, 117, 114, 110, 101, 100]⟩ : ByteArray), (⟨#[102, 117, 108, 108]⟩ : ByteArray), (⟨#[111, 108, 100]⟩ : ByteArray)] : List ByteArray) : List ByteArray)).bind fun y122 => (if 0 ≤ a0 then (if a0 < (y122.length : Int) then (some (rdOf ByteArray.empty y122 a0)) else (none)) else (none))) = some r := h
 clear h
 obtain ⟨y122, hy122⟩ : ∃ y_ : List ByteArray, y_ = (([(⟨#[119, 101, 108, 108]⟩ : ByteArray), (⟨#[110, 111, 110, 101]⟩ : ByteArray), (⟨#[104, 101, 108, 100]⟩ : ByteArray), (⟨#[116, 117, 114, 110, 101, 100]⟩ : ByteArray), (⟨#[102, 117, 108, 108]⟩ : ByteArray), (⟨#[111, 108, 100]⟩ : ByteArray)] : List ByteArray)) := ⟨_, rfl⟩
 replace H : (if 0 ≤ a0 then (if a0 < (y122.length : Int) then (some (rdOf ByteArray.empty y122 a0)) else (none)) else (none)) = some r := by first | (rw [hy122]; with_reducible exact H) | (have H2_ := (Option.bind_some _ _).symm.trans H; rw [hy122]; with_reducible exact H2_) | (have H2_ := (Option.bind_some _ _).symm.trans H; with_reducible exact H2_) | with_reducible exact H | (rw [hy122]; exact H) | exact H
 have Ny122 := Aside0.mk hy122
 clear hy122
 by_cases c2 : 0 ≤ a0
 ·rw [if_pos c2] at H
  have c2b0 : decide (0 ≤ a0) = true := decide_eq_true c2
  clear c2
  by_cases c3 : a0 < (y122.length : Int)
  ·rw [if_pos c3] at H
   have c3b0 : decide (a0 < (y122.length : Int)) = true := decide_eq_true c3
   clear c3
   obtain rfl := Option.some.inj H
   go_enter Tryd.func68, Tryd.ntmps68
   go_wp2_with (first | ((with_reducible refine gate_dst (N := 3) rfl ?_); refine Kd.R_lit Kd.string _ 9 ?hg (N := 3) ?hd (xs := ([(⟨#[119, 101, 108, 108]⟩ : ByteArray), (⟨#[110, 111, 110, 101]⟩ : ByteArray), (⟨#[104, 101, 108, 100]⟩ : ByteArray), (⟨#[116, 117, 114, 110, 101, 100]⟩ : ByteArray), (⟨#[102, 117, 108, 108]⟩ : ByteArray), (⟨#[111, 108, 100]⟩ : ByteArray)] : List ByteArray)) (inner := [.string (⟨#[119, 101, 108, 108]⟩ : ByteArray), .string (⟨#[110, 111, 110, 101]⟩ : ByteArray), .string (⟨#[104, 101, 108, 100]⟩ : ByteArray), .string (⟨#[116, 117, 114, 110, 101, 100]⟩ : ByteArray), .string (⟨#[102, 117, 108, 108]⟩ : ByteArray), .string (⟨#[111, 108, 100]⟩ : ByteArray)]) (ok := fun _ => True) (okp := fun _ => True) ?hr ?hp (fun _ hk => hk) trivial (Below.refl _ _) (Nat.le_refl _) (by simp) ?_; (case hd => rfl); (case hg => rfl); (case hr => first | (go_simp; done) | (go_simp; rfl)); (case hp => exact (Reps.one (show Kd.M Kd.string _ _ _ (⟨#[119, 101, 108, 108]⟩ : ByteArray) [.string (⟨#[119, 101, 108, 108]⟩ : ByteArray)] from rfl) (Reps.one (show Kd.M Kd.string _ _ _ (⟨#[110, 111, 110, 101]⟩ : ByteArray) [.string (⟨#[110, 111, 110, 101]⟩ : ByteArray)] from rfl) (Reps.one (show Kd.M Kd.string _ _ _ (⟨#[104, 101, 108, 100]⟩ : ByteArray) [.string (⟨#[104, 101, 108, 100]⟩ : ByteArray)] from rfl) (Reps.one (show Kd.M Kd.string _ _ _ (⟨#[116, 117, 114, 110, 101, 100]⟩ : ByteArray) [.string (⟨#[116, 117, 114, 110, 101, 100]⟩ : ByteArray)] from rfl) (Reps.one (show Kd.M Kd.string _ _ _ (⟨#[102, 117, 108, 108]⟩ : ByteArray) [.string (⟨#[102, 117, 108, 108]⟩ : ByteArray)] from rfl) (Reps.one (show Kd.M Kd.string _ _ _ (⟨#[111, 108, 100]⟩ : ByteArray) [.string (⟨#[111, 108, 100]⟩ : ByteArray)] from rfl) (Reps.none _ _)))))))); intro v123 w4 ho5 hb hg_ hnew_; clear hg_ hnew_; (first | rw [← Ny122.out] at ho5 | (simp only [Int.reduceToNat] at ho5; rw [← Ny122.out] at ho5)); have HO124 := Aside0.mk (Kd.R_lower ho5 (below_size bel)); replace HB := bst hb; clear hb ho5; obtain ⟨Ao6, co6, eo6⟩ := Kd.R_slice HO124.out; subst eo6; have p125 : 0 ≤ (a0 : Int) := od; have q125 : a0 < (y122.length : Int) := od; obtain ⟨ad125, e125, hx125_0⟩ := Kd.at_string (Kd.R_reads' HO124.out).2.2 a0 p125 q125; cases e125; replace p125 := eq_true p125; replace q125 := eq_true q125))
   go_ret
   exact ⟨rz_, bel⟩
  rw [if_neg c3] at H
  exact absurd H (by simp)
 rw [if_neg c2] at H
 exact absurd H (by simp)

/-! ### virtual_bytes: function 134 -/
def virtual_bytes.f (s : ByteArray) : Option (List Int) := if s.size ≤ 1000000 then some (s.data.toList.map (fun b => (b.toNat : Int))) else none
theorem virtual_bytes.calls (s : ByteArray) (r : List Int) (w : World) (h : virtual_bytes.f s = some r) :
  CV w s fun e w' => ∃ v0_ : Value, e = .returned (v0_) ∧ RTk w' w.heap.size (fun _ => True) v0_ r ∧ Below w.heap.size w w' := by
 unfold virtual_bytes.f at h
 by_cases c : s.size ≤ 1000000
 ·rw [if_pos c] at h
  obtain rfl := Option.some.inj h
  exact ⟨_, rfl, RT_bytes w s c, RM_bel w 5 s⟩
 rw [if_neg c] at h
 exact absurd h (by simp)

/-! ### spec_l8reply: function 54 -/
def spec_l8reply.f (k : Nat) (a0_0 : Int) (a0_1 : Int) : Option (List Int) := (spec_l8code.f a0_0).bind fun t127 => ((virtual_bytes.f t127).bind fun t128 => ((spec_l8digits.f k a0_1).bind fun t131 => ((spec_l8word.f t128 t131).bind fun t134 => (some t134))))
def spec_l8reply.T1 : Bool × List (List Nat × List Nat) := (true, [([], []), ([0], [0]), ([1], [1]), ([2], [2]), ([], []), ([4], [4]), ([5, 2], [5]), ([3, 6, 6], [3, 6]), ([7, 7, 0, 1, 2, 3, 4, 5, 6, 7], [7])])
def spec_l8reply.B1 : List Nat := [0, 1, 3, 7, 0, 16, 55, 127, 255]
theorem spec_l8reply.tab1 : rtab .any (opsOf Tryd.f54 1) = spec_l8reply.T1 := by kernel_rfl
theorem spec_l8reply.bits1 : waitsOk spec_l8reply.T1.2 spec_l8reply.B1 = true := by kernel_rfl
set_option maxHeartbeats 8000000 in
set_option maxRecDepth 100000 in
theorem spec_l8reply.calls (k : Nat) (a0_0 : Int) (a0_1 : Int) (r : List Int) (w : World) (h : spec_l8reply.f k a0_0 a0_1 = some r) :
  Calls Tryd.prog 54 #[.agg #[.int .i64 a0_0, .int .i64 a0_1]] w fun e w' => ∃ v0_ : Value, e = .returned (v0_) ∧ RTk w' w.heap.size (fun _ => True) v0_ r ∧ Below w.heap.size w w' := by
 have hu40 := Tryd.underlying40
 have HB := Aside0.mk (Below.refl w.heap.size w)
 have H : ((spec_l8code.f a0_0).bind fun t127 => ((virtual_bytes.f t127).bind fun t128 => ((spec_l8digits.f k a0_1).bind fun t131 => ((spec_l8word.f t128 t131).bind fun t134 => (some t134))))) = some r := h
 clear h
 replace H := Option.bind_eq_some_iff.mp H
 obtain ⟨t127, A20, H⟩ := H
 replace H : ((virtual_bytes.f t127).bind fun t128 => ((spec_l8digits.f k a0_1).bind fun t131 => ((spec_l8word.f t128 t131).bind fun t134 => (some t134)))) = some r := H
 have A2 := Aside0.mk A20
 clear A20
 replace H := Option.bind_eq_some_iff.mp H
 obtain ⟨t128, A30, H⟩ := H
 replace H : ((spec_l8digits.f k a0_1).bind fun t131 => ((spec_l8word.f t128 t131).bind fun t134 => (some t134))) = some r := H
 have A3 := Aside0.mk A30
 clear A30
 replace H := Option.bind_eq_some_iff.mp H
 obtain ⟨t131, A40, H⟩ := H
 replace H : ((spec_l8word.f t128 t131).bind fun t134 => (some t134)) = some r := H
 have A4 := Aside0.mk A40
 clear A40
 replace H := Option.bind_eq_some_iff.mp H
 obtain ⟨t134, A50, H⟩ := H
 replace H : (some t134) = some r := H
 have A5 := Aside0.mk A50
 clear A50
 obtain rfl := Option.some.inj H
 go_enter Tryd.func54, Tryd.ntmps54
 try go_wp2_with (first | ((with_reducible refine gate_dst (N := 1) rfl ?_); refine bx_ 1 #[.int .i64 a0_0, .int .i64 a0_1] 40 (h := ?_); intro gb126 hg w6 hbox hb; have BK126 := Aside0.mk (hbox); have GW126 := Aside0.mk ((by rw [hg]; exact (below_size bel) : w.heap.size ≤ gb126)); have GE126 := GW126; replace HB := bst hb; clear hb hbox hg))
 replace BK126 := Aside0.mk (blk_drew BK126.out)
 replace HB := Aside0.mk (below_drew1 HB.out)
 refine start_ (n := 9) (S := fun w' => w'.cell? ⟨gb126, 0, none⟩ = some (.int .i64 a0_0) ∧ w'.cell? ⟨gb126, 1, none⟩ = some (.int .i64 a0_1)) (ds := []) (tf 0 9) (by kernel_rfl) rfl rfl (cellz_2 BK126.out) (fun hHeld => ?_); refine with_tabW spec_l8reply.tab1 spec_l8reply.bits1 (fun HT_ HW_ => ?_)
 generalize w6.drew = w7 at BK126 HB hHeld ⊢
 refine pvn_ HT_ (h := ?_)
 refine pv_ HT_ 4 (some 7) (tb 9 17) (h := ?_)
 refine tv_ HT_ HW_ hHeld 1 (some 4) (tb 9 19) (h := ?_)
 refine tv_ HT_ HW_ hHeld 5 (some 8) (tb 9 51) (h := ?_)
 refine one_ (i := 2) (N := some 5) (tb 9 55) rfl rfl (one_of HT_.out (by kernel_rfl)) (by decide) (fun K hK => ?_)
 refine gs_ Tryd.func68 #[.int .i64 a0_0] (h := ?_)
 with_reducible refine (spec_l8code.calls a0_0 t127 _ A2.out).mono ?_
 rintro e w8 ⟨rfl, hb⟩
 refine ⟨_, rfl, ?_⟩
 replace BK126 := Aside0.mk (blb BK126 hb)
 replace HB := bst hb
 (try clear hb)
 (try clear hb2)
 (try clear hk)
 (try clear hi)
 refine hK.out _ _ (cellz_2 BK126.out) (fun hHeld => ?_)
 clear hK K
 refine nrm_ (some 5) (h := ?_)
 refine join_ (σ := Value × Value) 2 (tf 7 2) (fun s_ => [(6, s_.1), (9, s_.2)]) (fun s_ w' => (w'.cell? ⟨gb126, 0, none⟩ = some (.int .i64 a0_0) ∧ w'.cell? ⟨gb126, 1, none⟩ = some (.int .i64 a0_1)) ∧ (RTk w' w.heap.size (fun k_ => some k_ ≠ (s_.2 : Value).ownBlock) s_.1 t128) ∧ (Kd.R (Kd.int .u8) 5 w' w.heap.size (fun k_ => some k_ ≠ (s_.1 : Value).ownBlock) s_.2 t131) ∧ (w'.heap[gb126]? = some (.cells #[.int .i64 a0_0, .int .i64 a0_1] 40 (0, 0))) ∧ (Below w.heap.size w w')) ?_ ?_
 rotate_left
 ·intro hCont
  refine two_ (i := 3) (j := 6) (Ni := some 6) (Nj := some 9) (tf 6 3) (tb 9 119) rfl rfl rfl rfl (two_of HT_.out (by kernel_rfl)) (by decide) (by decide) (fun K hK => ?_) (fun K hK => ?_)
  ·skip
   refine cvs_ t127 Tryd.underlying9 Tryd.underlying22 Tryd.underlying5 (h := ?_)
   with_reducible refine (virtual_bytes.calls t127 t128 _ A3.out).mono ?_
   rintro e w9 ⟨v129, rfl, ho0, hb⟩
   refine ⟨_, rfl, ?_⟩
   have HO130 := Aside0.mk (RTk_lower ho0 (below_size bel))
   replace BK126 := Aside0.mk (blb BK126 hb)
   replace HB := bst hb
   (try clear hb)
   (try clear hb2)
   (try clear hk)
   (try clear hi)
   (try clear ho0)
   refine hK.out _ _ (cellz_2 BK126.out) (fun hHeld => ?_)
   clear hK K
   refine nrm_ (some 6) (h := ?_)
   refine one_ (i := 6) (N := some 9) (tf 7 2) rfl rfl (one_of HT_.out (by kernel_rfl)) (by decide) (fun K hK => ?_)
   refine gs_ Tryd.func63 #[.int .i64 a0_1] (h := ?_)
   with_reducible refine (spec_l8digits.calls k a0_1 t131 _ A4.out).mono ?_
   rintro e w10 ⟨v132, rfl, ho0, hb⟩
   refine ⟨_, rfl, ?_⟩
   have HO133 := Aside0.mk (Kd.R_lower (Kd.R_new' ho0 (RTk_lt (rtp HO130))) (below_size bel))
   replace HO130 := Aside0.mk (RTk_elder' (rtp HO130) (Kd.R_base ho0) hb)
   replace BK126 := Aside0.mk (blb BK126 hb)
   replace HB := bst hb
   (try clear hb)
   (try clear hb2)
   (try clear hk)
   (try clear hi)
   (try clear ho0)
   refine hK.out _ _ (cellz_2 BK126.out) (fun hHeld => ?_)
   clear hK K
   refine nrm_ (some 9) (h := ?_)
   exact norm_ (by simp only [putAll, Act.put, List.setIfInBounds_toArray, List.set_cons_zero, List.set_cons_succ]) (hCont (v129, v132) _ ⟨hHeld, (by (with_reducible repeat (first | apply Kd.R_alloc | apply Kd.R_drewN | apply Kd.R_drew | apply RTk_alloc | apply RTk_drewN | apply RTk_drew)); exact RTk_mono HO130.out (fun _ hk => hk.2)), (by (with_reducible repeat (first | apply Kd.R_alloc | apply Kd.R_drewN | apply Kd.R_drew | apply RTk_alloc | apply RTk_drewN | apply RTk_drew)); exact Kd.R_mono HO133.out (fun _ hk => hk.2)), (bkp BK126), bel⟩)
  ·skip
   refine gs_ Tryd.func63 #[.int .i64 a0_1] (h := ?_)
   with_reducible refine (spec_l8digits.calls k a0_1 t131 _ A4.out).mono ?_
   rintro e w9 ⟨v132, rfl, ho0, hb⟩
   refine ⟨_, rfl, ?_⟩
   have HO133 := Aside0.mk (Kd.R_lower ho0 (below_size bel))
   replace BK126 := Aside0.mk (blb BK126 hb)
   replace HB := bst hb
   (try clear hb)
   (try clear hb2)
   (try clear hk)
   (try clear hi)
   (try clear ho0)
   refine hK.out _ _ (cellz_2 BK126.out) (fun hHeld => ?_)
   clear hK K
   refine nrm_ (some 9) (h := ?_)
   refine one_ (i := 3) (N := some 6) (tf 7 2) rfl rfl (one_of HT_.out (by kernel_rfl)) (by decide) (fun K hK => ?_)
   refine cvs_ t127 Tryd.underlying9 Tryd.underlying22 Tryd.underlying5 (h := ?_)
   with_reducible refine (virtual_bytes.calls t127 t128 _ A3.out).mono ?_
   rintro e w10 ⟨v129, rfl, ho0, hb⟩
   refine ⟨_, rfl, ?_⟩
   have HO130 := Aside0.mk (RTk_lower (RTk_new' ho0 (Kd.R_lt (rkp HO133))) (below_size bel))
   replace HO133 := Aside0.mk (Kd.R_elder' (rkp HO133) (RTk_base ho0) hb)
   replace BK126 := Aside0.mk (blb BK126 hb)
   replace HB := bst hb
   (try clear hb)
   (try clear hb2)
   (try clear hk)
   (try clear hi)
   (try clear ho0)
   refine hK.out _ _ (cellz_2 BK126.out) (fun hHeld => ?_)
   clear hK K
   refine nrm_ (some 6) (h := ?_)
   exact norm_ (by simp only [putAll, Act.put, List.setIfInBounds_toArray, List.set_cons_zero, List.set_cons_succ]) (hCont (v129, v132) _ ⟨hHeld, (by (with_reducible repeat (first | apply Kd.R_alloc | apply Kd.R_drewN | apply Kd.R_drew | apply RTk_alloc | apply RTk_drewN | apply RTk_drew)); exact RTk_mono HO130.out (fun _ hk => hk.2)), (by (with_reducible repeat (first | apply Kd.R_alloc | apply Kd.R_drewN | apply Kd.R_drew | apply RTk_alloc | apply RTk_drewN | apply RTk_drew)); exact Kd.R_mono HO133.out (fun _ hk => hk.2)), (bkp BK126), bel⟩)
 rintro ⟨v129, v132⟩ w11 ⟨hS_, h0_, h1_, h2_, h3_⟩
 have n0_ : Aside0 (RTk w11 w.heap.size (fun k_ => some k_ ≠ (v132 : Value).ownBlock) v129 t128) := ⟨h0_⟩
 have n1_ : Aside0 (Kd.R (Kd.int .u8) 5 w11 w.heap.size (fun k_ => some k_ ≠ (v129 : Value).ownBlock) v132 t131) := ⟨h1_⟩
 have n2_ : Aside0 (w11.heap[gb126]? = some (.cells #[.int .i64 a0_0, .int .i64 a0_1] 40 (0, 0))) := ⟨h2_⟩
 have n3_ : Aside0 (Below w.heap.size w w11) := ⟨h3_⟩
 clear BK126
 clear HB
 clear h0_ h1_ h2_ h3_
 have HO130 := n0_
 have HO133 := n1_
 have BK126 := n2_
 have HB := n3_
 clear n0_ n1_ n2_ n3_
 have hHeld : w11.cell? ⟨gb126, 0, none⟩ = some (.int .i64 a0_0) ∧ w11.cell? ⟨gb126, 1, none⟩ = some (.int .i64 a0_1) := hS_
 obtain ⟨Ao12, co12, eo12⟩ := RTk_slice HO130.out
 (first | subst eo12 | (injection eo12 with f1_ f2_ f3_; have f4_ := f1_.symm; have f5_ := f3_.symm; clear f1_ f2_ f3_; subst f4_; subst f5_))
 obtain ⟨Ao13, co13, eo13⟩ := Kd.R_slice HO133.out
 (first | subst eo13 | (injection eo13 with f1_ f2_ f3_; have f4_ := f1_.symm; have f5_ := f3_.symm; clear f1_ f2_ f3_; subst f4_; subst f5_))
 refine norm_ (a' := ?_) ?_ ?_
 rotate_left
 ·simp only [putAll, Act.put, List.setIfInBounds_toArray, List.set_cons_zero, List.set_cons_succ]
  rfl
 refine one_ (i := 7) (N := some 10) (tf 8 1) rfl rfl (one_of HT_.out (by kernel_rfl)) (by decide) (fun K hK => ?_)
 refine gs_ Tryd.func61 #[.slice Ao12 t128.length co12, .slice Ao13 t131.length co13] (h := ?_)
 with_reducible refine (spec_l8word.calls (fun k_ => some k_ = (.slice Ao12 t128.length co12 : Value).ownBlock) (.slice Ao12 t128.length co12) t128 _ _ t131 t134 w _ ?side1 ?side2 ?side3 ?side4 A5.out).mono ?_
 (case side1 => repeat (first | (with_reducible first | exact HB.out | apply below_alloc | apply pw_below_drewN | apply below_drew1 | refine below_set ?_ GE126.out) | exact HB.out))
 (case side2 => exact RTk_tight rfl HO130.out)
 (case side3 => exact Kd.C_kept_own (HO133.out) (fun k_ hk_ hs_ => (hk_) hs_))
 (case side4 => exact (Kd.R_reads' HO133.out).2.1)
 rintro e w14 ⟨v135, rfl, ho0, hb, hkp⟩
 refine ⟨_, rfl, ?_⟩
 have n0_ := Aside0.mk (blk_kept (bkp BK126) hkp (fun hs_ => (fun e_ => (RTk_ne HO130.out BK126.out (by decide)) e_) hs_))
 have n1_ := Aside0.mk (Kd.R_mono (ok' := fun k_ => some k_ ≠ (v135 : Value).ownBlock) (Kd.R_keptB (HO133.out) hkp (fun k_ hk_ hs_ => (hk_) hs_)) (fun k_ hk_ => fun e_ => Or.elim (ho0.1 k_ e_.symm) (fun hs_ => hk_.2.1 hs_) (fun hn_ => Nat.not_le.2 hk_.2.2 hn_)))
 have n2_ := Aside0.mk (RTk_mono (ok' := fun k_ => some k_ ≠ (.slice Ao13 t131.length co13 : Value).ownBlock) ho0 (fun k_ hk_ => Or.elim hk_ (fun hs_ => fun e_ => (((HO133.out).1 k_ e_.symm)) hs_) (fun hn_ => (Kd.fresh' (Kd.R_lt (rkp HO133)) k_ hn_))))
 have n3_ := Aside0.mk (hb)
 clear BK126
 clear HO133
 clear HB
 clear HO130
 have BK126 := n0_
 have HO133 := n1_
 have HO136 := n2_
 have HB := n3_
 clear n0_ n1_ n2_ n3_
 (try clear hb)
 (try clear hkp)
 (try clear ho0)
 refine hK.out _ _ (cellz_2 BK126.out) (fun hHeld => ?_)
 clear hK K
 refine nrm_ (some 10) (h := ?_)
 refine pvn_ HT_ (h := ?_)
 refine done_ (done_of HT_.out (by kernel_rfl)) ?_
 try go_wp2
 go_ret
 exact ⟨_, rz_, by (with_reducible repeat (first | apply Kd.R_alloc | apply Kd.R_drewN | apply Kd.R_drew | apply RTk_alloc | apply RTk_drewN | apply RTk_drew)); exact RTk_mono HO136.out (fun _ hk => trivial), bel⟩

/-! ### spec_ReplyText: function 21 -/
def spec_ReplyText.f (k : Nat) (a0_0 : Int) (a0_1 : Int) : Option (List Int) := if a0_0 < 0 then (some ([] : List Int)) else (if a0_0 > 5 then (some ([] : List Int)) else ((spec_l2index.f a0_1).bind fun t138 => (if t138 = true then ((spec_l8reply.f k a0_0 a0_1).bind fun t139 => (some t139)) else (some ([] : List Int)))))
set_option maxHeartbeats 8000000 in
set_option maxRecDepth 100000 in
theorem spec_ReplyText.calls (k : Nat) (a0_0 : Int) (a0_1 : Int) (r : List Int) (w : World) (h : spec_ReplyText.f k a0_0 a0_1 = some r) :
  Calls Tryd.prog 21 #[.agg #[.int .i64 a0_0, .int .i64 a0_1]] w fun e w' => ∃ v0_ : Value, e = .returned (v0_) ∧ RMk w' w.heap.size (fun _ => True) v0_ r ∧ Below w.heap.size w w' := by
 have hu40 := Tryd.underlying40
 have HB := Aside0.mk (Below.refl w.heap.size w)
 have H : (if a0_0 < 0 then (some ([] : List Int)) else (if a0_0 > 5 then (some ([] : List Int)) else ((spec_l2index.f a0_1).bind fun t138 => (if t138 = true then ((spec_l8reply.f k a0_0 a0_1).bind fun t139 => (some t139)) else (some ([] : List Int)))))) = some r := h
 clear h
 by_cases c2 : a0_0 < 0
 ·rw [if_pos c2] at H
  have c2b0 : decide (a0_0 < 0) = true := decide_eq_true c2
  clear c2
  obtain rfl := Option.some.inj H
  go_enter Tryd.func21, Tryd.ntmps21
  go_wp2_with (first | ((with_reducible refine gate_dst (N := 1) rfl ?_); refine bx_ 1 #[.int .i64 a0_0, .int .i64 a0_1] 40 (h := ?_); intro gb137 hg w3 hbox hb; have BK137 := Aside0.mk (hbox); have GW137 := Aside0.mk ((by rw [hg]; exact (below_size bel) : w.heap.size ≤ gb137)); have GE137 := GW137; replace HB := bst hb; clear hb hbox hg; obtain ⟨C4_0, C4_1, -⟩ := cells_2 BK137.out trivial; obtain ⟨F4_0, F4_1, -⟩ := frz_2 BK137.out))
  go_ret
  exact ⟨_, rz_, by first | exact RMk_nil _ _ _ | exact Kd.N_nil _ _ _ _ _ | exact Kd.V_nil _ _ _ _ _ | exact Kd.Q_nil _ _ _ _ _ | exact Kd.S_nil _ _ _ _ _, bel⟩
 rw [if_neg c2] at H
 have c2b0 : decide (a0_0 < 0) = false := decide_eq_false c2
 clear c2
 by_cases c5 : a0_0 > 5
 ·rw [if_pos c5] at H
  have c5b0 : decide (5 < a0_0) = true := decide_eq_true c5
  clear c5
  obtain rfl := Option.some.inj H
  go_enter Tryd.func21, Tryd.ntmps21
  go_wp2_with (first | ((with_reducible refine gate_dst (N := 1) rfl ?_); refine bx_ 1 #[.int .i64 a0_0, .int .i64 a0_1] 40 (h := ?_); intro gb137 hg w6 hbox hb; have BK137 := Aside0.mk (hbox); have GW137 := Aside0.mk ((by rw [hg]; exact (below_size bel) : w.heap.size ≤ gb137)); have GE137 := GW137; replace HB := bst hb; clear hb hbox hg; obtain ⟨C7_0, C7_1, -⟩ := cells_2 BK137.out trivial; obtain ⟨F7_0, F7_1, -⟩ := frz_2 BK137.out))
  go_ret
  exact ⟨_, rz_, by first | exact RMk_nil _ _ _ | exact Kd.N_nil _ _ _ _ _ | exact Kd.V_nil _ _ _ _ _ | exact Kd.Q_nil _ _ _ _ _ | exact Kd.S_nil _ _ _ _ _, bel⟩
 rw [if_neg c5] at H
 have c5b0 : decide (5 < a0_0) = false := decide_eq_false c5
 clear c5
 replace H := Option.bind_eq_some_iff.mp H
 obtain ⟨t138, A80, H⟩ := H
 replace H : (if t138 = true then ((spec_l8reply.f k a0_0 a0_1).bind fun t139 => (some t139)) else (some ([] : List Int))) = some r := H
 have A8 := Aside0.mk A80
 clear A80
 by_cases c9 : t138 = true
 ·subst c9
  have H1 : ((spec_l8reply.f k a0_0 a0_1).bind fun t139 => (some t139)) = some r := by rw [if_pos rfl] at H; exact H
  clear H
  have H := H1
  clear H1
  replace H := Option.bind_eq_some_iff.mp H
  obtain ⟨t139, A100, H⟩ := H
  replace H : (some t139) = some r := H
  have A10 := Aside0.mk A100
  clear A100
  obtain rfl := Option.some.inj H
  go_enter Tryd.func21, Tryd.ntmps21
  go_wp2_with (first | ((with_reducible refine gate_dst (N := 1) rfl ?_); refine bx_ 1 #[.int .i64 a0_0, .int .i64 a0_1] 40 (h := ?_); intro gb137 hg w11 hbox hb; have BK137 := Aside0.mk (hbox); have GW137 := Aside0.mk ((by rw [hg]; exact (below_size bel) : w.heap.size ≤ gb137)); have GE137 := GW137; replace HB := bst hb; clear hb hbox hg; obtain ⟨C12_0, C12_1, -⟩ := cells_2 BK137.out trivial; obtain ⟨F12_0, F12_1, -⟩ := frz_2 BK137.out) | (go_at_call 36; (with_reducible refine (spec_l2index.calls a0_1 true _ A8.out).mono ?_); rintro e w' ⟨rfl, ⟨nd, rfl⟩⟩) | ((with_reducible refine gate_callee (f := 54) rfl ?_); refine gl_ (some 18) Tryd.func54 #[.agg #[.int .i64 a0_0, .int .i64 a0_1]] (h := ?_); (with_reducible refine (spec_l8reply.calls k a0_0 a0_1 t139 _ A10.out).mono ?_); rintro e w13 ⟨v140, rfl, ho0, hb⟩; refine ⟨_, rfl, ?_⟩; replace ho0 := RMk_of_RTk ho0; have HO141 := Aside0.mk (RMk_lower ho0 (below_size bel)); replace BK137 := Aside0.mk (blb BK137 hb); replace HB := bst hb; (try clear hb); (try clear hb2); (try clear hk); (try clear hi); (try clear ho0)))
  go_ret
  exact ⟨_, rz_, by (with_reducible repeat (first | apply RMk_alloc | apply RMk_drewN | apply RMk_drew)); exact HO141.out, bel⟩
 replace c9 := Bool.eq_false_iff.mpr c9
 subst c9
 have H1 : (some ([] : List Int)) = some r := by rw [if_neg (show ¬ (false = true) by decide)] at H; exact H
 clear H
 have H := H1
 clear H1
 obtain rfl := Option.some.inj H
 go_enter Tryd.func21, Tryd.ntmps21
 go_wp2_with (first | ((with_reducible refine gate_dst (N := 1) rfl ?_); refine bx_ 1 #[.int .i64 a0_0, .int .i64 a0_1] 40 (h := ?_); intro gb137 hg w14 hbox hb; have BK137 := Aside0.mk (hbox); have GW137 := Aside0.mk ((by rw [hg]; exact (below_size bel) : w.heap.size ≤ gb137)); have GE137 := GW137; replace HB := bst hb; clear hb hbox hg; obtain ⟨C15_0, C15_1, -⟩ := cells_2 BK137.out trivial; obtain ⟨F15_0, F15_1, -⟩ := frz_2 BK137.out) | (go_at_call 36; (with_reducible refine (spec_l2index.calls a0_1 false _ A8.out).mono ?_); rintro e w' ⟨rfl, ⟨nd, rfl⟩⟩))
 go_ret
 exact ⟨_, rz_, by first | exact RMk_nil _ _ _ | exact Kd.N_nil _ _ _ _ _ | exact Kd.V_nil _ _ _ _ _ | exact Kd.Q_nil _ _ _ _ _ | exact Kd.S_nil _ _ _ _ _, bel⟩

/-! ### laws_toReply: function 22 -/
def laws_toReply.f (a0_0 : Int) (a0_1 : Int) : Option (Int × Int) := some (a0_0, a0_1)
set_option maxHeartbeats 8000000 in
set_option maxRecDepth 100000 in
theorem laws_toReply.calls (a0_0 : Int) (a0_1 : Int) (r1 : Int) (r2 : Int) (w : World) (h : laws_toReply.f a0_0 a0_1 = some (r1, r2)) :
  Calls Tryd.prog 22 #[.agg #[.int .i64 a0_0, .int .i64 a0_1]] w fun e w' => e = .returned (.agg #[.int .i64 r1, .int .i64 r2]) ∧ Below w.heap.size w w' := by
 have hu38 := Tryd.underlying38
 have hu40 := Tryd.underlying40
 have HB := Aside0.mk (Below.refl w.heap.size w)
 have H : (some (a0_0, a0_1)) = some (r1, r2) := h
 clear h
 simp only [Option.some.injEq, Prod.mk.injEq] at H
 obtain ⟨rfl, rfl⟩ := H
 go_enter Tryd.func22, Tryd.ntmps22
 go_wp2_with (first | ((with_reducible refine gate_dst (N := 1) rfl ?_); refine bx_ 1 #[.int .i64 a0_0, .int .i64 a0_1] 38 (h := ?_); intro gb142 hg w2 hbox hb; have BK142 := Aside0.mk (hbox); have GW142 := Aside0.mk ((by rw [hg]; exact (below_size bel) : w.heap.size ≤ gb142)); have GE142 := GW142; replace HB := bst hb; clear hb hbox hg) | ((with_reducible refine gate_dst (N := 2) rfl ?_); refine bx_ 2 #[.int .i64 0, .int .i64 0] 40 (h := ?_); intro gb143 hg w3 hbox hb; have BK143 := Aside0.mk (hbox); have GW143 := Aside0.mk ((by rw [hg]; exact (below_size bel) : w.heap.size ≤ gb143)); have GE143 := GW143; have NB142_143 := Aside0.mk ((by rw [hg]; exact Nat.ne_of_lt (blt BK142) : gb142 ≠ gb143)); have NB143_142 := Aside0.mk NB142_143.out.symm; replace BK142 := Aside0.mk (blb BK142 hb); replace HB := bst hb; clear hb hbox hg) | ((with_reducible refine gate_dst (N := 3) rfl ?_); refine bx_ 3 #[.int .i64 0, .int .i64 0] 40 (h := ?_); intro gb144 hg w4 hbox hb; have BK144 := Aside0.mk (hbox); have GW144 := Aside0.mk ((by rw [hg]; exact (below_size bel) : w.heap.size ≤ gb144)); have GE144 := GW144; have NB142_144 := Aside0.mk ((by rw [hg]; exact Nat.ne_of_lt (blt BK142) : gb142 ≠ gb144)); have NB144_142 := Aside0.mk NB142_144.out.symm; have NB143_144 := Aside0.mk ((by rw [hg]; exact Nat.ne_of_lt (blt BK143) : gb143 ≠ gb144)); have NB144_143 := Aside0.mk NB143_144.out.symm; replace BK142 := Aside0.mk (blb BK142 hb); replace BK143 := Aside0.mk (blb BK143 hb); replace HB := bst hb; clear hb hbox hg; have hnb5 := NB142_143.out; have hnc5 := NB143_142.out; have hnb6 := NB142_144.out; have hnc6 := NB144_142.out; obtain ⟨C7_0, C7_1, -⟩ := cells_2 BK142.out trivial; obtain ⟨F7_0, F7_1, -⟩ := frz_2 BK142.out; have hnb8 := NB144_143.out; have hnc8 := NB143_144.out; obtain ⟨C9_0, C9_1, -⟩ := cells_2 BK144.out trivial; obtain ⟨F9_0, F9_1, -⟩ := frz_2 BK144.out; obtain ⟨C10_0, C10_1, -⟩ := cells_2 BK143.out trivial; obtain ⟨F10_0, F10_1, -⟩ := frz_2 BK143.out))
 refine bodyPost_ret (results_cell_row rfl _ _ gb143 40 #[.int .i64 a0_0, .int .i64 a0_1] (0, 0) _ rfl (by (with_reducible repeat (first | refine blk_drewN ?_ _ | refine blk_drew ?_ | refine blk_alloc ?_ _)); refine blk_put (cs := #[.int .i64 a0_0, .int .i64 0]) ?_ 1 _ rfl; (with_reducible repeat (first | refine blk_drewN ?_ _ | refine blk_drew ?_ | refine blk_alloc ?_ _)); refine blk_put (cs := #[.int .i64 0, .int .i64 0]) ?_ 0 _ rfl; (with_reducible repeat (first | refine blk_drewN ?_ _ | refine blk_drew ?_ | refine blk_alloc ?_ _)); refine blk_far ?_ NB143_144.out _; (with_reducible repeat (first | refine blk_drewN ?_ _ | refine blk_drew ?_ | refine blk_alloc ?_ _)); refine blk_far ?_ NB143_144.out _; (with_reducible repeat (first | refine blk_drewN ?_ _ | refine blk_drew ?_ | refine blk_alloc ?_ _)); exact BK143.out) Tryd.underlying40 rfl (by kernel_rfl)) rfl ?_
 exact ⟨rz_, bel⟩

/-! ### impl_decimal: function 33 -/
def impl_decimal.f (a0 : Int) : Option (List Int) := if 0 ≤ a0 ∧ a0 ≤ 9223372036854775807 ∧ (Lib.itoa a0).length ≤ 1000000 then some ((Lib.itoa a0).map (fun b => (b.toNat : Int))) else none
set_option maxHeartbeats 8000000 in
set_option maxRecDepth 100000 in
theorem impl_decimal.calls (a0 : Int) (r : List Int) (w : World) (htab : Lib.TabIs Tryd.prog w "internal/strconv.uint64pow10" .u64 Lib.pow10Tab) (h : impl_decimal.f a0 = some r) :
  Calls Tryd.prog 33 #[.int .i64 a0] w fun e w' => ∃ v0_ : Value, e = .returned (v0_) ∧ Kd.V (Kd.int .u8) 5 w' w.heap.size (fun k_ => (w.heap.size ≤ k_)) v0_ r ∧ Below w.heap.size w w' := by
 unfold impl_decimal.f at h
 by_cases c : 0 ≤ a0 ∧ a0 ≤ 9223372036854775807 ∧ (Lib.itoa a0).length ≤ 1000000
 ·rw [if_pos c] at h
  obtain rfl := Option.some.inj h
  obtain ⟨c1, c2, c3⟩ := c
  have HT := Aside0.mk htab
  have A1 := Aside0.mk c1
  have A2 := Aside0.mk c2
  have A3 := Aside0.mk c3
  clear htab c1 c2 c3 h
  have hcv := fun (w : World) (s : ByteArray) => Lib.run_convert_string_bytes (P := Tryd.prog) w 9 22 5 s Tryd.underlying9 Tryd.underlying22 Tryd.underlying5
  go_enter Tryd.func33, Tryd.ntmps33
  go_wp2_with (first | ((with_reducible refine gate_callee (f := 58) rfl ?_); refine gl_ (some 4) Tryd.func58 #[.int .i64 a0] (h := ?_); (refine (Tryd.strconv_Itoa a0 (by have := A1.out; omega) A2.out _ HT.out).mono ?_); rintro e w1 ⟨rfl, nd, os, rfl⟩; refine ⟨_, rfl, ?_⟩; generalize hw : Sort.grow (w.drewN nd) os = w1; generalize hs : (⟨(Lib.itoa a0).toArray⟩ : ByteArray) = s))
  go_ret
  have hb : Below w.heap.size w w1 := by
   rw [← hw]
   exact Lib.below_grow _ w (Nat.le_refl _) nd os
  have hs2 : s.size ≤ 1000000 := by
   rw [← hs]
   exact A3.out
  have hv := Kd.V_bytes w1 s hs2
  rw [show s.data.toList = Lib.itoa a0 by rw [← hs]] at hv
  exact ⟨_, rfl, Kd.V_mono (Kd.V_lower hv hb.size) (fun _ hk => Nat.le_trans hb.size hk), hb.trans ((RM_bel _ 5 _).mono hb.size)⟩
 rw [if_neg c] at h
 exact absurd h (by simp)

end Go.Proofs.YtmnjdmmljkahgaaDoor.PR
