/- (*billing.pool).take: the smallest unused number from lo up to hi of an ascending list is returned and marked used. -/
import Derived.Test.YtpdbhaoppdgmeaaShelf
import Derived.Test.YtpdbhaoppdgmeaaHSup
import Derived.Test.YtpdbhaoppdgmeaaPr0
namespace Go.Proofs.Ytpdbhaoppdgmeaa.Pr
open Go.RowKit Go.Shelf Go.Proofs.Ytpdbhaoppdgmeaa.Sup Go.Proofs.YtpdbhaoppdgmeaaW.PrintWords Go.Proofs.YtpdbhaoppdgmeaaW.PrintLast Go.Proofs.YtpdbhaoppdgmeaaW.PrintMore
attribute [local go_sem] max2_int min2_int max_two min_two
set_option linter.unusedVariables false
set_option linter.unusedSimpArgs false

def takeIdx (from_ : List Int) (used : List Bool) (lo hi : Int) : Option Nat :=
  (List.range from_.length).find? (fun i => decide (lo ≤ from_.getD i 0) && decide (from_.getD i 0 < hi) && !(used.getD i true))
def boolCells (used : List Bool) : Array Value := (used.map Value.bool).toArray

theorem takeIdx_none (from_ : List Int) (used : List Bool) (lo hi : Int) (h : ∀ j, j < from_.length → lo ≤ from_.getD j 0 → from_.getD j 0 < hi → used.getD j true = true) : takeIdx from_ used lo hi = none := by
  unfold takeIdx
  rw [List.find?_eq_none]
  intro j hj
  have hj' := List.mem_range.1 hj
  intro hc
  simp only [Bool.and_eq_true, decide_eq_true_eq, Bool.not_eq_true'] at hc
  have := h j hj' hc.1.1 hc.1.2
  rw [this] at hc
  exact absurd hc.2 (by simp)
theorem takeIdx_some (from_ : List Int) (used : List Bool) (lo hi : Int) (k : Nat) (hk : k < from_.length) (h1 : lo ≤ from_.getD k 0) (h2 : from_.getD k 0 < hi) (h3 : used.getD k true = false)
    (h : ∀ j, j < k → lo ≤ from_.getD j 0 → from_.getD j 0 < hi → used.getD j true = true) : takeIdx from_ used lo hi = some k := by
  unfold takeIdx
  rw [List.find?_range_eq_some]
  refine ⟨by simp only [h1, h2, h3, decide_true, Bool.not_false, Bool.and_self], by simpa using hk, fun j hj => ?_⟩
  by_cases a : lo ≤ from_.getD j 0
  · by_cases b : from_.getD j 0 < hi
    · rw [h j hj a b]; simp only [Bool.not_true, Bool.and_false, Bool.not_false]
    · simp only [b, decide_false, Bool.and_false, Bool.false_and, Bool.not_false]
  · simp only [a, decide_false, Bool.false_and, Bool.not_false]

/-- Where the search of an ascending list ends: all before are less, none behind. -/
theorem count_less (l : List Int) (hs : l.Pairwise (· ≤ ·)) (x : Int) : l.countP (· < x) ≤ l.length ∧ (∀ j, j < l.countP (· < x) → l.getD j 0 < x) ∧ (∀ j, l.countP (· < x) ≤ j → j < l.length → x ≤ l.getD j 0) := by
  induction l with
  | nil => simp
  | cons a t ih =>
    obtain ⟨h1, h2⟩ := List.pairwise_cons.1 hs
    obtain ⟨i1, i2, i3⟩ := ih h2
    by_cases ha : a < x
    · rw [List.countP_cons_of_pos (by simpa using ha)]
      refine ⟨by simp; omega, fun j hj => ?_, fun j hj hl => ?_⟩
      · cases j with
        | zero => simpa using ha
        | succ j => have := i2 j (by omega); simpa using this
      · cases j with
        | zero => omega
        | succ j => have := i3 j (by omega) (by simpa using hl); simpa using this
    · rw [List.countP_cons_of_neg (by simpa using ha)]
      have hz : t.countP (· < x) = 0 := by
        rw [List.countP_eq_zero]
        intro b hb
        have := h1 b hb
        simp; omega
      refine ⟨by omega, fun j hj => by omega, fun j _ hl => ?_⟩
      cases j with
      | zero => simp; omega
      | succ j => have := i3 j (by omega) (by simpa using hl); simpa using this

theorem search_own (base : Nat) (v : Value) (l : List Int) (x : Int) (w : World) (h : w.ownsRow base 3 1 v l.length (nums .i64 l)) (hs : l.Pairwise (· ≤ ·)) (hl : l.length ≤ 140737488355328) :
    Calls Try.prog 35 #[v, .int .i64 x] w fun e w' => ∃ b, e = .returned (.tuple #[.int .i64 (l.countP (· < x) : Nat), .bool b]) ∧ Aside0 (b = l.contains x) ∧ ∃ q, w.drewN q = w' := by
  rcases h.2 with ⟨rfl, h0⟩ | ⟨g, cap, cur, rfl, hbase, hb, h1, h2, h3, h4⟩
  · obtain rfl : l = [] := List.eq_nil_of_length_eq_zero h0
    refine (Try.slices_BinarySearch_int_empty none 0 x w).mono ?_
    rintro e w' ⟨rfl, rfl⟩
    exact ⟨_, rfl, ⟨rfl⟩, 0, rfl⟩
  · have hc : ∀ j, j < l.length → w.cell? ⟨g, 0 + j, none⟩ = some (.int .i64 (l.getD j 0)) := by
      intro j hj
      have := h.cells (g := g) rfl j (.int .i64 (l.getD j 0)) (by simp [nums, List.getElem?_eq_getElem hj, List.getD_eq_getElem?_getD])
      rw [add_plain] at this
      rw [Nat.zero_add]; exact this
    refine (Try.slices_BinarySearch_int g 0 l.length cap l x w (Nat.le_refl _) (by omega) hc (by rw [List.take_length]; exact hs)).mono ?_
    rintro e w' ⟨rfl, q, rfl⟩
    rw [List.take_length]
    exact ⟨_, rfl, ⟨rfl⟩, q, rfl⟩

/-- What take leaves behind: its answer and the marks. -/
def TakePost (w : World) (gu : Nat) (from_ : List Int) (used : List Bool) (lo hi : Int) (e : Ending) (w' : World) : Prop :=
  w.grownBy w' (some gu) ∧
      (match takeIdx from_ used lo hi with
       | some i => e = .returned (.tuple #[.int .i64 (from_.getD i 0), .bool true]) ∧ w'.heap[gu]? = some (.cells (boolCells (used.set i true)) 4 (0, 0))
       | none => e = .returned (.tuple #[.int .i64 0, .bool false]) ∧ w'.heap[gu]? = some (.cells (boolCells used) 4 (0, 0)))
theorem TakePost.hit {w : World} {gu : Nat} {from_ : List Int} {used : List Bool} {lo hi : Int} {w' : World} {k : Int} (h : takeIdx from_ used lo hi = some k.toNat) (hg : w.grownBy w' (some gu)) (hb : w'.heap[gu]? = some (.cells (boolCells (used.set k.toNat true)) 4 (0, 0))) :
    TakePost w gu from_ used lo hi (.returned (.tuple #[.int .i64 (rd from_ k), .bool true])) w' := by
  unfold TakePost; rw [h]; exact ⟨hg, rfl, hb⟩
theorem TakePost.miss {w : World} {gu : Nat} {from_ : List Int} {used : List Bool} {lo hi : Int} {w' : World} (h : takeIdx from_ used lo hi = none) (hg : w.grownBy w' (some gu)) (hb : w'.heap[gu]? = some (.cells (boolCells used) 4 (0, 0))) :
    TakePost w gu from_ used lo hi (.returned (.tuple #[.int .i64 0, .bool false])) w' := by
  unfold TakePost; rw [h]; exact ⟨hg, rfl, hb⟩
theorem boolCells_set (used : List Bool) (k : Nat) (b : Bool) : (boolCells used).setIfInBounds k (.bool b) = boolCells (used.set k b) := by
  unfold boolCells
  simp [List.map_set]
theorem own_cell {w : World} {base g n cap : Nat} {e : TypeId} {l : List Int} (h : w.ownsRow base e 1 (.slice (some ⟨g, 0, none⟩) n cap) n (nums .i64 l)) (k : Int) (h0 : 0 ≤ k) (hk : k < l.length) : w.cell? ⟨g, k.toNat, none⟩ = some (.int .i64 (rd l k)) := by
  have hj : k.toNat < l.length := by omega
  have := h.cells (g := g) rfl k.toNat (.int .i64 (rd l k)) (by simp [nums, rd, List.getElem?_eq_getElem hj, List.getD_eq_getElem?_getD])
  rw [add_plain] at this
  exact this

set_option maxHeartbeats 4000000 in
set_option maxRecDepth 100000 in
theorem pool_take.calls (base q gu : Nat) (v : Value) (from_ : List Int) (used : List Bool) (lo hi : Int) (w : World) (hq : w.heap[q]? = some (.cells #[v, .slice (some ⟨gu, 0, none⟩) from_.length from_.length] 65 (0, 0)))
    (hv : w.ownsRow base 3 1 v from_.length (nums .i64 from_)) (hgu : w.heap[gu]? = some (.cells (boolCells used) 4 (0, 0))) (hul : used.length = from_.length) (hs : from_.Pairwise (· < ·)) (hl : from_.length ≤ 140737488355328) :
    Calls Try.prog 20 #[.pointer (some ⟨q, 0, none⟩), .int .i64 lo, .int .i64 hi] w (TakePost w gu from_ used lo hi) := by
  obtain ⟨A, c, rfl⟩ := own_slice hv
  have hse : from_.Pairwise (· ≤ ·) := hs.imp (fun h => Int.le_of_lt h)
  have hcl := count_less from_ hse lo
  have HSB := Aside0.mk (search_own base _ from_ lo w hv hse hl)
  have HV := Aside0.mk hv
  have HU := Aside0.mk hgu
  have HQ := Aside0.mk hq
  clear hv hgu hq
  obtain ⟨a1, a2, a3⟩ := hcl
  have HS := Aside0.mk (And.intro a2 a3)
  clear a2 a3
  generalize hp0 : from_.countP (· < lo) = p0 at *
  clear hp0
  have hul' := Aside0.mk hul
  have HSrt := Aside0.mk (show ∀ i j : Nat, i ≤ j → j < from_.length → from_.getD i 0 ≤ from_.getD j 0 from fun i j hij hj => by
    by_cases e : i = j
    · subst e; exact Int.le_refl _
    · have := List.pairwise_iff_getElem.1 hs i j (by omega) hj (by omega)
      simp only [List.getD_eq_getElem?_getD, List.getElem?_eq_getElem hj, List.getElem?_eq_getElem (show i < from_.length by omega), Option.getD_some]
      omega)
  clear hul hs hse
  have hq0 : (w).cell? ⟨q, 0, none⟩ = some (.slice A from_.length c) := (blk_cell HQ.out 0).trans rfl
  have hqf0 := blk_frozen HQ.out 0
  have hq1 : (w).cell? ⟨q, 1, none⟩ = some (.slice (some ⟨gu, 0, none⟩) from_.length from_.length) := (blk_cell HQ.out 1).trans rfl
  have hqf1 := blk_frozen HQ.out 1
  go_enter Try.func20, Try.ntmps20
  go_wp2_with fail
  refine HSB.out.mono ?_
  rintro e w1 ⟨b, rfl, _, nq, hw⟩
  have HQ1 := Aside0.mk (show w1.heap[q]? = some (.cells #[.slice A from_.length c, .slice (some ⟨gu, 0, none⟩) from_.length from_.length] 65 (0, 0)) by rw [← hw]; exact HQ.out)
  have HU1 := Aside0.mk (show w1.heap[gu]? = some (.cells (boolCells used) 4 (0, 0)) by rw [← hw]; exact HU.out)
  have HV1 := Aside0.mk (show w1.ownsRow base 3 1 (.slice A from_.length c) from_.length (nums .i64 from_) by rw [← hw]; exact HV.out)
  have HG1 := Aside0.mk (show w.grownBy w1 (some gu) by rw [← hw]; exact ⟨rfl, rfl, rfl, Nat.le_refl _, fun _ _ _ => rfl⟩)
  clear hw HSB HQ HU HV hq0 hqf0 hq1 hqf1
  have hq0 : (w1).cell? ⟨q, 0, none⟩ = some (.slice A from_.length c) := (blk_cell HQ1.out 0).trans rfl
  have hqf0 := blk_frozen HQ1.out 0
  have hq1 : (w1).cell? ⟨q, 1, none⟩ = some (.slice (some ⟨gu, 0, none⟩) from_.length from_.length) := (blk_cell HQ1.out 1).trans rfl
  have hqf1 := blk_frozen HQ1.out 1
  have hqg : q ≠ gu := fun e => by have h1 := HQ1.out; have h2 := HU1.out; rw [e, h2] at h1; simp at h1
  have hqg' := hqg.symm
  go_wp2_with fail
  go_loop [8] (fun i => ∃ k : Int, i = .int .i64 k ∧ Aside0 ((p0 : Int) ≤ k) ∧ Aside0 (k ≤ from_.length) ∧ Aside0 (∀ j : Nat, p0 ≤ j → (j : Int) < k → from_.getD j 0 < hi ∧ used.getD j true = true)) (fun i => from_.length - (intOf i).toNat)
  case atStart => exact ⟨p0, rfl, ⟨Int.le_refl _⟩, ⟨by omega⟩, ⟨fun j h1 h2 => by omega⟩⟩
  case round =>
    obtain ⟨k, rfl, K1, K2, K3⟩ := hrel
    have k1 := K1.out
    have k2 := K2.out
    have k0 : 0 ≤ k := by omega
    by_cases hlt : k < (from_.length : Int)
    · have hc := decide_eq_true hlt
      have p := eq_true k0
      have q_ := eq_true hlt
      obtain ⟨g, cap, e_, _, _⟩ := HV1.out.form (by omega)
      cases e_
      have hx := own_cell HV1.out k k0 hlt
      have hgg : g ≠ gu := fun e => by obtain ⟨cells, h1⟩ := own_typed HV1.out g rfl; have h2 := HU1.out; rw [e, h2] at h1; simp at h1
      have hgg' := hgg.symm
      by_cases hh : rd from_ k < hi
      · have hc2 := decide_eq_true hh
        have hbu : used[k.toNat]? = some (used.getD k.toNat true) := by
          rw [List.getD_eq_getElem?_getD, List.getElem?_eq_getElem (by have := hul'.out; omega)]; rfl
        have hcu : w1.cell? ⟨gu, k.toNat, none⟩ = some (.bool (used.getD k.toNat true)) := by
          rw [blk_cell HU1.out]; unfold boolCells; rw [List.getElem?_toArray, List.getElem?_map, hbu]; rfl
        have hfu : w1.frozen? ⟨gu, k.toNat, none⟩ = false := blk_frozen HU1.out _
        clear hbu
        by_cases hu : used.getD k.toNat true = true
        · rw [hu] at hcu
          have HU' := Aside0.mk hu
          clear hu
          go_wp2
          go_round
          case rel => exact ⟨k + 1, rfl, ⟨by omega⟩, ⟨by omega⟩, ⟨fun j h1 h2 => by
            by_cases e : (j : Int) = k
            · have e' : j = k.toNat := by omega
              subst e'; exact ⟨hh, HU'.out⟩
            · exact K3.out j h1 (by omega)⟩⟩
          case measure =>
            show from_.length - (k + 1).toNat < from_.length - k.toNat
            omega
        · have hu' : used.getD k.toNat true = false := by simpa using hu
          rw [hu'] at hcu
          clear hu
          have HU' := Aside0.mk hu'
          clear hu'
          go_wp2
          go_ret2
          refine TakePost.hit (k := k) ?_ ?_ ?_
          · exact takeIdx_some _ _ _ _ _ (by omega) (HS.out.2 _ (by omega) (by omega)) hh HU'.out (fun j hj h1 h2 => (K3.out j (by
              rcases Nat.lt_or_ge j p0 with h | h
              · have := HS.out.1 j h; omega
              · exact h) (by omega)).2)
          · exact HG1.out.trans (grownBy_setCell_at w1 gu k.toNat _)
          · rw [← boolCells_set]; exact blk_set HU1.out _ _
      · have hc2 := decide_eq_false hh
        go_wp2
        go_ret2
        refine TakePost.miss ?_ HG1.out HU1.out
        refine takeIdx_none _ _ _ _ (fun j hj h1 h2 => ?_)
        rcases Nat.lt_or_ge j p0 with h | h
        · have := HS.out.1 j h; omega
        · by_cases e : (j : Int) < k
          · exact (K3.out j h e).2
          · have := HSrt.out k.toNat j (by omega) hj
            simp only [rd] at hh
            omega
    · have hc := decide_eq_false hlt
      go_wp2
      go_ret2
      refine TakePost.miss ?_ HG1.out HU1.out
      refine takeIdx_none _ _ _ _ (fun j hj h1 h2 => ?_)
      rcases Nat.lt_or_ge j p0 with h | h
      · have := HS.out.1 j h; omega
      · exact (K3.out j h (by omega)).2
end Go.Proofs.Ytpdbhaoppdgmeaa.Pr
