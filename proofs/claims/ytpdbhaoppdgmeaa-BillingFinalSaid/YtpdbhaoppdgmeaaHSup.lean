/- Small lemmas on worlds that the walks of this seat share: no program in sight. -/
import Derived.Test.YtpdbhaoppdgmeaaWMore
import Derived.RangeFuncNested
import Derived.RangeFuncBound
import Derived.RangeFuncCalls
import Derived.RangeFuncLeaves
import Derived.Shelf.Abstract
import Derived.Shelf.RegionOpen
import Derived.WalkKit
import Derived.OwnWalkIn
import Derived.TacticsInMore
import Derived.LoopNIn
import Derived.LoopIn
import Derived.RangeFuncBox
import Derived.Maps.AppendAt
namespace Go.Proofs.Ytpdbhaoppdgmeaa.Sup
open Go.RowKit Go.Proofs.YtpdbhaoppdgmeaaW.PrintWords

theorem blk_put2 {w : World} {g : Nat} {t : TypeId} {a0 a1 b0 b1 : Value} (h : w.heap[g]? = some (.cells #[a0, a1] t (0, 0))) : ((w.setCell ⟨g, 0, none⟩ b0).setCell ⟨g, 1, none⟩ b1).heap[g]? = some (.cells #[b0, b1] t (0, 0)) := by
  have h0 := blk_put (cs' := #[b0, a1]) h 0 b0 rfl
  have h1 := blk_put (cs' := #[b0, b1]) h0 1 b1 rfl
  exact h1
theorem blk_put3 {w : World} {g : Nat} {t : TypeId} {a0 a1 a2 b0 b1 b2 : Value} (h : w.heap[g]? = some (.cells #[a0, a1, a2] t (0, 0))) : (((w.setCell ⟨g, 0, none⟩ b0).setCell ⟨g, 1, none⟩ b1).setCell ⟨g, 2, none⟩ b2).heap[g]? = some (.cells #[b0, b1, b2] t (0, 0)) := by
  have h0 := blk_put (cs' := #[b0, a1, a2]) h 0 b0 rfl
  have h1 := blk_put (cs' := #[b0, b1, a2]) h0 1 b1 rfl
  have h2 := blk_put (cs' := #[b0, b1, b2]) h1 2 b2 rfl
  exact h2
theorem blk_put4 {w : World} {g : Nat} {t : TypeId} {a0 a1 a2 a3 b0 b1 b2 b3 : Value} (h : w.heap[g]? = some (.cells #[a0, a1, a2, a3] t (0, 0))) : ((((w.setCell ⟨g, 0, none⟩ b0).setCell ⟨g, 1, none⟩ b1).setCell ⟨g, 2, none⟩ b2).setCell ⟨g, 3, none⟩ b3).heap[g]? = some (.cells #[b0, b1, b2, b3] t (0, 0)) := by
  have h0 := blk_put (cs' := #[b0, a1, a2, a3]) h 0 b0 rfl
  have h1 := blk_put (cs' := #[b0, b1, a2, a3]) h0 1 b1 rfl
  have h2 := blk_put (cs' := #[b0, b1, b2, a3]) h1 2 b2 rfl
  have h3 := blk_put (cs' := #[b0, b1, b2, b3]) h2 3 b3 rfl
  exact h3
theorem blk_put5 {w : World} {g : Nat} {t : TypeId} {a0 a1 a2 a3 a4 b0 b1 b2 b3 b4 : Value} (h : w.heap[g]? = some (.cells #[a0, a1, a2, a3, a4] t (0, 0))) : (((((w.setCell ⟨g, 0, none⟩ b0).setCell ⟨g, 1, none⟩ b1).setCell ⟨g, 2, none⟩ b2).setCell ⟨g, 3, none⟩ b3).setCell ⟨g, 4, none⟩ b4).heap[g]? = some (.cells #[b0, b1, b2, b3, b4] t (0, 0)) := by
  have h0 := blk_put (cs' := #[b0, a1, a2, a3, a4]) h 0 b0 rfl
  have h1 := blk_put (cs' := #[b0, b1, a2, a3, a4]) h0 1 b1 rfl
  have h2 := blk_put (cs' := #[b0, b1, b2, a3, a4]) h1 2 b2 rfl
  have h3 := blk_put (cs' := #[b0, b1, b2, b3, a4]) h2 3 b3 rfl
  have h4 := blk_put (cs' := #[b0, b1, b2, b3, b4]) h3 4 b4 rfl
  exact h4
theorem blk_put6 {w : World} {g : Nat} {t : TypeId} {a0 a1 a2 a3 a4 a5 b0 b1 b2 b3 b4 b5 : Value} (h : w.heap[g]? = some (.cells #[a0, a1, a2, a3, a4, a5] t (0, 0))) : ((((((w.setCell ⟨g, 0, none⟩ b0).setCell ⟨g, 1, none⟩ b1).setCell ⟨g, 2, none⟩ b2).setCell ⟨g, 3, none⟩ b3).setCell ⟨g, 4, none⟩ b4).setCell ⟨g, 5, none⟩ b5).heap[g]? = some (.cells #[b0, b1, b2, b3, b4, b5] t (0, 0)) := by
  have h0 := blk_put (cs' := #[b0, a1, a2, a3, a4, a5]) h 0 b0 rfl
  have h1 := blk_put (cs' := #[b0, b1, a2, a3, a4, a5]) h0 1 b1 rfl
  have h2 := blk_put (cs' := #[b0, b1, b2, a3, a4, a5]) h1 2 b2 rfl
  have h3 := blk_put (cs' := #[b0, b1, b2, b3, a4, a5]) h2 3 b3 rfl
  have h4 := blk_put (cs' := #[b0, b1, b2, b3, b4, a5]) h3 4 b4 rfl
  have h5 := blk_put (cs' := #[b0, b1, b2, b3, b4, b5]) h4 5 b5 rfl
  exact h5
theorem blk_put7 {w : World} {g : Nat} {t : TypeId} {a0 a1 a2 a3 a4 a5 a6 b0 b1 b2 b3 b4 b5 b6 : Value} (h : w.heap[g]? = some (.cells #[a0, a1, a2, a3, a4, a5, a6] t (0, 0))) : (((((((w.setCell ⟨g, 0, none⟩ b0).setCell ⟨g, 1, none⟩ b1).setCell ⟨g, 2, none⟩ b2).setCell ⟨g, 3, none⟩ b3).setCell ⟨g, 4, none⟩ b4).setCell ⟨g, 5, none⟩ b5).setCell ⟨g, 6, none⟩ b6).heap[g]? = some (.cells #[b0, b1, b2, b3, b4, b5, b6] t (0, 0)) := by
  have h0 := blk_put (cs' := #[b0, a1, a2, a3, a4, a5, a6]) h 0 b0 rfl
  have h1 := blk_put (cs' := #[b0, b1, a2, a3, a4, a5, a6]) h0 1 b1 rfl
  have h2 := blk_put (cs' := #[b0, b1, b2, a3, a4, a5, a6]) h1 2 b2 rfl
  have h3 := blk_put (cs' := #[b0, b1, b2, b3, a4, a5, a6]) h2 3 b3 rfl
  have h4 := blk_put (cs' := #[b0, b1, b2, b3, b4, a5, a6]) h3 4 b4 rfl
  have h5 := blk_put (cs' := #[b0, b1, b2, b3, b4, b5, a6]) h4 5 b5 rfl
  have h6 := blk_put (cs' := #[b0, b1, b2, b3, b4, b5, b6]) h5 6 b6 rfl
  exact h6
theorem blk_put8 {w : World} {g : Nat} {t : TypeId} {a0 a1 a2 a3 a4 a5 a6 a7 b0 b1 b2 b3 b4 b5 b6 b7 : Value} (h : w.heap[g]? = some (.cells #[a0, a1, a2, a3, a4, a5, a6, a7] t (0, 0))) : ((((((((w.setCell ⟨g, 0, none⟩ b0).setCell ⟨g, 1, none⟩ b1).setCell ⟨g, 2, none⟩ b2).setCell ⟨g, 3, none⟩ b3).setCell ⟨g, 4, none⟩ b4).setCell ⟨g, 5, none⟩ b5).setCell ⟨g, 6, none⟩ b6).setCell ⟨g, 7, none⟩ b7).heap[g]? = some (.cells #[b0, b1, b2, b3, b4, b5, b6, b7] t (0, 0)) := by
  have h0 := blk_put (cs' := #[b0, a1, a2, a3, a4, a5, a6, a7]) h 0 b0 rfl
  have h1 := blk_put (cs' := #[b0, b1, a2, a3, a4, a5, a6, a7]) h0 1 b1 rfl
  have h2 := blk_put (cs' := #[b0, b1, b2, a3, a4, a5, a6, a7]) h1 2 b2 rfl
  have h3 := blk_put (cs' := #[b0, b1, b2, b3, a4, a5, a6, a7]) h2 3 b3 rfl
  have h4 := blk_put (cs' := #[b0, b1, b2, b3, b4, a5, a6, a7]) h3 4 b4 rfl
  have h5 := blk_put (cs' := #[b0, b1, b2, b3, b4, b5, a6, a7]) h4 5 b5 rfl
  have h6 := blk_put (cs' := #[b0, b1, b2, b3, b4, b5, b6, a7]) h5 6 b6 rfl
  have h7 := blk_put (cs' := #[b0, b1, b2, b3, b4, b5, b6, b7]) h6 7 b7 rfl
  exact h7
theorem blk_put9 {w : World} {g : Nat} {t : TypeId} {a0 a1 a2 a3 a4 a5 a6 a7 a8 b0 b1 b2 b3 b4 b5 b6 b7 b8 : Value} (h : w.heap[g]? = some (.cells #[a0, a1, a2, a3, a4, a5, a6, a7, a8] t (0, 0))) : (((((((((w.setCell ⟨g, 0, none⟩ b0).setCell ⟨g, 1, none⟩ b1).setCell ⟨g, 2, none⟩ b2).setCell ⟨g, 3, none⟩ b3).setCell ⟨g, 4, none⟩ b4).setCell ⟨g, 5, none⟩ b5).setCell ⟨g, 6, none⟩ b6).setCell ⟨g, 7, none⟩ b7).setCell ⟨g, 8, none⟩ b8).heap[g]? = some (.cells #[b0, b1, b2, b3, b4, b5, b6, b7, b8] t (0, 0)) := by
  have h0 := blk_put (cs' := #[b0, a1, a2, a3, a4, a5, a6, a7, a8]) h 0 b0 rfl
  have h1 := blk_put (cs' := #[b0, b1, a2, a3, a4, a5, a6, a7, a8]) h0 1 b1 rfl
  have h2 := blk_put (cs' := #[b0, b1, b2, a3, a4, a5, a6, a7, a8]) h1 2 b2 rfl
  have h3 := blk_put (cs' := #[b0, b1, b2, b3, a4, a5, a6, a7, a8]) h2 3 b3 rfl
  have h4 := blk_put (cs' := #[b0, b1, b2, b3, b4, a5, a6, a7, a8]) h3 4 b4 rfl
  have h5 := blk_put (cs' := #[b0, b1, b2, b3, b4, b5, a6, a7, a8]) h4 5 b5 rfl
  have h6 := blk_put (cs' := #[b0, b1, b2, b3, b4, b5, b6, a7, a8]) h5 6 b6 rfl
  have h7 := blk_put (cs' := #[b0, b1, b2, b3, b4, b5, b6, b7, a8]) h6 7 b7 rfl
  have h8 := blk_put (cs' := #[b0, b1, b2, b3, b4, b5, b6, b7, b8]) h7 8 b8 rfl
  exact h8
theorem new1 (w : World) (o : Obj) : (w.alloc o).heap[w.heap.size]? = some o := heap_alloc_new w o
theorem new2 (w : World) (o0 o1 : Obj) : ((w.alloc o0).alloc o1).heap[w.heap.size + 1]? = some o1 := by
  have := heap_alloc_new (w.alloc o0) o1
  simpa using this
theorem new3 (w : World) (o0 o1 o2 : Obj) : (((w.alloc o0).alloc o1).alloc o2).heap[w.heap.size + 2]? = some o2 := by
  have := heap_alloc_new ((w.alloc o0).alloc o1) o2
  simpa using this
theorem new4 (w : World) (o0 o1 o2 o3 : Obj) : ((((w.alloc o0).alloc o1).alloc o2).alloc o3).heap[w.heap.size + 3]? = some o3 := by
  have := heap_alloc_new (((w.alloc o0).alloc o1).alloc o2) o3
  simpa using this
theorem new5 (w : World) (o0 o1 o2 o3 o4 : Obj) : (((((w.alloc o0).alloc o1).alloc o2).alloc o3).alloc o4).heap[w.heap.size + 4]? = some o4 := by
  have := heap_alloc_new ((((w.alloc o0).alloc o1).alloc o2).alloc o3) o4
  simpa using this
theorem new6 (w : World) (o0 o1 o2 o3 o4 o5 : Obj) : ((((((w.alloc o0).alloc o1).alloc o2).alloc o3).alloc o4).alloc o5).heap[w.heap.size + 5]? = some o5 := by
  have := heap_alloc_new (((((w.alloc o0).alloc o1).alloc o2).alloc o3).alloc o4) o5
  simpa using this

/-- What a round keeps: all that lay below n₀, and the blocks bs. -/
def KeepB (n₀ : Nat) (bs : List Nat) (A B : World) : Prop := Below n₀ A B ∧ ∀ b ∈ bs, b < A.heap.size → B.heap[b]? = A.heap[b]?
theorem KeepB.refl (n₀ : Nat) (bs : List Nat) (A : World) : KeepB n₀ bs A A := ⟨Below.refl _ _, fun _ _ _ => rfl⟩
theorem KeepB.trans {n₀ : Nat} {bs : List Nat} {A B C : World} (h : KeepB n₀ bs A B) (k : KeepB n₀ bs B C) : KeepB n₀ bs A C :=
  ⟨h.1.trans k.1, fun b hb hl => (k.2 b hb (Nat.lt_of_lt_of_le hl h.1.size)).trans (h.2 b hb hl)⟩
theorem KeepB.put {n₀ : Nat} {bs : List Nat} {w : World} (hn : n₀ ≤ w.heap.size) (hbs : ∀ b ∈ bs, b < w.heap.size) (W : World) (l : Nat) (o o' : Obj) (hl : w.heap.size ≤ l) (h : W.heap[l]? = some o) (h1 : o.isCells = false) (h2 : o.isWalk = false) : KeepB n₀ bs W (W.putObj l o') :=
  ⟨belowK_b hn W l o o' hl h h1 h2, fun b hb _ => World.putObj_heap_other (by have := hbs b hb; omega)⟩
theorem KeepB.alloc {n₀ : Nat} {bs : List Nat} {A B : World} (h : KeepB n₀ bs A B) (hn : n₀ ≤ A.heap.size) (o : Obj) : KeepB n₀ bs A (B.alloc o) :=
  ⟨h.1.alloc (Nat.le_trans hn h.1.size) o, fun b hb hl => (Below.heap_alloc B o b (Nat.lt_of_lt_of_le hl h.1.size)).trans (h.2 b hb hl)⟩
theorem KeepB.setCell {n₀ : Nat} {bs : List Nat} {A B : World} (h : KeepB n₀ bs A B) {g j : Nat} (hg : n₀ ≤ g) (hne : ∀ b ∈ bs, b ≠ g) (v : Value) : KeepB n₀ bs A (B.setCell ⟨g, j, none⟩ v) :=
  ⟨h.1.setCell (p := ⟨g, j, none⟩) hg v, fun b hb hl => (Below.heap_setCell B ⟨g, j, none⟩ v b (hne b hb)).trans (h.2 b hb hl)⟩
theorem KeepB.drewN {n₀ : Nat} {bs : List Nat} {A B : World} (h : KeepB n₀ bs A B) (n : Nat) : KeepB n₀ bs A (B.drewN n) := ⟨pw_below_drewN h.1 n, h.2⟩
theorem KeepB.drew {n₀ : Nat} {bs : List Nat} {A B : World} (h : KeepB n₀ bs A B) : KeepB n₀ bs A B.drew := ⟨below_drew h.1, h.2⟩
theorem KeepB.grown {n₀ : Nat} {bs : List Nat} {A B C : World} (h : KeepB n₀ bs A B) (hn : n₀ ≤ A.heap.size) {row : Option Nat} (hg : B.grownBy C row) (hr : ∀ k, row = some k → n₀ ≤ k ∧ ∀ b ∈ bs, b ≠ k) : KeepB n₀ bs A C :=
  ⟨h.1.grown hg (Nat.le_trans hn h.1.size) (fun k e => (hr k e).1), fun b hb hl => (hg.block b (Nat.lt_of_lt_of_le hl h.1.size) (fun e => (hr b e.symm).2 b hb rfl)).trans (h.2 b hb hl)⟩
theorem KeepB.of_below {n₀ : Nat} {bs : List Nat} {A B C : World} (h : KeepB n₀ bs A B) (hn : n₀ ≤ A.heap.size) (hb : Below B.heap.size B C) : KeepB n₀ bs A C :=
  ⟨h.1.trans (hb.mono (Nat.le_trans hn h.1.size)), fun b hb' hl => (hb.block b (Nat.lt_of_lt_of_le hl h.1.size)).trans (h.2 b hb' hl)⟩
theorem KeepB.at_ {n₀ : Nat} {bs : List Nat} {A B : World} (h : KeepB n₀ bs A B) {b : Nat} (hb : b ∈ bs) {o : Obj} (ho : A.heap[b]? = some o) : B.heap[b]? = some o := (h.2 b hb (blk_lt ho)).trans ho
theorem KeepsOthers.of_below {A B : World} (h : Below A.heap.size A B) : KeepsOthers A B := KeepsOthers.of_grownBy (grown_of_below h none) (fun j o e => by cases e)

/-- A block of cells stays through the turn of a block that is no cells. -/
theorem kept_cells {B : Nat} {W W' : World} {row : Option Nat} (hg : W.grownBy W' row) (hr : ∀ r, row = some r → B ≤ r ∧ ∃ o : Obj, W.heap[r]? = some o ∧ o.isCells = false) {b : Nat} {cs : Array Value} {t : TypeId} {fr : Nat × Nat} (h : W.heap[b]? = some (.cells cs t fr)) : W'.heap[b]? = some (.cells cs t fr) :=
  (hg.block b (blk_lt h) (fun e => by obtain ⟨_, o, h2, h3⟩ := hr b e.symm; rw [h] at h2; cases h2; cases h3)).trans h
theorem kept_own {B : Nat} {W W' : World} {row : Option Nat} (hg : W.grownBy W' row) (hr : ∀ r, row = some r → B ≤ r ∧ ∃ o : Obj, W.heap[r]? = some o ∧ o.isCells = false) {base : Nat} {e : TypeId} {size n : Nat} {v : Value} {xs : List Value} (h : W.ownsRow base e size v n xs) : W'.ownsRow base e size v n xs := by
  refine own_move h (fun k hk => ?_)
  obtain ⟨cells, hc⟩ := own_typed h k hk
  rw [hc]; exact kept_cells hg hr hc
theorem kept_below {B n₀ : Nat} {w W W' : World} {row : Option Nat} (hg : W.grownBy W' row) (hr : ∀ r, row = some r → B ≤ r ∧ ∃ o : Obj, W.heap[r]? = some o ∧ o.isCells = false) (hn : n₀ ≤ w.heap.size) (hB : n₀ ≤ B) (h : Below n₀ w W) : Below n₀ w W' :=
  h.grown hg (Nat.le_trans hn h.size) (fun k e => Nat.le_trans hB (hr k e).1)

/-- 'out = append(out, x)', out a variable in block B: what the walk owes behind the append law. -/
theorem box_appended {n₀ base B : Nat} {bs : List Nat} {W w1 : World} {t e : TypeId} {size k m : Nat} {v v' : Value} {xs ys : List Value} {tmp : Obj}
    (hv : W.heap[B]? = some (.cells #[v] t (0, 0))) (hrow : W.ownsRow base e size v k xs) (hBb : B < base) (hbW : base ≤ W.heap.size) (hnB : n₀ ≤ B) (hbs : ∀ b ∈ bs, b < base ∧ b ≠ B)
    (hown' : w1.ownsRow base e size v' m ys) (hgrow : (W.alloc tmp).grownBy w1 v.ownBlock) :
    w1.heap[B]? = some (.cells #[v] t (0, 0)) ∧ (w1.setCell ⟨B, 0, none⟩ v').heap[B]? = some (.cells #[v'] t (0, 0)) ∧ (w1.setCell ⟨B, 0, none⟩ v').ownsRow base e size v' m ys ∧ KeepsOthers W (w1.setCell ⟨B, 0, none⟩ v') ∧ KeepB n₀ bs W (w1.setCell ⟨B, 0, none⟩ v') ∧ (∀ b, b < base → b ≠ B → (w1.setCell ⟨B, 0, none⟩ v').heap[b]? = W.heap[b]?) := by
  have hrb : ∀ j, v.ownBlock = some j → base ≤ j := own_base hrow
  have low : ∀ b, b < base → w1.heap[b]? = W.heap[b]? := fun b hb => by
    refine (hgrow.block b (by simp; omega) (fun e => ?_)).trans (Below.heap_alloc W tmp b (by omega))
    have := hrb b e.symm; omega
  have h1 : w1.heap[B]? = some (.cells #[v] t (0, 0)) := (low B hBb).trans hv
  have hsz : W.heap.size ≤ w1.heap.size := by have := hgrow.size; simp at this; omega
  refine ⟨h1, blk_put (cs' := #[v']) h1 0 v' rfl, hown'.kept (grownBy_setCell' w1 B v') ?_, ?_, ?_, ?_⟩
  · cases hb : v'.ownBlock with
    | none => exact .inl rfl
    | some j =>
      have := own_base hown' j hb
      exact .inr (fun e => by cases e; omega)
  · refine ((KeepsOthers.alloc W tmp).trans (KeepsOthers.of_grownBy hgrow fun j o ej hj => ?_)).trans (KeepsOthers.setCell _ _ _)
    obtain ⟨cells, hc⟩ := own_typed (hrow.alloc tmp) j ej
    rw [hc] at hj; cases hj; rfl
  · have hA : KeepB n₀ bs W (W.alloc tmp) := (KeepB.refl n₀ bs W).alloc (by omega) tmp
    exact (hA.grown (by omega) hgrow (fun k ek => ⟨by have := hrb k ek; omega, fun b hb => by have := hrb k ek; have := (hbs b hb).1; omega⟩)).setCell hnB (fun b hb => (hbs b hb).2) v'
  · intro b hb hne
    exact (Below.heap_setCell w1 ⟨B, 0, none⟩ v' b hne).trans (low b hb)

section
variable {n : Nat} {P : Program}
/-- A range over a function whose loop variable lies in a block of its own (a struct whose fields are read): the kit's sixth law at the wide fence. -/
theorem range_box {α : Type} {g : Operand} {ps : Array Tmp} {assign body : Code} {Q : Exit → Act → World → Prop} {a : Act} {w : World}
    (h1 : 1 ≤ n) {gf : Nat} {lb : Array Value} (hg : a.eval g = .func (.func gf) #[] lb) (eg : ∀ args w, (callFunc gf args).run P w = .ok (.enter gf args) w)
    {encs : α → Array Value} {n₀ : Nat} {bs : List Nat} {S Sp : List α → Prop} {N : Nat} {w0 : World} (hseq : SeqStopsK Fence.wide (n - 1) P gf lb encs (KeepB n₀ bs) S Sp N w0)
    (hn : n₀ ≤ w.heap.size) (hbs : ∀ b ∈ bs, b < w.heap.size) (hb0 : Below w0.heap.size w0 w) (hps : ∀ x, (encs x).size = ps.size)
    (I : List α → World → Prop) (Ix : Code → List α → World → Prop) (hI : OwnFrom w.heap.size I) (hIx : ∀ c, OwnFrom w.heap.size (Ix c)) (hIs : ∀ pre W, I pre W → w.heap.size ≤ W.heap.size) (h0 : I [] w)
    (cells : α → Array Value) (T : TypeId) (a1 : α → Nat → Act)
    (hassign : ∀ (l : Nat) (x : α) (W : World) (K : Act → World → Prop) (B : Nat), W.heap.size = B → K (a1 x B) (W.alloc (.cells (cells x) T)) →
      assign.wpIn (Fence.wide.inRound l) (n - 1 - 1) P (Exit.then K (fun _ _ _ => False)) { tmps := (ps.zip (encs x)).foldl (fun t (p, v) => t.setIfInBounds p v) a.tmps, defers := [] } W)
    (hbody : ∀ (l : Nat) (pre : List α) (x : α) (Bx : Nat) (W : World), I pre W → w.heap.size ≤ Bx → W.heap[Bx]? = some (.cells (cells x) T (0, 0)) → pre.length < N → body.wpIn (Fence.wide.inRound l) (n - 1 - 1) P (ownPostG w.heap.size (KeepB n₀ bs) I Ix (pre ++ [x]) W) (a1 x Bx) W)
    (hdone : ∀ (D : Nat) (xs : List α) (W : World), w.heap.size ≤ D → S xs → I xs W → W.heap[D]? = some (.deferred (some [])) → Q .normal { a with defers := { target := .collected D, args := #[] } :: a.defers } W)
    (hstop : ∀ (D : Nat) (c : Code) (pre : List α) (W : World), w.heap.size ≤ D → Sp pre → Ix c pre W → W.heap[D]? = some (.deferred (some [])) → c.wpIn Fence.wide n P Q { a with defers := { target := .collected D, args := #[] } :: a.defers } W) :
    (Code.rangeFunc g ps assign body).wpIn Fence.wide n P Q a w :=
  wpIn_rangeFunc_ownH rfl h1 hg trivial eg hseq (fun h k => KeepB.trans h k) (KeepB.put hn hbs) hb0 hps I Ix hI hIx h0
    (fun x a' W => ∃ Bx, a' = a1 x Bx ∧ w.heap.size ≤ Bx ∧ W.heap[Bx]? = some (.cells (cells x) T (0, 0)))
    (fun x a' s A B row hs hg hr => by
      obtain ⟨Bx, h1, h2, h3⟩ := hs
      exact ⟨Bx, h1, h2, kept_cells hg hr h3⟩)
    (fun l pre x W K hi hK => hassign l x W K _ rfl (hK _ _ ((KeepsOthers.alloc _ _).from _) ((KeepB.refl _ _ W).alloc (Nat.le_trans hn (hIs pre W hi)) _) (hI.alloc _ hi) ⟨_, rfl, hIs pre W hi, new1 W _⟩))
    (fun l pre x a' W _ _ hi ha hlt => by
      obtain ⟨Bx, rfl, h2, h3⟩ := ha
      exact hbody l pre x Bx W hi h2 h3 hlt)
    hdone hstop

/-- The same where the loop variable is a slot. -/
theorem range_slot {α : Type} {g : Operand} {ps : Array Tmp} {assign body : Code} {Q : Exit → Act → World → Prop} {a : Act} {w : World}
    (h1 : 1 ≤ n) {gf : Nat} {lb : Array Value} (hg : a.eval g = .func (.func gf) #[] lb) (eg : ∀ args w, (callFunc gf args).run P w = .ok (.enter gf args) w)
    {encs : α → Array Value} {n₀ : Nat} {bs : List Nat} {S Sp : List α → Prop} {N : Nat} {w0 : World} (hseq : SeqStopsK Fence.wide (n - 1) P gf lb encs (KeepB n₀ bs) S Sp N w0)
    (hn : n₀ ≤ w.heap.size) (hbs : ∀ b ∈ bs, b < w.heap.size) (hb0 : Below w0.heap.size w0 w) (hps : ∀ x, (encs x).size = ps.size)
    (I : List α → World → Prop) (Ix : Code → List α → World → Prop) (hI : OwnFrom w.heap.size I) (hIx : ∀ c, OwnFrom w.heap.size (Ix c)) (h0 : I [] w)
    (a1 : α → Act)
    (hassign : ∀ (l : Nat) (x : α) (W : World) (K : Act → World → Prop), K (a1 x) W →
      assign.wpIn (Fence.wide.inRound l) (n - 1 - 1) P (Exit.then K (fun _ _ _ => False)) { tmps := (ps.zip (encs x)).foldl (fun t (p, v) => t.setIfInBounds p v) a.tmps, defers := [] } W)
    (hbody : ∀ (l : Nat) (pre : List α) (x : α) (W : World), I pre W → pre.length < N → body.wpIn (Fence.wide.inRound l) (n - 1 - 1) P (ownPostG w.heap.size (KeepB n₀ bs) I Ix (pre ++ [x]) W) (a1 x) W)
    (hdone : ∀ (D : Nat) (xs : List α) (W : World), w.heap.size ≤ D → S xs → I xs W → W.heap[D]? = some (.deferred (some [])) → Q .normal { a with defers := { target := .collected D, args := #[] } :: a.defers } W)
    (hstop : ∀ (D : Nat) (c : Code) (pre : List α) (W : World), w.heap.size ≤ D → Sp pre → Ix c pre W → W.heap[D]? = some (.deferred (some [])) → c.wpIn Fence.wide n P Q { a with defers := { target := .collected D, args := #[] } :: a.defers } W) :
    (Code.rangeFunc g ps assign body).wpIn Fence.wide n P Q a w :=
  wpIn_rangeFunc_ownH rfl h1 hg trivial eg hseq (fun h k => KeepB.trans h k) (KeepB.put hn hbs) hb0 hps I Ix hI hIx h0
    (fun x a' W => a' = a1 x) (fun x a' s A B row hs hg hr => hs)
    (fun l pre x W K hi hK => hassign l x W K (hK _ _ (KeepsFrom.refl _ _) (KeepB.refl _ _ W) hi rfl))
    (fun l pre x a' W _ _ hi ha hlt => by
      subst ha
      exact hbody l pre x W hi hlt)
    hdone hstop
end

/-- A block that is not the owned row stays where that row alone turns. -/
theorem grown_low {W W' : World} {base : Nat} {e : TypeId} {size n : Nat} {v : Value} {xs : List Value} (h : W.ownsRow base e size v n xs) (hg : W.grownBy W' v.ownBlock) {b : Nat} (hb : b < base) {o : Obj} (ho : W.heap[b]? = some o) : W'.heap[b]? = some o :=
  (hg.block b (blk_lt ho) (fun e => by have := own_base h b e.symm; omega)).trans ho
theorem grown_other {W W' : World} {base : Nat} {e : TypeId} {size n : Nat} {v : Value} {xs : List Value} (h : W.ownsRow base e size v n xs) (hg : W.grownBy W' v.ownBlock) {b : Nat} {o : Obj} (ho : W.heap[b]? = some o) (hc : o.isCells = false) : W'.heap[b]? = some o :=
  (hg.block b (blk_lt ho) (fun e' => by obtain ⟨cells, h2⟩ := own_typed h b e'.symm; rw [ho] at h2; cases h2; cases hc)).trans ho
theorem grown_below {n₀ : Nat} {w W W' : World} {base : Nat} {e : TypeId} {size n : Nat} {v : Value} {xs : List Value} (h : W.ownsRow base e size v n xs) (hg : W.grownBy W' v.ownBlock) (hn : n₀ ≤ base) (hw : n₀ ≤ w.heap.size) (hB : Below n₀ w W) : Below n₀ w W' :=
  hB.grown hg (Nat.le_trans hw hB.size) (fun k ek => Nat.le_trans hn (own_base h k ek))

theorem grownBy_setCell_at (W : World) (b j : Nat) (v : Value) : W.grownBy (W.setCell ⟨b, j, none⟩ v) (some b) :=
  ⟨rfl, rfl, rfl, (KeepsWalks.setCell W _ v).size, fun k _ hk => Below.heap_setCell _ _ _ k (fun e => hk (by rw [e]))⟩

theorem blk_grown' {W W' : World} {b : Nat} {o : Obj} (h : W.heap[b]? = some o) (hg : W.grownBy W' none) : W'.heap[b]? = some o := (hg.block b (blk_lt h) (fun e => by cases e)).trans h

end Go.Proofs.Ytpdbhaoppdgmeaa.Sup
