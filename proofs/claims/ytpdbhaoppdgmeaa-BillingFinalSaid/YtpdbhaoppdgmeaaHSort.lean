/- slices.Sort and slices.Compact at a slice of ints that the call owns: the same slice owns the sorted numbers, each once; nothing else of what lay turns. -/
import Derived.Test.YtpdbhaoppdgmeaaShelf
import Derived.Test.YtpdbhaoppdgmeaaHSup
import Derived.Sort.OwnSortedInts
namespace Go.Proofs.Ytpdbhaoppdgmeaa.Pr
open Go.RowKit Go.Shelf Go.Sort Go.Proofs.Ytpdbhaoppdgmeaa.Sup Go.Proofs.YtpdbhaoppdgmeaaW.PrintWords
set_option linter.unusedVariables false

theorem sort_own (base : Nat) (v : Value) (xs : List Int) (w : World) (h : w.ownsRow base 3 1 v xs.length (nums .i64 xs)) (hl : xs.length ≤ 140737488355328) :
    Calls Try.prog 33 #[v] w fun e w' => e = .returned (.tuple #[]) ∧ Aside0 (w'.ownsRow base 3 1 v xs.length (nums .i64 (xs.mergeSort fun x y => decide (x ≤ y)))) ∧ Aside0 (w.grownBy w' v.ownBlock) := by
  rcases h.2 with ⟨rfl, h0⟩ | ⟨g, cap, cur, rfl, hbase, hb, h1, h2, h3, h4⟩
  · obtain rfl : xs = [] := List.eq_nil_of_length_eq_zero h0
    refine (Try.slices_Sort_int_none _ _ _).mono ?_
    rintro e w' ⟨rfl, rfl⟩
    exact ⟨rfl, ⟨by simp; exact own_nil _ _ _ _⟩, ⟨⟨rfl, rfl, rfl, Nat.le_refl _, fun _ _ _ => rfl⟩⟩⟩
  · have hH : Holds (Value.int .i64) w g 0 xs.toArray := holds_of_blockI hb (by simpa [nums] using h4)
    refine (Try.slices_Sort_int g 0 cap xs w hH (blk_lt hb) (by omega)).mono ?_
    rintro e w' ⟨rfl, n, os, rfl⟩
    exact ⟨rfl, ⟨ownsRow_sortedI (by simp) hbase hb h1 h2 h3⟩, ⟨grownBy_sortedI _⟩⟩

theorem compact_len (zs : List Int) : (Lib.compact zs).length ≤ zs.length := by
  unfold Lib.compact Lib.compactUpTo
  rw [List.length_map]
  have := List.length_filter_le (Lib.keeps zs.toArray) (List.range zs.length)
  simpa using this

theorem compact_own (base : Nat) (v : Value) (xs : List Int) (w : World) (h : w.ownsRow base 3 1 v xs.length (nums .i64 xs)) (hl : xs.length ≤ 140737488355328) :
    Calls Try.prog 34 #[v] w fun e w' => ∃ v', e = .returned v' ∧ Aside0 (w'.ownsRow base 3 1 v' (Lib.compact xs).length (nums .i64 (Lib.compact xs))) ∧ Aside0 (w.grownBy w' v.ownBlock) ∧ v'.ownBlock = v.ownBlock := by
  rcases h.2 with ⟨rfl, h0⟩ | ⟨g, cap, cur, rfl, hbase, hb, h1, h2, h3, h4⟩
  · obtain rfl : xs = [] := List.eq_nil_of_length_eq_zero h0
    refine (Try.slices_Compact_int_empty _ _ _).mono ?_
    rintro e w' ⟨rfl, rfl⟩
    exact ⟨_, rfl, ⟨own_nil _ _ _ _⟩, ⟨⟨rfl, rfl, rfl, Nat.le_refl _, fun _ _ _ => rfl⟩⟩, rfl⟩
  · have hH : Holds (Value.int .i64) w g 0 xs.toArray := holds_of_blockI hb (by simpa [nums] using h4)
    refine (Try.slices_Compact_int g 0 cap xs w hH (by omega) h1).mono ?_
    rintro e w' ⟨rfl, q, rfl⟩
    have hc := compact_len xs
    have hg := grownBy_sortedI (w := w) (g := g) (n := q) (os := #[]) (Lib.compact xs ++ List.replicate (xs.length - (Lib.compact xs).length) 0).toArray
    have ho := heap_sortedI (w := w) (g := g) (n := q) (os := #[]) (cur := cur) (e := 3) (fr := (0, 0)) (Lib.compact xs ++ List.replicate (xs.length - (Lib.compact xs).length) 0).toArray hb
    rw [grow_empty] at hg ho
    refine ⟨_, rfl, ⟨by simp [nums], .inr ⟨g, cap, _, rfl, hbase, ho, by omega, h2, by simp [putCells, h3], ?_⟩⟩, ⟨hg⟩, rfl⟩
    have ht := take_putCellsI cur (Lib.compact xs ++ List.replicate (xs.length - (Lib.compact xs).length) 0) (by simp; omega)
    have e : (Lib.compact xs).length * 1 = min (Lib.compact xs).length (Lib.compact xs ++ List.replicate (xs.length - (Lib.compact xs).length) 0).length := by simp
    rw [e, ← List.take_take, ht]
    simp [nums]
end Go.Proofs.Ytpdbhaoppdgmeaa.Pr
