/- A reading of an argument opens into the printed kinds. (Written by wip/open.py out of the printed types.) -/
import Derived.Test.YtpdbhaoppdgmeaaPr0
import Derived.Deep.Slices
import Derived.DataReads
import Derived.KernelRfl
namespace Go.Proofs.Ytpdbhaoppdgmeaa.Pr
open Go.RowKit Go.Proofs.YtpdbhaoppdgmeaaW.PrintWords Go.Proofs.YtpdbhaoppdgmeaaW.PrintLast Go.Proofs.YtpdbhaoppdgmeaaW.PrintMore
set_option linter.unusedVariables false
variable {H : Type} {enc : TypeId × Value → H} {W : World}
def Opens {α : Type} (W : World) (t : TypeId) (d : Kd α) : Prop := ∀ (n : Nat) (cs : List Value) (x : DataW H × List MemPlace), DataW.trod enc Try.prog W 0 (fun _ => true) true n t cs = some x → ∃ y, d.K W y cs
theorem opens_int {t : TypeId} {k : IntKind} (ht : Try.prog.underlying t = some (.int k)) : Opens (enc := enc) W t (Kd.int k) := fun n cs x h => by
  obtain ⟨v, rfl, _, _⟩ := DataW.trod_int ht h
  exact ⟨v, rfl⟩
theorem list_choose {α : Type} {p : Nat → α → Prop} : ∀ n : Nat, (∀ i, i < n → ∃ x, p i x) → ∃ ys : List α, ys.length = n ∧ ∀ j x, ys[j]? = some x → p j x
  | 0, _ => ⟨[], rfl, fun j x h => by simp at h⟩
  | n + 1, h => by
    obtain ⟨ys, hl, hy⟩ := list_choose n (fun i hi => h i (by omega))
    obtain ⟨x, hx⟩ := h n (by omega)
    refine ⟨ys ++ [x], by simp [hl], fun j z hz => ?_⟩
    rcases Nat.lt_or_ge j ys.length with hj | hj
    · rw [List.getElem?_append_left hj] at hz; exact hy j z hz
    · rw [List.getElem?_append_right hj] at hz
      have : j - ys.length = 0 := by
        rcases Nat.eq_zero_or_pos (j - ys.length) with h0 | h0
        · exact h0
        · rw [List.getElem?_eq_none (by simp; omega)] at hz; cases hz
      rw [this] at hz
      cases hz
      have : j = n := by omega
      subst this; exact hx
theorem opens_slice {α : Type} {t : TypeId} {e : Nat} {d : Kd α} (ht : Try.prog.underlying t = some (.slice e)) (hs : Try.prog.cellsOf e = d.sz) (h : Opens (enc := enc) W e d) : Opens (enc := enc) W t (Kd.slice e d) := fun n cs x hx => by
  rcases Deep.open_slice ht hx with ⟨rfl, _⟩ | ⟨a, len, cap, m, n', D, Pl, rfl, _, hl, hm, hmm, _, hel⟩
  · exact ⟨[], none, 0, rfl, Nat.le_refl _, Kd.C_nil d W⟩
  · have hlm : len ≤ m := by rw [hmm]; simpa using hl
    obtain ⟨ys, hyl, hy⟩ := list_choose (p := fun i y => ∃ c, W.cells? 0 (a.add (i * Try.prog.cellsOf e)) (Try.prog.cellsOf e) = some c ∧ d.K W y c) len (fun i hi => by
      obtain ⟨c, h1, h2⟩ := hel i (by omega)
      obtain ⟨y, hk⟩ := h _ _ _ h2
      exact ⟨y, c, h1, hk⟩)
    subst hyl
    refine ⟨ys, some a, cap, rfl, hl, rfl, by unfold maxLen at hm; omega, fun _ => ⟨a, rfl, fun j p hj => ?_⟩⟩
    obtain ⟨c, h1, hk⟩ := hy j p hj
    obtain ⟨_, hcl, hcell⟩ := World.cells?_some h1
    refine ⟨c, d.K_len hk, hk, fun i u hu => ?_⟩
    have hi : i < c.length := by
      rcases Nat.lt_or_ge i c.length with q | q
      · exact q
      · rw [List.getElem?_eq_none q] at hu; cases hu
    have := hcell i (by omega)
    rw [Deep.add_add, hs] at this
    rw [this]; exact hu
theorem fld {α : Type} {d : Kd α} {fs : Array Field} {xs : List (DataW H × List MemPlace)} {n s : Nat} {cs : List Value} {f : Field} (hf : ∀ (i : Nat) (f : Field), fs[i]? = some f → DataW.trod enc Try.prog W 0 (fun _ => true) true n f.type ((cs.drop f.offset).take (Try.prog.cellsOf f.type)) = xs[i]?) (hxs : xs.length = fs.size)
    (i : Nat) (hi : fs[i]? = some f) (hs : Try.prog.cellsOf f.type = s) (ho : Opens (enc := enc) W f.type d) : ∃ y, d.K W y ((cs.drop f.offset).take s) := by
  have h := hf i f hi
  have hlt : i < xs.length := by
    rw [hxs]
    rcases Nat.lt_or_ge i fs.size with q | q
    · exact q
    · rw [Array.getElem?_eq_none q] at hi; cases hi
  rw [List.getElem?_eq_getElem hlt, hs] at h
  exact ho _ _ _ h
theorem pair_at {α β : Type} {a : Kd α} {b : Kd β} {cs : List Value} {o s : Nat} (h0 : ∃ y, a.K W y ((cs.drop o).take s)) (h1 : ∃ z, b.K W z (cs.drop (o + s))) : ∃ q, (Kd.pair a b).K W q (cs.drop o) := by
  obtain ⟨y, hy⟩ := h0
  obtain ⟨z, hz⟩ := h1
  exact ⟨(y, z), _, _, by rw [← List.drop_drop]; exact (List.take_append_drop s (cs.drop o)).symm, hy, hz⟩
theorem last_at {α : Type} {a : Kd α} {cs : List Value} {o s : Nat} (hl : cs.length = o + s) (h0 : ∃ y, a.K W y ((cs.drop o).take s)) : ∃ y, a.K W y (cs.drop o) := by
  rwa [List.take_of_length_le (by simp; omega)] at h0
theorem iso_at {α β : Type} {d : Kd α} {f : β → α} {cs : List Value} (g : α → β) (hfg : ∀ x, f (g x) = x) (h : ∃ y, d.K W y cs) : ∃ y, (Kd.iso d f).K W y cs := by
  obtain ⟨y, hy⟩ := h
  refine ⟨g y, ?_⟩
  show d.K W (f (g y)) cs
  rw [hfg]; exact hy
theorem opens23 : Opens (enc := enc) W 23 k23 := fun n cs x h => by
  obtain ⟨xs, n', _, _, hl, hxs, hf⟩ := DataW.trod_struct Try.underlying23 h
  have hl : cs.length = 2 := hl.trans (by kernel_rfl)
  refine iso_at (fun p => ⟨p.1, p.2⟩) (fun _ => rfl) ?_
  rw [show cs = cs.drop 0 from rfl]
  refine pair_at (o := 0) (s := 1) (fld hf hxs 0 rfl (by kernel_rfl) (opens_int (by kernel_rfl))) ?_
  exact last_at (o := 1) (s := 1) hl (fld hf hxs 1 rfl (by kernel_rfl) (opens_int (by kernel_rfl)))
theorem opens96 : Opens (enc := enc) W 96 k96 := fun n cs x h => by
  obtain ⟨xs, n', _, _, hl, hxs, hf⟩ := DataW.trod_struct Try.underlying96 h
  have hl : cs.length = 2 := hl.trans (by kernel_rfl)
  refine iso_at (fun p => ⟨p.1, p.2⟩) (fun _ => rfl) ?_
  rw [show cs = cs.drop 0 from rfl]
  refine pair_at (o := 0) (s := 1) (fld hf hxs 0 rfl (by kernel_rfl) (opens_int (by kernel_rfl))) ?_
  exact last_at (o := 1) (s := 1) hl (fld hf hxs 1 rfl (by kernel_rfl) (opens_int (by kernel_rfl)))
theorem opens26 : Opens (enc := enc) W 26 k26 := fun n cs x h => by
  obtain ⟨xs, n', _, _, hl, hxs, hf⟩ := DataW.trod_struct Try.underlying26 h
  have hl : cs.length = 2 := hl.trans (by kernel_rfl)
  refine iso_at (fun p => ⟨p.1, p.2⟩) (fun _ => rfl) ?_
  rw [show cs = cs.drop 0 from rfl]
  refine pair_at (o := 0) (s := 1) (fld hf hxs 0 rfl (by kernel_rfl) (opens_int (by kernel_rfl))) ?_
  exact last_at (o := 1) (s := 1) hl (fld hf hxs 1 rfl (by kernel_rfl) (opens_slice (by kernel_rfl) (by kernel_rfl) opens96))
theorem opens45 : Opens (enc := enc) W 45 k45 := fun n cs x h => by
  obtain ⟨xs, n', _, _, hl, hxs, hf⟩ := DataW.trod_struct Try.underlying45 h
  have hl : cs.length = 5 := hl.trans (by kernel_rfl)
  refine iso_at (fun p => ⟨p.1, p.2.1, p.2.2.1, p.2.2.2.1, p.2.2.2.2⟩) (fun _ => rfl) ?_
  rw [show cs = cs.drop 0 from rfl]
  refine pair_at (o := 0) (s := 1) (fld hf hxs 0 rfl (by kernel_rfl) (opens_int (by kernel_rfl))) ?_
  refine pair_at (o := 1) (s := 1) (fld hf hxs 1 rfl (by kernel_rfl) (opens_int (by kernel_rfl))) ?_
  refine pair_at (o := 2) (s := 1) (fld hf hxs 2 rfl (by kernel_rfl) (opens_int (by kernel_rfl))) ?_
  refine pair_at (o := 3) (s := 1) (fld hf hxs 3 rfl (by kernel_rfl) (opens_int (by kernel_rfl))) ?_
  exact last_at (o := 4) (s := 1) hl (fld hf hxs 4 rfl (by kernel_rfl) (opens_int (by kernel_rfl)))
theorem opens114 : Opens (enc := enc) W 114 k114 := fun n cs x h => by
  obtain ⟨xs, n', _, _, hl, hxs, hf⟩ := DataW.trod_struct Try.underlying114 h
  have hl : cs.length = 2 := hl.trans (by kernel_rfl)
  refine iso_at (fun p => ⟨p.1, p.2⟩) (fun _ => rfl) ?_
  rw [show cs = cs.drop 0 from rfl]
  refine pair_at (o := 0) (s := 1) (fld hf hxs 0 rfl (by kernel_rfl) (opens_int (by kernel_rfl))) ?_
  exact last_at (o := 1) (s := 1) hl (fld hf hxs 1 rfl (by kernel_rfl) (opens_int (by kernel_rfl)))
theorem opens78 : Opens (enc := enc) W 78 k78 := fun n cs x h => by
  obtain ⟨xs, n', _, _, hl, hxs, hf⟩ := DataW.trod_struct Try.underlying78 h
  have hl : cs.length = 7 := hl.trans (by kernel_rfl)
  refine iso_at (fun p => ⟨p.1, p.2.1, p.2.2.1, p.2.2.2.1, p.2.2.2.2.1, p.2.2.2.2.2.1, p.2.2.2.2.2.2⟩) (fun _ => rfl) ?_
  rw [show cs = cs.drop 0 from rfl]
  refine pair_at (o := 0) (s := 1) (fld hf hxs 0 rfl (by kernel_rfl) (opens_int (by kernel_rfl))) ?_
  refine pair_at (o := 1) (s := 1) (fld hf hxs 1 rfl (by kernel_rfl) (opens_int (by kernel_rfl))) ?_
  refine pair_at (o := 2) (s := 1) (fld hf hxs 2 rfl (by kernel_rfl) (opens_int (by kernel_rfl))) ?_
  refine pair_at (o := 3) (s := 1) (fld hf hxs 3 rfl (by kernel_rfl) (opens_int (by kernel_rfl))) ?_
  refine pair_at (o := 4) (s := 1) (fld hf hxs 4 rfl (by kernel_rfl) (opens_int (by kernel_rfl))) ?_
  refine pair_at (o := 5) (s := 1) (fld hf hxs 5 rfl (by kernel_rfl) (opens_int (by kernel_rfl))) ?_
  exact last_at (o := 6) (s := 1) hl (fld hf hxs 6 rfl (by kernel_rfl) (opens_slice (by kernel_rfl) (by kernel_rfl) opens114))
theorem opens59 : Opens (enc := enc) W 59 k59 := fun n cs x h => by
  obtain ⟨xs, n', _, _, hl, hxs, hf⟩ := DataW.trod_struct Try.underlying59 h
  have hl : cs.length = 7 := hl.trans (by kernel_rfl)
  refine iso_at (fun p => ⟨p.1, p.2.1, p.2.2.1, p.2.2.2.1, p.2.2.2.2.1, p.2.2.2.2.2.1, p.2.2.2.2.2.2⟩) (fun _ => rfl) ?_
  rw [show cs = cs.drop 0 from rfl]
  refine pair_at (o := 0) (s := 1) (fld hf hxs 0 rfl (by kernel_rfl) (opens_int (by kernel_rfl))) ?_
  refine pair_at (o := 1) (s := 1) (fld hf hxs 1 rfl (by kernel_rfl) (opens_int (by kernel_rfl))) ?_
  refine pair_at (o := 2) (s := 1) (fld hf hxs 2 rfl (by kernel_rfl) (opens_int (by kernel_rfl))) ?_
  refine pair_at (o := 3) (s := 1) (fld hf hxs 3 rfl (by kernel_rfl) (opens_int (by kernel_rfl))) ?_
  refine pair_at (o := 4) (s := 1) (fld hf hxs 4 rfl (by kernel_rfl) (opens_int (by kernel_rfl))) ?_
  refine pair_at (o := 5) (s := 1) (fld hf hxs 5 rfl (by kernel_rfl) (opens_int (by kernel_rfl))) ?_
  exact last_at (o := 6) (s := 1) hl (fld hf hxs 6 rfl (by kernel_rfl) (opens_int (by kernel_rfl)))
theorem opens82 : Opens (enc := enc) W 82 k82 := fun n cs x h => by
  obtain ⟨xs, n', _, _, hl, hxs, hf⟩ := DataW.trod_struct Try.underlying82 h
  have hl : cs.length = 8 := hl.trans (by kernel_rfl)
  refine iso_at (fun p => ⟨p.1, p.2.1, p.2.2.1, p.2.2.2.1, p.2.2.2.2.1, p.2.2.2.2.2.1, p.2.2.2.2.2.2.1, p.2.2.2.2.2.2.2⟩) (fun _ => rfl) ?_
  rw [show cs = cs.drop 0 from rfl]
  refine pair_at (o := 0) (s := 1) (fld hf hxs 0 rfl (by kernel_rfl) (opens_int (by kernel_rfl))) ?_
  refine pair_at (o := 1) (s := 1) (fld hf hxs 1 rfl (by kernel_rfl) (opens_int (by kernel_rfl))) ?_
  refine pair_at (o := 2) (s := 1) (fld hf hxs 2 rfl (by kernel_rfl) (opens_int (by kernel_rfl))) ?_
  refine pair_at (o := 3) (s := 1) (fld hf hxs 3 rfl (by kernel_rfl) (opens_int (by kernel_rfl))) ?_
  refine pair_at (o := 4) (s := 1) (fld hf hxs 4 rfl (by kernel_rfl) (opens_int (by kernel_rfl))) ?_
  refine pair_at (o := 5) (s := 1) (fld hf hxs 5 rfl (by kernel_rfl) (opens_int (by kernel_rfl))) ?_
  refine pair_at (o := 6) (s := 1) (fld hf hxs 6 rfl (by kernel_rfl) (opens_int (by kernel_rfl))) ?_
  exact last_at (o := 7) (s := 1) hl (fld hf hxs 7 rfl (by kernel_rfl) (opens_int (by kernel_rfl)))
theorem opens32 : Opens (enc := enc) W 32 k32 := fun n cs x h => by
  obtain ⟨xs, n', _, _, hl, hxs, hf⟩ := DataW.trod_struct Try.underlying32 h
  have hl : cs.length = 13 := hl.trans (by kernel_rfl)
  refine iso_at (fun p => ⟨p.1, p.2.1, p.2.2.1, p.2.2.2.1, p.2.2.2.2.1, p.2.2.2.2.2.1, p.2.2.2.2.2.2.1, p.2.2.2.2.2.2.2.1, p.2.2.2.2.2.2.2.2.1, p.2.2.2.2.2.2.2.2.2.1, p.2.2.2.2.2.2.2.2.2.2⟩) (fun _ => rfl) ?_
  rw [show cs = cs.drop 0 from rfl]
  refine pair_at (o := 0) (s := 1) (fld hf hxs 0 rfl (by kernel_rfl) (opens_int (by kernel_rfl))) ?_
  refine pair_at (o := 1) (s := 2) (fld hf hxs 1 rfl (by kernel_rfl) opens23) ?_
  refine pair_at (o := 3) (s := 2) (fld hf hxs 2 rfl (by kernel_rfl) opens26) ?_
  refine pair_at (o := 5) (s := 1) (fld hf hxs 3 rfl (by kernel_rfl) (opens_int (by kernel_rfl))) ?_
  refine pair_at (o := 6) (s := 1) (fld hf hxs 4 rfl (by kernel_rfl) (opens_int (by kernel_rfl))) ?_
  refine pair_at (o := 7) (s := 1) (fld hf hxs 5 rfl (by kernel_rfl) (opens_int (by kernel_rfl))) ?_
  refine pair_at (o := 8) (s := 1) (fld hf hxs 6 rfl (by kernel_rfl) (opens_int (by kernel_rfl))) ?_
  refine pair_at (o := 9) (s := 1) (fld hf hxs 7 rfl (by kernel_rfl) (opens_slice (by kernel_rfl) (by kernel_rfl) opens45)) ?_
  refine pair_at (o := 10) (s := 1) (fld hf hxs 8 rfl (by kernel_rfl) (opens_slice (by kernel_rfl) (by kernel_rfl) opens78)) ?_
  refine pair_at (o := 11) (s := 1) (fld hf hxs 9 rfl (by kernel_rfl) (opens_slice (by kernel_rfl) (by kernel_rfl) opens59)) ?_
  exact last_at (o := 12) (s := 1) hl (fld hf hxs 10 rfl (by kernel_rfl) (opens_slice (by kernel_rfl) (by kernel_rfl) opens82))
theorem opens43 : Opens (enc := enc) W 43 k43 := fun n cs x h => by
  obtain ⟨xs, n', _, _, hl, hxs, hf⟩ := DataW.trod_struct Try.underlying43 h
  have hl : cs.length = 6 := hl.trans (by kernel_rfl)
  refine iso_at (fun p => ⟨p.1, p.2.1, p.2.2.1, p.2.2.2.1, p.2.2.2.2.1, p.2.2.2.2.2⟩) (fun _ => rfl) ?_
  rw [show cs = cs.drop 0 from rfl]
  refine pair_at (o := 0) (s := 1) (fld hf hxs 0 rfl (by kernel_rfl) (opens_int (by kernel_rfl))) ?_
  refine pair_at (o := 1) (s := 1) (fld hf hxs 1 rfl (by kernel_rfl) (opens_int (by kernel_rfl))) ?_
  refine pair_at (o := 2) (s := 1) (fld hf hxs 2 rfl (by kernel_rfl) (opens_int (by kernel_rfl))) ?_
  refine pair_at (o := 3) (s := 1) (fld hf hxs 3 rfl (by kernel_rfl) (opens_int (by kernel_rfl))) ?_
  refine pair_at (o := 4) (s := 1) (fld hf hxs 4 rfl (by kernel_rfl) (opens_int (by kernel_rfl))) ?_
  exact last_at (o := 5) (s := 1) hl (fld hf hxs 5 rfl (by kernel_rfl) (opens_int (by kernel_rfl)))
theorem opens49 : Opens (enc := enc) W 49 k49 := fun n cs x h => by
  obtain ⟨xs, n', _, _, hl, hxs, hf⟩ := DataW.trod_struct Try.underlying49 h
  have hl : cs.length = 4 := hl.trans (by kernel_rfl)
  refine iso_at (fun p => ⟨p.1, p.2.1, p.2.2.1, p.2.2.2⟩) (fun _ => rfl) ?_
  rw [show cs = cs.drop 0 from rfl]
  refine pair_at (o := 0) (s := 1) (fld hf hxs 0 rfl (by kernel_rfl) (opens_int (by kernel_rfl))) ?_
  refine pair_at (o := 1) (s := 1) (fld hf hxs 1 rfl (by kernel_rfl) (opens_int (by kernel_rfl))) ?_
  refine pair_at (o := 2) (s := 1) (fld hf hxs 2 rfl (by kernel_rfl) (opens_int (by kernel_rfl))) ?_
  exact last_at (o := 3) (s := 1) hl (fld hf hxs 3 rfl (by kernel_rfl) (opens_int (by kernel_rfl)))
theorem opens92 : Opens (enc := enc) W 92 k92 := fun n cs x h => by
  obtain ⟨xs, n', _, _, hl, hxs, hf⟩ := DataW.trod_struct Try.underlying92 h
  have hl : cs.length = 4 := hl.trans (by kernel_rfl)
  refine iso_at (fun p => ⟨p.1, p.2.1, p.2.2⟩) (fun _ => rfl) ?_
  rw [show cs = cs.drop 0 from rfl]
  refine pair_at (o := 0) (s := 2) (fld hf hxs 0 rfl (by kernel_rfl) opens23) ?_
  refine pair_at (o := 2) (s := 1) (fld hf hxs 1 rfl (by kernel_rfl) (opens_int (by kernel_rfl))) ?_
  exact last_at (o := 3) (s := 1) hl (fld hf hxs 2 rfl (by kernel_rfl) (opens_int (by kernel_rfl)))
end Go.Proofs.Ytpdbhaoppdgmeaa.Pr
