/- The reference's Valid: what its parts answer; each answers. -/
import Derived.Test.YtpdbhaoppdgmeaaHRefI
import Derived.Test.YtpdbhaoppdgmeaaPr1
import Derived.Test.YtpdbhaoppdgmeaaPr2
import Derived.Test.YtpdbhaoppdgmeaaPr3
import Derived.Test.YtpdbhaoppdgmeaaPr4
namespace Go.Proofs.Ytpdbhaoppdgmeaa.Pr
open Go.RowKit Go.Proofs.Ytpdbhaoppdgmeaa.Sup Go.Proofs.YtpdbhaoppdgmeaaW.PrintWords Go.Proofs.YtpdbhaoppdgmeaaW.PrintLast Go.Proofs.YtpdbhaoppdgmeaaW.PrintMore
set_option linter.unusedVariables false
set_option linter.unusedSimpArgs false

theorem find_total (l : List (S92)) (a b : Int) (hl : l.length ≤ 1099511627776) : ∀ (m i k : Nat), l.length - i = m → m + 1 ≤ k → i ≤ l.length → ∃ r, onairref03_Find.l0 k l (i : Int) a b = some r
  | 0, i, k, hm, hk, hi => by
    obtain ⟨k, rfl⟩ : ∃ k', k = k' + 1 := ⟨k - 1, by omega⟩
    rw [onairref03_Find.l0, if_neg (by omega)]; exact ⟨_, rfl⟩
  | m + 1, i, k, hm, hk, hi => by
    obtain ⟨k, rfl⟩ : ∃ k', k = k' + 1 := ⟨k - 1, by omega⟩
    have hlt : i < l.length := by omega
    have next := find_total l a b hl m (i + 1) k (by omega) (by omega) (by omega)
    rw [onairref03_Find.l0, if_pos (by omega), if_pos (by omega), w_next i _ hlt hl]
    split
    · split
      · exact ⟨_, rfl⟩
      · exact next
    · exact next
theorem val03 (a b : Int) : ∃ r, onairref03_Valid.f 20 a b = some r := by
  obtain ⟨L, hL, h8⟩ : ∃ L, onairref03_Table.f = some L ∧ L.length = 8 := ⟨_, rfl, rfl⟩
  unfold onairref03_Valid.f onairref03_Find.f
  rw [hL, Option.bind_some]
  obtain ⟨r, hr⟩ := find_total L a b (by omega) 8 0 20 (by omega) (by decide) (Nat.zero_le _)
  exact ⟨r.2.2.2.2, by rw [show (0 : Int) = ((0 : Nat) : Int) from rfl, hr]; rfl⟩
theorem zone_total (z : Int) (l : List S96) (hl : l.length ≤ 1099511627776) : ∀ (m i k : Nat), l.length - i = m → 2 * m + 2 ≤ k → i ≤ l.length → ∃ r, onairref04_Valid.l0 k (i : Int) z l = some r
  | 0, i, k, hm, hk, hi => by
    obtain ⟨k, rfl⟩ : ∃ k', k = k' + 1 := ⟨k - 1, by omega⟩
    rw [onairref04_Valid.l0, if_neg (by omega)]; exact ⟨_, rfl⟩
  | m + 1, i, k, hm, hk, hi => by
    obtain ⟨k, rfl⟩ : ∃ k', k = k' + 2 := ⟨k - 2, by omega⟩
    have hlt : i < l.length := by omega
    have next := zone_total z l hl m (i + 1) k (by omega) (by omega) (by omega)
    have hj : ∀ (c : Bool) (x y : Int), ∃ r, onairref04_Valid.j2 (k + 1) (i : Int) c z l x y = some r := by
      intro c x y
      rw [onairref04_Valid.j2, w_next i _ hlt hl]
      split
      · exact ⟨_, rfl⟩
      · split
        · rename_i hp
          have e : wrap64 ((i : Int) - 1) = (i : Int) - 1 := IntWalk.wrap64_in _ (by omega)
          rw [e, if_pos (by omega), if_pos (by omega)]
          split
          · exact ⟨_, rfl⟩
          · exact next
        · exact next
    rw [onairref04_Valid.l0, if_pos (by omega), if_pos (by omega)]
    split
    · exact hj _ _ _
    · split
      · exact hj _ _ _
      · split
        · exact hj _ _ _
        · exact hj _ _ _
theorem val04 (z : Int) (l : List S96) (hl : l.length ≤ 1099511627776) : ∃ r, onairref04_Valid.f (2 * l.length + 3) z l = some r := by
  have hj : ∀ c : Bool, ∃ r, onairref04_Valid.j0 (2 * l.length + 3) c z l = some r := by
    intro c
    rw [onairref04_Valid.j0]
    split
    · exact ⟨_, rfl⟩
    · exact zone_total z l hl l.length 0 _ rfl (by omega) (Nat.zero_le _)
  unfold onairref04_Valid.f
  split
  · exact hj _
  · split
    · exact hj _
    · exact hj _
set_option maxHeartbeats 4000000 in
theorem items_total (a0_0 : Int) (a0_1 : Int) (a0_2 : Int) (a0_3 : Int) (l0_4 : List (S96)) (a0_5 : Int) (a0_6 : Int) (a0_7 : Int) (a0_8 : Int) (l0_9 : List (S45)) (l0_10 : List (S78)) (l0_11 : List (S59)) (l0_12 : List (S82)) (hl : l0_9.length ≤ 1099511627776) : ∀ (m i k : Nat) (last : Int), l0_9.length - i = m → m + l0_9.length + 2 ≤ k → i ≤ l0_9.length →
    ∃ r, onairref08_items.l0 k last (i : Int) a0_0 a0_1 a0_2 a0_3 l0_4 a0_5 a0_6 a0_7 a0_8 l0_9 l0_10 l0_11 l0_12 = some r ∧ (r = true → ∀ j (h : j < l0_9.length), i ≤ j → 1 ≤ l0_9[j].f2 ∧ l0_9[j].f2 ≤ 100000000)
  | 0, i, k, last, hm, hk, hi => by
    obtain ⟨k, rfl⟩ : ∃ k', k = k' + 1 := ⟨k - 1, by omega⟩
    rw [onairref08_items.l0, if_neg (by omega), ref_Item a0_0 a0_1 a0_2 a0_3 l0_4 a0_5 a0_6 a0_7 a0_8 l0_9 l0_10 l0_11 l0_12 a0_8 hl k (by omega), Option.bind_some]
    split
    · exact ⟨_, rfl, fun _ j h hj => by omega⟩
    · exact ⟨_, rfl, fun _ j h hj => by omega⟩
  | m + 1, i, k, last, hm, hk, hi => by
    obtain ⟨k, rfl⟩ : ∃ k', k = k' + 1 := ⟨k - 1, by omega⟩
    have hlt : i < l0_9.length := by omega
    rw [onairref08_items.l0, if_pos (by omega), if_pos (by omega), rd_item _ _ hlt, w_next i _ hlt hl]
    obtain ⟨r, h1, h2⟩ := items_total a0_0 a0_1 a0_2 a0_3 l0_4 a0_5 a0_6 a0_7 a0_8 l0_9 l0_10 l0_11 l0_12 hl m (i + 1) k (l0_9[i].f0) (by omega) (by omega) (by omega)
    have no : ∃ r, some false = some r ∧ (r = true → ∀ j (h : j < l0_9.length), i ≤ j → 1 ≤ l0_9[j].f2 ∧ l0_9[j].f2 ≤ 100000000) := ⟨false, rfl, fun e => by cases e⟩
    split; · exact no
    split; · exact no
    split; · exact no
    split; · exact no
    split; · exact no
    split; · exact no
    split; · exact no
    split; · exact no
    split; · exact no
    split; · exact no
    refine ⟨r, h1, fun e j h hj => ?_⟩
    by_cases ej : i = j
    · subst ej; omega
    · exact h2 e j h (by omega)
theorem val_items (a0_0 : Int) (a0_1 : Int) (a0_2 : Int) (a0_3 : Int) (l0_4 : List (S96)) (a0_5 : Int) (a0_6 : Int) (a0_7 : Int) (a0_8 : Int) (l0_9 : List (S45)) (l0_10 : List (S78)) (l0_11 : List (S59)) (l0_12 : List (S82)) (hl : l0_9.length ≤ 1099511627776) : ∃ r, onairref08_items.f (2 * l0_9.length + 2) a0_0 a0_1 a0_2 a0_3 l0_4 a0_5 a0_6 a0_7 a0_8 l0_9 l0_10 l0_11 l0_12 = some r ∧ (r = true → ∀ x ∈ l0_9, 1 ≤ x.f2 ∧ x.f2 ≤ 100000000) := by
  unfold onairref08_items.f
  split
  · exact ⟨_, rfl, fun e => by cases e⟩
  · obtain ⟨r, h1, h2⟩ := items_total a0_0 a0_1 a0_2 a0_3 l0_4 a0_5 a0_6 a0_7 a0_8 l0_9 l0_10 l0_11 l0_12 hl l0_9.length 0 (2 * l0_9.length + 2) 0 rfl (by omega) (Nat.zero_le _)
    refine ⟨r, h1, fun e x hx => ?_⟩
    obtain ⟨j, hj, rfl⟩ := List.getElem_of_mem hx
    exact h2 e j hj (Nat.zero_le _)
theorem total_bind {α β : Type} {x : Option α} {f : α → Option β} (hx : ∃ t, x = some t) (hf : ∀ t, ∃ r, f t = some r) : ∃ r, x.bind f = some r := by
  obtain ⟨t, rfl⟩ := hx
  exact hf t
theorem total_ite {α : Type} {c : Prop} [Decidable c] {x y : Option α} (hx : ∃ t, x = some t) (hy : ∃ t, y = some t) : ∃ r, (if c then x else y) = some r := by
  split
  · exact hx
  · exact hy
theorem total_some {α : Type} (x : α) : ∃ r, some x = some r := ⟨x, rfl⟩
theorem val06 (a0 a1 a2 a3 a4 a5 a6 a7 : Int) : ∃ r, onairref06_Valid.f 9 a0 a1 a2 a3 a4 a5 a6 a7 = some r := by
  have hw : ∀ x y z : Int, ∃ r, onairref06_within.f x y z = some r := by
    intro x y z
    unfold onairref06_within.f
    split <;> exact ⟨_, rfl⟩
  have h1 : ∀ (c : Bool) (x : Int) (d : Bool) (b0 b1 b2 b3 b4 b5 b6 b7 : Int), ∃ r, onairref06_Valid.j1 8 c x d b0 b1 b2 b3 b4 b5 b6 b7 = some r := by
    intro c x d b0 b1 b2 b3 b4 b5 b6 b7
    rw [onairref06_Valid.j1]
    repeat' (first | (with_reducible exact total_some _) | (refine total_ite ?_ ?_) | (refine total_bind (hw _ _ _) (fun t => ?_)))
  have h0 : ∀ (c : Bool) (b0 b1 b2 b3 b4 b5 b6 b7 : Int), ∃ r, onairref06_Valid.j0 9 c b0 b1 b2 b3 b4 b5 b6 b7 = some r := by
    intro c b0 b1 b2 b3 b4 b5 b6 b7
    rw [onairref06_Valid.j0]
    split <;> exact h1 _ _ _ _ _ _ _ _ _ _ _
  unfold onairref06_Valid.f
  refine total_bind (hw _ _ _) (fun t => ?_)
  split
  · exact total_bind (hw _ _ _) (fun t => h0 _ _ _ _ _ _ _ _ _)
  · exact h0 _ _ _ _ _ _ _ _ _
theorem itemOf_bound (l : List S45) (h : ∀ x ∈ l, 1 ≤ x.f2 ∧ x.f2 ≤ 100000000) (id : Int) : (itemOf l id).1.f2 ≤ 100000000 := by
  unfold itemOf
  cases e : l.find? (fun x => x.f0 == id) with
  | some x => exact (h x (List.mem_of_find?_eq_some e)).2
  | none => show (0 : Int) ≤ 100000000; decide
end Go.Proofs.Ytpdbhaoppdgmeaa.Pr
