/- Law 26's reference, in closed words: Item, airing, Insert, Whole, used, take. -/
import Derived.Test.YtpdbhaoppdgmeaaHWhole
import Derived.Test.YtpdbhaoppdgmeaaPr5
import Derived.Test.YtpdbhaoppdgmeaaPr2
namespace Go.Proofs.Ytpdbhaoppdgmeaa.Pr
open Go.RowKit Go.Proofs.Ytpdbhaoppdgmeaa.Sup Go.Proofs.YtpdbhaoppdgmeaaW.PrintWords Go.Proofs.YtpdbhaoppdgmeaaW.PrintLast Go.Proofs.YtpdbhaoppdgmeaaW.PrintMore
set_option linter.unusedVariables false
set_option linter.unusedSimpArgs false

theorem w_next (i n : Nat) (h : i < n) (hn : n ≤ 1099511627776) : wrap64 ((i : Int) + 1) = ((i + 1 : Nat) : Int) := by
  rw [IntWalk.wrap64_in _ (by omega)]; rfl
theorem rd_item (l : List S45) (i : Nat) (h : i < l.length) : rd_T45 l (i : Int) = l[i] := by simp [rd_T45, List.getD_eq_getElem?_getD, h]
theorem rd_rec (l : List S43) (i : Nat) (h : i < l.length) : rd_T43 l (i : Int) = l[i] := by simp [rd_T43, List.getD_eq_getElem?_getD, h]
theorem rd_bk (l : List S59) (i : Nat) (h : i < l.length) : rd_T59 l (i : Int) = l[i] := by simp [rd_T59, List.getD_eq_getElem?_getD, h]
theorem rd_line (l : List S49) (i : Nat) (h : i < l.length) : rd_T49 l (i : Int) = l[i] := by simp [rd_T49, List.getD_eq_getElem?_getD, h]
theorem rd_int (l : List Int) (i : Nat) (h : i < l.length) : rd l (i : Int) = l[i] := by simp [rd, List.getD_eq_getElem?_getD, h]

theorem ref_item (a0_0 : Int) (a0_1 : Int) (a0_2 : Int) (a0_3 : Int) (l0_4 : List (S96)) (a0_5 : Int) (a0_6 : Int) (a0_7 : Int) (a0_8 : Int) (l0_9 : List (S45)) (l0_10 : List (S78)) (l0_11 : List (S59)) (l0_12 : List (S82)) (id : Int) (hl : l0_9.length ≤ 1099511627776) : ∀ (m i k : Nat), l0_9.length - i = m → m + 1 ≤ k → i ≤ l0_9.length →
    onairref08_Item.l0 k id (i : Int) a0_0 a0_1 a0_2 a0_3 l0_4 a0_5 a0_6 a0_7 a0_8 l0_9 l0_10 l0_11 l0_12 = some ((itemOf (l0_9.drop i) id).1.f0, (itemOf (l0_9.drop i) id).1.f1, (itemOf (l0_9.drop i) id).1.f2, (itemOf (l0_9.drop i) id).1.f3, (itemOf (l0_9.drop i) id).1.f4, (itemOf (l0_9.drop i) id).2)
  | 0, i, k, hm, hk, hi => by
    obtain ⟨k, rfl⟩ : ∃ k', k = k' + 1 := ⟨k - 1, by omega⟩
    have e : i = l0_9.length := by omega
    subst e
    rw [onairref08_Item.l0, if_neg (by omega), List.drop_length]; rfl
  | m + 1, i, k, hm, hk, hi => by
    obtain ⟨k, rfl⟩ : ∃ k', k = k' + 1 := ⟨k - 1, by omega⟩
    have hlt : i < l0_9.length := by omega
    rw [onairref08_Item.l0, if_pos (by omega), if_pos (by omega), rd_item _ _ hlt, List.drop_eq_getElem_cons hlt]
    unfold itemOf
    by_cases h : l0_9[i].f0 = id
    · rw [if_pos h, List.find?_cons_of_pos (by simpa using h)]
    · rw [if_neg h, List.find?_cons_of_neg (by simpa using h), w_next i _ hlt hl, ref_item a0_0 a0_1 a0_2 a0_3 l0_4 a0_5 a0_6 a0_7 a0_8 l0_9 l0_10 l0_11 l0_12 id hl m (i + 1) k (by omega) (by omega) (by omega)]
      rfl
theorem ref_Item (a0_0 : Int) (a0_1 : Int) (a0_2 : Int) (a0_3 : Int) (l0_4 : List (S96)) (a0_5 : Int) (a0_6 : Int) (a0_7 : Int) (a0_8 : Int) (l0_9 : List (S45)) (l0_10 : List (S78)) (l0_11 : List (S59)) (l0_12 : List (S82)) (id : Int) (hl : l0_9.length ≤ 1099511627776) (k : Nat) (hk : l0_9.length + 1 ≤ k) :
    onairref08_Item.f k a0_0 a0_1 a0_2 a0_3 l0_4 a0_5 a0_6 a0_7 a0_8 l0_9 l0_10 l0_11 l0_12 id = some ((itemOf l0_9 id).1.f0, (itemOf l0_9 id).1.f1, (itemOf l0_9 id).1.f2, (itemOf l0_9 id).1.f3, (itemOf l0_9 id).1.f4, (itemOf l0_9 id).2) :=
  ref_item a0_0 a0_1 a0_2 a0_3 l0_4 a0_5 a0_6 a0_7 a0_8 l0_9 l0_10 l0_11 l0_12 id hl l0_9.length 0 k rfl hk (Nat.zero_le _)
theorem ref_airing (a0_0 : Int) (a0_1 : Int) (a0_2 : Int) (a0_3 : Int) (l0_4 : List (S96)) (a0_5 : Int) (a0_6 : Int) (a0_7 : Int) (a0_8 : Int) (l0_9 : List (S45)) (l0_10 : List (S78)) (l0_11 : List (S59)) (l0_12 : List (S82)) (r : S43) (id rg : Int) : onairref26_airing.f a0_0 a0_1 a0_2 a0_3 l0_4 a0_5 a0_6 a0_7 a0_8 l0_9 l0_10 l0_11 l0_12 r.f0 r.f1 r.f2 r.f3 r.f4 r.f5 id rg = some (isAir a0_0 id rg r) := by
  unfold onairref26_airing.f isAir
  by_cases h1 : r.f0 = a0_0 <;> by_cases h2 : r.f1 = rg <;> by_cases h3 : r.f4 = id <;> by_cases h4 : r.f5 = 0 <;> by_cases h5 : 0 ≤ r.f2 <;> simp [h1, h2, h3, h4, h5]

def insR (n : Int) : List Int → List Int
  | [] => [n]
  | x :: r => if x ≥ n then n :: (x :: r).filter (fun y => decide (y ≠ n)) else x :: insR n r
theorem insR_eq (n : Int) : ∀ l : List Int, l.Pairwise (· < ·) → insR n l = insU n l
  | [], _ => rfl
  | x :: r, h => by
    rw [List.pairwise_cons] at h
    have hf : ∀ y ∈ r, n ≤ x → y ≠ n := fun y hy hle => by have := h.1 y hy; omega
    unfold insR insU
    by_cases h1 : x ≥ n
    · rw [if_pos h1]
      have hr : r.filter (fun y => decide (y ≠ n)) = r := List.filter_eq_self.2 (fun y hy => by simpa using hf y hy h1)
      rw [List.filter_cons, hr]
      by_cases h2 : n < x
      · rw [if_pos h2, if_pos (by simp; omega)]
      · rw [if_neg h2]
        have : x = n := by omega
        subst this
        simp
    · rw [if_neg h1, insR_eq n r h.2]
      rw [if_neg (by omega), if_neg (by omega)]
theorem ins_put (l : List Int) (n : Int) (hl : l.length ≤ 1099511627776) : ∀ (m i k : Nat) (out : List Int), l.length - i = m → 2 * m + 1 ≤ k → i ≤ l.length → out.length ≤ i + 1 →
    onairref26_Insert.l0 k l n out true (i : Int) = some (out ++ (l.drop i).filter (fun y => decide (y ≠ n)))
  | 0, i, k, out, hm, hk, hi, ho => by
    obtain ⟨k, rfl⟩ : ∃ k', k = k' + 1 := ⟨k - 1, by omega⟩
    have e : i = l.length := by omega
    subst e
    rw [onairref26_Insert.l0, if_neg (by omega), if_pos rfl, List.drop_length]; simp
  | m + 1, i, k, out, hm, hk, hi, ho => by
    obtain ⟨k, rfl⟩ : ∃ k', k = k' + 2 := ⟨k - 2, by omega⟩
    have hlt : i < l.length := by omega
    rw [onairref26_Insert.l0, if_pos (by omega), if_pos rfl, onairref26_Insert.j1, if_neg (by simp), if_pos (by omega), if_pos (by omega), rd_int _ _ hlt, w_next i _ hlt hl, List.drop_eq_getElem_cons hlt, List.filter_cons]
    by_cases h : l[i] = n
    · rw [if_pos h, if_neg (by simpa using h), ins_put l n hl m (i + 1) k out (by omega) (by omega) (by omega) (by omega)]
    · rw [if_neg h, if_pos (by omega), if_pos (by simpa using h), ins_put l n hl m (i + 1) k _ (by omega) (by omega) (by omega) (by simp; omega)]
      simp
theorem ins_not (l : List Int) (n : Int) (hl : l.length ≤ 1099511627776) : ∀ (m i k : Nat) (out : List Int), l.length - i = m → 2 * m + 1 ≤ k → i ≤ l.length → out.length ≤ i →
    onairref26_Insert.l0 k l n out false (i : Int) = some (out ++ insR n (l.drop i))
  | 0, i, k, out, hm, hk, hi, ho => by
    obtain ⟨k, rfl⟩ : ∃ k', k = k' + 1 := ⟨k - 1, by omega⟩
    have e : i = l.length := by omega
    subst e
    rw [onairref26_Insert.l0, if_neg (by omega), if_neg (by simp), if_pos (by omega), List.drop_length]; rfl
  | m + 1, i, k, out, hm, hk, hi, ho => by
    obtain ⟨k, rfl⟩ : ∃ k', k = k' + 2 := ⟨k - 2, by omega⟩
    have hlt : i < l.length := by omega
    rw [onairref26_Insert.l0, if_pos (by omega), if_neg (by simp), if_pos (by omega), onairref26_Insert.j1, rd_int _ _ hlt, w_next i _ hlt hl, List.drop_eq_getElem_cons hlt]
    unfold insR
    by_cases h : l[i] ≥ n
    · rw [if_pos (by simpa using h), if_pos h, if_pos (by omega), Option.bind_some, if_pos (by omega), if_pos (by omega), List.filter_cons]
      by_cases h2 : l[i] = n
      · rw [if_pos h2, if_neg (by simpa using h2), ins_put l n hl m (i + 1) k _ (by omega) (by omega) (by omega) (by simp; omega)]
        simp
      · rw [if_neg h2, if_pos (by simp; omega), if_pos (by simpa using h2), ins_put l n hl m (i + 1) k _ (by omega) (by omega) (by omega) (by simp; omega)]
        simp
    · rw [if_neg (by simpa using h), if_neg h, if_pos (by omega), if_pos (by omega), if_neg (by omega), if_pos (by omega), ins_not l n hl m (i + 1) k _ (by omega) (by omega) (by omega) (by simp; omega)]
      simp
theorem ref_Insert (l : List Int) (n : Int) (hl : l.length ≤ 1099511627776) (hs : l.Pairwise (· < ·)) (k : Nat) (hk : 2 * l.length + 1 ≤ k) : onairref26_Insert.f k l n = some (insU n l) := by
  unfold onairref26_Insert.f
  rw [show (0 : Int) = ((0 : Nat) : Int) from rfl, ins_not l n hl l.length 0 k [] rfl hk (Nat.zero_le _) (Nat.zero_le _), List.drop_zero, insR_eq n l hs]
  rfl
theorem ref_whole (a0_0 : Int) (a0_1 : Int) (a0_2 : Int) (a0_3 : Int) (l0_4 : List (S96)) (a0_5 : Int) (a0_6 : Int) (a0_7 : Int) (a0_8 : Int) (l0_9 : List (S45)) (l0_10 : List (S78)) (l0_11 : List (S59)) (l0_12 : List (S82)) (l1 : List S43) (id rg : Int) (y0 y1 fr y3 y4 : Int) (hl : l1.length ≤ 274877906944) : ∀ (m i k : Nat) (out : List Int), l1.length - i = m → m + 2 * l1.length + 2 ≤ k → i ≤ l1.length → out.length ≤ i → out.Pairwise (· < ·) →
    onairref26_Whole.l0 k l1 id rg out (i : Int) a0_0 a0_1 a0_2 a0_3 l0_4 a0_5 a0_6 a0_7 a0_8 l0_9 l0_10 l0_11 l0_12 y0 y1 fr y3 y4 = some ((wholeRaw fr (airs a0_0 id rg (l1.drop i))).foldl (fun acc n => insU n acc) out)
  | 0, i, k, out, hm, hk, hi, ho, hs => by
    obtain ⟨k, rfl⟩ : ∃ k', k = k' + 1 := ⟨k - 1, by omega⟩
    have e : i = l1.length := by omega
    subst e
    rw [onairref26_Whole.l0, if_neg (by omega), List.drop_length]; rfl
  | m + 1, i, k, out, hm, hk, hi, ho, hs => by
    obtain ⟨k, rfl⟩ : ∃ k', k = k' + 1 := ⟨k - 1, by omega⟩
    have hlt : i < l1.length := by omega
    have next := fun (out : List Int) ho hs => ref_whole a0_0 a0_1 a0_2 a0_3 l0_4 a0_5 a0_6 a0_7 a0_8 l0_9 l0_10 l0_11 l0_12 l1 id rg y0 y1 fr y3 y4 hl m (i + 1) k out (by omega) (by omega) (by omega) ho hs
    rw [onairref26_Whole.l0, if_pos (by omega), if_pos (by omega), rd_rec _ _ hlt, ref_airing, Option.bind_some, w_next i _ hlt (by omega), List.drop_eq_getElem_cons hlt]
    unfold airs
    rw [List.filter_cons]
    by_cases ha : isAir a0_0 id rg l1[i] = true
    · rw [if_pos ha, if_pos ha]
      unfold wholeRaw
      rw [List.filter_cons]
      by_cases h1 : l1[i].f3 ≥ fr
      · by_cases h2 : l1[i].f3 ≤ 100000000
        · rw [if_pos h1, if_pos h2, if_pos (by simp; omega), ref_Insert out _ (by omega) hs k (by omega), Option.bind_some, List.map_cons, List.foldl_cons]
          exact next _ (by have := insU_len l1[i].f2 out; omega) (insU_sorted _ _ hs)
        · rw [if_pos h1, if_neg h2, if_neg (by simp; omega)]
          exact next _ (by omega) hs
      · rw [if_neg h1, if_neg (by simp; omega)]
        exact next _ (by omega) hs
    · rw [if_neg ha, if_neg ha]
      exact next _ (by omega) hs
theorem ref_Whole (a0_0 : Int) (a0_1 : Int) (a0_2 : Int) (a0_3 : Int) (l0_4 : List (S96)) (a0_5 : Int) (a0_6 : Int) (a0_7 : Int) (a0_8 : Int) (l0_9 : List (S45)) (l0_10 : List (S78)) (l0_11 : List (S59)) (l0_12 : List (S82)) (l1 : List S43) (id rg : Int) (hi : l0_9.length ≤ 1099511627776) (hl : l1.length ≤ 274877906944) (k : Nat) (hk : l0_9.length + 3 * l1.length + 3 ≤ k) :
    onairref26_Whole.f k a0_0 a0_1 a0_2 a0_3 l0_4 a0_5 a0_6 a0_7 a0_8 l0_9 l0_10 l0_11 l0_12 l1 id rg = some (wholeOf l0_9 a0_0 l1 id rg) := by
  obtain ⟨k, rfl⟩ : ∃ k', k = k' + 1 := ⟨k - 1, by omega⟩
  unfold onairref26_Whole.f wholeOf
  rw [ref_Item a0_0 a0_1 a0_2 a0_3 l0_4 a0_5 a0_6 a0_7 a0_8 l0_9 l0_10 l0_11 l0_12 id hi (k + 1) (by omega), Option.bind_some]
  have hw := fun y0 y1 fr y3 y4 => ref_whole a0_0 a0_1 a0_2 a0_3 l0_4 a0_5 a0_6 a0_7 a0_8 l0_9 l0_10 l0_11 l0_12 l1 id rg y0 y1 fr y3 y4 hl l1.length 0 k [] rfl (by omega) (Nat.zero_le _) (Nat.zero_le _) List.Pairwise.nil
  by_cases h1 : (itemOf l0_9 id).2 = true
  · rw [if_pos h1, onairref26_Whole.j0]
    by_cases h2 : (itemOf l0_9 id).1.f2 < 1
    · rw [if_pos (by simpa using h2), if_neg (by simp; intro; omega)]
    · rw [if_neg (by simpa using h2), if_pos (by simp [h1]; omega)]
      exact hw _ _ _ _ _
  · rw [if_neg h1, onairref26_Whole.j0, if_pos rfl, if_neg (by simp; intro h; exact absurd h h1)]
end Go.Proofs.Ytpdbhaoppdgmeaa.Pr
