/- The reference's Item in closed words; indices. -/
import Derived.Test.YtpdbhaoppdgmeaaHItem
import Derived.Test.YtpdbhaoppdgmeaaPr1
namespace Go.Proofs.Ytpdbhaoppdgmeaa.Pr
open Go.RowKit Go.Proofs.Ytpdbhaoppdgmeaa.Sup Go.Proofs.YtpdbhaoppdgmeaaW.PrintWords Go.Proofs.YtpdbhaoppdgmeaaW.PrintLast Go.Proofs.YtpdbhaoppdgmeaaW.PrintMore
set_option linter.unusedVariables false
set_option linter.unusedSimpArgs false

theorem w_next (i n : Nat) (h : i < n) (hn : n ≤ 1099511627776) : wrap64 ((i : Int) + 1) = ((i + 1 : Nat) : Int) := by
  rw [IntWalk.wrap64_in _ (by omega)]; rfl
theorem rd_item (l : List S45) (i : Nat) (h : i < l.length) : rd_T45 l (i : Int) = l[i] := by simp [rd_T45, List.getD_eq_getElem?_getD, h]
theorem rd_rec (l : List S43) (i : Nat) (h : i < l.length) : rd_T43 l (i : Int) = l[i] := by simp [rd_T43, List.getD_eq_getElem?_getD, h]
theorem rd_bk (l : List S59) (i : Nat) (h : i < l.length) : rd_T59 l (i : Int) = l[i] := by simp [rd_T59, List.getD_eq_getElem?_getD, h]
theorem rd_line (l : List S49) (i : Nat) (h : i < l.length) : rd_T49 l (i : Int) = l[i] := by simp [rd_T49, List.getD_eq_getElem?_getD, h]
theorem rd_int (l : List Int) (i : Nat) (h : i < l.length) : rd l (i : Int) = l[i] := by simp [rd, List.getD_eq_getElem?_getD, h]

theorem ref_item (a0_0 : Int) (a0_1 : Int) (a0_2 : Int) (a0_3 : Int) (l0_4 : List (S96)) (a0_5 : Int) (a0_6 : Int) (a0_7 : Int) (a0_8 : Int) (l0_9 : List (S45)) (l0_10 : List (S78)) (l0_11 : List (S59)) (l0_12 : List (S82)) (id : Int) (hl : l0_9.length ≤ 1099511627776) : ∀ (m i k : Nat), l0_9.length - i = m → m + 1 ≤ k → i ≤ l0_9.length →
    onairref08_Item.l0 k id (i : Int) a0_0 a0_1 a0_2 a0_3 l0_4 a0_5 a0_6 a0_7 a0_8 l0_9 l0_10 l0_11 l0_12 = some ((itemOf (l0_9.drop i) id).1.f0, (itemOf (l0_9.drop i) id).1.f1, (itemOf (l0_9.drop i) id).1.f2, (itemOf (l0_9.drop i) id).1.f3, (itemOf (l0_9.drop i) id).1.f4, (itemOf (l0_9.drop i) id).2)
  | 0, i, k, hm, hk, hi => by
    obtain ⟨k, rfl⟩ : ∃ k', k = k' + 1 := ⟨k - 1, by omega⟩
    have e : i = l0_9.length := by omega
    subst e
    rw [onairref08_Item.l0, if_neg (by omega), List.drop_length]; rfl
  | m + 1, i, k, hm, hk, hi => by
    obtain ⟨k, rfl⟩ : ∃ k', k = k' + 1 := ⟨k - 1, by omega⟩
    have hlt : i < l0_9.length := by omega
    rw [onairref08_Item.l0, if_pos (by omega), if_pos (by omega), rd_item _ _ hlt, List.drop_eq_getElem_cons hlt]
    unfold itemOf
    by_cases h : l0_9[i].f0 = id
    · rw [if_pos h, List.find?_cons_of_pos (by simpa using h)]
    · rw [if_neg h, List.find?_cons_of_neg (by simpa using h), w_next i _ hlt hl, ref_item a0_0 a0_1 a0_2 a0_3 l0_4 a0_5 a0_6 a0_7 a0_8 l0_9 l0_10 l0_11 l0_12 id hl m (i + 1) k (by omega) (by omega) (by omega)]
      rfl
theorem ref_Item (a0_0 : Int) (a0_1 : Int) (a0_2 : Int) (a0_3 : Int) (l0_4 : List (S96)) (a0_5 : Int) (a0_6 : Int) (a0_7 : Int) (a0_8 : Int) (l0_9 : List (S45)) (l0_10 : List (S78)) (l0_11 : List (S59)) (l0_12 : List (S82)) (id : Int) (hl : l0_9.length ≤ 1099511627776) (k : Nat) (hk : l0_9.length + 1 ≤ k) :
    onairref08_Item.f k a0_0 a0_1 a0_2 a0_3 l0_4 a0_5 a0_6 a0_7 a0_8 l0_9 l0_10 l0_11 l0_12 id = some ((itemOf l0_9 id).1.f0, (itemOf l0_9 id).1.f1, (itemOf l0_9 id).1.f2, (itemOf l0_9 id).1.f3, (itemOf l0_9 id).1.f4, (itemOf l0_9 id).2) :=
  ref_item a0_0 a0_1 a0_2 a0_3 l0_4 a0_5 a0_6 a0_7 a0_8 l0_9 l0_10 l0_11 l0_12 id hl l0_9.length 0 k rfl hk (Nat.zero_le _)
end Go.Proofs.Ytpdbhaoppdgmeaa.Pr
