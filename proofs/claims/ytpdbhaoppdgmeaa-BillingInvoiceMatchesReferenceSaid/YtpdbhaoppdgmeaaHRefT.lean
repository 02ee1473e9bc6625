/- Law 26's reference, in closed words: used, take, over. -/
import Derived.Test.YtpdbhaoppdgmeaaHRefA
import Derived.Test.YtpdbhaoppdgmeaaHTake
namespace Go.Proofs.Ytpdbhaoppdgmeaa.Pr
open Go.RowKit Go.Proofs.Ytpdbhaoppdgmeaa.Sup Go.Proofs.YtpdbhaoppdgmeaaW.PrintWords Go.Proofs.YtpdbhaoppdgmeaaW.PrintLast Go.Proofs.YtpdbhaoppdgmeaaW.PrintMore
set_option linter.unusedVariables false
set_option linter.unusedSimpArgs false

/-- A number is used at a line for a booking of the key. -/
def usedA (key : Int × Int) (a : Int) : List S49 → List S59 → Bool
  | x :: xs, b :: bs => (x.f2 == a && b.f1 == key.1 && b.f2 == key.2) || usedA key a xs bs
  | _, _ => false
def takeR (wk : List Int) (key : Int × Int) (ls : List S49) (bs : List S59) (lo hi : Int) : Int :=
  match wk.find? (fun a => decide (lo ≤ a) && decide (a < hi) && !usedA key a ls bs) with
  | some a => a
  | none => -1
theorem ref_used (a0_0 : Int) (a0_1 : Int) (a0_2 : Int) (a0_3 : Int) (l0_4 : List (S96)) (a0_5 : Int) (a0_6 : Int) (a0_7 : Int) (a0_8 : Int) (l0_9 : List (S45)) (l0_10 : List (S78)) (l0_11 : List (S59)) (l0_12 : List (S82)) (ls : List S49) (b0 b1 b2 b3 b4 b5 b6 a : Int) (hl : ls.length ≤ l0_11.length) (hb : l0_11.length ≤ 1099511627776) : ∀ (m i k : Nat), ls.length - i = m → m + 1 ≤ k → i ≤ ls.length →
    onairref26_used.l0 k ls a (i : Int) a0_0 a0_1 a0_2 a0_3 l0_4 a0_5 a0_6 a0_7 a0_8 l0_9 l0_10 l0_11 l0_12 b0 b1 b2 b3 b4 b5 b6 = some (usedA (b1, b2) a (ls.drop i) (l0_11.drop i))
  | 0, i, k, hm, hk, hi => by
    obtain ⟨k, rfl⟩ : ∃ k', k = k' + 1 := ⟨k - 1, by omega⟩
    have e : i = ls.length := by omega
    subst e
    rw [onairref26_used.l0, if_neg (by omega), List.drop_length]; rfl
  | m + 1, i, k, hm, hk, hi => by
    obtain ⟨k, rfl⟩ : ∃ k', k = k' + 1 := ⟨k - 1, by omega⟩
    have hlt : i < ls.length := by omega
    have hlb : i < l0_11.length := by omega
    have next := ref_used a0_0 a0_1 a0_2 a0_3 l0_4 a0_5 a0_6 a0_7 a0_8 l0_9 l0_10 l0_11 l0_12 ls b0 b1 b2 b3 b4 b5 b6 a hl hb m (i + 1) k (by omega) (by omega) (by omega)
    rw [onairref26_used.l0, if_pos (by omega), if_pos (by omega), rd_line _ _ hlt, rd_bk _ _ hlb, w_next i _ hlt (by omega), next, List.drop_eq_getElem_cons hlt, List.drop_eq_getElem_cons hlb]
    rw [usedA]
    by_cases h1 : ls[i].f2 = a
    · rw [if_pos h1, if_pos (by omega)]
      by_cases h2 : l0_11[i].f1 = b1
      · rw [if_pos h2]
        by_cases h3 : l0_11[i].f2 = b2
        · rw [if_pos h3]; simp [h1, h2, h3]
        · rw [if_neg h3]; simp [h3]
      · rw [if_neg h2]; simp [h2]
    · rw [if_neg h1]; simp [h1]
theorem ref_tk (a0_0 : Int) (a0_1 : Int) (a0_2 : Int) (a0_3 : Int) (l0_4 : List (S96)) (a0_5 : Int) (a0_6 : Int) (a0_7 : Int) (a0_8 : Int) (l0_9 : List (S45)) (l0_10 : List (S78)) (l0_11 : List (S59)) (l0_12 : List (S82)) (ls : List S49) (b0 b1 b2 b3 b4 b5 b6 lo hi : Int) (wk : List Int) (hl : ls.length ≤ l0_11.length) (hb : l0_11.length ≤ 1099511627776) (hw : wk.length ≤ 1099511627776) : ∀ (m i k : Nat), wk.length - i = m → m + ls.length + 2 ≤ k → i ≤ wk.length →
    onairref26_take.l0 k ls lo hi wk (i : Int) a0_0 a0_1 a0_2 a0_3 l0_4 a0_5 a0_6 a0_7 a0_8 l0_9 l0_10 l0_11 l0_12 b0 b1 b2 b3 b4 b5 b6 = some (takeR (wk.drop i) (b1, b2) ls l0_11 lo hi)
  | 0, i, k, hm, hk, hi' => by
    obtain ⟨k, rfl⟩ : ∃ k', k = k' + 1 := ⟨k - 1, by omega⟩
    have e : i = wk.length := by omega
    subst e
    rw [onairref26_take.l0, if_neg (by omega), List.drop_length]; rfl
  | m + 1, i, k, hm, hk, hi' => by
    obtain ⟨k, rfl⟩ : ∃ k', k = k' + 1 := ⟨k - 1, by omega⟩
    have hlt : i < wk.length := by omega
    have next := ref_tk a0_0 a0_1 a0_2 a0_3 l0_4 a0_5 a0_6 a0_7 a0_8 l0_9 l0_10 l0_11 l0_12 ls b0 b1 b2 b3 b4 b5 b6 lo hi wk hl hb hw m (i + 1) k (by omega) (by omega) (by omega)
    have hu : onairref26_used.f k a0_0 a0_1 a0_2 a0_3 l0_4 a0_5 a0_6 a0_7 a0_8 l0_9 l0_10 l0_11 l0_12 ls b0 b1 b2 b3 b4 b5 b6 wk[i] = some (usedA (b1, b2) wk[i] ls l0_11) := ref_used a0_0 a0_1 a0_2 a0_3 l0_4 a0_5 a0_6 a0_7 a0_8 l0_9 l0_10 l0_11 l0_12 ls b0 b1 b2 b3 b4 b5 b6 wk[i] hl hb ls.length 0 k rfl (by omega) (Nat.zero_le _)
    rw [onairref26_take.l0, if_pos (by omega), if_pos (by omega), rd_int _ _ hlt, hu, Option.bind_some, w_next i _ hlt hw, next, List.drop_eq_getElem_cons hlt]
    unfold takeR
    by_cases h1 : wk[i] ≥ lo
    · rw [if_pos h1]
      by_cases h2 : wk[i] < hi
      · rw [if_pos h2]
        by_cases h3 : usedA (b1, b2) wk[i] ls l0_11 = true
        · rw [if_pos h3, List.find?_cons_of_neg (by simp [h3])]
        · rw [if_neg h3, List.find?_cons_of_pos (by simp [h3]; omega)]
      · rw [if_neg h2, List.find?_cons_of_neg (by simp; omega)]
    · rw [if_neg h1, List.find?_cons_of_neg (by simp; omega)]
theorem ref_take (a0_0 : Int) (a0_1 : Int) (a0_2 : Int) (a0_3 : Int) (l0_4 : List (S96)) (a0_5 : Int) (a0_6 : Int) (a0_7 : Int) (a0_8 : Int) (l0_9 : List (S45)) (l0_10 : List (S78)) (l0_11 : List (S59)) (l0_12 : List (S82)) (l1 : List S43) (ls : List S49) (b0 b1 b2 b3 b4 b5 b6 lo hi : Int) (hi' : l0_9.length ≤ 1099511627776) (h1 : l1.length ≤ 274877906944) (hl : ls.length ≤ l0_11.length) (hb : l0_11.length ≤ 1099511627776) (k : Nat) (hk : l0_9.length + 4 * l1.length + l0_11.length + 5 ≤ k) :
    onairref26_take.f k a0_0 a0_1 a0_2 a0_3 l0_4 a0_5 a0_6 a0_7 a0_8 l0_9 l0_10 l0_11 l0_12 l1 ls b0 b1 b2 b3 b4 b5 b6 lo hi = some (takeR (wholeOf l0_9 a0_0 l1 b1 b2) (b1, b2) ls l0_11 lo hi) := by
  have hwl : (wholeOf l0_9 a0_0 l1 b1 b2).length ≤ l1.length := by
    unfold wholeOf
    split
    · have q1 := sortU_len (wholeRaw (itemOf l0_9 b1).1.f2 (airs a0_0 b1 b2 l1))
      have q2 := wholeRaw_len (itemOf l0_9 b1).1.f2 (airs a0_0 b1 b2 l1)
      have q3 := List.length_filter_le (isAir a0_0 b1 b2) l1
      unfold airs at *
      omega
    · simp
  unfold onairref26_take.f
  rw [ref_Whole a0_0 a0_1 a0_2 a0_3 l0_4 a0_5 a0_6 a0_7 a0_8 l0_9 l0_10 l0_11 l0_12 l1 b1 b2 hi' h1 k (by omega), Option.bind_some]
  exact ref_tk a0_0 a0_1 a0_2 a0_3 l0_4 a0_5 a0_6 a0_7 a0_8 l0_9 l0_10 l0_11 l0_12 ls b0 b1 b2 b3 b4 b5 b6 lo hi _ hl hb (by omega) _ 0 k rfl (by omega) (Nat.zero_le _)
/-- The reference's own two passes. -/
def refLine (b : S59) : S49 := ⟨b.f0, 1, -1, 0⟩
def lateB (items : List S45) (b : S59) (now : Int) : Bool :=
  if (itemOf items b.f1).1.f2 ≤ 0 then decide (now ≥ b.f5) else if now < b.f5 then decide (now ≥ b.f5) else decide ((IntKind.u64.wrap ((IntKind.u64.wrap now) - (IntKind.u64.wrap b.f5))) ≥ (IntKind.u64.wrap ((itemOf items b.f1).1.f2)))
def refStep1 (wf : Int × Int → List Int) (bs : List S59) (ls : List S49) (i : Nat) (b : S59) : List S49 :=
  let at_ := takeR (wf (b.f1, b.f2)) (b.f1, b.f2) ls bs b.f3 b.f4
  if at_ ≥ 0 then ls.set i ⟨b.f0, 2, at_, b.f6⟩ else ls
def refStep2 (wf : Int × Int → List Int) (items : List S45) (now : Int) (bs : List S59) (ls : List S49) (i : Nat) (b : S59) : List S49 :=
  if (rd_T49 ls (i : Int)).f1 = 2 then ls else
  let at_ := takeR (wf (b.f1, b.f2)) (b.f1, b.f2) ls bs b.f4 b.f5
  if at_ ≥ 0 then ls.set i ⟨b.f0, 3, at_, b.f6⟩ else
  if lateB items b now = true then ls.set i ⟨(rd_T49 ls (i : Int)).f0, 4, (rd_T49 ls (i : Int)).f2, (rd_T49 ls (i : Int)).f3⟩ else ls
def refL (st : List S49 → Nat → S59 → List S49) : List S59 → Nat → List S49 → List S49
  | [], _, ls => ls
  | b :: r, i, ls => refL st r (i + 1) (st ls i b)
def refOf (wf : Int × Int → List Int) (items : List S45) (now : Int) (bs : List S59) : List S49 :=
  refL (refStep2 wf items now bs) bs 0 (refL (refStep1 wf bs) bs 0 (bs.map refLine))
end Go.Proofs.Ytpdbhaoppdgmeaa.Pr
