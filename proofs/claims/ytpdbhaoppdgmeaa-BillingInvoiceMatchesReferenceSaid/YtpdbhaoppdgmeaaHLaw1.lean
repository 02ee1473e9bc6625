/- Law 26's BillingInvoiceMatchesReference, walked: it returns true. -/
import Derived.Test.YtpdbhaoppdgmeaaHEq26
import Derived.Test.YtpdbhaoppdgmeaaHRefInv
import Derived.Test.YtpdbhaoppdgmeaaHSane
import Derived.Test.YtpdbhaoppdgmeaaHShort
import Derived.Test.YtpdbhaoppdgmeaaPr7
import Derived.Deep.RegionHeld3
import Derived.Outline
namespace Go.Proofs.Ytpdbhaoppdgmeaa.Pr
open Go.RowKit Go.Shelf Go.Proofs.Ytpdbhaoppdgmeaa.Sup Go.Proofs.YtpdbhaoppdgmeaaW.PrintWords Go.Proofs.YtpdbhaoppdgmeaaW.PrintLast Go.Proofs.YtpdbhaoppdgmeaaW.PrintMore
set_option linter.unusedVariables false
set_option linter.unusedSimpArgs false

theorem blk_put13 {w : World} {g : Nat} {t : TypeId} {a0 a1 a2 a3 a4 a5 a6 a7 a8 a9 a10 a11 a12 : Value} {b0 b1 b2 b3 b4 b5 b6 b7 b8 b9 b10 b11 b12 : Value} (h : w.heap[g]? = some (.cells #[a0, a1, a2, a3, a4, a5, a6, a7, a8, a9, a10, a11, a12] t (0, 0))) : (((((((((((((w.setCell ⟨g, 0, none⟩ b0).setCell ⟨g, 1, none⟩ b1).setCell ⟨g, 2, none⟩ b2).setCell ⟨g, 3, none⟩ b3).setCell ⟨g, 4, none⟩ b4).setCell ⟨g, 5, none⟩ b5).setCell ⟨g, 6, none⟩ b6).setCell ⟨g, 7, none⟩ b7).setCell ⟨g, 8, none⟩ b8).setCell ⟨g, 9, none⟩ b9).setCell ⟨g, 10, none⟩ b10).setCell ⟨g, 11, none⟩ b11).setCell ⟨g, 12, none⟩ b12).heap[g]? = some (.cells #[b0, b1, b2, b3, b4, b5, b6, b7, b8, b9, b10, b11, b12] t (0, 0)) := by
  refine blk_put (cs := #[b0, b1, b2, b3, b4, b5, b6, b7, b8, b9, b10, b11, a12]) ?_ 12 _ rfl
  refine blk_put (cs := #[b0, b1, b2, b3, b4, b5, b6, b7, b8, b9, b10, a11, a12]) ?_ 11 _ rfl
  refine blk_put (cs := #[b0, b1, b2, b3, b4, b5, b6, b7, b8, b9, a10, a11, a12]) ?_ 10 _ rfl
  refine blk_put (cs := #[b0, b1, b2, b3, b4, b5, b6, b7, b8, a9, a10, a11, a12]) ?_ 9 _ rfl
  refine blk_put (cs := #[b0, b1, b2, b3, b4, b5, b6, b7, a8, a9, a10, a11, a12]) ?_ 8 _ rfl
  refine blk_put (cs := #[b0, b1, b2, b3, b4, b5, b6, a7, a8, a9, a10, a11, a12]) ?_ 7 _ rfl
  refine blk_put (cs := #[b0, b1, b2, b3, b4, b5, a6, a7, a8, a9, a10, a11, a12]) ?_ 6 _ rfl
  refine blk_put (cs := #[b0, b1, b2, b3, b4, a5, a6, a7, a8, a9, a10, a11, a12]) ?_ 5 _ rfl
  refine blk_put (cs := #[b0, b1, b2, b3, a4, a5, a6, a7, a8, a9, a10, a11, a12]) ?_ 4 _ rfl
  refine blk_put (cs := #[b0, b1, b2, a3, a4, a5, a6, a7, a8, a9, a10, a11, a12]) ?_ 3 _ rfl
  refine blk_put (cs := #[b0, b1, a2, a3, a4, a5, a6, a7, a8, a9, a10, a11, a12]) ?_ 2 _ rfl
  refine blk_put (cs := #[b0, a1, a2, a3, a4, a5, a6, a7, a8, a9, a10, a11, a12]) ?_ 1 _ rfl
  refine blk_put (cs := #[a0, a1, a2, a3, a4, a5, a6, a7, a8, a9, a10, a11, a12]) ?_ 0 _ rfl
  exact h

theorem C_cut {α : Type} {k : Kd α} {w : World} {A : Option Addr} {xs : List α} (h : k.C w A xs.length xs) (m : Nat) : k.C w A (xs.take m).length (xs.take m) := by
  by_cases hm : m ≤ xs.length
  · exact Kd.C_take h hm
  · rw [List.take_of_length_le (by omega)]; exact h
theorem same_from (x : List S49) (hl : x.length ≤ 1099511627776) : ∀ (m i k : Nat), x.length - i = m → m + 1 ≤ k → i ≤ x.length → onairref26_SameLines.l0 k x x (i : Int) = some true
  | 0, i, k, hm, hk, hi => by
    obtain ⟨k, rfl⟩ : ∃ k', k = k' + 1 := ⟨k - 1, by omega⟩
    rw [onairref26_SameLines.l0, if_neg (by omega)]
  | m + 1, i, k, hm, hk, hi => by
    obtain ⟨k, rfl⟩ : ∃ k', k = k' + 1 := ⟨k - 1, by omega⟩
    have hlt : i < x.length := by omega
    rw [onairref26_SameLines.l0, if_pos (by omega), if_pos (by omega), if_pos (by omega), if_neg (by simp), w_next i _ hlt hl, same_from x hl m (i + 1) k (by omega) (by omega) (by omega)]
theorem same_lines (x : List S49) (hl : x.length ≤ 1099511627776) : onairref26_SameLines.f (x.length + 1) x x = some true := by
  unfold onairref26_SameLines.f
  rw [if_pos rfl]
  exact same_from x hl x.length 0 _ rfl (Nat.le_refl _) (Nat.zero_le _)
set_option maxHeartbeats 8000000 in
set_option maxRecDepth 100000 in
theorem law1.calls (a0_0 : Int) (a0_1 : Int) (a0_2 : Int) (a0_3 : Int) (A0_4 : Option Addr) (c0_4 : Nat) (l0_4 : List (S96)) (a0_5 : Int) (a0_6 : Int) (a0_7 : Int) (a0_8 : Int) (A0_9 : Option Addr) (c0_9 : Nat) (l0_9 : List (S45)) (A0_10 : Option Addr) (c0_10 : Nat) (l0_10 : List (S78)) (A0_11 : Option Addr) (c0_11 : Nat) (l0_11 : List (S59)) (A0_12 : Option Addr) (c0_12 : Nat) (l0_12 : List (S82)) (A1 : Option Addr) (c1 : Nat) (l1 : List (S43)) (a2 : Int) (w : World) (hr0_4 : Kd.C k96 w A0_4 l0_4.length l0_4) (hc0_4 : l0_4.length ≤ c0_4) (hr0_9 : Kd.C k45 w A0_9 l0_9.length l0_9) (hc0_9 : l0_9.length ≤ c0_9) (hr0_10 : Kd.C k78 w A0_10 l0_10.length l0_10) (hc0_10 : l0_10.length ≤ c0_10) (hr0_11 : Kd.C k59 w A0_11 l0_11.length l0_11) (hc0_11 : l0_11.length ≤ c0_11) (hr0_12 : Kd.C k82 w A0_12 l0_12.length l0_12) (hc0_12 : l0_12.length ≤ c0_12) (hr1 : Kd.C k43 w A1 l1.length l1) (hc1 : l1.length ≤ c1) :
    Calls Try.prog 3 #[.agg #[.int .i64 a0_0, .int .i64 a0_1, .int .i64 a0_2, .int .i64 a0_3, .slice A0_4 l0_4.length c0_4, .int .i64 a0_5, .int .i64 a0_6, .int .i64 a0_7, .int .i64 a0_8, .slice A0_9 l0_9.length c0_9, .slice A0_10 l0_10.length c0_10, .slice A0_11 l0_11.length c0_11, .slice A0_12 l0_12.length c0_12], .slice A1 l1.length c1, .int .i64 a2] w fun e w' => e = .returned (.bool true) ∧ Below w.heap.size w w' := by
  have huQ := Try.underlying32
  have m4 := Kd.C_max hr0_4
  have m9 := Kd.C_max hr0_9
  have m11 := Kd.C_max hr0_11
  have m12 := Kd.C_max hr0_12
  have m1 := Kd.C_max hr1
  obtain ⟨n4, e4⟩ : ∃ n, n = min l0_4.length 10 := ⟨_, rfl⟩
  obtain ⟨n9, e9⟩ : ∃ n, n = min l0_9.length 20 := ⟨_, rfl⟩
  obtain ⟨n11, e11⟩ : ∃ n, n = min l0_11.length 15 := ⟨_, rfl⟩
  obtain ⟨n12, e12⟩ : ∃ n, n = min l0_12.length 15 := ⟨_, rfl⟩
  obtain ⟨n1, e1⟩ : ∃ n, n = min l1.length 40 := ⟨_, rfl⟩
  obtain ⟨R, hR⟩ : ∃ R, R = invoiceOf (l0_9.take 20) a0_0 (l0_11.take 15) (l1.take 40) a2 := ⟨_, rfl⟩
  have k4 : (l0_4.take 10).length = n4 := by simp; omega
  have k9 : (l0_9.take 20).length = n9 := by simp; omega
  have k11 : (l0_11.take 15).length = n11 := by simp; omega
  have k12 : (l0_12.take 15).length = n12 := by simp; omega
  have k1 : (l1.take 40).length = n1 := by simp; omega
  have hRl : R.length ≤ 1099511627776 := by
    rw [hR, invoice_ref _ _ _ _ _ (by omega)]
    unfold refOf
    rw [refL_len _ (step2_len _ _ _ _), refL_len _ (step1_len _ _)]
    simp; omega
  have hinv : ∀ (W : World) (hB : Below w.heap.size w W), Calls Try.prog 9 #[.agg #[.int .i64 a0_0, .int .i64 a0_1, .int .i64 a0_2, .int .i64 a0_3, .slice A0_4 n4 c0_4, .int .i64 a0_5, .int .i64 a0_6, .int .i64 a0_7, .int .i64 a0_8, .slice A0_9 n9 c0_9, .slice A0_10 l0_10.length c0_10, .slice A0_11 n11 c0_11, .slice A0_12 n12 c0_12], .slice A1 n1 c1, .int .i64 a2] W fun e w' => ∃ v0_ : Value, e = .returned v0_ ∧ Kd.R k49 49 w' W.heap.size (fun _ => True) v0_ R ∧ Below W.heap.size W w' := fun W hB => by
    rw [hR, ← k4, ← k9, ← k11, ← k12, ← k1]
    exact invoice_walk a0_0 a0_1 a0_2 a0_3 A0_4 c0_4 (l0_4.take 10) a0_5 a0_6 a0_7 a0_8 A0_9 c0_9 (l0_9.take 20) A0_10 c0_10 l0_10 A0_11 c0_11 (l0_11.take 15) A0_12 c0_12 (l0_12.take 15) A1 c1 (l1.take 40) a2 W (Kd.C_below (C_cut hr0_4 10) hB) (by omega) (Kd.C_below (C_cut hr0_9 20) hB) (by omega) (Kd.C_below hr0_10 hB) hc0_10 (Kd.C_below (C_cut hr0_11 15) hB) (by omega) (Kd.C_below (C_cut hr0_12 15) hB) (by omega) (Kd.C_below (C_cut hr1 40) hB) (by omega) (by omega) (by omega)
  have href : ∀ (W : World) (hB : Below w.heap.size w W), Calls Try.prog 10 #[.agg #[.int .i64 a0_0, .int .i64 a0_1, .int .i64 a0_2, .int .i64 a0_3, .slice A0_4 n4 c0_4, .int .i64 a0_5, .int .i64 a0_6, .int .i64 a0_7, .int .i64 a0_8, .slice A0_9 n9 c0_9, .slice A0_10 l0_10.length c0_10, .slice A0_11 n11 c0_11, .slice A0_12 n12 c0_12], .slice A1 n1 c1, .int .i64 a2] W fun e w' => ∃ v0_ : Value, e = .returned v0_ ∧ Kd.R k49 49 w' W.heap.size (fun _ => True) v0_ R ∧ Below W.heap.size W w' := fun W hB => by
    rw [hR, invoice_ref _ _ _ _ _ (by omega), ← k4, ← k9, ← k11, ← k12, ← k1]
    exact refInvoice.calls a0_0 a0_1 a0_2 a0_3 A0_4 c0_4 (l0_4.take 10) a0_5 a0_6 a0_7 a0_8 A0_9 c0_9 (l0_9.take 20) A0_10 c0_10 l0_10 A0_11 c0_11 (l0_11.take 15) A0_12 c0_12 (l0_12.take 15) A1 c1 (l1.take 40) a2 W (Kd.C_below (C_cut hr0_4 10) hB) (by omega) (Kd.C_below (C_cut hr0_9 20) hB) (by omega) (Kd.C_below hr0_10 hB) hc0_10 (Kd.C_below (C_cut hr0_11 15) hB) (by omega) (Kd.C_below (C_cut hr0_12 15) hB) (by omega) (Kd.C_below (C_cut hr1 40) hB) (by omega) (by omega) (by omega) (by omega)
  have HINV := Aside0.mk hinv
  have HREF := Aside0.mk href
  have HSAME := Aside0.mk (same_lines R hRl)
  have E4 := Aside0.mk e4
  have E9 := Aside0.mk e9
  have E11 := Aside0.mk e11
  have E12 := Aside0.mk e12
  have E1 := Aside0.mk e1
  clear hinv href hRl hR k4 k9 k11 k12 k1 e4 e9 e11 e12 e1
  have HPL := Aside0.mk (new1 w (.cells #[.int .i64 a0_0, .int .i64 a0_1, .int .i64 a0_2, .int .i64 a0_3, .slice A0_4 l0_4.length c0_4, .int .i64 a0_5, .int .i64 a0_6, .int .i64 a0_7, .int .i64 a0_8, .slice A0_9 l0_9.length c0_9, .slice A0_10 l0_10.length c0_10, .slice A0_11 l0_11.length c0_11, .slice A0_12 l0_12.length c0_12] 32))
  go_enter Try.func3, Try.ntmps3
  go_wp2_with fail
  refine (sane.calls _).mono ?_
  rintro e W1 ⟨rfl, hb1⟩
  have HB1 := Aside0.mk (below_trans' (below_alloc (Below.refl _ w) (.cells #[.int .i64 a0_0, .int .i64 a0_1, .int .i64 a0_2, .int .i64 a0_3, .slice A0_4 l0_4.length c0_4, .int .i64 a0_5, .int .i64 a0_6, .int .i64 a0_7, .int .i64 a0_8, .slice A0_9 l0_9.length c0_9, .slice A0_10 l0_10.length c0_10, .slice A0_11 l0_11.length c0_11, .slice A0_12 l0_12.length c0_12] 32)) hb1)
  have HP1 := Aside0.mk (blk_below HPL.out hb1)
  obtain ⟨gp, hgp⟩ : ∃ g, g = w.heap.size := ⟨_, rfl⟩
  rw [← hgp] at HP1 ⊢
  have hgp' := Nat.le_of_eq hgp.symm
  clear hgp hb1 HPL
  have hp0 : (W1).cell? ⟨gp, 0, none⟩ = some (.int .i64 a0_0) := (blk_cell HP1.out 0).trans rfl
  have hpf0 := blk_frozen HP1.out 0
  have hp1 : (W1).cell? ⟨gp, 1, none⟩ = some (.int .i64 a0_1) := (blk_cell HP1.out 1).trans rfl
  have hpf1 := blk_frozen HP1.out 1
  have hp2 : (W1).cell? ⟨gp, 2, none⟩ = some (.int .i64 a0_2) := (blk_cell HP1.out 2).trans rfl
  have hpf2 := blk_frozen HP1.out 2
  have hp3 : (W1).cell? ⟨gp, 3, none⟩ = some (.int .i64 a0_3) := (blk_cell HP1.out 3).trans rfl
  have hpf3 := blk_frozen HP1.out 3
  have hp4 : (W1).cell? ⟨gp, 4, none⟩ = some (.slice A0_4 l0_4.length c0_4) := (blk_cell HP1.out 4).trans rfl
  have hpf4 := blk_frozen HP1.out 4
  have hp5 : (W1).cell? ⟨gp, 5, none⟩ = some (.int .i64 a0_5) := (blk_cell HP1.out 5).trans rfl
  have hpf5 := blk_frozen HP1.out 5
  have hp6 : (W1).cell? ⟨gp, 6, none⟩ = some (.int .i64 a0_6) := (blk_cell HP1.out 6).trans rfl
  have hpf6 := blk_frozen HP1.out 6
  have hp7 : (W1).cell? ⟨gp, 7, none⟩ = some (.int .i64 a0_7) := (blk_cell HP1.out 7).trans rfl
  have hpf7 := blk_frozen HP1.out 7
  have hp8 : (W1).cell? ⟨gp, 8, none⟩ = some (.int .i64 a0_8) := (blk_cell HP1.out 8).trans rfl
  have hpf8 := blk_frozen HP1.out 8
  have hp9 : (W1).cell? ⟨gp, 9, none⟩ = some (.slice A0_9 l0_9.length c0_9) := (blk_cell HP1.out 9).trans rfl
  have hpf9 := blk_frozen HP1.out 9
  have hp10 : (W1).cell? ⟨gp, 10, none⟩ = some (.slice A0_10 l0_10.length c0_10) := (blk_cell HP1.out 10).trans rfl
  have hpf10 := blk_frozen HP1.out 10
  have hp11 : (W1).cell? ⟨gp, 11, none⟩ = some (.slice A0_11 l0_11.length c0_11) := (blk_cell HP1.out 11).trans rfl
  have hpf11 := blk_frozen HP1.out 11
  have hp12 : (W1).cell? ⟨gp, 12, none⟩ = some (.slice A0_12 l0_12.length c0_12) := (blk_cell HP1.out 12).trans rfl
  have hpf12 := blk_frozen HP1.out 12
  go_wp2_with fail
  refine (short.calls a0_0 a0_1 a0_2 a0_3 A0_4 c0_4 l0_4 a0_5 a0_6 a0_7 a0_8 A0_9 c0_9 l0_9 A0_10 c0_10 l0_10 A0_11 c0_11 l0_11 A0_12 c0_12 l0_12 _ hc0_4 hc0_9 hc0_11 hc0_12 m4 m9 m11 m12 n4 n9 n11 n12 E4.out E9.out E11.out E12.out).mono ?_
  rintro e W2 ⟨rfl, hb2⟩
  have HB2 := Aside0.mk (below_trans' HB1.out hb2)
  have HP2 := Aside0.mk (blk_below HP1.out hb2)
  clear hb2 HB1 HP1 hp0 hpf0 hp1 hpf1 hp2 hpf2 hp3 hpf3 hp4 hpf4 hp5 hpf5 hp6 hpf6 hp7 hpf7 hp8 hpf8 hp9 hpf9 hp10 hpf10 hp11 hpf11 hp12 hpf12
  have hp0 : (W2).cell? ⟨gp, 0, none⟩ = some (.int .i64 a0_0) := (blk_cell HP2.out 0).trans rfl
  have hpf0 := blk_frozen HP2.out 0
  have hp1 : (W2).cell? ⟨gp, 1, none⟩ = some (.int .i64 a0_1) := (blk_cell HP2.out 1).trans rfl
  have hpf1 := blk_frozen HP2.out 1
  have hp2 : (W2).cell? ⟨gp, 2, none⟩ = some (.int .i64 a0_2) := (blk_cell HP2.out 2).trans rfl
  have hpf2 := blk_frozen HP2.out 2
  have hp3 : (W2).cell? ⟨gp, 3, none⟩ = some (.int .i64 a0_3) := (blk_cell HP2.out 3).trans rfl
  have hpf3 := blk_frozen HP2.out 3
  have hp4 : (W2).cell? ⟨gp, 4, none⟩ = some (.slice A0_4 l0_4.length c0_4) := (blk_cell HP2.out 4).trans rfl
  have hpf4 := blk_frozen HP2.out 4
  have hp5 : (W2).cell? ⟨gp, 5, none⟩ = some (.int .i64 a0_5) := (blk_cell HP2.out 5).trans rfl
  have hpf5 := blk_frozen HP2.out 5
  have hp6 : (W2).cell? ⟨gp, 6, none⟩ = some (.int .i64 a0_6) := (blk_cell HP2.out 6).trans rfl
  have hpf6 := blk_frozen HP2.out 6
  have hp7 : (W2).cell? ⟨gp, 7, none⟩ = some (.int .i64 a0_7) := (blk_cell HP2.out 7).trans rfl
  have hpf7 := blk_frozen HP2.out 7
  have hp8 : (W2).cell? ⟨gp, 8, none⟩ = some (.int .i64 a0_8) := (blk_cell HP2.out 8).trans rfl
  have hpf8 := blk_frozen HP2.out 8
  have hp9 : (W2).cell? ⟨gp, 9, none⟩ = some (.slice A0_9 l0_9.length c0_9) := (blk_cell HP2.out 9).trans rfl
  have hpf9 := blk_frozen HP2.out 9
  have hp10 : (W2).cell? ⟨gp, 10, none⟩ = some (.slice A0_10 l0_10.length c0_10) := (blk_cell HP2.out 10).trans rfl
  have hpf10 := blk_frozen HP2.out 10
  have hp11 : (W2).cell? ⟨gp, 11, none⟩ = some (.slice A0_11 l0_11.length c0_11) := (blk_cell HP2.out 11).trans rfl
  have hpf11 := blk_frozen HP2.out 11
  have hp12 : (W2).cell? ⟨gp, 12, none⟩ = some (.slice A0_12 l0_12.length c0_12) := (blk_cell HP2.out 12).trans rfl
  have hpf12 := blk_frozen HP2.out 12
  go_wp2_with fail
  refine (few.calls A1 l1.length c1 hc1 m1 n1 E1.out _).mono ?_
  rintro e W3 ⟨rfl, hw3⟩
  have HP3 := Aside0.mk (show W3.heap[gp]? = some (.cells #[.int .i64 a0_0, .int .i64 a0_1, .int .i64 a0_2, .int .i64 a0_3, .slice A0_4 n4 c0_4, .int .i64 a0_5, .int .i64 a0_6, .int .i64 a0_7, .int .i64 a0_8, .slice A0_9 n9 c0_9, .slice A0_10 l0_10.length c0_10, .slice A0_11 n11 c0_11, .slice A0_12 n12 c0_12] 32 (0, 0)) by rw [hw3]; exact blk_put13 HP2.out)
  have HB3 := Aside0.mk (show Below w.heap.size w W3 by
    rw [hw3]
    iterate 13 (refine below_set ?_ (by omega))
    exact HB2.out)
  clear hw3 HB2 HP2 hp0 hpf0 hp1 hpf1 hp2 hpf2 hp3 hpf3 hp4 hpf4 hp5 hpf5 hp6 hpf6 hp7 hpf7 hp8 hpf8 hp9 hpf9 hp10 hpf10 hp11 hpf11 hp12 hpf12
  go_upto_region 4 with (fail)
  go_region_held3 (fun w' => w'.cell? ⟨gp, 0, none⟩ = some (.int .i64 a0_0) ∧ w'.cell? ⟨gp, 1, none⟩ = some (.int .i64 a0_1) ∧ w'.cell? ⟨gp, 2, none⟩ = some (.int .i64 a0_2) ∧ w'.cell? ⟨gp, 3, none⟩ = some (.int .i64 a0_3) ∧ w'.cell? ⟨gp, 4, none⟩ = some (.slice A0_4 n4 c0_4) ∧ w'.cell? ⟨gp, 5, none⟩ = some (.int .i64 a0_5) ∧ w'.cell? ⟨gp, 6, none⟩ = some (.int .i64 a0_6) ∧ w'.cell? ⟨gp, 7, none⟩ = some (.int .i64 a0_7) ∧ w'.cell? ⟨gp, 8, none⟩ = some (.int .i64 a0_8) ∧ w'.cell? ⟨gp, 9, none⟩ = some (.slice A0_9 n9 c0_9) ∧ w'.cell? ⟨gp, 10, none⟩ = some (.slice A0_10 l0_10.length c0_10) ∧ w'.cell? ⟨gp, 11, none⟩ = some (.slice A0_11 n11 c0_11) ∧ w'.cell? ⟨gp, 12, none⟩ = some (.slice A0_12 n12 c0_12)) (exact plan13 (blk_below HP3.out (by repeat (first | exact Below.refl _ _ | apply below_alloc | apply below_drew1 | apply pw_below_drewN | refine below_trans' ?_ (by assumption))))) (first
    | (go_at_call 9; refine (HINV.out _ (below_trans' HB3.out (by repeat (first | exact Below.refl _ _ | apply below_alloc | apply below_drew1 | apply pw_below_drewN | refine below_trans' ?_ (by assumption))))).mono ?_; rintro e WI ⟨v, rfl, hr, hbi⟩; obtain ⟨AI, cI, rfl, lI, HCI⟩ := Kd.R_reads hr; clear hr)
    | (go_at_call 10; refine (HREF.out _ (below_trans' HB3.out (by repeat (first | exact Below.refl _ _ | apply below_alloc | apply below_drew1 | apply pw_below_drewN | refine below_trans' ?_ (by assumption))))).mono ?_; rintro e WR ⟨v, rfl, hr, hbr⟩; obtain ⟨AR, cR, rfl, lR, HCR⟩ := Kd.R_reads hr; clear hr)
    | (go_at_call 8; refine (onairref26_SameLines.calls (R.length + 1) AI cI R AR cR R true _ (Kd.C_below HCI (by repeat (first | exact Below.refl _ _ | apply below_alloc | apply below_drew1 | apply pw_below_drewN | refine below_trans' ?_ (by assumption)))) lI (Kd.C_below HCR (by repeat (first | exact Below.refl _ _ | apply below_alloc | apply below_drew1 | apply pw_below_drewN | refine below_trans' ?_ (by assumption)))) lR HSAME.out).mono ?_; rintro e WS ⟨rfl, hds⟩; have hbs := hds.below; clear hds))
  all_goals
    go_wp2_with fail
    go_ret
    exact ⟨rfl, below_trans' HB3.out (by repeat (first | exact Below.refl _ _ | apply below_alloc | apply below_drew1 | apply pw_below_drewN | refine below_trans' ?_ (by assumption)))⟩
end Go.Proofs.Ytpdbhaoppdgmeaa.Pr
