/- Law 26's BillingFinal, walked: it returns true. -/
import Derived.Test.YtpdbhaoppdgmeaaHFinalP
import Derived.Test.YtpdbhaoppdgmeaaHSane
import Derived.Test.YtpdbhaoppdgmeaaHShort
import Derived.Test.YtpdbhaoppdgmeaaHValid
import Derived.Deep.CutRange
import Derived.Outline
namespace Go.Proofs.Ytpdbhaoppdgmeaa.Pr
open Go.RowKit Go.Shelf Go.Proofs.Ytpdbhaoppdgmeaa.Sup Go.Proofs.YtpdbhaoppdgmeaaW.PrintWords Go.Proofs.YtpdbhaoppdgmeaaW.PrintLast Go.Proofs.YtpdbhaoppdgmeaaW.PrintMore
attribute [local go_sem] max2_int min2_int max_two min_two
set_option linter.unusedVariables false
set_option linter.unusedSimpArgs false

theorem blk_put13 {w : World} {g : Nat} {t : TypeId} {a0 a1 a2 a3 a4 a5 a6 a7 a8 a9 a10 a11 a12 : Value} {b0 b1 b2 b3 b4 b5 b6 b7 b8 b9 b10 b11 b12 : Value} (h : w.heap[g]? = some (.cells #[a0, a1, a2, a3, a4, a5, a6, a7, a8, a9, a10, a11, a12] t (0, 0))) : (((((((((((((w.setCell ⟨g, 0, none⟩ b0).setCell ⟨g, 1, none⟩ b1).setCell ⟨g, 2, none⟩ b2).setCell ⟨g, 3, none⟩ b3).setCell ⟨g, 4, none⟩ b4).setCell ⟨g, 5, none⟩ b5).setCell ⟨g, 6, none⟩ b6).setCell ⟨g, 7, none⟩ b7).setCell ⟨g, 8, none⟩ b8).setCell ⟨g, 9, none⟩ b9).setCell ⟨g, 10, none⟩ b10).setCell ⟨g, 11, none⟩ b11).setCell ⟨g, 12, none⟩ b12).heap[g]? = some (.cells #[b0, b1, b2, b3, b4, b5, b6, b7, b8, b9, b10, b11, b12] t (0, 0)) := by
  refine blk_put (cs := #[b0, b1, b2, b3, b4, b5, b6, b7, b8, b9, b10, b11, a12]) ?_ 12 _ rfl
  refine blk_put (cs := #[b0, b1, b2, b3, b4, b5, b6, b7, b8, b9, b10, a11, a12]) ?_ 11 _ rfl
  refine blk_put (cs := #[b0, b1, b2, b3, b4, b5, b6, b7, b8, b9, a10, a11, a12]) ?_ 10 _ rfl
  refine blk_put (cs := #[b0, b1, b2, b3, b4, b5, b6, b7, b8, a9, a10, a11, a12]) ?_ 9 _ rfl
  refine blk_put (cs := #[b0, b1, b2, b3, b4, b5, b6, b7, a8, a9, a10, a11, a12]) ?_ 8 _ rfl
  refine blk_put (cs := #[b0, b1, b2, b3, b4, b5, b6, a7, a8, a9, a10, a11, a12]) ?_ 7 _ rfl
  refine blk_put (cs := #[b0, b1, b2, b3, b4, b5, a6, a7, a8, a9, a10, a11, a12]) ?_ 6 _ rfl
  refine blk_put (cs := #[b0, b1, b2, b3, b4, a5, a6, a7, a8, a9, a10, a11, a12]) ?_ 5 _ rfl
  refine blk_put (cs := #[b0, b1, b2, b3, a4, a5, a6, a7, a8, a9, a10, a11, a12]) ?_ 4 _ rfl
  refine blk_put (cs := #[b0, b1, b2, a3, a4, a5, a6, a7, a8, a9, a10, a11, a12]) ?_ 3 _ rfl
  refine blk_put (cs := #[b0, b1, a2, a3, a4, a5, a6, a7, a8, a9, a10, a11, a12]) ?_ 2 _ rfl
  refine blk_put (cs := #[b0, a1, a2, a3, a4, a5, a6, a7, a8, a9, a10, a11, a12]) ?_ 1 _ rfl
  refine blk_put (cs := #[a0, a1, a2, a3, a4, a5, a6, a7, a8, a9, a10, a11, a12]) ?_ 0 _ rfl
  exact h
theorem C_cut {α : Type} {k : Kd α} {w : World} {A : Option Addr} {xs : List α} (h : k.C w A xs.length xs) (m : Nat) : k.C w A (xs.take m).length (xs.take m) := by
  by_cases hm : m ≤ xs.length
  · exact Kd.C_take h hm
  · rw [List.take_of_length_le (by omega)]; exact h
theorem R_empty {α : Type} (d : Kd α) (e : TypeId) (W : World) (base : Nat) (hb : base ≤ W.heap.size) : d.R e (W.alloc (.cells #[] e)) base (fun _ => True) (.slice (some ⟨W.heap.size, 0, none⟩) 0 0) [] :=
  ⟨fun _ _ => trivial, OwnRow.lit (ps := ([] : List α)) (inner := []) W base (Reps.none _ _) hb (by simp)⟩
/-- What a later record has to be. -/
def MoreOk (its : List S45) (L : List S43) (now : Int) (r : S43) : Prop := (itemOf its r.f4).2 = true → 1 ≤ (itemOf its r.f4).1.f2 → (∀ x ∈ L, x.f4 = r.f4 → x.f2 ≤ 100000000 → x.f2 < r.f2) ∧ now + 1 - (itemOf its r.f4).1.f2 ≤ r.f2
def FirstOk (its : List S45) (L : List S43) (now : Int) (id : Int) (f : Int) : Prop := (itemOf its id).2 = true → 1 ≤ (itemOf its id).1.f2 → (∀ x ∈ L, x.f4 = id → x.f2 ≤ 100000000 → x.f2 < f) ∧ now + 1 - (itemOf its id).1.f2 ≤ f
theorem itemOf_nn (l : List S45) (h : ∀ x ∈ l, 1 ≤ x.f2 ∧ x.f2 ≤ 100000000) (id : Int) : 0 ≤ (itemOf l id).1.f2 := by
  unfold itemOf
  cases e : l.find? (fun x => x.f0 == id) with
  | some x => have := (h x (List.mem_of_find?_eq_some e)).1; show 0 ≤ x.f2; omega
  | none => show (0 : Int) ≤ 0; decide
theorem more_wrap (x f : Int) (h0 : 0 ≤ f) (h1 : x ≤ 100000000) (h : f < wrap64 (x + 1)) : x < wrap64 (x + 1) := by
  by_cases hx : 0 ≤ x
  · rw [IntWalk.wrap64_in _ (by omega)]; omega
  · omega
theorem more_wrap' (x f : Int) (h0 : 0 ≤ f) (h1 : x ≤ 100000000) (h : ¬ f < wrap64 (x + 1)) : x < f := by
  by_cases hx : 0 ≤ x
  · rw [IntWalk.wrap64_in _ (by omega)] at h; omega
  · omega
theorem eqA49 (d : Nat) (w : World) (x0 y0 : Int) (x1 y1 : Int) (x2 y2 : Int) (x3 y3 : Int) :
    (Op.equalIn (d + 2) 49 (.agg #[.int .i64 x0, .int .i64 x1, .int .i64 x2, .int .i64 x3]) (.agg #[.int .i64 y0, .int .i64 y1, .int .i64 y2, .int .i64 y3])).run Try.prog w = .ok (x0 == y0 && (x1 == y1 && (x2 == y2 && (x3 == y3)))) w := by
  refine eqA_of Try.underlying49 (by kernel_rfl) ?_
  refine eqf_cons (by rfl) (by go_simp; rfl) (by go_simp; rfl) (by go_simp) ?_
  refine eqf_cons (by rfl) (by go_simp; rfl) (by go_simp; rfl) (by go_simp) ?_
  refine eqf_cons (by rfl) (by go_simp; rfl) (by go_simp; rfl) (by go_simp) ?_
  exact eqf_last (by rfl) (by go_simp; rfl) (by go_simp; rfl) (by go_simp)
attribute [local go_sem high] eqA49
theorem wp_named {P : Program} {c : Code} {Q : Exit → Act → World → Prop} {a : Act} {W : World} (h : ∀ W3, W = W3 → c.wp P Q a W3) : c.wp P Q a W := h W rfl
set_option maxHeartbeats 16000000 in
set_option maxRecDepth 100000 in
theorem law2.calls (a0_0 : Int) (a0_1 : Int) (a0_2 : Int) (a0_3 : Int) (A0_4 : Option Addr) (c0_4 : Nat) (l0_4 : List (S96)) (a0_5 : Int) (a0_6 : Int) (a0_7 : Int) (a0_8 : Int) (A0_9 : Option Addr) (c0_9 : Nat) (l0_9 : List (S45)) (A0_10 : Option Addr) (c0_10 : Nat) (l0_10 : List (S78)) (A0_11 : Option Addr) (c0_11 : Nat) (l0_11 : List (S59)) (A0_12 : Option Addr) (c0_12 : Nat) (l0_12 : List (S82)) (A1 : Option Addr) (c1 : Nat) (l1 : List (S43)) (A2 : Option Addr) (c2 : Nat) (l2 : List (S43)) (a3 a4 : Int) (w : World) (hr0_4 : Kd.C k96 w A0_4 l0_4.length l0_4) (hc0_4 : l0_4.length ≤ c0_4) (hr0_9 : Kd.C k45 w A0_9 l0_9.length l0_9) (hc0_9 : l0_9.length ≤ c0_9) (hr0_10 : Kd.C k78 w A0_10 l0_10.length l0_10) (hc0_10 : l0_10.length ≤ c0_10) (hr0_11 : Kd.C k59 w A0_11 l0_11.length l0_11) (hc0_11 : l0_11.length ≤ c0_11) (hr0_12 : Kd.C k82 w A0_12 l0_12.length l0_12) (hc0_12 : l0_12.length ≤ c0_12) (hr1 : Kd.C k43 w A1 l1.length l1) (hc1 : l1.length ≤ c1) (hr2 : Kd.C k43 w A2 l2.length l2) (hc2 : l2.length ≤ c2) (h4 : a4 ≤ 9223372036854775807) :
    Calls Try.prog 4 #[.agg #[.int .i64 a0_0, .int .i64 a0_1, .int .i64 a0_2, .int .i64 a0_3, .slice A0_4 l0_4.length c0_4, .int .i64 a0_5, .int .i64 a0_6, .int .i64 a0_7, .int .i64 a0_8, .slice A0_9 l0_9.length c0_9, .slice A0_10 l0_10.length c0_10, .slice A0_11 l0_11.length c0_11, .slice A0_12 l0_12.length c0_12], .slice A1 l1.length c1, .slice A2 l2.length c2, .int .i64 a3, .int .i64 a4] w fun e w' => e = .returned (.bool true) ∧ Below w.heap.size w w' := by
  have huQ := Try.underlying32
  have m4 := Kd.C_max hr0_4
  have m9 := Kd.C_max hr0_9
  have m11 := Kd.C_max hr0_11
  have m12 := Kd.C_max hr0_12
  have m1 := Kd.C_max hr1
  have m2 := Kd.C_max hr2
  obtain ⟨n4, e4⟩ : ∃ n, n = min l0_4.length 10 := ⟨_, rfl⟩
  obtain ⟨n9, e9⟩ : ∃ n, n = min l0_9.length 20 := ⟨_, rfl⟩
  obtain ⟨n11, e11⟩ : ∃ n, n = min l0_11.length 15 := ⟨_, rfl⟩
  obtain ⟨n12, e12⟩ : ∃ n, n = min l0_12.length 15 := ⟨_, rfl⟩
  obtain ⟨n1, e1⟩ : ∃ n, n = min l1.length 30 := ⟨_, rfl⟩
  obtain ⟨its, hits⟩ : ∃ l, l = l0_9.take 20 := ⟨_, rfl⟩
  obtain ⟨bks, hbks⟩ : ∃ l, l = l0_11.take 15 := ⟨_, rfl⟩
  obtain ⟨L, hL⟩ : ∃ l, l = l1.take 30 := ⟨_, rfl⟩
  have k4 : (l0_4.take 10).length = n4 := by simp; omega
  have k9 : its.length = n9 := by rw [hits]; simp; omega
  have k11 : bks.length = n11 := by rw [hbks]; simp; omega
  have k12 : (l0_12.take 15).length = n12 := by simp; omega
  have k1 : L.length = n1 := by rw [hL]; simp; omega
  have hnil : ∀ W, Kd.C k78 W none ([] : List S78).length [] := fun W => Kd.C_nil _ W
  have hval : ∀ (W : World) (hB : Below w.heap.size w W), Calls Try.prog 11 #[.agg #[.int .i64 a0_0, .int .i64 a0_1, .int .i64 a0_2, .int .i64 a0_3, .slice A0_4 n4 c0_4, .int .i64 a0_5, .int .i64 a0_6, .int .i64 a0_7, .int .i64 a0_8, .slice A0_9 n9 c0_9, .slice none 0 0, .slice A0_11 n11 c0_11, .slice A0_12 n12 c0_12]] W (ValPost W bks its) := fun W hB => by
    rw [← k4, ← k9, ← k11, ← k12, hits, hbks]
    exact valid.calls a0_0 a0_1 a0_2 a0_3 A0_4 c0_4 (l0_4.take 10) a0_5 a0_6 a0_7 a0_8 A0_9 c0_9 (l0_9.take 20) none 0 [] A0_11 c0_11 (l0_11.take 15) A0_12 c0_12 (l0_12.take 15) W (Kd.C_below (C_cut hr0_4 10) hB) (by omega) (Kd.C_below (C_cut hr0_9 20) hB) (by rw [← hits]; omega) (hnil W) (by simp) (Kd.C_below (C_cut hr0_11 15) hB) (by rw [← hbks]; omega) (Kd.C_below (C_cut hr0_12 15) hB) (by omega) rfl (by rw [← hits]; omega) (by omega)
  have hinv : ∀ (W : World) (hB : Below w.heap.size w W) (A : Option Addr) (c n : Nat) (xs : List S43) (t : Int) (hn : xs.length = n) (hxs : Kd.C k43 W A xs.length xs) (hc : n ≤ c) (hl : n ≤ 1000), Calls Try.prog 9 #[.agg #[.int .i64 a0_0, .int .i64 a0_1, .int .i64 a0_2, .int .i64 a0_3, .slice A0_4 n4 c0_4, .int .i64 a0_5, .int .i64 a0_6, .int .i64 a0_7, .int .i64 a0_8, .slice A0_9 n9 c0_9, .slice none 0 0, .slice A0_11 n11 c0_11, .slice A0_12 n12 c0_12], .slice A n c, .int .i64 t] W fun e w' => ∃ v0_ : Value, e = .returned v0_ ∧ Kd.R k49 49 w' W.heap.size (fun _ => True) v0_ (invoiceOf its a0_0 bks xs t) ∧ Below W.heap.size W w' := fun W hB A c n xs t hn hxs hc hl => by
    subst hn
    rw [← k4, ← k9, ← k11, ← k12, hits, hbks]
    exact invoice_walk a0_0 a0_1 a0_2 a0_3 A0_4 c0_4 (l0_4.take 10) a0_5 a0_6 a0_7 a0_8 A0_9 c0_9 (l0_9.take 20) none 0 [] A0_11 c0_11 (l0_11.take 15) A0_12 c0_12 (l0_12.take 15) A c xs t W (Kd.C_below (C_cut hr0_4 10) hB) (by omega) (Kd.C_below (C_cut hr0_9 20) hB) (by rw [← hits]; omega) (hnil W) (by simp) (Kd.C_below (C_cut hr0_11 15) hB) (by rw [← hbks]; omega) (Kd.C_below (C_cut hr0_12 15) hB) (by omega) hxs hc (by omega) (by rw [← hbks]; omega)
  have hitem : ∀ (W : World) (hB : Below w.heap.size w W) (id : Int), Calls Try.prog 12 #[.agg #[.int .i64 a0_0, .int .i64 a0_1, .int .i64 a0_2, .int .i64 a0_3, .slice A0_4 n4 c0_4, .int .i64 a0_5, .int .i64 a0_6, .int .i64 a0_7, .int .i64 a0_8, .slice A0_9 n9 c0_9, .slice none 0 0, .slice A0_11 n11 c0_11, .slice A0_12 n12 c0_12], .int .i64 id] W fun e w' => e = .returned (.tuple #[.agg #[.int .i64 (itemOf its id).1.f0, .int .i64 (itemOf its id).1.f1, .int .i64 (itemOf its id).1.f2, .int .i64 (itemOf its id).1.f3, .int .i64 (itemOf its id).1.f4], .bool (itemOf its id).2]) ∧ Below W.heap.size W w' := fun W hB id => by
    rw [← k4, ← k9, ← k11, ← k12, hits, hbks]
    exact onairref08_Item.calls ((l0_9.take 20).length + 1) a0_0 a0_1 a0_2 a0_3 A0_4 c0_4 (l0_4.take 10) a0_5 a0_6 a0_7 a0_8 A0_9 c0_9 (l0_9.take 20) none 0 [] A0_11 c0_11 (l0_11.take 15) A0_12 c0_12 (l0_12.take 15) id _ _ _ _ _ _ W (Kd.C_below (C_cut hr0_4 10) hB) (by omega) (Kd.C_below (C_cut hr0_9 20) hB) (by rw [← hits]; omega) (hnil W) (by simp) (Kd.C_below (C_cut hr0_11 15) hB) (by rw [← hbks]; omega) (Kd.C_below (C_cut hr0_12 15) hB) (by omega) (ref_Item a0_0 a0_1 a0_2 a0_3 (l0_4.take 10) a0_5 a0_6 a0_7 a0_8 (l0_9.take 20) [] (l0_11.take 15) (l0_12.take 15) id (by rw [← hits]; omega) _ (Nat.le_refl _))
  have hcl : Kd.C k43 w A1 L.length L := by rw [hL]; exact C_cut hr1 30
  have HVAL := Aside0.mk hval
  have HINV := Aside0.mk hinv
  have HITEM := Aside0.mk hitem
  have HCL := Aside0.mk hcl
  have HCM := Aside0.mk hr2
  have E4 := Aside0.mk e4
  have E9 := Aside0.mk e9
  have E11 := Aside0.mk e11
  have E12 := Aside0.mk e12
  have E1 := Aside0.mk e1
  have K1 := Aside0.mk k1
  have K11 := Aside0.mk k11
  have hn1 : n1 ≤ 30 := by omega
  have hn11 : n11 ≤ 15 := by omega
  have hnc1 : n1 ≤ c1 := by omega
  have hn1l : n1 ≤ l1.length := by omega
  clear hval hinv hitem hcl hL hits hbks k4 k9 k11 k12 k1 e4 e9 e11 e12 e1 hnil hr1 hr2
  have HPL := Aside0.mk (new1 w (.cells #[.int .i64 a0_0, .int .i64 a0_1, .int .i64 a0_2, .int .i64 a0_3, .slice A0_4 l0_4.length c0_4, .int .i64 a0_5, .int .i64 a0_6, .int .i64 a0_7, .int .i64 a0_8, .slice A0_9 l0_9.length c0_9, .slice A0_10 l0_10.length c0_10, .slice A0_11 l0_11.length c0_11, .slice A0_12 l0_12.length c0_12] 32))
  go_enter Try.func4, Try.ntmps4
  go_wp2_with fail
  refine (sane.calls _).mono ?_
  rintro e W1 ⟨rfl, hb1⟩
  have HB1 := Aside0.mk (below_trans' (below_alloc (Below.refl _ w) (.cells #[.int .i64 a0_0, .int .i64 a0_1, .int .i64 a0_2, .int .i64 a0_3, .slice A0_4 l0_4.length c0_4, .int .i64 a0_5, .int .i64 a0_6, .int .i64 a0_7, .int .i64 a0_8, .slice A0_9 l0_9.length c0_9, .slice A0_10 l0_10.length c0_10, .slice A0_11 l0_11.length c0_11, .slice A0_12 l0_12.length c0_12] 32)) hb1)
  have HP1 := Aside0.mk (blk_below HPL.out hb1)
  obtain ⟨gp, hgp⟩ : ∃ g, g = w.heap.size := ⟨_, rfl⟩
  rw [← hgp] at HP1 ⊢
  have hgp' := Nat.le_of_eq hgp.symm
  clear hgp hb1 HPL
  have hp0 : (W1).cell? ⟨gp, 0, none⟩ = some (.int .i64 a0_0) := (blk_cell HP1.out 0).trans rfl
  have hpf0 := blk_frozen HP1.out 0
  have hp1 : (W1).cell? ⟨gp, 1, none⟩ = some (.int .i64 a0_1) := (blk_cell HP1.out 1).trans rfl
  have hpf1 := blk_frozen HP1.out 1
  have hp2 : (W1).cell? ⟨gp, 2, none⟩ = some (.int .i64 a0_2) := (blk_cell HP1.out 2).trans rfl
  have hpf2 := blk_frozen HP1.out 2
  have hp3 : (W1).cell? ⟨gp, 3, none⟩ = some (.int .i64 a0_3) := (blk_cell HP1.out 3).trans rfl
  have hpf3 := blk_frozen HP1.out 3
  have hp4 : (W1).cell? ⟨gp, 4, none⟩ = some (.slice A0_4 l0_4.length c0_4) := (blk_cell HP1.out 4).trans rfl
  have hpf4 := blk_frozen HP1.out 4
  have hp5 : (W1).cell? ⟨gp, 5, none⟩ = some (.int .i64 a0_5) := (blk_cell HP1.out 5).trans rfl
  have hpf5 := blk_frozen HP1.out 5
  have hp6 : (W1).cell? ⟨gp, 6, none⟩ = some (.int .i64 a0_6) := (blk_cell HP1.out 6).trans rfl
  have hpf6 := blk_frozen HP1.out 6
  have hp7 : (W1).cell? ⟨gp, 7, none⟩ = some (.int .i64 a0_7) := (blk_cell HP1.out 7).trans rfl
  have hpf7 := blk_frozen HP1.out 7
  have hp8 : (W1).cell? ⟨gp, 8, none⟩ = some (.int .i64 a0_8) := (blk_cell HP1.out 8).trans rfl
  have hpf8 := blk_frozen HP1.out 8
  have hp9 : (W1).cell? ⟨gp, 9, none⟩ = some (.slice A0_9 l0_9.length c0_9) := (blk_cell HP1.out 9).trans rfl
  have hpf9 := blk_frozen HP1.out 9
  have hp10 : (W1).cell? ⟨gp, 10, none⟩ = some (.slice A0_10 l0_10.length c0_10) := (blk_cell HP1.out 10).trans rfl
  have hpf10 := blk_frozen HP1.out 10
  have hp11 : (W1).cell? ⟨gp, 11, none⟩ = some (.slice A0_11 l0_11.length c0_11) := (blk_cell HP1.out 11).trans rfl
  have hpf11 := blk_frozen HP1.out 11
  have hp12 : (W1).cell? ⟨gp, 12, none⟩ = some (.slice A0_12 l0_12.length c0_12) := (blk_cell HP1.out 12).trans rfl
  have hpf12 := blk_frozen HP1.out 12
  go_wp2_with fail
  refine (short.calls a0_0 a0_1 a0_2 a0_3 A0_4 c0_4 l0_4 a0_5 a0_6 a0_7 a0_8 A0_9 c0_9 l0_9 A0_10 c0_10 l0_10 A0_11 c0_11 l0_11 A0_12 c0_12 l0_12 _ hc0_4 hc0_9 hc0_11 hc0_12 m4 m9 m11 m12 n4 n9 n11 n12 E4.out E9.out E11.out E12.out).mono ?_
  rintro e W2 ⟨rfl, hb2⟩
  have HB2 := Aside0.mk (below_trans' HB1.out hb2)
  have HP2 := Aside0.mk (blk_below HP1.out hb2)
  clear hb2 HB1 HP1 hp0 hpf0 hp1 hpf1 hp2 hpf2 hp3 hpf3 hp4 hpf4 hp5 hpf5 hp6 hpf6 hp7 hpf7 hp8 hpf8 hp9 hpf9 hp10 hpf10 hp11 hpf11 hp12 hpf12
  have hp0 : (W2).cell? ⟨gp, 0, none⟩ = some (.int .i64 a0_0) := (blk_cell HP2.out 0).trans rfl
  have hpf0 := blk_frozen HP2.out 0
  have hp1 : (W2).cell? ⟨gp, 1, none⟩ = some (.int .i64 a0_1) := (blk_cell HP2.out 1).trans rfl
  have hpf1 := blk_frozen HP2.out 1
  have hp2 : (W2).cell? ⟨gp, 2, none⟩ = some (.int .i64 a0_2) := (blk_cell HP2.out 2).trans rfl
  have hpf2 := blk_frozen HP2.out 2
  have hp3 : (W2).cell? ⟨gp, 3, none⟩ = some (.int .i64 a0_3) := (blk_cell HP2.out 3).trans rfl
  have hpf3 := blk_frozen HP2.out 3
  have hp4 : (W2).cell? ⟨gp, 4, none⟩ = some (.slice A0_4 l0_4.length c0_4) := (blk_cell HP2.out 4).trans rfl
  have hpf4 := blk_frozen HP2.out 4
  have hp5 : (W2).cell? ⟨gp, 5, none⟩ = some (.int .i64 a0_5) := (blk_cell HP2.out 5).trans rfl
  have hpf5 := blk_frozen HP2.out 5
  have hp6 : (W2).cell? ⟨gp, 6, none⟩ = some (.int .i64 a0_6) := (blk_cell HP2.out 6).trans rfl
  have hpf6 := blk_frozen HP2.out 6
  have hp7 : (W2).cell? ⟨gp, 7, none⟩ = some (.int .i64 a0_7) := (blk_cell HP2.out 7).trans rfl
  have hpf7 := blk_frozen HP2.out 7
  have hp8 : (W2).cell? ⟨gp, 8, none⟩ = some (.int .i64 a0_8) := (blk_cell HP2.out 8).trans rfl
  have hpf8 := blk_frozen HP2.out 8
  have hp9 : (W2).cell? ⟨gp, 9, none⟩ = some (.slice A0_9 l0_9.length c0_9) := (blk_cell HP2.out 9).trans rfl
  have hpf9 := blk_frozen HP2.out 9
  have hp10 : (W2).cell? ⟨gp, 10, none⟩ = some (.slice A0_10 l0_10.length c0_10) := (blk_cell HP2.out 10).trans rfl
  have hpf10 := blk_frozen HP2.out 10
  have hp11 : (W2).cell? ⟨gp, 11, none⟩ = some (.slice A0_11 l0_11.length c0_11) := (blk_cell HP2.out 11).trans rfl
  have hpf11 := blk_frozen HP2.out 11
  have hp12 : (W2).cell? ⟨gp, 12, none⟩ = some (.slice A0_12 l0_12.length c0_12) := (blk_cell HP2.out 12).trans rfl
  have hpf12 := blk_frozen HP2.out 12
  go_upto_region 4 with (fail)
  refine wp_named ?_
  intro W3 hw3
  have HP3 := Aside0.mk (show W3.heap[gp]? = some (.cells #[.int .i64 a0_0, .int .i64 a0_1, .int .i64 a0_2, .int .i64 a0_3, .slice A0_4 n4 c0_4, .int .i64 a0_5, .int .i64 a0_6, .int .i64 a0_7, .int .i64 a0_8, .slice A0_9 n9 c0_9, .slice none 0 0, .slice A0_11 n11 c0_11, .slice A0_12 n12 c0_12] 32 (0, 0)) by rw [← hw3]; exact blk_put (blk_put13 HP2.out) 10 (.slice none 0 0) rfl)
  have HB3 := Aside0.mk (show Below w.heap.size w W3 by
    rw [← hw3]
    iterate 14 (refine below_set ?_ (by omega))
    exact HB2.out)
  clear hw3 HB2 HP2 hp0 hpf0 hp1 hpf1 hp2 hpf2 hp3 hpf3 hp4 hpf4 hp5 hpf5 hp6 hpf6 hp7 hpf7 hp8 hpf8 hp9 hpf9 hp10 hpf10 hp11 hpf11 hp12 hpf12
  have hp0 : (W3).cell? ⟨gp, 0, none⟩ = some (.int .i64 a0_0) := (blk_cell HP3.out 0).trans rfl
  have hpf0 := blk_frozen HP3.out 0
  have hp1 : (W3).cell? ⟨gp, 1, none⟩ = some (.int .i64 a0_1) := (blk_cell HP3.out 1).trans rfl
  have hpf1 := blk_frozen HP3.out 1
  have hp2 : (W3).cell? ⟨gp, 2, none⟩ = some (.int .i64 a0_2) := (blk_cell HP3.out 2).trans rfl
  have hpf2 := blk_frozen HP3.out 2
  have hp3 : (W3).cell? ⟨gp, 3, none⟩ = some (.int .i64 a0_3) := (blk_cell HP3.out 3).trans rfl
  have hpf3 := blk_frozen HP3.out 3
  have hp4 : (W3).cell? ⟨gp, 4, none⟩ = some (.slice A0_4 n4 c0_4) := (blk_cell HP3.out 4).trans rfl
  have hpf4 := blk_frozen HP3.out 4
  have hp5 : (W3).cell? ⟨gp, 5, none⟩ = some (.int .i64 a0_5) := (blk_cell HP3.out 5).trans rfl
  have hpf5 := blk_frozen HP3.out 5
  have hp6 : (W3).cell? ⟨gp, 6, none⟩ = some (.int .i64 a0_6) := (blk_cell HP3.out 6).trans rfl
  have hpf6 := blk_frozen HP3.out 6
  have hp7 : (W3).cell? ⟨gp, 7, none⟩ = some (.int .i64 a0_7) := (blk_cell HP3.out 7).trans rfl
  have hpf7 := blk_frozen HP3.out 7
  have hp8 : (W3).cell? ⟨gp, 8, none⟩ = some (.int .i64 a0_8) := (blk_cell HP3.out 8).trans rfl
  have hpf8 := blk_frozen HP3.out 8
  have hp9 : (W3).cell? ⟨gp, 9, none⟩ = some (.slice A0_9 n9 c0_9) := (blk_cell HP3.out 9).trans rfl
  have hpf9 := blk_frozen HP3.out 9
  have hp10 : (W3).cell? ⟨gp, 10, none⟩ = some (.slice none 0 0) := (blk_cell HP3.out 10).trans rfl
  have hpf10 := blk_frozen HP3.out 10
  have hp11 : (W3).cell? ⟨gp, 11, none⟩ = some (.slice A0_11 n11 c0_11) := (blk_cell HP3.out 11).trans rfl
  have hpf11 := blk_frozen HP3.out 11
  have hp12 : (W3).cell? ⟨gp, 12, none⟩ = some (.slice A0_12 n12 c0_12) := (blk_cell HP3.out 12).trans rfl
  have hpf12 := blk_frozen HP3.out 12
  go_wp2_with fail
  refine (HVAL.out W3 HB3.out).mono ?_
  rintro e W4 ⟨rv, rfl, hrv, hb4⟩
  have HB4 := Aside0.mk (below_trans' HB3.out hb4)
  have HP4 := Aside0.mk (blk_below HP3.out hb4)
  have HRV := Aside0.mk hrv
  clear hb4 hrv HB3 HP3 hp0 hpf0 hp1 hpf1 hp2 hpf2 hp3 hpf3 hp4 hpf4 hp5 hpf5 hp6 hpf6 hp7 hpf7 hp8 hpf8 hp9 hpf9 hp10 hpf10 hp11 hpf11 hp12 hpf12
  cases rv with
  | false =>
    go_wp2_with fail
    go_ret
    exact ⟨rfl, HB4.out⟩
  | true =>
    obtain ⟨hv1, hv2⟩ := HRV.out rfl
    have HV1 := Aside0.mk hv1
    have HV2 := Aside0.mk hv2
    clear hv1 hv2 HRV
    by_cases t1 : a3 < 0
    · have u1 := decide_eq_true t1
      go_wp2_with fail
      go_ret
      exact ⟨rfl, HB4.out⟩
    have u1 := decide_eq_false t1
    by_cases t2 : 100000000 < a3
    · have u2 := decide_eq_true t2
      go_wp2_with fail
      go_ret
      exact ⟨rfl, HB4.out⟩
    have u2 := decide_eq_false t2
    go_upto_region 6 with (fail)
    clear u1 u2
    go_cut [1] from 40 (fun v1 wc => v1 = .slice A1 n1 c1 ∧ Aside0 (wc.heap[gp]? = some (.cells #[.int .i64 a0_0, .int .i64 a0_1, .int .i64 a0_2, .int .i64 a0_3, .slice A0_4 n4 c0_4, .int .i64 a0_5, .int .i64 a0_6, .int .i64 a0_7, .int .i64 a0_8, .slice A0_9 n9 c0_9, .slice none 0 0, .slice A0_11 n11 c0_11, .slice A0_12 n12 c0_12] 32 (0, 0))) ∧ Aside0 (Below w.heap.size w wc))
    case first =>
      by_cases hmn : 30 < l1.length
      · have en : n1 = 30 := by have := E1.out; omega
        have u1 : (30 : Int) < (l1.length : Int) := by omega
        go_wp2_with fail
        go_meet
        case rel => exact ⟨by rw [en], HP4, HB4⟩
      · have en : n1 = l1.length := by have := E1.out; omega
        have EN := Aside0.mk en
        clear en
        have u1 : ¬ (30 : Int) < (l1.length : Int) := by omega
        go_wp2_with fail
        go_meet
        case rel => exact ⟨by rw [EN.out], HP4, HB4⟩
    case rest =>
      clear HP4 HB4
      obtain ⟨rfl, HP4, HB4⟩ := hcut
      have hp0 : (wc).cell? ⟨gp, 0, none⟩ = some (.int .i64 a0_0) := (blk_cell HP4.out 0).trans rfl
      have hpf0 := blk_frozen HP4.out 0
      have hp1 : (wc).cell? ⟨gp, 1, none⟩ = some (.int .i64 a0_1) := (blk_cell HP4.out 1).trans rfl
      have hpf1 := blk_frozen HP4.out 1
      have hp2 : (wc).cell? ⟨gp, 2, none⟩ = some (.int .i64 a0_2) := (blk_cell HP4.out 2).trans rfl
      have hpf2 := blk_frozen HP4.out 2
      have hp3 : (wc).cell? ⟨gp, 3, none⟩ = some (.int .i64 a0_3) := (blk_cell HP4.out 3).trans rfl
      have hpf3 := blk_frozen HP4.out 3
      have hp4 : (wc).cell? ⟨gp, 4, none⟩ = some (.slice A0_4 n4 c0_4) := (blk_cell HP4.out 4).trans rfl
      have hpf4 := blk_frozen HP4.out 4
      have hp5 : (wc).cell? ⟨gp, 5, none⟩ = some (.int .i64 a0_5) := (blk_cell HP4.out 5).trans rfl
      have hpf5 := blk_frozen HP4.out 5
      have hp6 : (wc).cell? ⟨gp, 6, none⟩ = some (.int .i64 a0_6) := (blk_cell HP4.out 6).trans rfl
      have hpf6 := blk_frozen HP4.out 6
      have hp7 : (wc).cell? ⟨gp, 7, none⟩ = some (.int .i64 a0_7) := (blk_cell HP4.out 7).trans rfl
      have hpf7 := blk_frozen HP4.out 7
      have hp8 : (wc).cell? ⟨gp, 8, none⟩ = some (.int .i64 a0_8) := (blk_cell HP4.out 8).trans rfl
      have hpf8 := blk_frozen HP4.out 8
      have hp9 : (wc).cell? ⟨gp, 9, none⟩ = some (.slice A0_9 n9 c0_9) := (blk_cell HP4.out 9).trans rfl
      have hpf9 := blk_frozen HP4.out 9
      have hp10 : (wc).cell? ⟨gp, 10, none⟩ = some (.slice none 0 0) := (blk_cell HP4.out 10).trans rfl
      have hpf10 := blk_frozen HP4.out 10
      have hp11 : (wc).cell? ⟨gp, 11, none⟩ = some (.slice A0_11 n11 c0_11) := (blk_cell HP4.out 11).trans rfl
      have hpf11 := blk_frozen HP4.out 11
      have hp12 : (wc).cell? ⟨gp, 12, none⟩ = some (.slice A0_12 n12 c0_12) := (blk_cell HP4.out 12).trans rfl
      have hpf12 := blk_frozen HP4.out 12
      go_wp2_with fail
      refine (HINV.out wc HB4.out A1 c1 n1 L a3 K1.out (Kd.C_below HCL.out HB4.out) hnc1 (by omega)).mono ?_
      rintro e W5 ⟨v, rfl, hr, hb5⟩
      have hRl : (invoiceOf its a0_0 bks L a3).length = n11 := by rw [invoice_len]; exact K11.out
      obtain ⟨AV, cV, hv, lV, HCV0⟩ := Kd.R_reads hr
      rw [hRl] at hv lV
      subst hv
      obtain ⟨R1, hR1⟩ : ∃ R, R = invoiceOf its a0_0 bks L a3 := ⟨_, rfl⟩
      rw [← hR1] at HCV0 hRl
      have HR1 := Aside0.mk hR1
      have HRL := Aside0.mk hRl
      have HCV := Aside0.mk HCV0
      have HB5 := Aside0.mk (below_trans' HB4.out hb5)
      have HP5 := Aside0.mk (blk_below HP4.out hb5)
      clear hr hb5 HB4 HP4 hp0 hpf0 hp1 hpf1 hp2 hpf2 hp3 hpf3 hp4 hpf4 hp5 hpf5 hp6 hpf6 hp7 hpf7 hp8 hpf8 hp9 hpf9 hp10 hpf10 hp11 hpf11 hp12 hpf12 hRl hR1 HCV0
      have T1 := Aside0.mk t1
      have T2 := Aside0.mk t2
      clear t1 t2
      go_wp2_with fail
      go_loop [13, 14] (fun v13 v14 => ∃ last i : Int, v13 = .int .i64 last ∧ v14 = .int .i64 i ∧ Aside0 (0 ≤ i) ∧ Aside0 (i ≤ n1) ∧ Aside0 (a3 ≤ last) ∧ Aside0 (last ≤ 100000000) ∧ Aside0 (∀ j (h : j < L.length), j < i.toNat → L[j].f2 ≤ 100000000 → L[j].f2 ≤ last)) (fun _ v14 => n1 - (intOf v14).toNat)
      case atStart => exact ⟨a3, 0, rfl, rfl, ⟨Int.le_refl _⟩, ⟨by omega⟩, ⟨Int.le_refl _⟩, ⟨by have := T2.out; omega⟩, ⟨fun j h hj => by simp at hj⟩⟩
      case round =>
        obtain ⟨last, i, rfl, rfl, I0, I1, G0, G1, GL⟩ := hrel
        have hi0 := I0.out
        have hi1 := I1.out
        by_cases hlt : i < (n1 : Int)
        · have hltL : i < (L.length : Int) := by rw [K1.out]; exact hlt
          obtain ⟨ad, e_, hx0, hx1, hx2, hx3, hx4, hx5⟩ := at_T43 HCL.out i hi0 hltL
          cases e_
          replace hx0 := ((HB5.out).cell (World.block_lt_of_cell? _ _ hx0)).trans hx0
          replace hx1 := ((HB5.out).cell (World.block_lt_of_cell? _ _ hx1)).trans hx1
          replace hx2 := ((HB5.out).cell (World.block_lt_of_cell? _ _ hx2)).trans hx2
          replace hx3 := ((HB5.out).cell (World.block_lt_of_cell? _ _ hx3)).trans hx3
          replace hx4 := ((HB5.out).cell (World.block_lt_of_cell? _ _ hx4)).trans hx4
          replace hx5 := ((HB5.out).cell (World.block_lt_of_cell? _ _ hx5)).trans hx5
          have p := eq_true hi0
          have q_ := eq_true hlt
          have c_ := decide_eq_true hlt
          generalize hrc : rd_T43 L i = r at *
          have HRC := Aside0.mk hrc
          clear hrc hltL
          have hnext : ∀ g : Int, last ≤ g → (r.f2 ≤ 100000000 → r.f2 ≤ g) → ∀ j (h : j < L.length), j < (i + 1).toNat → L[j].f2 ≤ 100000000 → L[j].f2 ≤ g := by
            intro g hg hr j h hj hle
            by_cases e : j < i.toNat
            · have := GL.out j h e hle; omega
            · have ej : j = i.toNat := by omega
              subst ej
              have e2 := rd_rec L i.toNat h
              rw [Int.toNat_of_nonneg hi0, HRC.out] at e2
              rw [← e2] at hle ⊢
              exact hr hle
          have HN := Aside0.mk hnext
          clear hnext
          by_cases hle : r.f2 ≤ 100000000
          · have d_ := decide_eq_true hle
            by_cases hlm : last < r.f2
            · go_wp2_with fail
              go_round
              case measure =>
                show n1 - (i + 1).toNat < n1 - i.toNat
                omega
              case rel => exact ⟨r.f2, i + 1, rfl, rfl, ⟨by omega⟩, ⟨by omega⟩, ⟨by have := G0.out; omega⟩, ⟨by omega⟩, ⟨HN.out _ (by omega) (fun h => by omega)⟩⟩
            · go_wp2_with fail
              go_round
              case measure =>
                show n1 - (i + 1).toNat < n1 - i.toNat
                omega
              case rel => exact ⟨last, i + 1, rfl, rfl, ⟨by omega⟩, ⟨by omega⟩, G0, G1, ⟨HN.out _ (by omega) (fun h => by omega)⟩⟩
          · have d_ := decide_eq_false hle
            go_wp2_with fail
            go_round
            case measure =>
              show n1 - (i + 1).toNat < n1 - i.toNat
              omega
            case rel => exact ⟨last, i + 1, rfl, rfl, ⟨by omega⟩, ⟨by omega⟩, G0, G1, ⟨HN.out _ (by omega) (fun h => by omega)⟩⟩
        · have c_ := decide_eq_false hlt
          have hin : i.toNat = n1 := by omega
          have GL2 : Aside0 (∀ x ∈ L, x.f2 ≤ 100000000 → x.f2 ≤ last) := ⟨fun x hx hle => by
            obtain ⟨j, hj, rfl⟩ := List.getElem_of_mem hx
            exact GL.out j hj (by have := K1.out; omega) hle⟩
          clear GL hin I0 I1 hi0 hi1
          have HRE := Aside0.mk (R_empty k43 43 W5 W5.heap.size (Nat.le_refl _))
          have HBE := Aside0.mk (below_alloc (Below.refl W5.heap.size W5) (.cells #[] 43))
          have HCLE := Aside0.mk (show Kd.C k43 (W5.alloc (.cells #[] 43)) A1 n1 L by have := Kd.C_below HCL.out (below_alloc HB5.out (.cells #[] 43)); rwa [K1.out] at this)
          go_wp2_with (first | ((with_reducible refine gate_builtin (b := .append) (xs := #[.tmp 69, .tmp 70]) rfl ?_); at_builtin; refine Kd.R_append_rows k43 (w0 := W5) W5.heap.size rfl (.tmp 69) (.tmp 70) 33 43 (.agg #[(.int .i64 0), (.int .i64 0), (.int .i64 0), (.int .i64 0), (.int .i64 0), (.int .i64 0)]) 48 rfl Try.underlying33 info43 rfl (by decide) (by omega) (.slice (some ⟨W5.heap.size, 0, none⟩) 0 0) [] L A1 n1 c1 (fun _ => True) (fun _ => False) rfl rfl HRE.out HCLE.out (fun x cs hk => by rw [k43_open hk]; exact k43_mkM _ _ _ _) (fun _ hk => hk.elim) (fun _ _ => trivial) HBE.out (by simp) (by simp; omega) ?_; intro v9 W9 ho hb hg hat; have HR9 := Aside0.mk ho; have HB9 := Aside0.mk hb; clear ho hb hg hat))
          clear HRE HBE HCLE c_
          have HLAST := GL2
          have hl1 : last ≤ 100000000 := G1.out
          have hl0 : a3 ≤ last := G0.out
          have ha3 : 0 ≤ a3 := by have := T1.out; omega
          clear GL2 G0 G1
          go_loopw [15, 16] (fun v15 v16 wr => ∃ (i : Int) (ms : List S43), v16 = .int .i64 i ∧ Aside0 (0 ≤ i) ∧ Aside0 (i ≤ 10) ∧ Aside0 ((ms.length : Int) = i) ∧ Aside0 (Kd.R k43 43 wr W5.heap.size (fun _ => True) v15 (L ++ ms)) ∧ Aside0 (Below W5.heap.size W5 wr) ∧ Aside0 (∀ m ∈ ms, MoreOk its L a3 m)) (fun _ v16 _ => 10 - (intOf v16).toNat)
          case atStart => exact ⟨0, [], rfl, ⟨Int.le_refl _⟩, ⟨by decide⟩, ⟨rfl⟩, ⟨by rw [List.append_nil]; exact HR9.out⟩, HB9, ⟨fun m hm => by simp at hm⟩⟩
          case round =>
            clear HR9 HB9
            obtain ⟨i, ms, rfl, I0, I1, IM, HR, HB, HMS⟩ := hrel
            have hi0 := I0.out
            have hi1 := I1.out
            by_cases hin : i < (l2.length : Int) ∧ i < 10
            · obtain ⟨hlt, hlt10⟩ := hin
              have HBw := Aside0.mk (below_tr4 HB5.out HB.out)
              obtain ⟨ad, e_, hx0, hx1, hx2, hx3, hx4, hx5⟩ := at_T43 HCM.out i hi0 hlt
              cases e_
              replace hx0 := ((HBw.out).cell (World.block_lt_of_cell? _ _ hx0)).trans hx0
              replace hx1 := ((HBw.out).cell (World.block_lt_of_cell? _ _ hx1)).trans hx1
              replace hx2 := ((HBw.out).cell (World.block_lt_of_cell? _ _ hx2)).trans hx2
              replace hx3 := ((HBw.out).cell (World.block_lt_of_cell? _ _ hx3)).trans hx3
              replace hx4 := ((HBw.out).cell (World.block_lt_of_cell? _ _ hx4)).trans hx4
              replace hx5 := ((HBw.out).cell (World.block_lt_of_cell? _ _ hx5)).trans hx5
              have HPr := Aside0.mk (blk_below HP5.out HB.out)
              have hp0 : (wr).cell? ⟨gp, 0, none⟩ = some (.int .i64 a0_0) := (blk_cell HPr.out 0).trans rfl
              have hpf0 := blk_frozen HPr.out 0
              have hp1 : (wr).cell? ⟨gp, 1, none⟩ = some (.int .i64 a0_1) := (blk_cell HPr.out 1).trans rfl
              have hpf1 := blk_frozen HPr.out 1
              have hp2 : (wr).cell? ⟨gp, 2, none⟩ = some (.int .i64 a0_2) := (blk_cell HPr.out 2).trans rfl
              have hpf2 := blk_frozen HPr.out 2
              have hp3 : (wr).cell? ⟨gp, 3, none⟩ = some (.int .i64 a0_3) := (blk_cell HPr.out 3).trans rfl
              have hpf3 := blk_frozen HPr.out 3
              have hp4 : (wr).cell? ⟨gp, 4, none⟩ = some (.slice A0_4 n4 c0_4) := (blk_cell HPr.out 4).trans rfl
              have hpf4 := blk_frozen HPr.out 4
              have hp5 : (wr).cell? ⟨gp, 5, none⟩ = some (.int .i64 a0_5) := (blk_cell HPr.out 5).trans rfl
              have hpf5 := blk_frozen HPr.out 5
              have hp6 : (wr).cell? ⟨gp, 6, none⟩ = some (.int .i64 a0_6) := (blk_cell HPr.out 6).trans rfl
              have hpf6 := blk_frozen HPr.out 6
              have hp7 : (wr).cell? ⟨gp, 7, none⟩ = some (.int .i64 a0_7) := (blk_cell HPr.out 7).trans rfl
              have hpf7 := blk_frozen HPr.out 7
              have hp8 : (wr).cell? ⟨gp, 8, none⟩ = some (.int .i64 a0_8) := (blk_cell HPr.out 8).trans rfl
              have hpf8 := blk_frozen HPr.out 8
              have hp9 : (wr).cell? ⟨gp, 9, none⟩ = some (.slice A0_9 n9 c0_9) := (blk_cell HPr.out 9).trans rfl
              have hpf9 := blk_frozen HPr.out 9
              have hp10 : (wr).cell? ⟨gp, 10, none⟩ = some (.slice none 0 0) := (blk_cell HPr.out 10).trans rfl
              have hpf10 := blk_frozen HPr.out 10
              have hp11 : (wr).cell? ⟨gp, 11, none⟩ = some (.slice A0_11 n11 c0_11) := (blk_cell HPr.out 11).trans rfl
              have hpf11 := blk_frozen HPr.out 11
              have hp12 : (wr).cell? ⟨gp, 12, none⟩ = some (.slice A0_12 n12 c0_12) := (blk_cell HPr.out 12).trans rfl
              have hpf12 := blk_frozen HPr.out 12
              have gpl := blk_lt HPr.out
              have p := eq_true hi0
              have q_ := eq_true hlt
              have c_ := decide_eq_true hlt
              have c10 := decide_eq_true hlt10
              generalize hrc : rd_T43 l2 i = r at *
              clear hrc
              go_wp2_with fail
              refine (HITEM.out _ (below_alloc HBw.out _) r.f4).mono ?_
              rintro e W7 ⟨rfl, hb7⟩
              have HR7 := Aside0.mk (Kd.R_below (Kd.R_alloc (Kd.R_elderB HR.out wr.heap.size (Nat.le_refl _)) (.cells #[.int .i64 r.f0, .int .i64 r.f1, .int .i64 r.f2, .int .i64 r.f3, .int .i64 r.f4, .int .i64 r.f5] 43)) hb7)
              have HB7 := Aside0.mk (below_tr4 (below_alloc HB.out (.cells #[.int .i64 r.f0, .int .i64 r.f1, .int .i64 r.f2, .int .i64 r.f3, .int .i64 r.f4, .int .i64 r.f5] 43)) hb7)
              have HX7 := Aside0.mk (blk_below (new1 wr (.cells #[.int .i64 r.f0, .int .i64 r.f1, .int .i64 r.f2, .int .i64 r.f3, .int .i64 r.f4, .int .i64 r.f5] 43)) hb7)
              obtain ⟨Bx, hBx⟩ : ∃ B, B = wr.heap.size := ⟨_, rfl⟩
              have HBx5 := Aside0.mk (show W5.heap.size ≤ Bx by rw [hBx]; exact HB.out.size)
              rw [← hBx] at HX7 HR7 ⊢
              obtain ⟨it, hit⟩ : ∃ x, x = (itemOf its r.f4).1 := ⟨_, rfl⟩
              obtain ⟨kn, hkn⟩ : ∃ x, x = (itemOf its r.f4).2 := ⟨_, rfl⟩
              rw [← hit, ← hkn]
              have HIT := Aside0.mk hit
              have HKN := Aside0.mk hkn
              have hitb : it.f2 ≤ 100000000 := by rw [hit]; exact itemOf_bound its HV2.out _
              have hita : 0 ≤ it.f2 := by rw [hit]; exact itemOf_nn its HV2.out _
              clear hit hkn hBx hb7 HR hx0 hx1 hx2 hx3 hx4 hx5 hp0 hpf0 hp1 hpf1 hp2 hpf2 hp3 hpf3 hp4 hpf4 hp5 hpf5 hp6 hpf6 hp7 hpf7 hp8 hpf8 hp9 hpf9 hp10 hpf10 hp11 hpf11 hp12 hpf12 gpl HPr HBw HB p q_ c_ c10
              have ew : wrap64 (last + 1) = last + 1 := IntWalk.wrap64_in _ (by omega)
              have hcase : (kn = true ∧ last = a3) ∨ kn = false ∨ (kn = true ∧ last ≠ a3) := by
                cases kn with
                | false => exact .inr (.inl rfl)
                | true =>
                  by_cases e : last = a3
                  · exact .inl ⟨rfl, e⟩
                  · exact .inr (.inr ⟨rfl, e⟩)
              rcases hcase with ⟨rfl, hla⟩ | rfl | ⟨rfl, hla⟩
              focus
                subst hla
                have gx7 := blk_lt HX7.out
                go_upto_region 22 with (fail)
                refine wp_named ?_
                intro w8 hw8
                have HR8 := Aside0.mk (show Kd.R k43 43 w8 W5.heap.size (fun k => True ∧ k ≠ Bx) u15 (L ++ ms) by rw [← hw8]; exact Kd.R_alloc HR7.out _)
                have HX8 := Aside0.mk (show w8.heap[Bx]? = some (.cells #[.int .i64 r.f0, .int .i64 r.f1, .int .i64 r.f2, .int .i64 r.f3, .int .i64 r.f4, .int .i64 r.f5] 43 (0, 0)) by rw [← hw8]; exact blk_alloc HX7.out _)
                have HB8 := Aside0.mk (show Below W5.heap.size W5 w8 by rw [← hw8]; exact below_alloc HB7.out _)
                have HY8 := Aside0.mk (show w8.heap[W7.heap.size]? = some (.cells #[.int .i64 it.f0, .int .i64 it.f1, .int .i64 it.f2, .int .i64 it.f3, .int .i64 it.f4] 45 (0, 0)) by rw [← hw8]; exact new1 W7 _)
                clear hw8 HR7 HX7 HB7 ew gx7
                have hy0 : (w8).cell? ⟨W7.heap.size, 0, none⟩ = some (.int .i64 it.f0) := (blk_cell HY8.out 0).trans rfl
                have hyf0 := blk_frozen HY8.out 0
                have hy1 : (w8).cell? ⟨W7.heap.size, 1, none⟩ = some (.int .i64 it.f1) := (blk_cell HY8.out 1).trans rfl
                have hyf1 := blk_frozen HY8.out 1
                have hy2 : (w8).cell? ⟨W7.heap.size, 2, none⟩ = some (.int .i64 it.f2) := (blk_cell HY8.out 2).trans rfl
                have hyf2 := blk_frozen HY8.out 2
                have hy3 : (w8).cell? ⟨W7.heap.size, 3, none⟩ = some (.int .i64 it.f3) := (blk_cell HY8.out 3).trans rfl
                have hyf3 := blk_frozen HY8.out 3
                have hy4 : (w8).cell? ⟨W7.heap.size, 4, none⟩ = some (.int .i64 it.f4) := (blk_cell HY8.out 4).trans rfl
                have hyf4 := blk_frozen HY8.out 4
                have ew : wrap64 (last + 1 - it.f2) = last + 1 - it.f2 := IntWalk.wrap64_in _ (by omega)
                have hux := Try.underlying45
                go_cut [20] from 101 to 144 (fun v20 wc => ∃ f : Int, v20 = .int .i64 f ∧ Aside0 (0 ≤ f ∧ last + 1 - it.f2 ≤ f) ∧ wc = w8)
                case first =>
                  by_cases hneg : last + 1 - it.f2 < 0
                  · go_wp2_with fail
                    go_meet
                    case rel => exact ⟨0, rfl, ⟨by omega⟩, rfl⟩
                  · go_wp2_with fail
                    go_meet
                    case rel => exact ⟨last + 1 - it.f2, rfl, ⟨by omega⟩, rfl⟩
                clear HY8 hy0 hyf0 hy1 hyf1 hy2 hyf2 hy3 hyf3 hy4 hyf4 ew
                obtain ⟨f0, rfl, HF0, rfl⟩ := hcut
                go_wp2_with fail
                go_loopw [20, 21] (fun v20 v21 wq => ∃ (f k : Int), v20 = .int .i64 f ∧ v21 = .int .i64 k ∧ Aside0 (0 ≤ k) ∧ Aside0 (k ≤ n1) ∧ Aside0 (0 ≤ f ∧ last + 1 - it.f2 ≤ f) ∧ Aside0 (∀ j (h : j < L.length), j < k.toNat → L[j].f4 = r.f4 → L[j].f2 ≤ 100000000 → L[j].f2 < f) ∧ Aside0 (Kd.R k43 43 wq W5.heap.size (fun k => True ∧ k ≠ Bx) u15 (L ++ ms)) ∧ Aside0 (wq.heap[Bx]? = some (.cells #[.int .i64 r.f0, .int .i64 r.f1, .int .i64 r.f2, .int .i64 r.f3, .int .i64 r.f4, .int .i64 r.f5] 43 (0, 0))) ∧ Aside0 (Below W5.heap.size W5 wq)) (fun _ v21 _ => n1 - (intOf v21).toNat)
                case atStart => exact ⟨f0, 0, rfl, rfl, ⟨Int.le_refl _⟩, ⟨by omega⟩, HF0, ⟨fun j h hj => by simp at hj⟩, HR8, HX8, HB8⟩
                clear HR8 HX8 HB8
                obtain ⟨f, k, rfl, rfl, K0, K1', HFB, HFJ, HR8, HX8, HB8⟩ := hrel
                have hk0 := K0.out
                have hk1 := K1'.out
                by_cases hltk : k < (n1 : Int)
                · have hltL : k < (L.length : Int) := by rw [K1.out]; exact hltk
                  have HBw8 := Aside0.mk (below_tr4 HB5.out HB8.out)
                  obtain ⟨ad, e_, hx0, hx1, hx2, hx3, hx4, hx5⟩ := at_T43 HCL.out k hk0 hltL
                  cases e_
                  replace hx0 := ((HBw8.out).cell (World.block_lt_of_cell? _ _ hx0)).trans hx0
                  replace hx1 := ((HBw8.out).cell (World.block_lt_of_cell? _ _ hx1)).trans hx1
                  replace hx2 := ((HBw8.out).cell (World.block_lt_of_cell? _ _ hx2)).trans hx2
                  replace hx3 := ((HBw8.out).cell (World.block_lt_of_cell? _ _ hx3)).trans hx3
                  replace hx4 := ((HBw8.out).cell (World.block_lt_of_cell? _ _ hx4)).trans hx4
                  replace hx5 := ((HBw8.out).cell (World.block_lt_of_cell? _ _ hx5)).trans hx5
                  have hz0 : (wr).cell? ⟨Bx, 0, none⟩ = some (.int .i64 r.f0) := (blk_cell HX8.out 0).trans rfl
                  have hzf0 := blk_frozen HX8.out 0
                  have hz1 : (wr).cell? ⟨Bx, 1, none⟩ = some (.int .i64 r.f1) := (blk_cell HX8.out 1).trans rfl
                  have hzf1 := blk_frozen HX8.out 1
                  have hz2 : (wr).cell? ⟨Bx, 2, none⟩ = some (.int .i64 r.f2) := (blk_cell HX8.out 2).trans rfl
                  have hzf2 := blk_frozen HX8.out 2
                  have hz3 : (wr).cell? ⟨Bx, 3, none⟩ = some (.int .i64 r.f3) := (blk_cell HX8.out 3).trans rfl
                  have hzf3 := blk_frozen HX8.out 3
                  have hz4 : (wr).cell? ⟨Bx, 4, none⟩ = some (.int .i64 r.f4) := (blk_cell HX8.out 4).trans rfl
                  have hzf4 := blk_frozen HX8.out 4
                  have hz5 : (wr).cell? ⟨Bx, 5, none⟩ = some (.int .i64 r.f5) := (blk_cell HX8.out 5).trans rfl
                  have hzf5 := blk_frozen HX8.out 5
                  have p := eq_true hk0
                  have q_ := eq_true hltk
                  have c_ := decide_eq_true hltk
                  generalize hrc : rd_T43 L k = x at *
                  have HRC := Aside0.mk hrc
                  clear hrc hltL
                  have hnext : ∀ g : Int, f ≤ g → (x.f4 = r.f4 → x.f2 ≤ 100000000 → x.f2 < g) → ∀ j (h : j < L.length), j < (k + 1).toNat → L[j].f4 = r.f4 → L[j].f2 ≤ 100000000 → L[j].f2 < g := by
                    intro g hg hr j h hj h4 hle
                    by_cases e : j < k.toNat
                    · have := HFJ.out j h e h4 hle; omega
                    · have ej : j = k.toNat := by omega
                      subst ej
                      have e2 := rd_rec L k.toNat h
                      rw [Int.toNat_of_nonneg hk0, HRC.out] at e2
                      rw [← e2] at hle h4 ⊢
                      exact hr h4 hle
                  have HN := Aside0.mk hnext
                  clear hnext
                  by_cases h4 : x.f4 = r.f4
                  · have H4 := Aside0.mk h4
                    have b4 : (x.f4 == r.f4) = true := by simpa using h4
                    have hf0 := HFB.out.1
                    have hskip : ¬ (x.f4 = r.f4 ∧ x.f2 ≤ 100000000) → ∀ j (h : j < L.length), j < (k + 1).toNat → L[j].f4 = r.f4 → L[j].f2 ≤ 100000000 → L[j].f2 < f := fun hno => HN.out f (Int.le_refl _) (fun a b => absurd ⟨a, b⟩ hno)
                    by_cases hle : x.f2 ≤ 100000000
                    · have d_ := decide_eq_true hle
                      go_wp2_with fail
                      go_quiet (fail)
                      by_cases hfy : f < wrap64 (x.f2 + 1)
                      · go_wp2_with fail
                        go_roundw
                        case measure =>
                          show n1 - (k + 1).toNat < n1 - k.toNat
                          omega
                        case rel => exact ⟨wrap64 (x.f2 + 1), k + 1, rfl, rfl, ⟨by omega⟩, ⟨by omega⟩, ⟨by have := HFB.out; omega⟩, ⟨HN.out _ (by omega) (fun _ _ => more_wrap x.f2 f hf0 hle hfy)⟩, ⟨Kd.R_drewN HR8.out _⟩, ⟨HX8.out⟩, ⟨pw_below_drewN HB8.out _⟩⟩
                      · go_wp2_with fail
                        go_roundw
                        case measure =>
                          show n1 - (k + 1).toNat < n1 - k.toNat
                          omega
                        case rel => exact ⟨f, k + 1, rfl, rfl, ⟨by omega⟩, ⟨by omega⟩, HFB, ⟨HN.out _ (by omega) (fun _ _ => more_wrap' x.f2 f hf0 hle hfy)⟩, ⟨Kd.R_drewN HR8.out _⟩, ⟨HX8.out⟩, ⟨pw_below_drewN HB8.out _⟩⟩
                    · have d_ := decide_eq_false hle
                      have HSK := Aside0.mk (hskip (fun a => hle a.2))
                      clear hskip
                      go_wp2_with fail
                      go_quiet (fail)
                      go_wp2_with fail
                      go_roundw
                      case measure =>
                        show n1 - (k + 1).toNat < n1 - k.toNat
                        omega
                      case rel => exact ⟨f, k + 1, rfl, rfl, ⟨by omega⟩, ⟨by omega⟩, HFB, HSK, ⟨Kd.R_drewN HR8.out _⟩, ⟨HX8.out⟩, ⟨pw_below_drewN HB8.out _⟩⟩
                  · have b4 : (x.f4 == r.f4) = false := by simpa using h4
                    have HSK := Aside0.mk (HN.out f (Int.le_refl _) (fun a => absurd a h4))
                    clear h4
                    go_wp2_with fail
                    go_quiet (fail)
                    go_wp2_with fail
                    go_roundw
                    case measure =>
                      show n1 - (k + 1).toNat < n1 - k.toNat
                      omega
                    case rel => exact ⟨f, k + 1, rfl, rfl, ⟨by omega⟩, ⟨by omega⟩, HFB, HSK, ⟨Kd.R_drewN HR8.out _⟩, ⟨HX8.out⟩, ⟨pw_below_drewN HB8.out _⟩⟩
                have c_ := decide_eq_false hltk
                have hkn1 : k.toNat = n1 := by omega
                have HF := Aside0.mk (show FirstOk its L last r.f4 f by
                  intro _ _
                  refine ⟨fun x hx h4 hle => ?_, ?_⟩
                  · obtain ⟨j, hj, rfl⟩ := List.getElem_of_mem hx
                    exact HFJ.out j hj (by have := K1.out; omega) h4 hle
                  · rw [← HIT.out]; exact HFB.out.2)
                clear HFJ HFB K0 K1' hk0 hk1 hkn1 HIT HKN hitb hita
                go_upto_region 28 with (fail)
                refine wp_named ?_
                intro w9 hw9
                rw [hw9] at HR8 HX8 HB8
                clear hw9
              rotate_left
              focus
                go_upto_region 28 with (fail)
                refine wp_named ?_
                intro w9 hw9
                have HR8 := Aside0.mk (show Kd.R k43 43 w9 W5.heap.size (fun k => True ∧ k ≠ Bx) u15 (L ++ ms) by rw [← hw9]; exact Kd.R_alloc HR7.out _)
                have HX8 := Aside0.mk (show w9.heap[Bx]? = some (.cells #[.int .i64 r.f0, .int .i64 r.f1, .int .i64 r.f2, .int .i64 r.f3, .int .i64 r.f4, .int .i64 r.f5] 43 (0, 0)) by rw [← hw9]; exact blk_alloc HX7.out _)
                have HB8 := Aside0.mk (show Below W5.heap.size W5 w9 by rw [← hw9]; exact below_alloc HB7.out _)
                obtain ⟨f, hf⟩ : ∃ f, f = last + 1 := ⟨_, rfl⟩
                rw [← hf]
                have HF := Aside0.mk (show FirstOk its L a3 r.f4 f by
                  intro h _
                  rw [← HKN.out] at h
                  cases h)
                clear hf hw9 ew hitb hita HIT HKN HR7 HX7 HB7
              rotate_left
              focus
                have ela : (last == a3) = false := by simpa using hla
                clear hla
                go_upto_region 28 with (fail)
                refine wp_named ?_
                intro w9 hw9
                have HR8 := Aside0.mk (show Kd.R k43 43 w9 W5.heap.size (fun k => True ∧ k ≠ Bx) u15 (L ++ ms) by rw [← hw9]; exact Kd.R_alloc HR7.out _)
                have HX8 := Aside0.mk (show w9.heap[Bx]? = some (.cells #[.int .i64 r.f0, .int .i64 r.f1, .int .i64 r.f2, .int .i64 r.f3, .int .i64 r.f4, .int .i64 r.f5] 43 (0, 0)) by rw [← hw9]; exact blk_alloc HX7.out _)
                have HB8 := Aside0.mk (show Below W5.heap.size W5 w9 by rw [← hw9]; exact below_alloc HB7.out _)
                obtain ⟨f, hf⟩ : ∃ f, f = last + 1 := ⟨_, rfl⟩
                rw [← hf]
                have HF := Aside0.mk (show FirstOk its L a3 r.f4 f by
                  intro _ _
                  refine ⟨fun x hx _ hle => ?_, ?_⟩
                  · have := HLAST.out x hx hle; omega
                  · rw [← HIT.out]; omega)
                clear hf hw9 ew ela hitb hita HIT HKN HR7 HX7 HB7
              rotate_left
              all_goals
                have hbx5 := HBx5.out
                have hux := Try.underlying43
                have hz0 : (w9).cell? ⟨Bx, 0, none⟩ = some (.int .i64 r.f0) := (blk_cell HX8.out 0).trans rfl
                have hzf0 := blk_frozen HX8.out 0
                have hz1 : (w9).cell? ⟨Bx, 1, none⟩ = some (.int .i64 r.f1) := (blk_cell HX8.out 1).trans rfl
                have hzf1 := blk_frozen HX8.out 1
                have hz2 : (w9).cell? ⟨Bx, 2, none⟩ = some (.int .i64 r.f2) := (blk_cell HX8.out 2).trans rfl
                have hzf2 := blk_frozen HX8.out 2
                have hz3 : (w9).cell? ⟨Bx, 3, none⟩ = some (.int .i64 r.f3) := (blk_cell HX8.out 3).trans rfl
                have hzf3 := blk_frozen HX8.out 3
                have hz4 : (w9).cell? ⟨Bx, 4, none⟩ = some (.int .i64 r.f4) := (blk_cell HX8.out 4).trans rfl
                have hzf4 := blk_frozen HX8.out 4
                have hz5 : (w9).cell? ⟨Bx, 5, none⟩ = some (.int .i64 r.f5) := (blk_cell HX8.out 5).trans rfl
                have hzf5 := blk_frozen HX8.out 5
                have hset : ∀ g : Int, Kd.R k43 43 (w9.setCell ⟨Bx, 2, none⟩ (.int .i64 g)) W5.heap.size (fun _ => True) u15 (L ++ ms) ∧ (w9.setCell ⟨Bx, 2, none⟩ (.int .i64 g)).heap[Bx]? = some (.cells #[.int .i64 r.f0, .int .i64 r.f1, .int .i64 g, .int .i64 r.f3, .int .i64 r.f4, .int .i64 r.f5] 43 (0, 0)) ∧ Below W5.heap.size W5 (w9.setCell ⟨Bx, 2, none⟩ (.int .i64 g)) := fun g =>
                  ⟨Kd.R_mono (Kd.R_far HR8.out (p := ⟨Bx, 2, none⟩) (fun k hk => hk.2) (.int .i64 g)) (fun _ _ => trivial), blk_put HX8.out 2 (.int .i64 g) rfl, below_set HB8.out HBx5.out⟩
                have HSET := Aside0.mk hset
                clear hset
                go_cut [] from 136 to 144 (fun wc => ∃ g : Int, Aside0 (f ≤ g) ∧ Aside0 (Kd.R k43 43 wc W5.heap.size (fun _ => True) u15 (L ++ ms)) ∧ Aside0 (wc.heap[Bx]? = some (.cells #[.int .i64 r.f0, .int .i64 r.f1, .int .i64 g, .int .i64 r.f3, .int .i64 r.f4, .int .i64 r.f5] 43 (0, 0))) ∧ Aside0 (Below W5.heap.size W5 wc))
                case first =>
                  by_cases hrf : r.f2 < f
                  · go_wp2_with fail
                    go_meet
                    case rel => exact ⟨f, ⟨Int.le_refl _⟩, ⟨(HSET.out f).1⟩, ⟨(HSET.out f).2.1⟩, ⟨(HSET.out f).2.2⟩⟩
                  · go_wp2_with fail
                    go_meet
                    case rel => exact ⟨r.f2, ⟨by omega⟩, ⟨(HSET.out r.f2).1⟩, ⟨(HSET.out r.f2).2.1⟩, ⟨(HSET.out r.f2).2.2⟩⟩
                clear HSET HR8 HX8 HB8 hz0 hz1 hz2 hz3 hz4 hz5 hzf0 hzf1 hzf2 hzf3 hzf4 hzf5
                obtain ⟨g, HG, HR10, HX10, HB10⟩ := hcut
                have hz0 : (wc).cell? ⟨Bx, 0, none⟩ = some (.int .i64 r.f0) := (blk_cell HX10.out 0).trans rfl
                have hzf0 := blk_frozen HX10.out 0
                have hz1 : (wc).cell? ⟨Bx, 1, none⟩ = some (.int .i64 r.f1) := (blk_cell HX10.out 1).trans rfl
                have hzf1 := blk_frozen HX10.out 1
                have hz2 : (wc).cell? ⟨Bx, 2, none⟩ = some (.int .i64 g) := (blk_cell HX10.out 2).trans rfl
                have hzf2 := blk_frozen HX10.out 2
                have hz3 : (wc).cell? ⟨Bx, 3, none⟩ = some (.int .i64 r.f3) := (blk_cell HX10.out 3).trans rfl
                have hzf3 := blk_frozen HX10.out 3
                have hz4 : (wc).cell? ⟨Bx, 4, none⟩ = some (.int .i64 r.f4) := (blk_cell HX10.out 4).trans rfl
                have hzf4 := blk_frozen HX10.out 4
                have hz5 : (wc).cell? ⟨Bx, 5, none⟩ = some (.int .i64 r.f5) := (blk_cell HX10.out 5).trans rfl
                have hzf5 := blk_frozen HX10.out 5
                have hll : (L ++ ms).length ≤ 40 := by rw [List.length_append, K1.out]; have := IM.out; omega
                go_wp2_with (first | ((with_reducible refine gate_builtin (b := .append) (xs := #[.tmp 141, .tmp 143]) rfl ?_); at_builtin; refine Kd.R_append k43 (w0 := W5) W5.heap.size rfl (.tmp 141) (.tmp 143) 33 43 (.agg #[(.int .i64 0), (.int .i64 0), (.int .i64 0), (.int .i64 0), (.int .i64 0), (.int .i64 0)]) 48 rfl Try.underlying33 info43 rfl (by decide) (by omega) u15 (L ++ ms) (⟨r.f0, r.f1, g, r.f3, r.f4, r.f5⟩ : S43) [.int .i64 r.f0, .int .i64 r.f1, .int .i64 g, .int .i64 r.f3, .int .i64 r.f4, .int .i64 r.f5] (fun _ => True) (fun _ => False) rfl rfl (k43_mkM _ _ _ _) (fun _ hk => hk.elim) (fun _ _ => trivial) HR10.out HB10.out HB10.out.size (by omega) ?_; intro v11 w11 ho hb hgw hat; have HR11 := Aside0.mk ho; have HB11 := Aside0.mk hb; clear ho hb hgw hat))
                go_roundw
                case measure =>
                  show 10 - (i + 1).toNat < 10 - i.toNat
                  omega
                case rel =>
                  refine ⟨i + 1, ms ++ [⟨r.f0, r.f1, g, r.f3, r.f4, r.f5⟩], rfl, ⟨by omega⟩, ⟨by omega⟩, ⟨by have := IM.out; simp; omega⟩, ⟨by rw [← List.append_assoc]; exact HR11.out⟩, HB11, ⟨fun m hm => ?_⟩⟩
                  rcases List.mem_append.1 hm with hm | hm
                  · exact HMS.out m hm
                  · obtain rfl := List.mem_singleton.1 hm
                    intro a b
                    obtain ⟨c, d⟩ := HF.out a b
                    have hg := HG.out
                    exact ⟨fun x hx h4 hle => Int.lt_of_lt_of_le (c x hx h4 hle) hg, Int.le_trans d hg⟩
            · have HW := Aside0.mk hin
              have HPr := Aside0.mk (blk_below HP5.out HB.out)
              have HBr := Aside0.mk (below_tr4 HB5.out HB.out)
              have HCVr := Aside0.mk (Kd.C_below HCV.out HB.out)
              obtain ⟨A7, c7, hv7, lc7, HCA⟩ := Kd.R_reads HR.out
              obtain ⟨n7, hn7⟩ : ∃ n, n = (L ++ ms).length := ⟨_, rfl⟩
              rw [← hn7] at hv7 lc7
              subst hv7
              have HCA' := Aside0.mk HCA
              have HN7 := Aside0.mk hn7
              have hn7b : n7 ≤ 1000 := by rw [hn7, List.length_append, K1.out]; have := IM.out; omega
              clear HR HB HCA hn7 hi0 hi1 I0 I1 IM hin
              have hout : ¬ i < (l2.length : Int) ∨ (i < (l2.length : Int) ∧ ¬ i < 10) := by
                by_cases e : i < (l2.length : Int)
                · exact .inr ⟨e, fun h => HW.out ⟨e, h⟩⟩
                · exact .inl e
              rcases hout with e1 | ⟨e1, e2⟩
              focus
                have c1_ := decide_eq_false e1
                clear e1
                go_upto_region 30 with (fail)
                clear c1_
              rotate_left
              focus
                have c1_ := decide_eq_true e1
                have c2_ := decide_eq_false e2
                clear e1 e2
                go_upto_region 30 with (fail)
                clear c1_ c2_
              all_goals
                have hp0 : (wr).cell? ⟨gp, 0, none⟩ = some (.int .i64 a0_0) := (blk_cell HPr.out 0).trans rfl
                have hpf0 := blk_frozen HPr.out 0
                have hp1 : (wr).cell? ⟨gp, 1, none⟩ = some (.int .i64 a0_1) := (blk_cell HPr.out 1).trans rfl
                have hpf1 := blk_frozen HPr.out 1
                have hp2 : (wr).cell? ⟨gp, 2, none⟩ = some (.int .i64 a0_2) := (blk_cell HPr.out 2).trans rfl
                have hpf2 := blk_frozen HPr.out 2
                have hp3 : (wr).cell? ⟨gp, 3, none⟩ = some (.int .i64 a0_3) := (blk_cell HPr.out 3).trans rfl
                have hpf3 := blk_frozen HPr.out 3
                have hp4 : (wr).cell? ⟨gp, 4, none⟩ = some (.slice A0_4 n4 c0_4) := (blk_cell HPr.out 4).trans rfl
                have hpf4 := blk_frozen HPr.out 4
                have hp5 : (wr).cell? ⟨gp, 5, none⟩ = some (.int .i64 a0_5) := (blk_cell HPr.out 5).trans rfl
                have hpf5 := blk_frozen HPr.out 5
                have hp6 : (wr).cell? ⟨gp, 6, none⟩ = some (.int .i64 a0_6) := (blk_cell HPr.out 6).trans rfl
                have hpf6 := blk_frozen HPr.out 6
                have hp7 : (wr).cell? ⟨gp, 7, none⟩ = some (.int .i64 a0_7) := (blk_cell HPr.out 7).trans rfl
                have hpf7 := blk_frozen HPr.out 7
                have hp8 : (wr).cell? ⟨gp, 8, none⟩ = some (.int .i64 a0_8) := (blk_cell HPr.out 8).trans rfl
                have hpf8 := blk_frozen HPr.out 8
                have hp9 : (wr).cell? ⟨gp, 9, none⟩ = some (.slice A0_9 n9 c0_9) := (blk_cell HPr.out 9).trans rfl
                have hpf9 := blk_frozen HPr.out 9
                have hp10 : (wr).cell? ⟨gp, 10, none⟩ = some (.slice none 0 0) := (blk_cell HPr.out 10).trans rfl
                have hpf10 := blk_frozen HPr.out 10
                have hp11 : (wr).cell? ⟨gp, 11, none⟩ = some (.slice A0_11 n11 c0_11) := (blk_cell HPr.out 11).trans rfl
                have hpf11 := blk_frozen HPr.out 11
                have hp12 : (wr).cell? ⟨gp, 12, none⟩ = some (.slice A0_12 n12 c0_12) := (blk_cell HPr.out 12).trans rfl
                have hpf12 := blk_frozen HPr.out 12
                go_cut [22] from 145 (fun v22 wc => ∃ (t : Int) (AI : Option Addr) (cI : Nat), v22 = .slice AI n11 cI ∧ Aside0 (a3 ≤ t ∧ t ≤ 9223372036854775807) ∧ Aside0 (Kd.C k49 wc AI n11 (invoiceOf its a0_0 bks (L ++ ms) t)) ∧ Aside0 (Kd.C k49 wc AV n11 R1) ∧ Aside0 (wc.heap[gp]? = some (.cells #[.int .i64 a0_0, .int .i64 a0_1, .int .i64 a0_2, .int .i64 a0_3, .slice A0_4 n4 c0_4, .int .i64 a0_5, .int .i64 a0_6, .int .i64 a0_7, .int .i64 a0_8, .slice A0_9 n9 c0_9, .slice none 0 0, .slice A0_11 n11 c0_11, .slice A0_12 n12 c0_12] 32 (0, 0))) ∧ Aside0 (Below w.heap.size w wc))
                case first =>
                  have hfin : ∀ (t : Int) (ht : a3 ≤ t ∧ t ≤ 9223372036854775807) (W : World) (AI : Value) (hr : Kd.R k49 49 W wr.heap.size (fun _ => True) AI (invoiceOf its a0_0 bks (L ++ ms) t)) (hb : Below wr.heap.size wr W), ∃ (t : Int) (A : Option Addr) (cI : Nat), AI = .slice A n11 cI ∧ Aside0 (a3 ≤ t ∧ t ≤ 9223372036854775807) ∧ Aside0 (Kd.C k49 W A n11 (invoiceOf its a0_0 bks (L ++ ms) t)) ∧ Aside0 (Kd.C k49 W AV n11 R1) ∧ Aside0 (W.heap[gp]? = some (.cells #[.int .i64 a0_0, .int .i64 a0_1, .int .i64 a0_2, .int .i64 a0_3, .slice A0_4 n4 c0_4, .int .i64 a0_5, .int .i64 a0_6, .int .i64 a0_7, .int .i64 a0_8, .slice A0_9 n9 c0_9, .slice none 0 0, .slice A0_11 n11 c0_11, .slice A0_12 n12 c0_12] 32 (0, 0))) ∧ Aside0 (Below w.heap.size w W) := by
                    intro t ht W AI hr hb
                    obtain ⟨A, c, hv, _, hc⟩ := Kd.R_reads hr
                    have hlen : (invoiceOf its a0_0 bks (L ++ ms) t).length = n11 := by rw [invoice_len]; exact K11.out
                    rw [hlen] at hv hc
                    have hcv := Kd.C_below HCVr.out hb
                    rw [HRL.out] at hcv
                    exact ⟨t, A, c, hv, ⟨ht⟩, ⟨hc⟩, ⟨hcv⟩, ⟨blk_below HPr.out hb⟩, ⟨below_tr4 HBr.out hb⟩⟩
                  have HFIN := Aside0.mk hfin
                  have hcm := HCA'.out
                  clear hfin hcm
                  by_cases hmx : a3 < a4
                  · have HMX := Aside0.mk hmx
                    go_wp2_with fail
                    refine (HINV.out wr HBr.out A7 c7 n7 (L ++ ms) a4 HN7.out.symm HCA'.out lc7 hn7b).mono ?_
                    rintro e Wf ⟨v, rfl, hr, hbf⟩
                    have HFF := Aside0.mk (HFIN.out a4 ⟨by have := HMX.out; omega, h4⟩ Wf v hr hbf)
                    clear hr hbf
                    go_wp2_with fail
                    go_meet
                    case rel => exact HFF.out
                  · have HMX := Aside0.mk hmx
                    go_wp2_with fail
                    refine (HINV.out wr HBr.out A7 c7 n7 (L ++ ms) a3 HN7.out.symm HCA'.out lc7 hn7b).mono ?_
                    rintro e Wf ⟨v, rfl, hr, hbf⟩
                    have HFF := Aside0.mk (HFIN.out a3 ⟨Int.le_refl _, by omega⟩ Wf v hr hbf)
                    clear hr hbf
                    go_wp2_with fail
                    go_meet
                    case rel => exact HFF.out
                clear HPr HBr HCVr hp0 hpf0 hp1 hpf1 hp2 hpf2 hp3 hpf3 hp4 hpf4 hp5 hpf5 hp6 hpf6 hp7 hpf7 hp8 hpf8 hp9 hpf9 hp10 hpf10 hp11 hpf11 hp12 hpf12
                obtain ⟨t, AI, cI, rfl, HT, HCI, HCW, HPf, HBf⟩ := hcut
                have hp0 : (wc).cell? ⟨gp, 0, none⟩ = some (.int .i64 a0_0) := (blk_cell HPf.out 0).trans rfl
                have hpf0 := blk_frozen HPf.out 0
                have hp1 : (wc).cell? ⟨gp, 1, none⟩ = some (.int .i64 a0_1) := (blk_cell HPf.out 1).trans rfl
                have hpf1 := blk_frozen HPf.out 1
                have hp2 : (wc).cell? ⟨gp, 2, none⟩ = some (.int .i64 a0_2) := (blk_cell HPf.out 2).trans rfl
                have hpf2 := blk_frozen HPf.out 2
                have hp3 : (wc).cell? ⟨gp, 3, none⟩ = some (.int .i64 a0_3) := (blk_cell HPf.out 3).trans rfl
                have hpf3 := blk_frozen HPf.out 3
                have hp4 : (wc).cell? ⟨gp, 4, none⟩ = some (.slice A0_4 n4 c0_4) := (blk_cell HPf.out 4).trans rfl
                have hpf4 := blk_frozen HPf.out 4
                have hp5 : (wc).cell? ⟨gp, 5, none⟩ = some (.int .i64 a0_5) := (blk_cell HPf.out 5).trans rfl
                have hpf5 := blk_frozen HPf.out 5
                have hp6 : (wc).cell? ⟨gp, 6, none⟩ = some (.int .i64 a0_6) := (blk_cell HPf.out 6).trans rfl
                have hpf6 := blk_frozen HPf.out 6
                have hp7 : (wc).cell? ⟨gp, 7, none⟩ = some (.int .i64 a0_7) := (blk_cell HPf.out 7).trans rfl
                have hpf7 := blk_frozen HPf.out 7
                have hp8 : (wc).cell? ⟨gp, 8, none⟩ = some (.int .i64 a0_8) := (blk_cell HPf.out 8).trans rfl
                have hpf8 := blk_frozen HPf.out 8
                have hp9 : (wc).cell? ⟨gp, 9, none⟩ = some (.slice A0_9 n9 c0_9) := (blk_cell HPf.out 9).trans rfl
                have hpf9 := blk_frozen HPf.out 9
                have hp10 : (wc).cell? ⟨gp, 10, none⟩ = some (.slice none 0 0) := (blk_cell HPf.out 10).trans rfl
                have hpf10 := blk_frozen HPf.out 10
                have hp11 : (wc).cell? ⟨gp, 11, none⟩ = some (.slice A0_11 n11 c0_11) := (blk_cell HPf.out 11).trans rfl
                have hpf11 := blk_frozen HPf.out 11
                have hp12 : (wc).cell? ⟨gp, 12, none⟩ = some (.slice A0_12 n12 c0_12) := (blk_cell HPf.out 12).trans rfl
                have hpf12 := blk_frozen HPf.out 12
                have bne : ((n11 : Int) != (n11 : Int)) = false := by simp
                go_wp2_with fail
                have huL := Try.underlying49
                clear hp0 hpf0 hp1 hpf1 hp2 hpf2 hp3 hpf3 hp4 hpf4 hp5 hpf5 hp6 hpf6 hp7 hpf7 hp8 hpf8 hp9 hpf9 hp10 hpf10 hp11 hpf11 hp12 hpf12 bne
                obtain ⟨R2, hR2⟩ : ∃ R, R = invoiceOf its a0_0 bks (L ++ ms) t := ⟨_, rfl⟩
                have hlen2 : R2.length = n11 := by rw [hR2, invoice_len]; exact K11.out
                have hsame : ∀ i : Int, 0 ≤ i → i < n11 → (rd_T49 R1 i).f1 = 1 ∨ rd_T49 R2 i = rd_T49 R1 i := by
                  intro i h0 h1
                  have g1 : i.toNat < R1.length := by rw [HRL.out]; omega
                  have g2 : i.toNat < R2.length := by rw [hlen2]; omega
                  have e1 := rd_line R1 i.toNat g1
                  have e2 := rd_line R2 i.toNat g2
                  rw [Int.toNat_of_nonneg h0] at e1 e2
                  rw [e1, e2]
                  have hx : (invoiceOf its a0_0 bks L a3)[i.toNat]? = some R1[i.toNat] := by rw [← HR1.out]; exact List.getElem?_eq_getElem g1
                  rcases final_pure its a0_0 bks L ms a3 t HT.out.1 HT.out.2 (fun id => itemOf_bound its HV2.out id) (fun b hb => by have := HV1.out b hb; unfold BkGood at this; omega) (fun r hr h4 hf => HMS.out r hr h4 hf) i.toNat R1[i.toNat] hx with h | h
                  · exact .inl h
                  · right
                    rw [← hR2, List.getElem?_eq_getElem g2] at h
                    injection h
                rw [← hR2] at HCI
                have HSAME := Aside0.mk hsame
                have HL2 := Aside0.mk hlen2
                clear hR2 hlen2 hsame
                go_loopw [23] (fun v23 wr => ∃ i : Int, v23 = .int .i64 i ∧ Aside0 (0 ≤ i) ∧ Aside0 (i ≤ n11) ∧ Aside0 (Kd.C k49 wr AI n11 R2) ∧ Aside0 (Kd.C k49 wr AV n11 R1) ∧ Aside0 (Below w.heap.size w wr)) (fun v23 _ => n11 - (intOf v23).toNat)
                case atStart => exact ⟨0, rfl, ⟨Int.le_refl _⟩, ⟨by omega⟩, HCI, HCW, HBf⟩
                case round =>
                  clear HCI HCW HBf
                  obtain ⟨i, rfl, I0, I1, HCI, HCW, HBf⟩ := hrel
                  have hi0 := I0.out
                  have hi1 := I1.out
                  by_cases hlt : i < (n11 : Int)
                  · have hlt1 : i < (R1.length : Int) := by rw [HRL.out]; exact hlt
                    have hlt2 : i < (R2.length : Int) := by rw [HL2.out]; exact hlt
                    have HBZ := Aside0.mk (Below.refl wr.heap.size wr)
                    have HCI' := Aside0.mk (show Kd.C k49 wr AI R2.length R2 by rw [HL2.out]; exact HCI.out)
                    have HCW' := Aside0.mk (show Kd.C k49 wr AV R1.length R1 by rw [HRL.out]; exact HCW.out)
                    obtain ⟨ad, e_, hx0, hx1, hx2, hx3⟩ := at_T49 HCW'.out i hi0 hlt1
                    cases e_
                    replace hx0 := ((HBZ.out).cell (World.block_lt_of_cell? _ _ hx0)).trans hx0
                    replace hx1 := ((HBZ.out).cell (World.block_lt_of_cell? _ _ hx1)).trans hx1
                    replace hx2 := ((HBZ.out).cell (World.block_lt_of_cell? _ _ hx2)).trans hx2
                    replace hx3 := ((HBZ.out).cell (World.block_lt_of_cell? _ _ hx3)).trans hx3
                    obtain ⟨ad, e_, hy0, hy1, hy2, hy3⟩ := at_T49 HCI'.out i hi0 hlt2
                    cases e_
                    replace hy0 := ((HBZ.out).cell (World.block_lt_of_cell? _ _ hy0)).trans hy0
                    replace hy1 := ((HBZ.out).cell (World.block_lt_of_cell? _ _ hy1)).trans hy1
                    replace hy2 := ((HBZ.out).cell (World.block_lt_of_cell? _ _ hy2)).trans hy2
                    replace hy3 := ((HBZ.out).cell (World.block_lt_of_cell? _ _ hy3)).trans hy3
                    have p := eq_true hi0
                    have q_ := eq_true hlt
                    have c_ := decide_eq_true hlt
                    have hs := HSAME.out i hi0 hlt
                    generalize rd_T49 R1 i = x at *
                    generalize rd_T49 R2 i = y at *
                    clear HCI' HCW' hlt1 hlt2
                    by_cases h1 : x.f1 = 1
                    · have b1 : (x.f1 != 1) = false := by simpa using h1
                      clear hs h1
                      go_wp2_with fail
                      go_quiet (fail)
                      go_wp2_with fail
                      go_roundw
                      case measure =>
                        show n11 - (i + 1).toNat < n11 - i.toNat
                        omega
                      case rel => exact ⟨i + 1, rfl, ⟨by omega⟩, ⟨by omega⟩, ⟨Kd.C_below HCI.out (pw_below_drewN (Below.refl _ _) _)⟩, ⟨Kd.C_below HCW.out (pw_below_drewN (Below.refl _ _) _)⟩, ⟨pw_below_drewN HBf.out _⟩⟩
                    · have hyx : y = x := by rcases hs with h | h; · exact absurd h h1
                                             · exact h
                      subst hyx
                      have b1 : (y.f1 != 1) = true := by simpa using h1
                      clear hs h1
                      go_wp2_with fail
                      go_quiet (fail)
                      go_wp2_with fail
                      go_roundw
                      case measure =>
                        show n11 - (i + 1).toNat < n11 - i.toNat
                        omega
                      case rel => exact ⟨i + 1, rfl, ⟨by omega⟩, ⟨by omega⟩, ⟨Kd.C_below HCI.out (pw_below_drewN (Below.refl _ _) _)⟩, ⟨Kd.C_below HCW.out (pw_below_drewN (Below.refl _ _) _)⟩, ⟨pw_below_drewN HBf.out _⟩⟩
                  · have c_ := decide_eq_false hlt
                    go_wp2_with fail
                    go_ret
                    exact ⟨rfl, HBf.out⟩
end Go.Proofs.Ytpdbhaoppdgmeaa.Pr
