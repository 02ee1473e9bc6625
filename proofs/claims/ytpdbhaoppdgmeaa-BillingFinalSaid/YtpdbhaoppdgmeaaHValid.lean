/- onairref08.Valid, walked by hand, for a plan without entries. (Printed by wip/valid.py.) -/
import Derived.Test.YtpdbhaoppdgmeaaHBk
import Derived.Test.YtpdbhaoppdgmeaaHValA
import Derived.Outline
namespace Go.Proofs.Ytpdbhaoppdgmeaa.Pr
open Go.RowKit Go.Proofs.Ytpdbhaoppdgmeaa.Sup Go.Proofs.YtpdbhaoppdgmeaaW.PrintWords Go.Proofs.YtpdbhaoppdgmeaaW.PrintLast Go.Proofs.YtpdbhaoppdgmeaaW.PrintMore
set_option linter.unusedVariables false
set_option linter.unusedSimpArgs false

def ValPost (w : World) (bs : List S59) (is : List S45) (e : Ending) (w' : World) : Prop := ∃ r : Bool, e = .returned (.bool r) ∧ (r = true → (∀ x ∈ bs, BkGood x) ∧ ∀ x ∈ is, 1 ≤ x.f2 ∧ x.f2 ≤ 100000000) ∧ Below w.heap.size w w'
theorem ValPost.no {w w' : World} {bs : List S59} {is : List S45} (h : Below w.heap.size w w') : ValPost w bs is (.returned (.bool false)) w' := ⟨false, rfl, fun e => by (cases e), h⟩
set_option maxHeartbeats 16000000 in
set_option maxRecDepth 100000 in
theorem valid.calls (a0_0 : Int) (a0_1 : Int) (a0_2 : Int) (a0_3 : Int) (A0_4 : Option Addr) (c0_4 : Nat) (l0_4 : List (S96)) (a0_5 : Int) (a0_6 : Int) (a0_7 : Int) (a0_8 : Int) (A0_9 : Option Addr) (c0_9 : Nat) (l0_9 : List (S45)) (A0_10 : Option Addr) (c0_10 : Nat) (l0_10 : List (S78)) (A0_11 : Option Addr) (c0_11 : Nat) (l0_11 : List (S59)) (A0_12 : Option Addr) (c0_12 : Nat) (l0_12 : List (S82)) (w : World) (hr0_4 : Kd.C k96 w A0_4 l0_4.length l0_4) (hc0_4 : l0_4.length ≤ c0_4) (hr0_9 : Kd.C k45 w A0_9 l0_9.length l0_9) (hc0_9 : l0_9.length ≤ c0_9) (hr0_10 : Kd.C k78 w A0_10 l0_10.length l0_10) (hc0_10 : l0_10.length ≤ c0_10) (hr0_11 : Kd.C k59 w A0_11 l0_11.length l0_11) (hc0_11 : l0_11.length ≤ c0_11) (hr0_12 : Kd.C k82 w A0_12 l0_12.length l0_12) (hc0_12 : l0_12.length ≤ c0_12) (h10 : l0_10.length = 0) (hli : l0_9.length ≤ 1099511627776) (hlz : l0_4.length ≤ 1099511627776) :
    Calls Try.prog 11 #[.agg #[.int .i64 a0_0, .int .i64 a0_1, .int .i64 a0_2, .int .i64 a0_3, .slice A0_4 l0_4.length c0_4, .int .i64 a0_5, .int .i64 a0_6, .int .i64 a0_7, .int .i64 a0_8, .slice A0_9 l0_9.length c0_9, .slice A0_10 l0_10.length c0_10, .slice A0_11 l0_11.length c0_11, .slice A0_12 l0_12.length c0_12]] w (ValPost w l0_11 l0_9) := by
  have huQ := Try.underlying32
  have hu23 := Try.underlying23
  have hu26 := Try.underlying26
  have huC := Try.underlying82
  obtain ⟨r3, h3⟩ := val03 a0_1 a0_2
  obtain ⟨r4, h4⟩ := val04 a0_3 l0_4 hlz
  obtain ⟨ri, hi, hri⟩ := val_items a0_0 a0_1 a0_2 a0_3 l0_4 a0_5 a0_6 a0_7 a0_8 l0_9 l0_10 l0_11 l0_12 hli
  have H10 := Aside0.mk h10
  have H3 := Aside0.mk h3
  have H4 := Aside0.mk h4
  have HRI := Aside0.mk hri
  have hit := fun (W : World) (hB : Below w.heap.size w W) => onairref08_items.calls (2 * l0_9.length + 2) a0_0 a0_1 a0_2 a0_3 A0_4 c0_4 l0_4 a0_5 a0_6 a0_7 a0_8 A0_9 c0_9 l0_9 A0_10 c0_10 l0_10 A0_11 c0_11 l0_11 A0_12 c0_12 l0_12 ri W (Kd.C_below hr0_4 hB) hc0_4 (Kd.C_below hr0_9 hB) hc0_9 (Kd.C_below hr0_10 hB) hc0_10 (Kd.C_below hr0_11 hB) hc0_11 (Kd.C_below hr0_12 hB) hc0_12 hi
  have hbk := fun (W : World) (hB : Below w.heap.size w W) => bookings.calls a0_0 a0_1 a0_2 a0_3 A0_4 c0_4 l0_4 a0_5 a0_6 a0_7 a0_8 A0_9 c0_9 l0_9 A0_10 c0_10 l0_10 A0_11 c0_11 l0_11 A0_12 c0_12 l0_12 W (Kd.C_below hr0_4 hB) hc0_4 (Kd.C_below hr0_9 hB) hc0_9 (Kd.C_below hr0_10 hB) hc0_10 (Kd.C_below hr0_11 hB) hc0_11 (Kd.C_below hr0_12 hB) hc0_12 hli
  have HIT := Aside0.mk hit
  have HBKS := Aside0.mk hbk
  have HZ := Aside0.mk hr0_4
  have HCL := Aside0.mk hr0_12
  have hm : l0_12.length ≤ 9223372036854775807 := Kd.C_max hr0_12
  have lz := hc0_4
  clear h10 h3 h4 hri hi hit hbk hr0_4 hc0_4 hr0_9 hc0_9 hr0_10 hc0_10 hr0_11 hc0_11 hr0_12 hc0_12
  have HPL := Aside0.mk (new1 w (.cells #[.int .i64 a0_0, .int .i64 a0_1, .int .i64 a0_2, .int .i64 a0_3, .slice A0_4 l0_4.length c0_4, .int .i64 a0_5, .int .i64 a0_6, .int .i64 a0_7, .int .i64 a0_8, .slice A0_9 l0_9.length c0_9, .slice A0_10 l0_10.length c0_10, .slice A0_11 l0_11.length c0_11, .slice A0_12 l0_12.length c0_12] 32))
  have HB0 := Aside0.mk (below_alloc (Below.refl _ w) (.cells #[.int .i64 a0_0, .int .i64 a0_1, .int .i64 a0_2, .int .i64 a0_3, .slice A0_4 l0_4.length c0_4, .int .i64 a0_5, .int .i64 a0_6, .int .i64 a0_7, .int .i64 a0_8, .slice A0_9 l0_9.length c0_9, .slice A0_10 l0_10.length c0_10, .slice A0_11 l0_11.length c0_11, .slice A0_12 l0_12.length c0_12] 32))
  go_enter Try.func11, Try.ntmps11
  go_wp2_with fail
  refine (onairref03_Valid.calls 20 a0_1 a0_2 r3 _ H3.out).mono ?_
  rintro e W1 ⟨rfl, hb1⟩
  have HB1 := Aside0.mk (below_tr4 HB0.out hb1)
  have HP1 := Aside0.mk (blk_below HPL.out hb1)
  clear hb1 HPL HB0
  have hp0 : (W1).cell? ⟨w.heap.size, 0, none⟩ = some (.int .i64 a0_0) := (blk_cell HP1.out 0).trans rfl
  have hpf0 := blk_frozen HP1.out 0
  have hp1 : (W1).cell? ⟨w.heap.size, 1, none⟩ = some (.int .i64 a0_1) := (blk_cell HP1.out 1).trans rfl
  have hpf1 := blk_frozen HP1.out 1
  have hp2 : (W1).cell? ⟨w.heap.size, 2, none⟩ = some (.int .i64 a0_2) := (blk_cell HP1.out 2).trans rfl
  have hpf2 := blk_frozen HP1.out 2
  have hp3 : (W1).cell? ⟨w.heap.size, 3, none⟩ = some (.int .i64 a0_3) := (blk_cell HP1.out 3).trans rfl
  have hpf3 := blk_frozen HP1.out 3
  have hp4 : (W1).cell? ⟨w.heap.size, 4, none⟩ = some (.slice A0_4 l0_4.length c0_4) := (blk_cell HP1.out 4).trans rfl
  have hpf4 := blk_frozen HP1.out 4
  have hp5 : (W1).cell? ⟨w.heap.size, 5, none⟩ = some (.int .i64 a0_5) := (blk_cell HP1.out 5).trans rfl
  have hpf5 := blk_frozen HP1.out 5
  have hp6 : (W1).cell? ⟨w.heap.size, 6, none⟩ = some (.int .i64 a0_6) := (blk_cell HP1.out 6).trans rfl
  have hpf6 := blk_frozen HP1.out 6
  have hp7 : (W1).cell? ⟨w.heap.size, 7, none⟩ = some (.int .i64 a0_7) := (blk_cell HP1.out 7).trans rfl
  have hpf7 := blk_frozen HP1.out 7
  have hp8 : (W1).cell? ⟨w.heap.size, 8, none⟩ = some (.int .i64 a0_8) := (blk_cell HP1.out 8).trans rfl
  have hpf8 := blk_frozen HP1.out 8
  have hp9 : (W1).cell? ⟨w.heap.size, 9, none⟩ = some (.slice A0_9 l0_9.length c0_9) := (blk_cell HP1.out 9).trans rfl
  have hpf9 := blk_frozen HP1.out 9
  have hp10 : (W1).cell? ⟨w.heap.size, 10, none⟩ = some (.slice A0_10 l0_10.length c0_10) := (blk_cell HP1.out 10).trans rfl
  have hpf10 := blk_frozen HP1.out 10
  have hp11 : (W1).cell? ⟨w.heap.size, 11, none⟩ = some (.slice A0_11 l0_11.length c0_11) := (blk_cell HP1.out 11).trans rfl
  have hpf11 := blk_frozen HP1.out 11
  have hp12 : (W1).cell? ⟨w.heap.size, 12, none⟩ = some (.slice A0_12 l0_12.length c0_12) := (blk_cell HP1.out 12).trans rfl
  have hpf12 := blk_frozen HP1.out 12
  go_wp2_with fail
  refine (onairref04_Valid.calls _ a0_3 A0_4 c0_4 l0_4 r4 _ (Kd.C_below HZ.out HB1.out) lz H4.out).mono ?_
  rintro e W2 ⟨rfl, hb2⟩
  have HB2 := Aside0.mk (below_tr4 HB1.out hb2)
  have HP2 := Aside0.mk (blk_below HP1.out hb2)
  clear hb2 HP1 HB1 hp0 hpf0 hp1 hpf1 hp2 hpf2 hp3 hpf3 hp4 hpf4 hp5 hpf5 hp6 hpf6 hp7 hpf7 hp8 hpf8 hp9 hpf9 hp10 hpf10 hp11 hpf11 hp12 hpf12
  have hp0 : (W2).cell? ⟨w.heap.size, 0, none⟩ = some (.int .i64 a0_0) := (blk_cell HP2.out 0).trans rfl
  have hpf0 := blk_frozen HP2.out 0
  have hp1 : (W2).cell? ⟨w.heap.size, 1, none⟩ = some (.int .i64 a0_1) := (blk_cell HP2.out 1).trans rfl
  have hpf1 := blk_frozen HP2.out 1
  have hp2 : (W2).cell? ⟨w.heap.size, 2, none⟩ = some (.int .i64 a0_2) := (blk_cell HP2.out 2).trans rfl
  have hpf2 := blk_frozen HP2.out 2
  have hp3 : (W2).cell? ⟨w.heap.size, 3, none⟩ = some (.int .i64 a0_3) := (blk_cell HP2.out 3).trans rfl
  have hpf3 := blk_frozen HP2.out 3
  have hp4 : (W2).cell? ⟨w.heap.size, 4, none⟩ = some (.slice A0_4 l0_4.length c0_4) := (blk_cell HP2.out 4).trans rfl
  have hpf4 := blk_frozen HP2.out 4
  have hp5 : (W2).cell? ⟨w.heap.size, 5, none⟩ = some (.int .i64 a0_5) := (blk_cell HP2.out 5).trans rfl
  have hpf5 := blk_frozen HP2.out 5
  have hp6 : (W2).cell? ⟨w.heap.size, 6, none⟩ = some (.int .i64 a0_6) := (blk_cell HP2.out 6).trans rfl
  have hpf6 := blk_frozen HP2.out 6
  have hp7 : (W2).cell? ⟨w.heap.size, 7, none⟩ = some (.int .i64 a0_7) := (blk_cell HP2.out 7).trans rfl
  have hpf7 := blk_frozen HP2.out 7
  have hp8 : (W2).cell? ⟨w.heap.size, 8, none⟩ = some (.int .i64 a0_8) := (blk_cell HP2.out 8).trans rfl
  have hpf8 := blk_frozen HP2.out 8
  have hp9 : (W2).cell? ⟨w.heap.size, 9, none⟩ = some (.slice A0_9 l0_9.length c0_9) := (blk_cell HP2.out 9).trans rfl
  have hpf9 := blk_frozen HP2.out 9
  have hp10 : (W2).cell? ⟨w.heap.size, 10, none⟩ = some (.slice A0_10 l0_10.length c0_10) := (blk_cell HP2.out 10).trans rfl
  have hpf10 := blk_frozen HP2.out 10
  have hp11 : (W2).cell? ⟨w.heap.size, 11, none⟩ = some (.slice A0_11 l0_11.length c0_11) := (blk_cell HP2.out 11).trans rfl
  have hpf11 := blk_frozen HP2.out 11
  have hp12 : (W2).cell? ⟨w.heap.size, 12, none⟩ = some (.slice A0_12 l0_12.length c0_12) := (blk_cell HP2.out 12).trans rfl
  have hpf12 := blk_frozen HP2.out 12
  by_cases t0 : a0_0 < 0
  · have k0 := decide_eq_true t0
    go_wp2_with fail
    go_ret
    exact ValPost.no HB2.out
  have k0 := decide_eq_false t0
  by_cases t1 : 40 ≤ a0_0
  · have k1 := decide_eq_true t1
    go_wp2_with fail
    go_ret
    exact ValPost.no HB2.out
  have k1 := decide_eq_false t1
  cases r3 with
  | false =>
    go_wp2_with fail
    go_ret
    exact ValPost.no HB2.out
  | true =>
    cases r4 with
    | false =>
      go_wp2_with fail
      go_ret
      exact ValPost.no HB2.out
    | true =>
      by_cases t4 : a0_5 < 0
      · have k4 := decide_eq_true t4
        go_wp2_with fail
        go_ret
        exact ValPost.no HB2.out
      have k4 := decide_eq_false t4
      by_cases t5 : 9000000000 < a0_5
      · have k5 := decide_eq_true t5
        go_wp2_with fail
        go_ret
        exact ValPost.no HB2.out
      have k5 := decide_eq_false t5
      by_cases t6 : a0_6 < 1
      · have k6 := decide_eq_true t6
        go_wp2_with fail
        go_ret
        exact ValPost.no HB2.out
      have k6 := decide_eq_false t6
      by_cases t7 : 8 < a0_6
      · have k7 := decide_eq_true t7
        go_wp2_with fail
        go_ret
        exact ValPost.no HB2.out
      have k7 := decide_eq_false t7
      by_cases t8 : a0_7 < 1
      · have k8 := decide_eq_true t8
        go_wp2_with fail
        go_ret
        exact ValPost.no HB2.out
      have k8 := decide_eq_false t8
      by_cases t9 : 100000000 < a0_7
      · have k9 := decide_eq_true t9
        go_wp2_with fail
        go_ret
        exact ValPost.no HB2.out
      have k9 := decide_eq_false t9
      go_wp2_with fail
      refine (HIT.out W2 HB2.out).mono ?_
      rintro e W3 ⟨rfl, hb3⟩
      have HB3 := Aside0.mk (below_tr4 HB2.out hb3)
      have HP3 := Aside0.mk (blk_below HP2.out hb3)
      clear hb3 HP2 HB2 hp0 hpf0 hp1 hpf1 hp2 hpf2 hp3 hpf3 hp4 hpf4 hp5 hpf5 hp6 hpf6 hp7 hpf7 hp8 hpf8 hp9 hpf9 hp10 hpf10 hp11 hpf11 hp12 hpf12
      have hp0 : (W3).cell? ⟨w.heap.size, 0, none⟩ = some (.int .i64 a0_0) := (blk_cell HP3.out 0).trans rfl
      have hpf0 := blk_frozen HP3.out 0
      have hp1 : (W3).cell? ⟨w.heap.size, 1, none⟩ = some (.int .i64 a0_1) := (blk_cell HP3.out 1).trans rfl
      have hpf1 := blk_frozen HP3.out 1
      have hp2 : (W3).cell? ⟨w.heap.size, 2, none⟩ = some (.int .i64 a0_2) := (blk_cell HP3.out 2).trans rfl
      have hpf2 := blk_frozen HP3.out 2
      have hp3 : (W3).cell? ⟨w.heap.size, 3, none⟩ = some (.int .i64 a0_3) := (blk_cell HP3.out 3).trans rfl
      have hpf3 := blk_frozen HP3.out 3
      have hp4 : (W3).cell? ⟨w.heap.size, 4, none⟩ = some (.slice A0_4 l0_4.length c0_4) := (blk_cell HP3.out 4).trans rfl
      have hpf4 := blk_frozen HP3.out 4
      have hp5 : (W3).cell? ⟨w.heap.size, 5, none⟩ = some (.int .i64 a0_5) := (blk_cell HP3.out 5).trans rfl
      have hpf5 := blk_frozen HP3.out 5
      have hp6 : (W3).cell? ⟨w.heap.size, 6, none⟩ = some (.int .i64 a0_6) := (blk_cell HP3.out 6).trans rfl
      have hpf6 := blk_frozen HP3.out 6
      have hp7 : (W3).cell? ⟨w.heap.size, 7, none⟩ = some (.int .i64 a0_7) := (blk_cell HP3.out 7).trans rfl
      have hpf7 := blk_frozen HP3.out 7
      have hp8 : (W3).cell? ⟨w.heap.size, 8, none⟩ = some (.int .i64 a0_8) := (blk_cell HP3.out 8).trans rfl
      have hpf8 := blk_frozen HP3.out 8
      have hp9 : (W3).cell? ⟨w.heap.size, 9, none⟩ = some (.slice A0_9 l0_9.length c0_9) := (blk_cell HP3.out 9).trans rfl
      have hpf9 := blk_frozen HP3.out 9
      have hp10 : (W3).cell? ⟨w.heap.size, 10, none⟩ = some (.slice A0_10 l0_10.length c0_10) := (blk_cell HP3.out 10).trans rfl
      have hpf10 := blk_frozen HP3.out 10
      have hp11 : (W3).cell? ⟨w.heap.size, 11, none⟩ = some (.slice A0_11 l0_11.length c0_11) := (blk_cell HP3.out 11).trans rfl
      have hpf11 := blk_frozen HP3.out 11
      have hp12 : (W3).cell? ⟨w.heap.size, 12, none⟩ = some (.slice A0_12 l0_12.length c0_12) := (blk_cell HP3.out 12).trans rfl
      have hpf12 := blk_frozen HP3.out 12
      go_wp2_with fail
      refine (HBKS.out W3 HB3.out).mono ?_
      rintro e W4 ⟨rb, rfl, hrb, hb4⟩
      have HRB := Aside0.mk hrb
      have HB4 := Aside0.mk (below_tr4 HB3.out hb4)
      have HP4 := Aside0.mk (blk_below HP3.out hb4)
      clear hrb hb4 HP3 HB3 hp0 hpf0 hp1 hpf1 hp2 hpf2 hp3 hpf3 hp4 hpf4 hp5 hpf5 hp6 hpf6 hp7 hpf7 hp8 hpf8 hp9 hpf9 hp10 hpf10 hp11 hpf11 hp12 hpf12
      have hp0 : (W4).cell? ⟨w.heap.size, 0, none⟩ = some (.int .i64 a0_0) := (blk_cell HP4.out 0).trans rfl
      have hpf0 := blk_frozen HP4.out 0
      have hp1 : (W4).cell? ⟨w.heap.size, 1, none⟩ = some (.int .i64 a0_1) := (blk_cell HP4.out 1).trans rfl
      have hpf1 := blk_frozen HP4.out 1
      have hp2 : (W4).cell? ⟨w.heap.size, 2, none⟩ = some (.int .i64 a0_2) := (blk_cell HP4.out 2).trans rfl
      have hpf2 := blk_frozen HP4.out 2
      have hp3 : (W4).cell? ⟨w.heap.size, 3, none⟩ = some (.int .i64 a0_3) := (blk_cell HP4.out 3).trans rfl
      have hpf3 := blk_frozen HP4.out 3
      have hp4 : (W4).cell? ⟨w.heap.size, 4, none⟩ = some (.slice A0_4 l0_4.length c0_4) := (blk_cell HP4.out 4).trans rfl
      have hpf4 := blk_frozen HP4.out 4
      have hp5 : (W4).cell? ⟨w.heap.size, 5, none⟩ = some (.int .i64 a0_5) := (blk_cell HP4.out 5).trans rfl
      have hpf5 := blk_frozen HP4.out 5
      have hp6 : (W4).cell? ⟨w.heap.size, 6, none⟩ = some (.int .i64 a0_6) := (blk_cell HP4.out 6).trans rfl
      have hpf6 := blk_frozen HP4.out 6
      have hp7 : (W4).cell? ⟨w.heap.size, 7, none⟩ = some (.int .i64 a0_7) := (blk_cell HP4.out 7).trans rfl
      have hpf7 := blk_frozen HP4.out 7
      have hp8 : (W4).cell? ⟨w.heap.size, 8, none⟩ = some (.int .i64 a0_8) := (blk_cell HP4.out 8).trans rfl
      have hpf8 := blk_frozen HP4.out 8
      have hp9 : (W4).cell? ⟨w.heap.size, 9, none⟩ = some (.slice A0_9 l0_9.length c0_9) := (blk_cell HP4.out 9).trans rfl
      have hpf9 := blk_frozen HP4.out 9
      have hp10 : (W4).cell? ⟨w.heap.size, 10, none⟩ = some (.slice A0_10 l0_10.length c0_10) := (blk_cell HP4.out 10).trans rfl
      have hpf10 := blk_frozen HP4.out 10
      have hp11 : (W4).cell? ⟨w.heap.size, 11, none⟩ = some (.slice A0_11 l0_11.length c0_11) := (blk_cell HP4.out 11).trans rfl
      have hpf11 := blk_frozen HP4.out 11
      have hp12 : (W4).cell? ⟨w.heap.size, 12, none⟩ = some (.slice A0_12 l0_12.length c0_12) := (blk_cell HP4.out 12).trans rfl
      have hpf12 := blk_frozen HP4.out 12
      have t40 : ¬ (4000 : Int) < (l0_10.length : Int) := by have := H10.out; omega
      have k40 := decide_eq_false t40
      cases ri with
      | false =>
        go_wp2_with fail
        go_ret
        exact ValPost.no HB4.out
      | true =>
        cases rb with
        | false =>
          go_wp2_with fail
          go_ret
          exact ValPost.no HB4.out
        | true =>
          by_cases t2 : (400 : Int) < (l0_12.length : Int)
          · have k2 := decide_eq_true t2
            go_wp2_with fail
            go_ret
            exact ValPost.no HB4.out
          have k2 := decide_eq_false t2
          go_wp2_with fail
          clear hp0 hpf0 hp1 hpf1 hp2 hpf2 hp3 hpf3 hp4 hpf4 hp5 hpf5 hp6 hpf6 hp7 hpf7 hp8 hpf8 hp9 hpf9 hp10 hpf10 hp11 hpf11 hp12 hpf12
          go_loopw [7] (fun v7 wr => v7 = .int .i64 0 ∧ Aside0 (wr.heap[w.heap.size]? = some (.cells #[.int .i64 a0_0, .int .i64 a0_1, .int .i64 a0_2, .int .i64 a0_3, .slice A0_4 l0_4.length c0_4, .int .i64 a0_5, .int .i64 a0_6, .int .i64 a0_7, .int .i64 a0_8, .slice A0_9 l0_9.length c0_9, .slice A0_10 l0_10.length c0_10, .slice A0_11 l0_11.length c0_11, .slice A0_12 l0_12.length c0_12] 32 (0, 0))) ∧ Aside0 (Below w.heap.size w wr)) (fun _ _ => 0)
          case atStart => exact ⟨rfl, HP4, HB4⟩
          case round =>
            clear HP4 HB4
            obtain ⟨rfl, HP4, HB4⟩ := hrel
            have kE := decide_eq_false (show ¬ (0 : Int) < (l0_10.length : Int) by have := H10.out; omega)
            have kE2 := decide_eq_false (show ¬ 0 < l0_10.length by have := H10.out; omega)
            have kE3 : ¬ 0 < l0_10.length := by have := H10.out; omega
            have hp0 : (wr).cell? ⟨w.heap.size, 0, none⟩ = some (.int .i64 a0_0) := (blk_cell HP4.out 0).trans rfl
            have hpf0 := blk_frozen HP4.out 0
            have hp1 : (wr).cell? ⟨w.heap.size, 1, none⟩ = some (.int .i64 a0_1) := (blk_cell HP4.out 1).trans rfl
            have hpf1 := blk_frozen HP4.out 1
            have hp2 : (wr).cell? ⟨w.heap.size, 2, none⟩ = some (.int .i64 a0_2) := (blk_cell HP4.out 2).trans rfl
            have hpf2 := blk_frozen HP4.out 2
            have hp3 : (wr).cell? ⟨w.heap.size, 3, none⟩ = some (.int .i64 a0_3) := (blk_cell HP4.out 3).trans rfl
            have hpf3 := blk_frozen HP4.out 3
            have hp4 : (wr).cell? ⟨w.heap.size, 4, none⟩ = some (.slice A0_4 l0_4.length c0_4) := (blk_cell HP4.out 4).trans rfl
            have hpf4 := blk_frozen HP4.out 4
            have hp5 : (wr).cell? ⟨w.heap.size, 5, none⟩ = some (.int .i64 a0_5) := (blk_cell HP4.out 5).trans rfl
            have hpf5 := blk_frozen HP4.out 5
            have hp6 : (wr).cell? ⟨w.heap.size, 6, none⟩ = some (.int .i64 a0_6) := (blk_cell HP4.out 6).trans rfl
            have hpf6 := blk_frozen HP4.out 6
            have hp7 : (wr).cell? ⟨w.heap.size, 7, none⟩ = some (.int .i64 a0_7) := (blk_cell HP4.out 7).trans rfl
            have hpf7 := blk_frozen HP4.out 7
            have hp8 : (wr).cell? ⟨w.heap.size, 8, none⟩ = some (.int .i64 a0_8) := (blk_cell HP4.out 8).trans rfl
            have hpf8 := blk_frozen HP4.out 8
            have hp9 : (wr).cell? ⟨w.heap.size, 9, none⟩ = some (.slice A0_9 l0_9.length c0_9) := (blk_cell HP4.out 9).trans rfl
            have hpf9 := blk_frozen HP4.out 9
            have hp10 : (wr).cell? ⟨w.heap.size, 10, none⟩ = some (.slice A0_10 l0_10.length c0_10) := (blk_cell HP4.out 10).trans rfl
            have hpf10 := blk_frozen HP4.out 10
            have hp11 : (wr).cell? ⟨w.heap.size, 11, none⟩ = some (.slice A0_11 l0_11.length c0_11) := (blk_cell HP4.out 11).trans rfl
            have hpf11 := blk_frozen HP4.out 11
            have hp12 : (wr).cell? ⟨w.heap.size, 12, none⟩ = some (.slice A0_12 l0_12.length c0_12) := (blk_cell HP4.out 12).trans rfl
            have hpf12 := blk_frozen HP4.out 12
            go_wp2_with fail
            clear kE kE2 kE3 hp0 hpf0 hp1 hpf1 hp2 hpf2 hp3 hpf3 hp4 hpf4 hp5 hpf5 hp6 hpf6 hp7 hpf7 hp8 hpf8 hp9 hpf9 hp10 hpf10 hp11 hpf11 hp12 hpf12
            go_loopw [11] (fun v11 wr => ∃ i : Int, v11 = .int .i64 i ∧ Aside0 (0 ≤ i) ∧ Aside0 (i ≤ l0_12.length) ∧ Aside0 (wr.heap[w.heap.size]? = some (.cells #[.int .i64 a0_0, .int .i64 a0_1, .int .i64 a0_2, .int .i64 a0_3, .slice A0_4 l0_4.length c0_4, .int .i64 a0_5, .int .i64 a0_6, .int .i64 a0_7, .int .i64 a0_8, .slice A0_9 l0_9.length c0_9, .slice A0_10 l0_10.length c0_10, .slice A0_11 l0_11.length c0_11, .slice A0_12 l0_12.length c0_12] 32 (0, 0))) ∧ Aside0 (Below w.heap.size w wr)) (fun v11 _ => l0_12.length - (intOf v11).toNat)
            case atStart => exact ⟨0, rfl, ⟨Int.le_refl _⟩, ⟨by omega⟩, HP4, HB4⟩
            case round =>
              clear HP4 HB4
              obtain ⟨i, rfl, I0, I1, HP4, HB4⟩ := hrel
              have hi0 := I0.out
              have hi1 := I1.out
              by_cases hlt : i < (l0_12.length : Int)
              · skip
                obtain ⟨ad, e_, hx0, hx1, hx2, hx3, hx4, hx5, hx6, hx7⟩ := at_T82 HCL.out i hi0 hlt
                cases e_
                replace hx0 := ((HB4.out).cell (World.block_lt_of_cell? _ _ hx0)).trans hx0
                replace hx1 := ((HB4.out).cell (World.block_lt_of_cell? _ _ hx1)).trans hx1
                replace hx2 := ((HB4.out).cell (World.block_lt_of_cell? _ _ hx2)).trans hx2
                replace hx3 := ((HB4.out).cell (World.block_lt_of_cell? _ _ hx3)).trans hx3
                replace hx4 := ((HB4.out).cell (World.block_lt_of_cell? _ _ hx4)).trans hx4
                replace hx5 := ((HB4.out).cell (World.block_lt_of_cell? _ _ hx5)).trans hx5
                replace hx6 := ((HB4.out).cell (World.block_lt_of_cell? _ _ hx6)).trans hx6
                replace hx7 := ((HB4.out).cell (World.block_lt_of_cell? _ _ hx7)).trans hx7
                have hp0 : (wr).cell? ⟨w.heap.size, 0, none⟩ = some (.int .i64 a0_0) := (blk_cell HP4.out 0).trans rfl
                have hpf0 := blk_frozen HP4.out 0
                have hp1 : (wr).cell? ⟨w.heap.size, 1, none⟩ = some (.int .i64 a0_1) := (blk_cell HP4.out 1).trans rfl
                have hpf1 := blk_frozen HP4.out 1
                have hp2 : (wr).cell? ⟨w.heap.size, 2, none⟩ = some (.int .i64 a0_2) := (blk_cell HP4.out 2).trans rfl
                have hpf2 := blk_frozen HP4.out 2
                have hp3 : (wr).cell? ⟨w.heap.size, 3, none⟩ = some (.int .i64 a0_3) := (blk_cell HP4.out 3).trans rfl
                have hpf3 := blk_frozen HP4.out 3
                have hp4 : (wr).cell? ⟨w.heap.size, 4, none⟩ = some (.slice A0_4 l0_4.length c0_4) := (blk_cell HP4.out 4).trans rfl
                have hpf4 := blk_frozen HP4.out 4
                have hp5 : (wr).cell? ⟨w.heap.size, 5, none⟩ = some (.int .i64 a0_5) := (blk_cell HP4.out 5).trans rfl
                have hpf5 := blk_frozen HP4.out 5
                have hp6 : (wr).cell? ⟨w.heap.size, 6, none⟩ = some (.int .i64 a0_6) := (blk_cell HP4.out 6).trans rfl
                have hpf6 := blk_frozen HP4.out 6
                have hp7 : (wr).cell? ⟨w.heap.size, 7, none⟩ = some (.int .i64 a0_7) := (blk_cell HP4.out 7).trans rfl
                have hpf7 := blk_frozen HP4.out 7
                have hp8 : (wr).cell? ⟨w.heap.size, 8, none⟩ = some (.int .i64 a0_8) := (blk_cell HP4.out 8).trans rfl
                have hpf8 := blk_frozen HP4.out 8
                have hp9 : (wr).cell? ⟨w.heap.size, 9, none⟩ = some (.slice A0_9 l0_9.length c0_9) := (blk_cell HP4.out 9).trans rfl
                have hpf9 := blk_frozen HP4.out 9
                have hp10 : (wr).cell? ⟨w.heap.size, 10, none⟩ = some (.slice A0_10 l0_10.length c0_10) := (blk_cell HP4.out 10).trans rfl
                have hpf10 := blk_frozen HP4.out 10
                have hp11 : (wr).cell? ⟨w.heap.size, 11, none⟩ = some (.slice A0_11 l0_11.length c0_11) := (blk_cell HP4.out 11).trans rfl
                have hpf11 := blk_frozen HP4.out 11
                have hp12 : (wr).cell? ⟨w.heap.size, 12, none⟩ = some (.slice (some ad) l0_12.length c0_12) := (blk_cell HP4.out 12).trans rfl
                have hpf12 := blk_frozen HP4.out 12
                have p := eq_true hi0
                have q_ := eq_true hlt
                have c_ := decide_eq_true hlt
                go_wp2_with fail
                obtain ⟨r6, h6⟩ := val06 (rd_T82 l0_12 i).f0 (rd_T82 l0_12 i).f1 (rd_T82 l0_12 i).f2 (rd_T82 l0_12 i).f3 (rd_T82 l0_12 i).f4 (rd_T82 l0_12 i).f5 (rd_T82 l0_12 i).f6 (rd_T82 l0_12 i).f7
                refine (onairref06_Valid.calls 9 _ _ _ _ _ _ _ _ r6 _ h6).mono ?_
                rintro e W6 ⟨rfl, hb6⟩
                have HB6 := Aside0.mk (below_tr4 HB4.out hb6)
                have HP6 := Aside0.mk (blk_below HP4.out hb6)
                clear h6 hb6
                cases r6 with
                | false =>
                  go_wp2_with fail
                  go_ret
                  exact ValPost.no HB6.out
                | true =>
                  go_wp2_with fail
                  go_roundw
                  case measure =>
                    show l0_12.length - (i + 1).toNat < l0_12.length - i.toNat
                    omega
                  case rel => exact ⟨i + 1, rfl, ⟨by omega⟩, ⟨by omega⟩, HP6, HB6⟩
              · have c_ := decide_eq_false hlt
                have hp0 : (wr).cell? ⟨w.heap.size, 0, none⟩ = some (.int .i64 a0_0) := (blk_cell HP4.out 0).trans rfl
                have hpf0 := blk_frozen HP4.out 0
                have hp1 : (wr).cell? ⟨w.heap.size, 1, none⟩ = some (.int .i64 a0_1) := (blk_cell HP4.out 1).trans rfl
                have hpf1 := blk_frozen HP4.out 1
                have hp2 : (wr).cell? ⟨w.heap.size, 2, none⟩ = some (.int .i64 a0_2) := (blk_cell HP4.out 2).trans rfl
                have hpf2 := blk_frozen HP4.out 2
                have hp3 : (wr).cell? ⟨w.heap.size, 3, none⟩ = some (.int .i64 a0_3) := (blk_cell HP4.out 3).trans rfl
                have hpf3 := blk_frozen HP4.out 3
                have hp4 : (wr).cell? ⟨w.heap.size, 4, none⟩ = some (.slice A0_4 l0_4.length c0_4) := (blk_cell HP4.out 4).trans rfl
                have hpf4 := blk_frozen HP4.out 4
                have hp5 : (wr).cell? ⟨w.heap.size, 5, none⟩ = some (.int .i64 a0_5) := (blk_cell HP4.out 5).trans rfl
                have hpf5 := blk_frozen HP4.out 5
                have hp6 : (wr).cell? ⟨w.heap.size, 6, none⟩ = some (.int .i64 a0_6) := (blk_cell HP4.out 6).trans rfl
                have hpf6 := blk_frozen HP4.out 6
                have hp7 : (wr).cell? ⟨w.heap.size, 7, none⟩ = some (.int .i64 a0_7) := (blk_cell HP4.out 7).trans rfl
                have hpf7 := blk_frozen HP4.out 7
                have hp8 : (wr).cell? ⟨w.heap.size, 8, none⟩ = some (.int .i64 a0_8) := (blk_cell HP4.out 8).trans rfl
                have hpf8 := blk_frozen HP4.out 8
                have hp9 : (wr).cell? ⟨w.heap.size, 9, none⟩ = some (.slice A0_9 l0_9.length c0_9) := (blk_cell HP4.out 9).trans rfl
                have hpf9 := blk_frozen HP4.out 9
                have hp10 : (wr).cell? ⟨w.heap.size, 10, none⟩ = some (.slice A0_10 l0_10.length c0_10) := (blk_cell HP4.out 10).trans rfl
                have hpf10 := blk_frozen HP4.out 10
                have hp11 : (wr).cell? ⟨w.heap.size, 11, none⟩ = some (.slice A0_11 l0_11.length c0_11) := (blk_cell HP4.out 11).trans rfl
                have hpf11 := blk_frozen HP4.out 11
                have hp12 : (wr).cell? ⟨w.heap.size, 12, none⟩ = some (.slice A0_12 l0_12.length c0_12) := (blk_cell HP4.out 12).trans rfl
                have hpf12 := blk_frozen HP4.out 12
                go_wp2_with fail
                go_ret
                exact ⟨true, rfl, fun _ => ⟨HRB.out (by first | exact rfl | trivial), HRI.out (by first | exact rfl | trivial)⟩, HB4.out⟩
end Go.Proofs.Ytpdbhaoppdgmeaa.Pr
