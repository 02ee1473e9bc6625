/- onairref08.bookings, walked by hand. (Printed by wip/bookings.py.) -/
import Derived.Test.YtpdbhaoppdgmeaaHRefI
import Derived.Test.YtpdbhaoppdgmeaaHServe
namespace Go.Proofs.Ytpdbhaoppdgmeaa.Pr
open Go.RowKit Go.Proofs.Ytpdbhaoppdgmeaa.Sup Go.Proofs.YtpdbhaoppdgmeaaW.PrintWords Go.Proofs.YtpdbhaoppdgmeaaW.PrintLast Go.Proofs.YtpdbhaoppdgmeaaW.PrintMore
set_option linter.unusedVariables false
set_option linter.unusedSimpArgs false

def BkGood (b : S59) : Prop := 0 ≤ b.f3 ∧ b.f3 < b.f4 ∧ b.f4 ≤ b.f5
theorem rd_bk0 (l : List S59) (i : Nat) (h : i < l.length) : rd_T59 l (i : Int) = l[i] := by simp [rd_T59, List.getD_eq_getElem?_getD, h]
theorem below_tr4 {a b c : World} (h : Below a.heap.size a b) (k : Below b.heap.size b c) : Below a.heap.size a c := h.trans (k.mono h.size)
set_option maxHeartbeats 16000000 in
set_option maxRecDepth 100000 in
theorem bookings.calls (a0_0 : Int) (a0_1 : Int) (a0_2 : Int) (a0_3 : Int) (A0_4 : Option Addr) (c0_4 : Nat) (l0_4 : List (S96)) (a0_5 : Int) (a0_6 : Int) (a0_7 : Int) (a0_8 : Int) (A0_9 : Option Addr) (c0_9 : Nat) (l0_9 : List (S45)) (A0_10 : Option Addr) (c0_10 : Nat) (l0_10 : List (S78)) (A0_11 : Option Addr) (c0_11 : Nat) (l0_11 : List (S59)) (A0_12 : Option Addr) (c0_12 : Nat) (l0_12 : List (S82)) (w : World) (hr0_4 : Kd.C k96 w A0_4 l0_4.length l0_4) (hc0_4 : l0_4.length ≤ c0_4) (hr0_9 : Kd.C k45 w A0_9 l0_9.length l0_9) (hc0_9 : l0_9.length ≤ c0_9) (hr0_10 : Kd.C k78 w A0_10 l0_10.length l0_10) (hc0_10 : l0_10.length ≤ c0_10) (hr0_11 : Kd.C k59 w A0_11 l0_11.length l0_11) (hc0_11 : l0_11.length ≤ c0_11) (hr0_12 : Kd.C k82 w A0_12 l0_12.length l0_12) (hc0_12 : l0_12.length ≤ c0_12) (hli : l0_9.length ≤ 1099511627776) :
    Calls Try.prog 28 #[.agg #[.int .i64 a0_0, .int .i64 a0_1, .int .i64 a0_2, .int .i64 a0_3, .slice A0_4 l0_4.length c0_4, .int .i64 a0_5, .int .i64 a0_6, .int .i64 a0_7, .int .i64 a0_8, .slice A0_9 l0_9.length c0_9, .slice A0_10 l0_10.length c0_10, .slice A0_11 l0_11.length c0_11, .slice A0_12 l0_12.length c0_12]] w fun e w' => ∃ r : Bool, e = .returned (.bool r) ∧ (r = true → ∀ x ∈ l0_11, BkGood x) ∧ Below w.heap.size w w' := by
  have hu := Try.underlying59
  have huQ := Try.underlying32
  have huI := Try.underlying45
  have hi := fun (W : World) (hB : Below w.heap.size w W) (id : Int) => onairref08_Item.calls (l0_9.length + 1) a0_0 a0_1 a0_2 a0_3 A0_4 c0_4 l0_4 a0_5 a0_6 a0_7 a0_8 A0_9 c0_9 l0_9 A0_10 c0_10 l0_10 A0_11 c0_11 l0_11 A0_12 c0_12 l0_12 id _ _ _ _ _ _ W (Kd.C_below hr0_4 hB) hc0_4 (Kd.C_below hr0_9 hB) hc0_9 (Kd.C_below hr0_10 hB) hc0_10 (Kd.C_below hr0_11 hB) hc0_11 (Kd.C_below hr0_12 hB) hc0_12 (ref_Item a0_0 a0_1 a0_2 a0_3 l0_4 a0_5 a0_6 a0_7 a0_8 l0_9 l0_10 l0_11 l0_12 id hli _ (Nat.le_refl _))
  have HI := Aside0.mk hi
  have HBK := Aside0.mk hr0_11
  clear hi hr0_4 hc0_4 hr0_9 hc0_9 hr0_10 hc0_10 hr0_11 hc0_11 hr0_12 hc0_12
  have hm : l0_11.length ≤ 9223372036854775807 := Kd.C_max HBK.out
  have HPL := Aside0.mk (new1 w (.cells #[.int .i64 a0_0, .int .i64 a0_1, .int .i64 a0_2, .int .i64 a0_3, .slice A0_4 l0_4.length c0_4, .int .i64 a0_5, .int .i64 a0_6, .int .i64 a0_7, .int .i64 a0_8, .slice A0_9 l0_9.length c0_9, .slice A0_10 l0_10.length c0_10, .slice A0_11 l0_11.length c0_11, .slice A0_12 l0_12.length c0_12] 32))
  have HB0 := Aside0.mk (below_alloc (Below.refl _ w) (.cells #[.int .i64 a0_0, .int .i64 a0_1, .int .i64 a0_2, .int .i64 a0_3, .slice A0_4 l0_4.length c0_4, .int .i64 a0_5, .int .i64 a0_6, .int .i64 a0_7, .int .i64 a0_8, .slice A0_9 l0_9.length c0_9, .slice A0_10 l0_10.length c0_10, .slice A0_11 l0_11.length c0_11, .slice A0_12 l0_12.length c0_12] 32))
  go_enter Try.func28, Try.ntmps28
  by_cases hbig : (2000 : Int) < (l0_11.length : Int)
  · have c_ := decide_eq_true hbig
    go_wp2_with fail
    go_ret
    exact ⟨false, rfl, fun e => by (cases e), HB0.out⟩
  have c_ := decide_eq_false hbig
  go_wp2_with fail
  clear c_
  go_loopw [3, 4] (fun v3 v4 wr => ∃ (last i : Int), v3 = .int .i64 last ∧ v4 = .int .i64 i ∧ Aside0 (0 ≤ i) ∧ Aside0 (i ≤ l0_11.length) ∧ Aside0 (wr.heap[w.heap.size]? = some (.cells #[.int .i64 a0_0, .int .i64 a0_1, .int .i64 a0_2, .int .i64 a0_3, .slice A0_4 l0_4.length c0_4, .int .i64 a0_5, .int .i64 a0_6, .int .i64 a0_7, .int .i64 a0_8, .slice A0_9 l0_9.length c0_9, .slice A0_10 l0_10.length c0_10, .slice A0_11 l0_11.length c0_11, .slice A0_12 l0_12.length c0_12] 32 (0, 0))) ∧ Aside0 (Below w.heap.size w wr) ∧ Aside0 (∀ j (h : j < l0_11.length), j < i.toNat → BkGood l0_11[j])) (fun _ v4 _ => l0_11.length - (intOf v4).toNat)
  case atStart => exact ⟨0, 0, rfl, rfl, ⟨Int.le_refl _⟩, ⟨by omega⟩, HPL, HB0, ⟨fun j h hj => by simp at hj⟩⟩
  case round =>
    clear HPL HB0
    obtain ⟨last, i, rfl, rfl, I0, I1, HP, HB, HG⟩ := hrel
    have hi0 := I0.out
    have hi1 := I1.out
    by_cases hlt : i < (l0_11.length : Int)
    · skip
      obtain ⟨ad, e_, hx0, hx1, hx2, hx3, hx4, hx5, hx6⟩ := at_T59 HBK.out i hi0 hlt
      cases e_
      replace hx0 := ((HB.out).cell (World.block_lt_of_cell? _ _ hx0)).trans hx0
      replace hx1 := ((HB.out).cell (World.block_lt_of_cell? _ _ hx1)).trans hx1
      replace hx2 := ((HB.out).cell (World.block_lt_of_cell? _ _ hx2)).trans hx2
      replace hx3 := ((HB.out).cell (World.block_lt_of_cell? _ _ hx3)).trans hx3
      replace hx4 := ((HB.out).cell (World.block_lt_of_cell? _ _ hx4)).trans hx4
      replace hx5 := ((HB.out).cell (World.block_lt_of_cell? _ _ hx5)).trans hx5
      replace hx6 := ((HB.out).cell (World.block_lt_of_cell? _ _ hx6)).trans hx6
      have hp0 : (wr).cell? ⟨w.heap.size, 0, none⟩ = some (.int .i64 a0_0) := (blk_cell HP.out 0).trans rfl
      have hpf0 := blk_frozen HP.out 0
      have hp1 : (wr).cell? ⟨w.heap.size, 1, none⟩ = some (.int .i64 a0_1) := (blk_cell HP.out 1).trans rfl
      have hpf1 := blk_frozen HP.out 1
      have hp2 : (wr).cell? ⟨w.heap.size, 2, none⟩ = some (.int .i64 a0_2) := (blk_cell HP.out 2).trans rfl
      have hpf2 := blk_frozen HP.out 2
      have hp3 : (wr).cell? ⟨w.heap.size, 3, none⟩ = some (.int .i64 a0_3) := (blk_cell HP.out 3).trans rfl
      have hpf3 := blk_frozen HP.out 3
      have hp4 : (wr).cell? ⟨w.heap.size, 4, none⟩ = some (.slice A0_4 l0_4.length c0_4) := (blk_cell HP.out 4).trans rfl
      have hpf4 := blk_frozen HP.out 4
      have hp5 : (wr).cell? ⟨w.heap.size, 5, none⟩ = some (.int .i64 a0_5) := (blk_cell HP.out 5).trans rfl
      have hpf5 := blk_frozen HP.out 5
      have hp6 : (wr).cell? ⟨w.heap.size, 6, none⟩ = some (.int .i64 a0_6) := (blk_cell HP.out 6).trans rfl
      have hpf6 := blk_frozen HP.out 6
      have hp7 : (wr).cell? ⟨w.heap.size, 7, none⟩ = some (.int .i64 a0_7) := (blk_cell HP.out 7).trans rfl
      have hpf7 := blk_frozen HP.out 7
      have hp8 : (wr).cell? ⟨w.heap.size, 8, none⟩ = some (.int .i64 a0_8) := (blk_cell HP.out 8).trans rfl
      have hpf8 := blk_frozen HP.out 8
      have hp9 : (wr).cell? ⟨w.heap.size, 9, none⟩ = some (.slice A0_9 l0_9.length c0_9) := (blk_cell HP.out 9).trans rfl
      have hpf9 := blk_frozen HP.out 9
      have hp10 : (wr).cell? ⟨w.heap.size, 10, none⟩ = some (.slice A0_10 l0_10.length c0_10) := (blk_cell HP.out 10).trans rfl
      have hpf10 := blk_frozen HP.out 10
      have hp11 : (wr).cell? ⟨w.heap.size, 11, none⟩ = some (.slice (some ad) l0_11.length c0_11) := (blk_cell HP.out 11).trans rfl
      have hpf11 := blk_frozen HP.out 11
      have hp12 : (wr).cell? ⟨w.heap.size, 12, none⟩ = some (.slice A0_12 l0_12.length c0_12) := (blk_cell HP.out 12).trans rfl
      have hpf12 := blk_frozen HP.out 12
      have gp := blk_lt HP.out
      have p := eq_true hi0
      have q_ := eq_true hlt
      have c_ := decide_eq_true hlt
      generalize hbk : rd_T59 l0_11 i = bk at *
      have HBKE := Aside0.mk hbk
      clear hbk
      go_wp2_with fail
      refine (HI.out _ (below_alloc HB.out _) bk.f1).mono ?_
      rintro e W4 ⟨rfl, hb4⟩
      have HB4 := Aside0.mk (below_tr4 (below_alloc HB.out (.cells #[.int .i64 bk.f0, .int .i64 bk.f1, .int .i64 bk.f2, .int .i64 bk.f3, .int .i64 bk.f4, .int .i64 bk.f5, .int .i64 bk.f6] 59)) hb4)
      have HP4 := Aside0.mk (blk_below (blk_alloc HP.out (.cells #[.int .i64 bk.f0, .int .i64 bk.f1, .int .i64 bk.f2, .int .i64 bk.f3, .int .i64 bk.f4, .int .i64 bk.f5, .int .i64 bk.f6] 59)) hb4)
      have HBX := Aside0.mk (blk_below (new1 wr (.cells #[.int .i64 bk.f0, .int .i64 bk.f1, .int .i64 bk.f2, .int .i64 bk.f3, .int .i64 bk.f4, .int .i64 bk.f5, .int .i64 bk.f6] 59)) hb4)
      obtain ⟨Bx, hBx⟩ : ∃ B, B = wr.heap.size := ⟨_, rfl⟩
      rw [← hBx] at HBX ⊢
      obtain ⟨it, hit⟩ : ∃ x, x = (itemOf l0_9 bk.f1).1 := ⟨_, rfl⟩
      obtain ⟨kn, hkn⟩ : ∃ x, x = (itemOf l0_9 bk.f1).2 := ⟨_, rfl⟩
      rw [← hit, ← hkn]
      clear hit hkn hBx hb4 HP hx0 hx1 hx2 hx3 hx4 hx5 hx6 hp0 hpf0 hp1 hpf1 hp2 hpf2 hp3 hpf3 hp4 hpf4 hp5 hpf5 hp6 hpf6 hp7 hpf7 hp8 hpf8 hp9 hpf9 hp10 hpf10 hp11 hpf11 hp12 hpf12 gp
      have hp0 : (W4).cell? ⟨w.heap.size, 0, none⟩ = some (.int .i64 a0_0) := (blk_cell HP4.out 0).trans rfl
      have hpf0 := blk_frozen HP4.out 0
      have hp1 : (W4).cell? ⟨w.heap.size, 1, none⟩ = some (.int .i64 a0_1) := (blk_cell HP4.out 1).trans rfl
      have hpf1 := blk_frozen HP4.out 1
      have hp2 : (W4).cell? ⟨w.heap.size, 2, none⟩ = some (.int .i64 a0_2) := (blk_cell HP4.out 2).trans rfl
      have hpf2 := blk_frozen HP4.out 2
      have hp3 : (W4).cell? ⟨w.heap.size, 3, none⟩ = some (.int .i64 a0_3) := (blk_cell HP4.out 3).trans rfl
      have hpf3 := blk_frozen HP4.out 3
      have hp4 : (W4).cell? ⟨w.heap.size, 4, none⟩ = some (.slice A0_4 l0_4.length c0_4) := (blk_cell HP4.out 4).trans rfl
      have hpf4 := blk_frozen HP4.out 4
      have hp5 : (W4).cell? ⟨w.heap.size, 5, none⟩ = some (.int .i64 a0_5) := (blk_cell HP4.out 5).trans rfl
      have hpf5 := blk_frozen HP4.out 5
      have hp6 : (W4).cell? ⟨w.heap.size, 6, none⟩ = some (.int .i64 a0_6) := (blk_cell HP4.out 6).trans rfl
      have hpf6 := blk_frozen HP4.out 6
      have hp7 : (W4).cell? ⟨w.heap.size, 7, none⟩ = some (.int .i64 a0_7) := (blk_cell HP4.out 7).trans rfl
      have hpf7 := blk_frozen HP4.out 7
      have hp8 : (W4).cell? ⟨w.heap.size, 8, none⟩ = some (.int .i64 a0_8) := (blk_cell HP4.out 8).trans rfl
      have hpf8 := blk_frozen HP4.out 8
      have hp9 : (W4).cell? ⟨w.heap.size, 9, none⟩ = some (.slice A0_9 l0_9.length c0_9) := (blk_cell HP4.out 9).trans rfl
      have hpf9 := blk_frozen HP4.out 9
      have hp10 : (W4).cell? ⟨w.heap.size, 10, none⟩ = some (.slice A0_10 l0_10.length c0_10) := (blk_cell HP4.out 10).trans rfl
      have hpf10 := blk_frozen HP4.out 10
      have hp11 : (W4).cell? ⟨w.heap.size, 11, none⟩ = some (.slice (some ad) l0_11.length c0_11) := (blk_cell HP4.out 11).trans rfl
      have hpf11 := blk_frozen HP4.out 11
      have hp12 : (W4).cell? ⟨w.heap.size, 12, none⟩ = some (.slice A0_12 l0_12.length c0_12) := (blk_cell HP4.out 12).trans rfl
      have hpf12 := blk_frozen HP4.out 12
      have hbx0 : (W4).cell? ⟨Bx, 0, none⟩ = some (.int .i64 bk.f0) := (blk_cell HBX.out 0).trans rfl
      have hbxf0 := blk_frozen HBX.out 0
      have hbx1 : (W4).cell? ⟨Bx, 1, none⟩ = some (.int .i64 bk.f1) := (blk_cell HBX.out 1).trans rfl
      have hbxf1 := blk_frozen HBX.out 1
      have hbx2 : (W4).cell? ⟨Bx, 2, none⟩ = some (.int .i64 bk.f2) := (blk_cell HBX.out 2).trans rfl
      have hbxf2 := blk_frozen HBX.out 2
      have hbx3 : (W4).cell? ⟨Bx, 3, none⟩ = some (.int .i64 bk.f3) := (blk_cell HBX.out 3).trans rfl
      have hbxf3 := blk_frozen HBX.out 3
      have hbx4 : (W4).cell? ⟨Bx, 4, none⟩ = some (.int .i64 bk.f4) := (blk_cell HBX.out 4).trans rfl
      have hbxf4 := blk_frozen HBX.out 4
      have hbx5 : (W4).cell? ⟨Bx, 5, none⟩ = some (.int .i64 bk.f5) := (blk_cell HBX.out 5).trans rfl
      have hbxf5 := blk_frozen HBX.out 5
      have hbx6 : (W4).cell? ⟨Bx, 6, none⟩ = some (.int .i64 bk.f6) := (blk_cell HBX.out 6).trans rfl
      have hbxf6 := blk_frozen HBX.out 6
      have gp := blk_lt HP4.out
      have gx := blk_lt HBX.out
      by_cases h0 : bk.f0 ≤ last
      · have k0 := decide_eq_true h0
        go_wp2_with fail
        go_ret
        exact ⟨false, rfl, fun e => by (cases e), below_alloc HB4.out _⟩
      have k0 := decide_eq_false h0
      by_cases h1 : 1000000 < bk.f0
      · have k1 := decide_eq_true h1
        go_wp2_with fail
        go_ret
        exact ⟨false, rfl, fun e => by (cases e), below_alloc HB4.out _⟩
      have k1 := decide_eq_false h1
      cases kn with
      | false =>
        go_wp2_with fail
        go_ret
        exact ⟨false, rfl, fun e => by (cases e), below_alloc HB4.out _⟩
      | true =>
        by_cases h3 : (it.f1 == 2) = true
        rotate_left
        · have h3 : (it.f1 == 2) = false := by simpa using h3
          have b3 : (it.f1 != 2) = true := by simp [bne, h3]
          clear h3
          go_wp2_with fail
          go_ret
          exact ⟨false, rfl, fun e => by (cases e), below_alloc HB4.out _⟩
        have b3 : (it.f1 != 2) = false := by simp [bne, h3]
        clear h3
        by_cases h4 : bk.f2 < 0
        · have k4 := decide_eq_true h4
          go_wp2_with fail
          go_ret
          exact ⟨false, rfl, fun e => by (cases e), below_alloc HB4.out _⟩
        have k4 := decide_eq_false h4
        by_cases h5 : a0_6 ≤ bk.f2
        · have k5 := decide_eq_true h5
          go_wp2_with fail
          go_ret
          exact ⟨false, rfl, fun e => by (cases e), below_alloc HB4.out _⟩
        have k5 := decide_eq_false h5
        by_cases h6 : bk.f3 < 0
        · have k6 := decide_eq_true h6
          go_wp2_with fail
          go_ret
          exact ⟨false, rfl, fun e => by (cases e), below_alloc HB4.out _⟩
        have k6 := decide_eq_false h6
        by_cases h7 : bk.f4 ≤ bk.f3
        · have k7 := decide_eq_true h7
          go_wp2_with fail
          go_ret
          exact ⟨false, rfl, fun e => by (cases e), below_alloc HB4.out _⟩
        have k7 := decide_eq_false h7
        by_cases h8 : bk.f5 < bk.f4
        · have k8 := decide_eq_true h8
          go_wp2_with fail
          go_ret
          exact ⟨false, rfl, fun e => by (cases e), below_alloc HB4.out _⟩
        have k8 := decide_eq_false h8
        by_cases h9 : 100000000 < bk.f5
        · have k9 := decide_eq_true h9
          go_wp2_with fail
          go_ret
          exact ⟨false, rfl, fun e => by (cases e), below_alloc HB4.out _⟩
        have k9 := decide_eq_false h9
        by_cases h10 : bk.f6 < 0
        · have k10 := decide_eq_true h10
          go_wp2_with fail
          go_ret
          exact ⟨false, rfl, fun e => by (cases e), below_alloc HB4.out _⟩
        have k10 := decide_eq_false h10
        by_cases h11 : 1000000000 < bk.f6
        · have k11 := decide_eq_true h11
          go_wp2_with fail
          go_ret
          exact ⟨false, rfl, fun e => by (cases e), below_alloc HB4.out _⟩
        have k11 := decide_eq_false h11
        go_wp2_with fail
        go_roundw
        case measure =>
          show l0_11.length - (i + 1).toNat < l0_11.length - i.toNat
          omega
        case rel =>
          refine ⟨bk.f0, i + 1, rfl, rfl, ⟨by omega⟩, ⟨by omega⟩, ⟨blk_alloc HP4.out _⟩, ⟨below_alloc HB4.out _⟩, ⟨fun j h hj => ?_⟩⟩
          by_cases e : j < i.toNat
          · exact HG.out j h e
          · have ej : j = i.toNat := by omega
            subst ej
            have e2 := rd_bk0 l0_11 i.toNat h
            rw [Int.toNat_of_nonneg hi0, HBKE.out] at e2
            rw [← e2]
            exact ⟨by omega, by omega, by omega⟩
    · have c_ := decide_eq_false hlt
      have hp0 : (wr).cell? ⟨w.heap.size, 0, none⟩ = some (.int .i64 a0_0) := (blk_cell HP.out 0).trans rfl
      have hpf0 := blk_frozen HP.out 0
      have hp1 : (wr).cell? ⟨w.heap.size, 1, none⟩ = some (.int .i64 a0_1) := (blk_cell HP.out 1).trans rfl
      have hpf1 := blk_frozen HP.out 1
      have hp2 : (wr).cell? ⟨w.heap.size, 2, none⟩ = some (.int .i64 a0_2) := (blk_cell HP.out 2).trans rfl
      have hpf2 := blk_frozen HP.out 2
      have hp3 : (wr).cell? ⟨w.heap.size, 3, none⟩ = some (.int .i64 a0_3) := (blk_cell HP.out 3).trans rfl
      have hpf3 := blk_frozen HP.out 3
      have hp4 : (wr).cell? ⟨w.heap.size, 4, none⟩ = some (.slice A0_4 l0_4.length c0_4) := (blk_cell HP.out 4).trans rfl
      have hpf4 := blk_frozen HP.out 4
      have hp5 : (wr).cell? ⟨w.heap.size, 5, none⟩ = some (.int .i64 a0_5) := (blk_cell HP.out 5).trans rfl
      have hpf5 := blk_frozen HP.out 5
      have hp6 : (wr).cell? ⟨w.heap.size, 6, none⟩ = some (.int .i64 a0_6) := (blk_cell HP.out 6).trans rfl
      have hpf6 := blk_frozen HP.out 6
      have hp7 : (wr).cell? ⟨w.heap.size, 7, none⟩ = some (.int .i64 a0_7) := (blk_cell HP.out 7).trans rfl
      have hpf7 := blk_frozen HP.out 7
      have hp8 : (wr).cell? ⟨w.heap.size, 8, none⟩ = some (.int .i64 a0_8) := (blk_cell HP.out 8).trans rfl
      have hpf8 := blk_frozen HP.out 8
      have hp9 : (wr).cell? ⟨w.heap.size, 9, none⟩ = some (.slice A0_9 l0_9.length c0_9) := (blk_cell HP.out 9).trans rfl
      have hpf9 := blk_frozen HP.out 9
      have hp10 : (wr).cell? ⟨w.heap.size, 10, none⟩ = some (.slice A0_10 l0_10.length c0_10) := (blk_cell HP.out 10).trans rfl
      have hpf10 := blk_frozen HP.out 10
      have hp11 : (wr).cell? ⟨w.heap.size, 11, none⟩ = some (.slice A0_11 l0_11.length c0_11) := (blk_cell HP.out 11).trans rfl
      have hpf11 := blk_frozen HP.out 11
      have hp12 : (wr).cell? ⟨w.heap.size, 12, none⟩ = some (.slice A0_12 l0_12.length c0_12) := (blk_cell HP.out 12).trans rfl
      have hpf12 := blk_frozen HP.out 12
      go_wp2_with fail
      refine bodyPost_ret (results_tmp rfl _ _ _) rfl ?_
      refine .inr ⟨rfl, fun x hx => ?_, HB.out⟩
      obtain ⟨j, hj, rfl⟩ := List.getElem_of_mem hx
      exact HG.out j hj (by omega)
end Go.Proofs.Ytpdbhaoppdgmeaa.Pr
