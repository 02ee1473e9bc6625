/- plan.Item finds the first item of the plan with the given number; it makes some memory and changes nothing that lay. -/
import Derived.Test.YtpdbhaoppdgmeaaPr0
import Derived.Test.YtpdbhaoppdgmeaaHSup
namespace Go.Proofs.Ytpdbhaoppdgmeaa.Pr
open Go.RowKit Go.Proofs.Ytpdbhaoppdgmeaa.Sup Go.Proofs.YtpdbhaoppdgmeaaW.PrintWords Go.Proofs.YtpdbhaoppdgmeaaW.PrintLast Go.Proofs.YtpdbhaoppdgmeaaW.PrintMore
attribute [local go_sem] max2_int min2_int max_two min_two
set_option linter.unusedVariables false
set_option linter.unusedSimpArgs false

def itemOf (l : List S45) (id : Int) : S45 × Bool :=
  match l.find? (fun x => x.f0 == id) with
  | some x => (x, true)
  | none => (z45, false)

theorem itemOf_hit (l : List S45) (id : Int) (k : Nat) (hk : k < l.length) (hno : ∀ j, j < k → ((rd_T45 l (j : Int)).f0 == id) = false) (hit : ((rd_T45 l (k : Int)).f0 == id) = true) : itemOf l id = (rd_T45 l (k : Int), true) := by
  have h : l.find? (fun x => x.f0 == id) = some (rd_T45 l (k : Int)) := by
    rw [List.find?_eq_some_iff_getElem]
    refine ⟨hit, k, hk, by simp [rd_T45, List.getD_eq_getElem?_getD, hk], fun j hj => ?_⟩
    have := hno j hj
    simpa [rd_T45, List.getD_eq_getElem?_getD, show j < l.length by omega] using this
  simp [itemOf, h]
theorem itemOf_miss (l : List S45) (id : Int) (hno : ∀ j, j < l.length → ((rd_T45 l (j : Int)).f0 == id) = false) : itemOf l id = (z45, false) := by
  have h : l.find? (fun x => x.f0 == id) = none := by
    rw [List.find?_eq_none]
    intro x hx
    obtain ⟨j, hj, rfl⟩ := List.getElem_of_mem hx
    have := hno j hj
    simp [rd_T45, List.getD_eq_getElem?_getD, hj] at this
    simpa using this
  simp [itemOf, h]

set_option maxHeartbeats 1000000 in
set_option maxRecDepth 100000 in
theorem plan_find.calls (A0 : Option Addr) (c0 : Nat) (l0 : List S45) (id : Int) (w : World) (hr0 : Kd.C k45 w A0 l0.length l0) (hc0 : l0.length ≤ c0) :
    Calls Try.prog 43 #[.slice A0 l0.length c0, .int .i64 id, .func (.func 44) #[] #[]] w fun e w' =>
      e = .returned (.tuple #[.agg #[.int .i64 (itemOf l0 id).1.f0, .int .i64 (itemOf l0 id).1.f1, .int .i64 (itemOf l0 id).1.f2, .int .i64 (itemOf l0 id).1.f3, .int .i64 (itemOf l0 id).1.f4], .bool (itemOf l0 id).2]) ∧ Below w.heap.size w w' := by
  have hu := Try.underlying45
  have hm : l0.length ≤ 9223372036854775807 := Kd.C_max hr0
  have HR0 := Aside0.mk hr0
  have HC0 := Aside0.mk hc0
  clear hr0 hc0
  go_enter Try.func43, Try.ntmps43
  go_wp2
  go_loopw [13] (fun i wr => ∃ k : Int, i = .int .i64 k ∧ Aside0 (0 ≤ k) ∧ Aside0 (k ≤ l0.length) ∧ Aside0 (∀ j : Nat, (j : Int) < k → ((rd_T45 l0 (j : Int)).f0 == id) = false) ∧ Aside0 (wr.heap[w.heap.size]? = some (.cells #[.int .i64 0, .int .i64 0, .int .i64 0, .int .i64 0, .int .i64 0] 45 (0, 0))) ∧ Aside0 (Below w.heap.size w wr)) (fun i _ => l0.length - (intOf i).toNat)
  case atStart => exact ⟨0, rfl, ⟨by omega⟩, ⟨by omega⟩, ⟨fun j hj => by omega⟩, ⟨(heap_alloc_new w _)⟩, ⟨(Below.refl _ w).alloc (Nat.le_refl _) _⟩⟩
  case round =>
    obtain ⟨k, rfl, HK0, HK, HN, BK, HB⟩ := hrel
    have hk := HK.out
    have hk0 := HK0.out
    have hG := blk_lt BK.out
    by_cases hlt : k < (l0.length : Int)
    ·
      obtain ⟨ad, e_, hx0, hx1, hx2, hx3, hx4⟩ := at_T45 HR0.out k hk0 hlt
      cases e_
      replace hx0 := ((HB.out).cell (World.block_lt_of_cell? _ _ hx0)).trans hx0
      replace hx1 := ((HB.out).cell (World.block_lt_of_cell? _ _ hx1)).trans hx1
      replace hx2 := ((HB.out).cell (World.block_lt_of_cell? _ _ hx2)).trans hx2
      replace hx3 := ((HB.out).cell (World.block_lt_of_cell? _ _ hx3)).trans hx3
      replace hx4 := ((HB.out).cell (World.block_lt_of_cell? _ _ hx4)).trans hx4
      have hz0 : (wr).cell? ⟨w.heap.size, 0, none⟩ = some (.int .i64 0) := (blk_cell BK.out 0).trans rfl
      have hzf0 := blk_frozen BK.out 0
      have hz1 : (wr).cell? ⟨w.heap.size, 1, none⟩ = some (.int .i64 0) := (blk_cell BK.out 1).trans rfl
      have hzf1 := blk_frozen BK.out 1
      have hz2 : (wr).cell? ⟨w.heap.size, 2, none⟩ = some (.int .i64 0) := (blk_cell BK.out 2).trans rfl
      have hzf2 := blk_frozen BK.out 2
      have hz3 : (wr).cell? ⟨w.heap.size, 3, none⟩ = some (.int .i64 0) := (blk_cell BK.out 3).trans rfl
      have hzf3 := blk_frozen BK.out 3
      have hz4 : (wr).cell? ⟨w.heap.size, 4, none⟩ = some (.int .i64 0) := (blk_cell BK.out 4).trans rfl
      have hzf4 := blk_frozen BK.out 4
      have p := eq_true hk0
      have q := eq_true hlt
      have c := decide_eq_true hlt
      by_cases hit : ((rd_T45 l0 k).f0 == id) = true
      · go_wp2
        have hi := itemOf_hit l0 id k.toNat (by omega) (fun j hj => HN.out j (by omega)) (by rw [Int.toNat_of_nonneg hk0]; exact hit)
        rw [Int.toNat_of_nonneg hk0] at hi
        refine bodyPost_ret (results_ct rfl _ _ w.heap.size 45 #[.int .i64 (rd_T45 l0 k).f0, .int .i64 (rd_T45 l0 k).f1, .int .i64 (rd_T45 l0 k).f2, .int .i64 (rd_T45 l0 k).f3, .int .i64 (rd_T45 l0 k).f4] (0, 0) _ rfl (blk_alloc (blk_alloc (blk_put5 BK.out) _) _) hu rfl (by kernel_rfl)) rfl ⟨?_, ?_⟩
        · rw [hi]; rfl
        · exact (by repeat (first | (with_reducible first | exact HB.out | apply below_alloc | apply pw_below_drewN | apply below_drew1 | refine below_set ?_ (Nat.le_refl _)) | exact HB.out))
      · have hit' : ((rd_T45 l0 k).f0 == id) = false := by simpa using hit
        clear hit
        go_wp2
        go_roundw
        case rel => exact ⟨k + 1, rfl, ⟨by omega⟩, ⟨by omega⟩, ⟨fun j hj => by
          by_cases e : (j : Int) = k
          · rw [e]; exact hit'
          · exact HN.out j (by omega)⟩, ⟨blk_alloc (blk_alloc BK.out _) _⟩, ⟨(by repeat (first | (with_reducible first | exact HB.out | apply below_alloc | apply pw_below_drewN | apply below_drew1 | refine below_set ?_ (Nat.le_refl _)) | exact HB.out))⟩⟩
        case measure => simp [intOf]; omega
    ·
      have hz0 : (wr).cell? ⟨w.heap.size, 0, none⟩ = some (.int .i64 0) := (blk_cell BK.out 0).trans rfl
      have hzf0 := blk_frozen BK.out 0
      have hz1 : (wr).cell? ⟨w.heap.size, 1, none⟩ = some (.int .i64 0) := (blk_cell BK.out 1).trans rfl
      have hzf1 := blk_frozen BK.out 1
      have hz2 : (wr).cell? ⟨w.heap.size, 2, none⟩ = some (.int .i64 0) := (blk_cell BK.out 2).trans rfl
      have hzf2 := blk_frozen BK.out 2
      have hz3 : (wr).cell? ⟨w.heap.size, 3, none⟩ = some (.int .i64 0) := (blk_cell BK.out 3).trans rfl
      have hzf3 := blk_frozen BK.out 3
      have hz4 : (wr).cell? ⟨w.heap.size, 4, none⟩ = some (.int .i64 0) := (blk_cell BK.out 4).trans rfl
      have hzf4 := blk_frozen BK.out 4
      go_wp2
      have hi := itemOf_miss l0 id (fun j hj => HN.out j (by omega))
      refine bodyPost_ret (results_ct rfl _ _ w.heap.size 45 #[.int .i64 0, .int .i64 0, .int .i64 0, .int .i64 0, .int .i64 0] (0, 0) _ rfl (blk_alloc (blk_put5 BK.out) _) hu rfl (by kernel_rfl)) rfl ⟨?_, ?_⟩
      · rw [hi]; rfl
      · exact (by repeat (first | (with_reducible first | exact HB.out | apply below_alloc | apply pw_below_drewN | apply below_drew1 | refine below_set ?_ (Nat.le_refl _)) | exact HB.out))
def plan_Item.f (a0_0 : Int) (a0_1 : Int) (a0_2 : Int) (a0_3 : Int) (l0_4 : List (S96)) (a0_5 : Int) (a0_6 : Int) (a0_7 : Int) (a0_8 : Int) (l0_9 : List (S45)) (l0_10 : List (S78)) (l0_11 : List (S59)) (l0_12 : List (S82)) (a1 : Int) : Option (Int × Int × Int × Int × Int × Bool) :=
  some ((itemOf l0_9 a1).1.f0, (itemOf l0_9 a1).1.f1, (itemOf l0_9 a1).1.f2, (itemOf l0_9 a1).1.f3, (itemOf l0_9 a1).1.f4, (itemOf l0_9 a1).2)

set_option maxHeartbeats 1000000 in
set_option maxRecDepth 100000 in
theorem plan_Item.calls (a0_0 : Int) (a0_1 : Int) (a0_2 : Int) (a0_3 : Int) (A0_4 : Option Addr) (c0_4 : Nat) (l0_4 : List (S96)) (a0_5 : Int) (a0_6 : Int) (a0_7 : Int) (a0_8 : Int) (A0_9 : Option Addr) (c0_9 : Nat) (l0_9 : List (S45)) (A0_10 : Option Addr) (c0_10 : Nat) (l0_10 : List (S78)) (A0_11 : Option Addr) (c0_11 : Nat) (l0_11 : List (S59)) (A0_12 : Option Addr) (c0_12 : Nat) (l0_12 : List (S82)) (a1 : Int) (r1 r2 r3 r4 r5 : Int) (r6 : Bool) (w : World) (hr0_4 : Kd.C k96 w A0_4 l0_4.length l0_4) (hc0_4 : l0_4.length ≤ c0_4) (hr0_9 : Kd.C k45 w A0_9 l0_9.length l0_9) (hc0_9 : l0_9.length ≤ c0_9) (hr0_10 : Kd.C k78 w A0_10 l0_10.length l0_10) (hc0_10 : l0_10.length ≤ c0_10) (hr0_11 : Kd.C k59 w A0_11 l0_11.length l0_11) (hc0_11 : l0_11.length ≤ c0_11) (hr0_12 : Kd.C k82 w A0_12 l0_12.length l0_12) (hc0_12 : l0_12.length ≤ c0_12) (h : plan_Item.f a0_0 a0_1 a0_2 a0_3 l0_4 a0_5 a0_6 a0_7 a0_8 l0_9 l0_10 l0_11 l0_12 a1 = some (r1, r2, r3, r4, r5, r6)) :
    Calls Try.prog 31 #[.agg #[.int .i64 a0_0, .int .i64 a0_1, .int .i64 a0_2, .int .i64 a0_3, .slice A0_4 l0_4.length c0_4, .int .i64 a0_5, .int .i64 a0_6, .int .i64 a0_7, .int .i64 a0_8, .slice A0_9 l0_9.length c0_9, .slice A0_10 l0_10.length c0_10, .slice A0_11 l0_11.length c0_11, .slice A0_12 l0_12.length c0_12], .int .i64 a1] w fun e w' => e = .returned (.tuple #[.agg #[.int .i64 r1, .int .i64 r2, .int .i64 r3, .int .i64 r4, .int .i64 r5], .bool r6]) ∧ Below w.heap.size w w' := by
  have hu := Try.underlying45
  have hu2 := Try.underlying32
  simp only [plan_Item.f, Option.some.injEq, Prod.mk.injEq] at h
  obtain ⟨rfl, rfl, rfl, rfl, rfl, rfl⟩ := h
  have HR := Aside0.mk hr0_9
  have HC := Aside0.mk hc0_9
  clear hr0_4 hc0_4 hr0_9 hc0_9 hr0_10 hc0_10 hr0_11 hc0_11 hr0_12 hc0_12
  go_enter Try.func31, Try.ntmps31
  go_wp2_with fail
  refine (plan_find.calls A0_9 c0_9 l0_9 a1 _ (Kd.C_below HR.out ?_) HC.out).mono ?_
  · exact ((Below.refl _ w).alloc (Nat.le_refl _) _).alloc (by simp) _
  rintro e w1 ⟨rfl, hb⟩
  have BK := blk_below (new2 w _ _) hb
  have HB := Aside0.mk ((((Below.refl _ w).alloc (Nat.le_refl _) _).alloc (by simp) _).trans (hb.mono (by simp; omega)))
  clear HR HC
  have hz0 : (w1).cell? ⟨w.heap.size + 1, 0, none⟩ = some (.int .i64 0) := (blk_cell BK 0).trans rfl
  have hzf0 := blk_frozen BK 0
  have hz1 : (w1).cell? ⟨w.heap.size + 1, 1, none⟩ = some (.int .i64 0) := (blk_cell BK 1).trans rfl
  have hzf1 := blk_frozen BK 1
  have hz2 : (w1).cell? ⟨w.heap.size + 1, 2, none⟩ = some (.int .i64 0) := (blk_cell BK 2).trans rfl
  have hzf2 := blk_frozen BK 2
  have hz3 : (w1).cell? ⟨w.heap.size + 1, 3, none⟩ = some (.int .i64 0) := (blk_cell BK 3).trans rfl
  have hzf3 := blk_frozen BK 3
  have hz4 : (w1).cell? ⟨w.heap.size + 1, 4, none⟩ = some (.int .i64 0) := (blk_cell BK 4).trans rfl
  have hzf4 := blk_frozen BK 4
  have hG := blk_lt BK
  have BK' := Aside0.mk BK
  clear BK hb
  go_wp2_with fail
  refine bodyPost_ret (results_ct rfl _ _ (w.heap.size + 1) 45 #[.int .i64 (itemOf l0_9 a1).1.f0, .int .i64 (itemOf l0_9 a1).1.f1, .int .i64 (itemOf l0_9 a1).1.f2, .int .i64 (itemOf l0_9 a1).1.f3, .int .i64 (itemOf l0_9 a1).1.f4] (0, 0) _ rfl (blk_put5 BK'.out) hu rfl (by kernel_rfl)) rfl ⟨rfl, (by repeat (first | (with_reducible first | exact HB.out | apply below_alloc | apply pw_below_drewN | apply below_drew1 | refine below_set ?_ (Nat.le_refl _) | refine below_set ?_ (by omega)) | exact HB.out))⟩
end Go.Proofs.Ytpdbhaoppdgmeaa.Pr
