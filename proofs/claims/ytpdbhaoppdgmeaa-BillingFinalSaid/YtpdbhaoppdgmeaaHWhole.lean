/- billing.Whole: the From of the whole airings, sorted, each once; it makes some memory and changes nothing that lay. -/
import Derived.Test.YtpdbhaoppdgmeaaHAir
import Derived.Test.YtpdbhaoppdgmeaaHItem
import Derived.Maps.AppendAt
import Derived.RangeFuncBox
import Derived.Test.YtpdbhaoppdgmeaaHSort
import Derived.Test.YtpdbhaoppdgmeaaHPure
namespace Go.Proofs.Ytpdbhaoppdgmeaa.Pr
open Go.RowKit Go.Shelf Go.Proofs.Ytpdbhaoppdgmeaa.Sup Go.Proofs.YtpdbhaoppdgmeaaW.PrintWords Go.Proofs.YtpdbhaoppdgmeaaW.PrintLast Go.Proofs.YtpdbhaoppdgmeaaW.PrintMore
attribute [local go_sem] max2_int min2_int max_two min_two
attribute [local go_sem] Oper.semAt_some
set_option linter.unusedVariables false
set_option linter.unusedSimpArgs false

def wholeRaw (fr : Int) (l : List S43) : List Int := (l.filter (fun r => decide (fr ≤ r.f3) && decide (r.f3 ≤ 100000000))).map (·.f2)
theorem wholeRaw_snoc (fr : Int) (l : List S43) (x : S43) : wholeRaw fr (l ++ [x]) = wholeRaw fr l ++ (if fr ≤ x.f3 ∧ x.f3 ≤ 100000000 then [x.f2] else []) := by
  unfold wholeRaw
  rw [List.filter_append, List.map_append]
  by_cases h : fr ≤ x.f3 ∧ x.f3 ≤ 100000000 <;> simp [List.filter_cons, h]
theorem wholeRaw_len (fr : Int) (l : List S43) : (wholeRaw fr l).length ≤ l.length := by
  unfold wholeRaw
  rw [List.length_map]
  exact List.length_filter_le _ _

set_option maxHeartbeats 4000000 in
set_option maxRecDepth 100000 in
theorem billing_Whole_no (a0_0 : Int) (a0_1 : Int) (a0_2 : Int) (a0_3 : Int) (A0_4 : Option Addr) (c0_4 : Nat) (l0_4 : List (S96)) (a0_5 : Int) (a0_6 : Int) (a0_7 : Int) (a0_8 : Int) (A0_9 : Option Addr) (c0_9 : Nat) (l0_9 : List (S45)) (A0_10 : Option Addr) (c0_10 : Nat) (l0_10 : List (S78)) (A0_11 : Option Addr) (c0_11 : Nat) (l0_11 : List (S59)) (A0_12 : Option Addr) (c0_12 : Nat) (l0_12 : List (S82)) (A1 : Option Addr) (c1 : Nat) (l1 : List (S43)) (a2 : Int) (a3 : Int) (w : World) (hr0_4 : Kd.C k96 w A0_4 l0_4.length l0_4) (hc0_4 : l0_4.length ≤ c0_4) (hr0_9 : Kd.C k45 w A0_9 l0_9.length l0_9) (hc0_9 : l0_9.length ≤ c0_9) (hr0_10 : Kd.C k78 w A0_10 l0_10.length l0_10) (hc0_10 : l0_10.length ≤ c0_10) (hr0_11 : Kd.C k59 w A0_11 l0_11.length l0_11) (hc0_11 : l0_11.length ≤ c0_11) (hr0_12 : Kd.C k82 w A0_12 l0_12.length l0_12) (hc0_12 : l0_12.length ≤ c0_12) (hno : ((itemOf l0_9 a2).2 && decide (1 ≤ (itemOf l0_9 a2).1.f2)) = false) :
    Calls Try.prog 15 #[.agg #[.int .i64 a0_0, .int .i64 a0_1, .int .i64 a0_2, .int .i64 a0_3, .slice A0_4 l0_4.length c0_4, .int .i64 a0_5, .int .i64 a0_6, .int .i64 a0_7, .int .i64 a0_8, .slice A0_9 l0_9.length c0_9, .slice A0_10 l0_10.length c0_10, .slice A0_11 l0_11.length c0_11, .slice A0_12 l0_12.length c0_12], .slice A1 l1.length c1, .int .i64 a2, .int .i64 a3] w fun e w' => e = .returned (.slice none 0 0) ∧ Below w.heap.size w w' := by
  have hu2 := Try.underlying32
  have hu := Try.underlying45
  have hi := fun (W : World) (hB : Below w.heap.size w W) => plan_Item.calls a0_0 a0_1 a0_2 a0_3 A0_4 c0_4 l0_4 a0_5 a0_6 a0_7 a0_8 A0_9 c0_9 l0_9 A0_10 c0_10 l0_10 A0_11 c0_11 l0_11 A0_12 c0_12 l0_12 a2 _ _ _ _ _ _ W (Kd.C_below hr0_4 hB) hc0_4 (Kd.C_below hr0_9 hB) hc0_9 (Kd.C_below hr0_10 hB) hc0_10 (Kd.C_below hr0_11 hB) hc0_11 (Kd.C_below hr0_12 hB) hc0_12 rfl
  have HI := Aside0.mk hi
  clear hi hr0_4 hc0_4 hr0_9 hc0_9 hr0_10 hc0_10 hr0_11 hc0_11 hr0_12 hc0_12
  generalize itemOf l0_9 a2 = it at *
  obtain ⟨⟨i0, i1, i2, i3, i4⟩, ib⟩ := it
  go_enter Try.func15, Try.ntmps15
  go_wp2_with fail
  refine (HI.out _ ((Below.refl _ w).alloc (Nat.le_refl _) _)).mono ?_
  rintro e w1 ⟨rfl, hb⟩
  have HB := Aside0.mk (((Below.refl _ w).alloc (Nat.le_refl _) _).trans (hb.mono (by simp)))
  have hG := hb.size
  simp only [World.size_alloc] at hG
  clear hb HI
  cases ib with
  | false =>
    go_wp2
    go_ret
    exact ⟨rfl, (by repeat (first | (with_reducible first | exact HB.out | apply below_alloc | apply pw_below_drewN | apply below_drew1 | refine below_set ?_ (Nat.le_refl _) | refine below_set ?_ (by omega)) | exact HB.out))⟩
  | true =>
    have hlt : decide (i2 < 1) = true := by simpa using hno
    have hlt' : i2 < 1 := by simpa using hno
    clear hno
    go_wp2
    go_ret
    exact ⟨rfl, (by repeat (first | (with_reducible first | exact HB.out | apply below_alloc | apply pw_below_drewN | apply below_drew1 | refine below_set ?_ (Nat.le_refl _) | refine below_set ?_ (by omega)) | exact HB.out))⟩

set_option maxHeartbeats 4000000 in
set_option maxRecDepth 100000 in
theorem billing_Whole_yes (a0_0 : Int) (a0_1 : Int) (a0_2 : Int) (a0_3 : Int) (A0_4 : Option Addr) (c0_4 : Nat) (l0_4 : List (S96)) (a0_5 : Int) (a0_6 : Int) (a0_7 : Int) (a0_8 : Int) (A0_9 : Option Addr) (c0_9 : Nat) (l0_9 : List (S45)) (A0_10 : Option Addr) (c0_10 : Nat) (l0_10 : List (S78)) (A0_11 : Option Addr) (c0_11 : Nat) (l0_11 : List (S59)) (A0_12 : Option Addr) (c0_12 : Nat) (l0_12 : List (S82)) (A1 : Option Addr) (c1 : Nat) (l1 : List (S43)) (a2 : Int) (a3 : Int) (w : World) (hr0_4 : Kd.C k96 w A0_4 l0_4.length l0_4) (hc0_4 : l0_4.length ≤ c0_4) (hr0_9 : Kd.C k45 w A0_9 l0_9.length l0_9) (hc0_9 : l0_9.length ≤ c0_9) (hr0_10 : Kd.C k78 w A0_10 l0_10.length l0_10) (hc0_10 : l0_10.length ≤ c0_10) (hr0_11 : Kd.C k59 w A0_11 l0_11.length l0_11) (hc0_11 : l0_11.length ≤ c0_11) (hr0_12 : Kd.C k82 w A0_12 l0_12.length l0_12) (hc0_12 : l0_12.length ≤ c0_12) (hr1 : Kd.C k43 w A1 l1.length l1) (hlen : l1.length ≤ 17592186044415)
    (hyes : ((itemOf l0_9 a2).2 && decide (1 ≤ (itemOf l0_9 a2).1.f2)) = true) (r : List Int) (hres : r = Lib.compact ((wholeRaw (itemOf l0_9 a2).1.f2 (airs a0_0 a2 a3 l1)).mergeSort fun x y => decide (x ≤ y))) :
    Calls Try.prog 15 #[.agg #[.int .i64 a0_0, .int .i64 a0_1, .int .i64 a0_2, .int .i64 a0_3, .slice A0_4 l0_4.length c0_4, .int .i64 a0_5, .int .i64 a0_6, .int .i64 a0_7, .int .i64 a0_8, .slice A0_9 l0_9.length c0_9, .slice A0_10 l0_10.length c0_10, .slice A0_11 l0_11.length c0_11, .slice A0_12 l0_12.length c0_12], .slice A1 l1.length c1, .int .i64 a2, .int .i64 a3] w fun e w' => ∃ v0_ : Value, e = .returned v0_ ∧ Kd.R (Kd.int .i64) 3 w' w.heap.size (fun _ => True) v0_ r ∧ Below w.heap.size w w' := by
  have hu2 := Try.underlying32
  have hu := Try.underlying45
  have huR := Try.underlying43
  have hi := fun (W : World) (hB : Below w.heap.size w W) => plan_Item.calls a0_0 a0_1 a0_2 a0_3 A0_4 c0_4 l0_4 a0_5 a0_6 a0_7 a0_8 A0_9 c0_9 l0_9 A0_10 c0_10 l0_10 A0_11 c0_11 l0_11 A0_12 c0_12 l0_12 a2 _ _ _ _ _ _ W (Kd.C_below hr0_4 hB) hc0_4 (Kd.C_below hr0_9 hB) hc0_9 (Kd.C_below hr0_10 hB) hc0_10 (Kd.C_below hr0_11 hB) hc0_11 (Kd.C_below hr0_12 hB) hc0_12 rfl
  have HI := Aside0.mk hi
  have HR := Aside0.mk hr1
  clear hi hr1 hr0_4 hc0_4 hr0_9 hc0_9 hr0_10 hc0_10 hr0_11 hc0_11 hr0_12 hc0_12
  generalize itemOf l0_9 a2 = it at *
  obtain ⟨⟨i0, i1, i2, i3, i4⟩, ib⟩ := it
  have HRES := Aside0.mk hres
  clear hres
  simp only [Bool.and_eq_true, decide_eq_true_eq] at hyes
  obtain ⟨rfl, hi2⟩ := hyes
  have hlt : decide (i2 < 1) = false := by simp; omega
  refine (callsIn_wide (n := 6)).1 ?_
  refine callsIn_of_wp_marks Try.func15 rfl trivial ?_ rfl
  simp only [Try.ntmps15, List.size_toArray, List.length_cons, List.length_nil, Nat.reduceAdd, Nat.reduceSub, Array.replicate_succ, Array.replicate_zero, List.push_toArray, List.append_toArray, List.nil_append, List.cons_append]
  gi_wp2_with fail
  refine ⟨trivial, (callsIn_wide.2 (HI.out _ ((Below.refl _ w).alloc (Nat.le_refl _) _))).mono ?_⟩
  rintro e w1 ⟨rfl, hb⟩
  have HB := Aside0.mk (((Below.refl _ w).alloc (Nat.le_refl _) _).trans (hb.mono (by simp)))
  have hG := hb.size
  simp only [World.size_alloc] at hG
  have HP1 := Aside0.mk (blk_below (new1 w _) hb)
  have hGl : w.heap.size < w1.heap.size := by omega
  clear hb HI hG
  have hp0 : (w1).cell? ⟨w.heap.size, 0, none⟩ = some (.int .i64 a0_0) := (blk_cell HP1.out 0).trans rfl
  have hpf0 := blk_frozen HP1.out 0
  have hp1 : (w1).cell? ⟨w.heap.size, 1, none⟩ = some (.int .i64 a0_1) := (blk_cell HP1.out 1).trans rfl
  have hpf1 := blk_frozen HP1.out 1
  have hp2 : (w1).cell? ⟨w.heap.size, 2, none⟩ = some (.int .i64 a0_2) := (blk_cell HP1.out 2).trans rfl
  have hpf2 := blk_frozen HP1.out 2
  have hp3 : (w1).cell? ⟨w.heap.size, 3, none⟩ = some (.int .i64 a0_3) := (blk_cell HP1.out 3).trans rfl
  have hpf3 := blk_frozen HP1.out 3
  have hp4 : (w1).cell? ⟨w.heap.size, 4, none⟩ = some (.slice A0_4 l0_4.length c0_4) := (blk_cell HP1.out 4).trans rfl
  have hpf4 := blk_frozen HP1.out 4
  have hp5 : (w1).cell? ⟨w.heap.size, 5, none⟩ = some (.int .i64 a0_5) := (blk_cell HP1.out 5).trans rfl
  have hpf5 := blk_frozen HP1.out 5
  have hp6 : (w1).cell? ⟨w.heap.size, 6, none⟩ = some (.int .i64 a0_6) := (blk_cell HP1.out 6).trans rfl
  have hpf6 := blk_frozen HP1.out 6
  have hp7 : (w1).cell? ⟨w.heap.size, 7, none⟩ = some (.int .i64 a0_7) := (blk_cell HP1.out 7).trans rfl
  have hpf7 := blk_frozen HP1.out 7
  have hp8 : (w1).cell? ⟨w.heap.size, 8, none⟩ = some (.int .i64 a0_8) := (blk_cell HP1.out 8).trans rfl
  have hpf8 := blk_frozen HP1.out 8
  have hp9 : (w1).cell? ⟨w.heap.size, 9, none⟩ = some (.slice A0_9 l0_9.length c0_9) := (blk_cell HP1.out 9).trans rfl
  have hpf9 := blk_frozen HP1.out 9
  have hp10 : (w1).cell? ⟨w.heap.size, 10, none⟩ = some (.slice A0_10 l0_10.length c0_10) := (blk_cell HP1.out 10).trans rfl
  have hpf10 := blk_frozen HP1.out 10
  have hp11 : (w1).cell? ⟨w.heap.size, 11, none⟩ = some (.slice A0_11 l0_11.length c0_11) := (blk_cell HP1.out 11).trans rfl
  have hpf11 := blk_frozen HP1.out 11
  have hp12 : (w1).cell? ⟨w.heap.size, 12, none⟩ = some (.slice A0_12 l0_12.length c0_12) := (blk_cell HP1.out 12).trans rfl
  have hpf12 := blk_frozen HP1.out 12
  gi_wp2_with ((refine ⟨trivial, ?_⟩); gi_at_call 32; refine (callsIn_wide.2 (airings.calls a0_0 a0_1 a0_2 a0_3 A0_4 c0_4 l0_4 a0_5 a0_6 a0_7 a0_8 A0_9 c0_9 l0_9 A0_10 c0_10 l0_10 A0_11 c0_11 l0_11 A0_12 c0_12 l0_12 A1 c1 l1 a2 a3 _)).mono ?_; rintro e w2 ⟨Bl, Bp, Ba, rfl, HBl, HBp, HBa, HG, HB1⟩)
  have hsz := HB1.out.size
  simp only [World.size_alloc] at hsz
  have HB2 := Aside0.mk (((HB.out.alloc (by omega) (.cells #[.int .i64 i0, .int .i64 i1, .int .i64 i2, .int .i64 i3, .int .i64 i4] 45)).alloc (by simp; omega) (.cells #[.slice none 0 0] 53)).trans (HB1.out.mono (by simp; omega)))
  have HX := Aside0.mk (blk_below (blk_alloc (new1 w1 (.cells #[.int .i64 i0, .int .i64 i1, .int .i64 i2, .int .i64 i3, .int .i64 i4] 45)) (.cells #[.slice none 0 0] 53)) HB1.out)
  have HV := Aside0.mk (blk_below (new2 w1 (.cells #[.int .i64 i0, .int .i64 i1, .int .i64 i2, .int .i64 i3, .int .i64 i4] 45) (.cells #[.slice none 0 0] 53)) HB1.out)
  obtain ⟨g1, g2, g3⟩ := HG.out
  simp only [World.size_alloc] at g1 g2 g3
  have gl1 := blk_lt HBl.out
  have gl2 := blk_lt HBp.out
  have gl3 := blk_lt HBa.out
  have HP2 := Aside0.mk (blk_below (blk_alloc (blk_alloc HP1.out (.cells #[.int .i64 i0, .int .i64 i1, .int .i64 i2, .int .i64 i3, .int .i64 i4] 45)) (.cells #[.slice none 0 0] 53)) HB1.out)
  clear hp0 hpf0 hp1 hpf1 hp2 hpf2 hp3 hpf3 hp4 hpf4 hp5 hpf5 hp6 hpf6 hp7 hpf7 hp8 hpf8 hp9 hpf9 hp10 hpf10 hp11 hpf11 hp12 hpf12 HP1 HB1 HB HG
  refine range_box (by omega) (gf := 45) (lb := #[.pointer (some ⟨Bl, 0, none⟩), .pointer (some ⟨Bp, 0, none⟩), .pointer (some ⟨Ba, 0, none⟩)]) rfl (enters_of Try.func45 (by kernel_rfl) rfl)
    (airings1_stops 5 (by omega) w w2 HB2.out Bl Bp Ba a0_0 a0_1 a0_2 a0_3 A0_4 c0_4 l0_4 a0_5 a0_6 a0_7 a0_8 A0_9 c0_9 l0_9 A0_10 c0_10 l0_10 A0_11 c0_11 l0_11 A0_12 c0_12 l0_12 A1 c1 l1 a2 a3 HBl.out HBp.out HBa.out HR.out) (by omega) (by intro b hb; simp at hb; omega) (Below.refl _ _) (fun _ => rfl)
    (fun pre W => ∃ v, Aside0 (W.heap[w1.heap.size + 1]? = some (.cells #[v] 53 (0, 0))) ∧ Aside0 (W.ownsRow w2.heap.size 3 1 v (wholeRaw i2 pre).length (nums .i64 (wholeRaw i2 pre))) ∧ Aside0 (W.heap[w1.heap.size]? = some (.cells #[.int .i64 i0, .int .i64 i1, .int .i64 i2, .int .i64 i3, .int .i64 i4] 45 (0, 0))) ∧ Aside0 (Below w.heap.size w W) ∧ Aside0 (w2.heap.size ≤ W.heap.size)) (fun _ _ _ => False) ?hI ?hIx ?hIs ?h0
    (fun x => #[.int .i64 x.f0, .int .i64 x.f1, .int .i64 x.f2, .int .i64 x.f3, .int .i64 x.f4, .int .i64 x.f5]) 43 ?a1 ?assign ?body ?done ?stop
  case hI =>
    rintro s A B row ⟨v, h1, h2, h3, h4, h5⟩ hg hr
    exact ⟨v, ⟨kept_cells hg hr h1.out⟩, ⟨kept_own hg hr h2.out⟩, ⟨kept_cells hg hr h3.out⟩, ⟨kept_below hg hr (Nat.le_refl _) (by omega) h4.out⟩, ⟨Nat.le_trans h5.out hg.size⟩⟩
  case hIx => exact fun _ _ _ _ _ hs _ _ => hs
  case hIs => exact fun pre W ⟨_, _, _, _, _, h5⟩ => h5.out
  case h0 => exact ⟨_, HV, ⟨own_nil _ _ _ _⟩, HX, HB2, ⟨Nat.le_refl _⟩⟩
  case assign =>
    intro l x W K B hB hK
    have hK' := Aside0.mk hK
    have hB' := Aside0.mk hB
    clear hK hB
    simp only [encRec]
    gi_wp2
    rw [hB'.out]
    exact hK'.out
  case body =>
    rintro l pre x Bx W ⟨v, h1, h2, h3, h4, h5⟩ hBx hx hlt
    have hx0 : (W).cell? ⟨Bx, 0, none⟩ = some (.int .i64 x.f0) := (blk_cell hx 0).trans rfl
    have hxf0 := blk_frozen hx 0
    have hx1 : (W).cell? ⟨Bx, 1, none⟩ = some (.int .i64 x.f1) := (blk_cell hx 1).trans rfl
    have hxf1 := blk_frozen hx 1
    have hx2 : (W).cell? ⟨Bx, 2, none⟩ = some (.int .i64 x.f2) := (blk_cell hx 2).trans rfl
    have hxf2 := blk_frozen hx 2
    have hx3 : (W).cell? ⟨Bx, 3, none⟩ = some (.int .i64 x.f3) := (blk_cell hx 3).trans rfl
    have hxf3 := blk_frozen hx 3
    have hx4 : (W).cell? ⟨Bx, 4, none⟩ = some (.int .i64 x.f4) := (blk_cell hx 4).trans rfl
    have hxf4 := blk_frozen hx 4
    have hx5 : (W).cell? ⟨Bx, 5, none⟩ = some (.int .i64 x.f5) := (blk_cell hx 5).trans rfl
    have hxf5 := blk_frozen hx 5
    have hi0 : (W).cell? ⟨w1.heap.size, 0, none⟩ = some (.int .i64 i0) := (blk_cell h3.out 0).trans rfl
    have hif0 := blk_frozen h3.out 0
    have hi1 : (W).cell? ⟨w1.heap.size, 1, none⟩ = some (.int .i64 i1) := (blk_cell h3.out 1).trans rfl
    have hif1 := blk_frozen h3.out 1
    have hi2 : (W).cell? ⟨w1.heap.size, 2, none⟩ = some (.int .i64 i2) := (blk_cell h3.out 2).trans rfl
    have hif2 := blk_frozen h3.out 2
    have hi3 : (W).cell? ⟨w1.heap.size, 3, none⟩ = some (.int .i64 i3) := (blk_cell h3.out 3).trans rfl
    have hif3 := blk_frozen h3.out 3
    have hi4 : (W).cell? ⟨w1.heap.size, 4, none⟩ = some (.int .i64 i4) := (blk_cell h3.out 4).trans rfl
    have hif4 := blk_frozen h3.out 4
    have hv0 : (W).cell? ⟨w1.heap.size + 1, 0, none⟩ = some (v) := (blk_cell h1.out 0).trans rfl
    have hvf0 := blk_frozen h1.out 0
    have hln := wholeRaw_len i2 pre
    have hsn := Aside0.mk (wholeRaw_snoc i2 pre x)
    have hs5 := h5.out
    clear hx
    by_cases e1 : i2 ≤ x.f3
    · have t1 : decide (x.f3 ≥ i2) = true := decide_eq_true e1
      by_cases e2 : x.f3 ≤ 100000000
      · have t2 : decide (x.f3 ≤ 100000000) = true := decide_eq_true e2
        have hsn' := Aside0.mk (show wholeRaw i2 (pre ++ [x]) = wholeRaw i2 pre ++ [x.f2] by rw [hsn.out]; simp [e1, e2])
        obtain ⟨inf, hinf, hz0, hz1, hz2⟩ := info_parts info3
        have hlen2 : (wholeRaw i2 pre).length + 1 ≤ 17592186044415 := by omega
        gi_wp2_with (gi_at_builtin; refine wpListIn_append_own _ rfl _ _ 53 rfl w2.heap.size 3 inf (.int .i64 0) 1 8 Try.underlying53 hinf hz0 hz1 hz2 rfl (by decide) _ _ _ rfl (h2.out.alloc _) ⟨W.heap.size, 0, none⟩ 1 1 [.int .i64 x.f2] rfl rfl (cell_one_new _ _ _) (by simp [Value.oneCell']) (by unfold maxLen; omega) (by omega) (by simp; omega) ?_; intro v' w' hown' hgrow _; obtain ⟨g', cap', rfl⟩ := ownsRow_succ hown'; have AP := Aside0.mk (box_appended (n₀ := w.heap.size) (bs := [Bl, Bp, Ba]) h1.out h2.out (by omega) h5.out (by omega) (by intro b hb; simp at hb; omega) hown' hgrow); have hc1 := (blk_cell AP.out.1 0).trans rfl; have hf1 := blk_frozen AP.out.1 0)
        exact ⟨AP.out.2.2.2.1.from _, AP.out.2.2.2.2.1, _, ⟨AP.out.2.1⟩, ⟨by rw [hsn'.out, List.length_append, nums_append]; exact AP.out.2.2.1⟩, ⟨(AP.out.2.2.2.2.2 w1.heap.size (by omega) (by omega)).trans h3.out⟩, ⟨h4.out.trans AP.out.2.2.2.2.1.1⟩, ⟨Nat.le_trans h5.out AP.out.2.2.2.2.1.1.size⟩⟩
      · have t2 : decide (x.f3 ≤ 100000000) = false := decide_eq_false e2
        have hsn' := Aside0.mk (show wholeRaw i2 (pre ++ [x]) = wholeRaw i2 pre by rw [hsn.out]; simp [e2])
        gi_wp2
        refine ⟨KeepsFrom.refl _ _, KeepB.refl _ _ W, v, h1, ⟨by rw [hsn'.out]; exact h2.out⟩, h3, h4, h5⟩
    · have t1 : decide (x.f3 ≥ i2) = false := decide_eq_false e1
      have hsn' := Aside0.mk (show wholeRaw i2 (pre ++ [x]) = wholeRaw i2 pre by rw [hsn.out]; simp [e1])
      gi_wp2
      refine ⟨KeepsFrom.refl _ _, KeepB.refl _ _ W, v, h1, ⟨by rw [hsn'.out]; exact h2.out⟩, h3, h4, h5⟩
  case done =>
    rintro D ys W hD rfl ⟨v, h1, h2, h3, h4, h5⟩ hK
    have hq := Aside0.mk hK
    clear hK
    have hln := wholeRaw_len i2 (airs a0_0 a2 a3 l1)
    have hla := List.length_filter_le (isAir a0_0 a2 a3) l1
    have hlb : (wholeRaw i2 (airs a0_0 a2 a3 l1)).length ≤ 140737488355328 := by unfold airs at *; omega
    generalize wholeRaw i2 (airs a0_0 a2 a3 l1) = raw at *
    have hv0 : (W).cell? ⟨w1.heap.size + 1, 0, none⟩ = some (v) := (blk_cell h1.out 0).trans rfl
    have hvf0 := blk_frozen h1.out 0
    gi_wp2_with fail
    refine ⟨trivial, (callsIn_wide.2 (sort_own w2.heap.size v raw W h2.out hlb)).mono ?_⟩
    rintro e w3 ⟨rfl, s1, s2⟩
    have v3 := Aside0.mk (grown_low h2.out s2.out (by omega) h1.out)
    have q3 := Aside0.mk (grown_other h2.out s2.out hq.out rfl)
    have B3 := Aside0.mk (grown_below h2.out s2.out (by omega) (Nat.le_refl _) h4.out)
    generalize hsrt : raw.mergeSort (fun x y => decide (x ≤ y)) = srt at *
    have hsl : srt.length = raw.length := by rw [← hsrt]; simp
    clear hsrt hv0 hvf0
    rw [← hsl] at s1
    have hv0 : (w3).cell? ⟨w1.heap.size + 1, 0, none⟩ = some (v) := (blk_cell v3.out 0).trans rfl
    have hvf0 := blk_frozen v3.out 0
    have hsl' := Nat.le_of_eq hsl
    clear hsl
    gi_wp2_with fail
    refine ⟨trivial, (callsIn_wide.2 (compact_own w2.heap.size v srt w3 s1.out (by omega))).mono ?_⟩
    rintro e w4 ⟨v', rfl, c1, c2, c3⟩
    have q4 := Aside0.mk (grown_other s1.out c2.out q3.out rfl)
    have B4 := Aside0.mk (grown_below s1.out c2.out (by omega) (Nat.le_refl _) B3.out)
    clear c3
    gi_wp2
    refine ⟨by simp, .inl ⟨_, _, rfl, run_takeDeferred q4.out, ?_⟩⟩
    refine ⟨_, results_tmp rfl _ _ _, _, rfl, ?_, B4.out.trans (belowK_b (w := w) (Nat.le_refl _) w4 D _ _ (by have := B4.out.size; omega) q4.out rfl rfl)⟩
    have hown := ownsRow_putObj c1.out (.deferred none) q4.out rfl
    rw [HRES.out]
    exact Kd.R_of_own (own_weaken hown (by omega)) (fun _ _ => trivial)
  case stop =>
    rintro D c pre W _ _ h _
    exact h.elim

def wholeOf (items : List S45) (ch : Int) (l : List S43) (item region : Int) : List Int :=
  if ((itemOf items item).2 && decide (1 ≤ (itemOf items item).1.f2)) = true then sortU (wholeRaw (itemOf items item).1.f2 (airs ch item region l)) else []
def billing_Whole.f (a0_0 : Int) (a0_1 : Int) (a0_2 : Int) (a0_3 : Int) (l0_4 : List (S96)) (a0_5 : Int) (a0_6 : Int) (a0_7 : Int) (a0_8 : Int) (l0_9 : List (S45)) (l0_10 : List (S78)) (l0_11 : List (S59)) (l0_12 : List (S82)) (l1 : List (S43)) (a2 : Int) (a3 : Int) : Option (List Int) := if l1.length ≤ 17592186044415 then some (wholeOf l0_9 a0_0 l1 a2 a3) else none

theorem billing_Whole.calls (a0_0 : Int) (a0_1 : Int) (a0_2 : Int) (a0_3 : Int) (A0_4 : Option Addr) (c0_4 : Nat) (l0_4 : List (S96)) (a0_5 : Int) (a0_6 : Int) (a0_7 : Int) (a0_8 : Int) (A0_9 : Option Addr) (c0_9 : Nat) (l0_9 : List (S45)) (A0_10 : Option Addr) (c0_10 : Nat) (l0_10 : List (S78)) (A0_11 : Option Addr) (c0_11 : Nat) (l0_11 : List (S59)) (A0_12 : Option Addr) (c0_12 : Nat) (l0_12 : List (S82)) (A1 : Option Addr) (c1 : Nat) (l1 : List (S43)) (a2 : Int) (a3 : Int) (r : List Int) (w : World) (hr0_4 : Kd.C k96 w A0_4 l0_4.length l0_4) (hc0_4 : l0_4.length ≤ c0_4) (hr0_9 : Kd.C k45 w A0_9 l0_9.length l0_9) (hc0_9 : l0_9.length ≤ c0_9) (hr0_10 : Kd.C k78 w A0_10 l0_10.length l0_10) (hc0_10 : l0_10.length ≤ c0_10) (hr0_11 : Kd.C k59 w A0_11 l0_11.length l0_11) (hc0_11 : l0_11.length ≤ c0_11) (hr0_12 : Kd.C k82 w A0_12 l0_12.length l0_12) (hc0_12 : l0_12.length ≤ c0_12) (hr1 : Kd.C k43 w A1 l1.length l1) (hc1 : l1.length ≤ c1) (h : billing_Whole.f a0_0 a0_1 a0_2 a0_3 l0_4 a0_5 a0_6 a0_7 a0_8 l0_9 l0_10 l0_11 l0_12 l1 a2 a3 = some r) :
    Calls Try.prog 15 #[.agg #[.int .i64 a0_0, .int .i64 a0_1, .int .i64 a0_2, .int .i64 a0_3, .slice A0_4 l0_4.length c0_4, .int .i64 a0_5, .int .i64 a0_6, .int .i64 a0_7, .int .i64 a0_8, .slice A0_9 l0_9.length c0_9, .slice A0_10 l0_10.length c0_10, .slice A0_11 l0_11.length c0_11, .slice A0_12 l0_12.length c0_12], .slice A1 l1.length c1, .int .i64 a2, .int .i64 a3] w fun e w' => ∃ v0_ : Value, e = .returned v0_ ∧ Kd.R (Kd.int .i64) 3 w' w.heap.size (fun _ => True) v0_ r ∧ Below w.heap.size w w' := by
  unfold billing_Whole.f at h
  split at h
  case isFalse => cases h
  rename_i hlen
  simp only [Option.some.injEq] at h
  subst h
  unfold wholeOf
  by_cases hy : ((itemOf l0_9 a2).2 && decide (1 ≤ (itemOf l0_9 a2).1.f2)) = true
  · rw [if_pos hy]
    exact billing_Whole_yes a0_0 a0_1 a0_2 a0_3 A0_4 c0_4 l0_4 a0_5 a0_6 a0_7 a0_8 A0_9 c0_9 l0_9 A0_10 c0_10 l0_10 A0_11 c0_11 l0_11 A0_12 c0_12 l0_12 A1 c1 l1 a2 a3 w hr0_4 hc0_4 hr0_9 hc0_9 hr0_10 hc0_10 hr0_11 hc0_11 hr0_12 hc0_12 hr1 hlen hy _ (compact_sort _).symm
  · rw [if_neg hy]
    refine (billing_Whole_no a0_0 a0_1 a0_2 a0_3 A0_4 c0_4 l0_4 a0_5 a0_6 a0_7 a0_8 A0_9 c0_9 l0_9 A0_10 c0_10 l0_10 A0_11 c0_11 l0_11 A0_12 c0_12 l0_12 A1 c1 l1 a2 a3 w hr0_4 hc0_4 hr0_9 hc0_9 hr0_10 hc0_10 hr0_11 hc0_11 hr0_12 hc0_12 (by simpa using hy)).mono ?_
    rintro e w' ⟨rfl, hb⟩
    exact ⟨_, rfl, Kd.R_nil _ _ _ _ _, hb⟩
end Go.Proofs.Ytpdbhaoppdgmeaa.Pr
