-- Printed by wip/prn.py, a driver of this session over the kit's printer.
import Derived.Test.YtpdbhaoppdgmeaaPr0
import Derived.Test.YtpdbhaoppdgmeaaPr3
namespace Go.Proofs.Ytpdbhaoppdgmeaa.Pr
open Go.RowKit Go.Proofs.YtpdbhaoppdgmeaaW.PrintWords Go.Proofs.YtpdbhaoppdgmeaaW.PrintLast Go.Proofs.YtpdbhaoppdgmeaaW.PrintMore
attribute [local go_sem] max2_int min2_int max_two min_two max_three min_three max_four min_four   -- for this text's walks alone
set_option linter.unusedVariables false
set_option linter.unusedSimpArgs false

/-! ### onairref06_Valid: function 30 -/
mutual
def onairref06_Valid.j0 : Nat → Bool → Int → Int → Int → Int → Int → Int → Int → Int → Option (Bool)
  | 0, _, _, _, _, _, _, _, _, _ => none
  | k + 1, x3, x272000, x272001, x272002, x272003, x272004, x272005, x272006, x272007 => if x272000 = 1 then (onairref06_Valid.j1 k x3 x272000 (x272000 == 1) x272000 x272001 x272002 x272003 x272004 x272005 x272006 x272007) else (onairref06_Valid.j1 k x3 x272000 (x272000 == 2) x272000 x272001 x272002 x272003 x272004 x272005 x272006 x272007)
def onairref06_Valid.j1 : Nat → Bool → Int → Bool → Int → Int → Int → Int → Int → Int → Int → Int → Option (Bool)
  | 0, _, _, _, _, _, _, _, _, _, _, _ => none
  | k + 1, x3, x15, x16, x272000, x272001, x272002, x272003, x272004, x272005, x272006, x272007 => if x16 = true then (if x3 = true then (if x272002 ≥ 0 then (if x272002 < x272003 then (if x272003 ≤ 10000000000 then (if x272005 = 0 then (if x272006 = 0 then (some (x272007 == 0)) else (some false)) else (some false)) else (some false)) else (some false)) else (some false)) else (some false)) else (if x15 = 3 then (if x3 = true then ((onairref06_within.f x272005 0 1000).bind fun t274 => (if t274 = true then (if x272002 = 0 then (if x272003 = 0 then (if x272006 = 0 then (some (x272007 == 0)) else (some false)) else (some false)) else (some false)) else (some false))) else (some false)) else (if x15 = 4 then (if x3 = true then ((onairref06_within.f x272005 0 10000000000).bind fun t275 => (if t275 = true then (if x272002 = 0 then (if x272003 = 0 then (if x272006 = 0 then (some (x272007 == 0)) else (some false)) else (some false)) else (some false)) else (some false))) else (some false)) else (if x15 = 5 then ((onairref06_within.f x272006 1 200).bind fun t276 => (if t276 = true then ((onairref06_within.f x272007 1 200).bind fun t277 => (if t277 = true then (if x272006 = x272007 then (some false) else ((onairref06_within.f x272005 0 86400).bind fun t278 => (if t278 = true then (if x272001 = 0 then (if x272002 = 0 then (if x272003 = 0 then (some (x272004 == 0)) else (some false)) else (some false)) else (some false)) else (some false)))) else (some false))) else (some false))) else (if x15 = 6 then ((onairref06_within.f x272002 0 86340).bind fun t279 => (if t279 = true then ((onairref06_within.f x272003 0 86340).bind fun t280 => (if t280 = true then (if (Int.tmod x272002 60) = 0 then (if (Int.tmod x272003 60) = 0 then (if x272002 = x272003 then (some false) else ((onairref06_within.f x272006 1 3).bind fun t281 => (if t281 = true then (if x272001 = 0 then (if x272004 = 0 then (if x272005 = 0 then (some (x272007 == 0)) else (some false)) else (some false)) else (some false)) else (some false)))) else (some false)) else (some false)) else (some false))) else (some false))) else (some false)))))
end
def onairref06_Valid.f (k : Nat) (a0_0 : Int) (a0_1 : Int) (a0_2 : Int) (a0_3 : Int) (a0_4 : Int) (a0_5 : Int) (a0_6 : Int) (a0_7 : Int) : Option (Bool) := (onairref06_within.f a0_1 1 4611686018427387903).bind fun t272 => (if t272 = true then ((onairref06_within.f a0_4 1 255).bind fun t273 => (onairref06_Valid.j0 k t273 a0_0 a0_1 a0_2 a0_3 a0_4 a0_5 a0_6 a0_7)) else (onairref06_Valid.j0 k false a0_0 a0_1 a0_2 a0_3 a0_4 a0_5 a0_6 a0_7))
theorem onairref06_Valid.mono_l : ∀ k, (∀ y0 y1 y2 y3 y4 y5 y6 y7 y8, LeO (onairref06_Valid.j0 k y0 y1 y2 y3 y4 y5 y6 y7 y8) (onairref06_Valid.j0 (k + 1) y0 y1 y2 y3 y4 y5 y6 y7 y8)) ∧ (∀ y0 y1 y2 y3 y4 y5 y6 y7 y8 y9 y10, LeO (onairref06_Valid.j1 k y0 y1 y2 y3 y4 y5 y6 y7 y8 y9 y10) (onairref06_Valid.j1 (k + 1) y0 y1 y2 y3 y4 y5 y6 y7 y8 y9 y10))
  | 0 => ⟨fun _ _ _ _ _ _ _ _ _ r h => by simp [onairref06_Valid.j0] at h, fun _ _ _ _ _ _ _ _ _ _ _ r h => by simp [onairref06_Valid.j1] at h⟩
  | k + 1 => by
    obtain ⟨ih0, ih1⟩ := onairref06_Valid.mono_l k
    refine ⟨?_, ?_⟩
    · intro y0 y1 y2 y3 y4 y5 y6 y7 y8
      unfold onairref06_Valid.j0
      repeat' first
      | (with_reducible exact ih0 _ _ _ _ _ _ _ _ _)
      | (with_reducible exact ih1 _ _ _ _ _ _ _ _ _ _ _)
      | (with_reducible exact LeO.refl _)
      | (with_reducible exact LeO.none _)
      | (with_reducible refine LeO.ite ?_ ?_)
      | (with_reducible refine LeO.bind ?_ (fun _ => ?_))
      | exact ih0 _ _ _ _ _ _ _ _ _
      | exact ih1 _ _ _ _ _ _ _ _ _ _ _
      | exact LeO.none _
      | refine LeO.ite ?_ ?_
      | refine LeO.bind ?_ (fun _ => ?_)
    · intro y0 y1 y2 y3 y4 y5 y6 y7 y8 y9 y10
      unfold onairref06_Valid.j1
      repeat' first
      | (with_reducible exact ih0 _ _ _ _ _ _ _ _ _)
      | (with_reducible exact ih1 _ _ _ _ _ _ _ _ _ _ _)
      | (with_reducible exact LeO.refl _)
      | (with_reducible exact LeO.none _)
      | (with_reducible refine LeO.ite ?_ ?_)
      | (with_reducible refine LeO.bind ?_ (fun _ => ?_))
      | exact ih0 _ _ _ _ _ _ _ _ _
      | exact ih1 _ _ _ _ _ _ _ _ _ _ _
      | exact LeO.none _
      | refine LeO.ite ?_ ?_
      | refine LeO.bind ?_ (fun _ => ?_)
theorem onairref06_Valid.mono : ∀ a0 a1 a2 a3 a4 a5 a6 a7 k, LeO (onairref06_Valid.f k a0 a1 a2 a3 a4 a5 a6 a7) (onairref06_Valid.f (k + 1) a0 a1 a2 a3 a4 a5 a6 a7) := by
  intro a0 a1 a2 a3 a4 a5 a6 a7 k
  obtain ⟨ih0, ih1⟩ := onairref06_Valid.mono_l k
  unfold onairref06_Valid.f
  repeat' first
      | (with_reducible exact ih0 _ _ _ _ _ _ _ _ _)
      | (with_reducible exact ih1 _ _ _ _ _ _ _ _ _ _ _)
      | (with_reducible exact LeO.refl _)
      | (with_reducible exact LeO.none _)
      | (with_reducible refine LeO.ite ?_ ?_)
      | (with_reducible refine LeO.bind ?_ (fun _ => ?_))
      | exact ih0 _ _ _ _ _ _ _ _ _
      | exact ih1 _ _ _ _ _ _ _ _ _ _ _
      | exact LeO.none _
      | refine LeO.ite ?_ ?_
      | refine LeO.bind ?_ (fun _ => ?_)
set_option maxHeartbeats 8000000 in
set_option maxRecDepth 100000 in
theorem onairref06_Valid.calls (k : Nat) (a0_0 : Int) (a0_1 : Int) (a0_2 : Int) (a0_3 : Int) (a0_4 : Int) (a0_5 : Int) (a0_6 : Int) (a0_7 : Int) (r : Bool) (w : World) (h : onairref06_Valid.f k a0_0 a0_1 a0_2 a0_3 a0_4 a0_5 a0_6 a0_7 = some r) :
    Calls Try.prog 30 #[.agg #[.int .i64 a0_0, .int .i64 a0_1, .int .i64 a0_2, .int .i64 a0_3, .int .i64 a0_4, .int .i64 a0_5, .int .i64 a0_6, .int .i64 a0_7]] w fun e w' => e = .returned (.bool r) ∧ Below w.heap.size w w' := by
  have hu82 := Try.underlying82
  have HB := Aside0.mk (Below.refl w.heap.size w)
  have H : ((onairref06_within.f a0_1 1 4611686018427387903).bind fun t272 => (if t272 = true then ((onairref06_within.f a0_4 1 255).bind fun t273 => (onairref06_Valid.j0 k t273 a0_0 a0_1 a0_2 a0_3 a0_4 a0_5 a0_6 a0_7)) else (onairref06_Valid.j0 k false a0_0 a0_1 a0_2 a0_3 a0_4 a0_5 a0_6 a0_7))) = some r := h
  clear h
  have HC2 := Aside0.mk H
  clear H
  go_enter Try.func30, Try.ntmps30
  go_upto_region 1 with (first | ((with_reducible refine gate_dst (N := 1) rfl ?_); refine box_event ?hg (N := 1) ?hd (cs := #[.int .i64 a0_0, .int .i64 a0_1, .int .i64 a0_2, .int .i64 a0_3, .int .i64 a0_4, .int .i64 a0_5, .int .i64 a0_6, .int .i64 a0_7]) (t := 82) ?hr ?_; (case hd => rfl); (case hg => rfl); (case hr => first | (go_simp; done) | (go_simp; rfl)); intro gb271 hg w3 hbox hb; have n0_ := Aside0.mk (below_step (by repeat (first | (with_reducible first | exact HB.out | apply below_alloc | apply pw_below_drewN | apply below_drew1) | exact HB.out)) hb); have n1_ := Aside0.mk (hbox); have n2_ := Aside0.mk ((by rw [hg]; exact (below_size (by repeat (first | (with_reducible first | exact HB.out | apply below_alloc | apply pw_below_drewN | apply below_drew1) | exact HB.out))) : w.heap.size ≤ gb271)); have n3_ := Aside0.mk ((by rw [hg]; exact (below_size (by repeat (first | (with_reducible first | exact HB.out | apply below_alloc | apply pw_below_drewN | apply below_drew1) | exact HB.out))) : w.heap.size ≤ gb271)); clear HB; have HB := n0_; have BK271 := n1_; have GW271 := n2_; have GE271 := n3_; clear n0_ n1_ n2_ n3_; clear hb hbox hg))
  (try simp only [Act.put, List.setIfInBounds_toArray, List.set_cons_zero, List.set_cons_succ])
  go_cut [3] (fun v3 wc => ∃ (kq : Nat) (x3_1 : Bool), v3 = .bool x3_1 ∧ Aside0 (onairref06_Valid.j0 kq x3_1 a0_0 a0_1 a0_2 a0_3 a0_4 a0_5 a0_6 a0_7 = some r) ∧ Aside0 (kq ≤ k) ∧ Aside0 (wc.heap[gb271]? = some (.cells #[.int .i64 a0_0, .int .i64 a0_1, .int .i64 a0_2, .int .i64 a0_3, .int .i64 a0_4, .int .i64 a0_5, .int .i64 a0_6, .int .i64 a0_7] 82 (0, 0))) ∧ Aside0 (Below w.heap.size w wc))
  case first =>
    have H := HC2.out
    clear HC2
    replace H := Option.bind_eq_some_iff.mp H
    obtain ⟨t272, A40, H⟩ := H
    replace H : (if t272 = true then ((onairref06_within.f a0_4 1 255).bind fun t273 => (onairref06_Valid.j0 k t273 a0_0 a0_1 a0_2 a0_3 a0_4 a0_5 a0_6 a0_7)) else (onairref06_Valid.j0 k false a0_0 a0_1 a0_2 a0_3 a0_4 a0_5 a0_6 a0_7)) = some r := H
    have A4 := Aside0.mk A40
    clear A40
    by_cases c5 : t272 = true
    · subst c5
      have H1 : ((onairref06_within.f a0_4 1 255).bind fun t273 => (onairref06_Valid.j0 k t273 a0_0 a0_1 a0_2 a0_3 a0_4 a0_5 a0_6 a0_7)) = some r := by rw [if_pos rfl] at H; exact H
      clear H
      have H := H1
      clear H1
      replace H := Option.bind_eq_some_iff.mp H
      obtain ⟨t273, A60, H⟩ := H
      replace H : (onairref06_Valid.j0 k t273 a0_0 a0_1 a0_2 a0_3 a0_4 a0_5 a0_6 a0_7) = some r := H
      have A6 := Aside0.mk A60
      clear A60
      have H' := Aside0.mk H
      clear H
      have hcz7_0 : w3.cell? ⟨gb271, 0, none⟩ = some (.int .i64 a0_0) := (blk_cell BK271.out 0).trans rfl
      have hcz7_1 : w3.cell? ⟨gb271, 1, none⟩ = some (.int .i64 a0_1) := (blk_cell BK271.out 1).trans rfl
      have hcz7_2 : w3.cell? ⟨gb271, 2, none⟩ = some (.int .i64 a0_2) := (blk_cell BK271.out 2).trans rfl
      have hcz7_3 : w3.cell? ⟨gb271, 3, none⟩ = some (.int .i64 a0_3) := (blk_cell BK271.out 3).trans rfl
      have hcz7_4 : w3.cell? ⟨gb271, 4, none⟩ = some (.int .i64 a0_4) := (blk_cell BK271.out 4).trans rfl
      have hcz7_5 : w3.cell? ⟨gb271, 5, none⟩ = some (.int .i64 a0_5) := (blk_cell BK271.out 5).trans rfl
      have hcz7_6 : w3.cell? ⟨gb271, 6, none⟩ = some (.int .i64 a0_6) := (blk_cell BK271.out 6).trans rfl
      have hcz7_7 : w3.cell? ⟨gb271, 7, none⟩ = some (.int .i64 a0_7) := (blk_cell BK271.out 7).trans rfl
      have hfz7_0 := blk_frozen BK271.out 0
      have hfz7_1 := blk_frozen BK271.out 1
      have hfz7_2 := blk_frozen BK271.out 2
      have hfz7_3 := blk_frozen BK271.out 3
      have hfz7_4 := blk_frozen BK271.out 4
      have hfz7_5 := blk_frozen BK271.out 5
      have hfz7_6 := blk_frozen BK271.out 6
      have hfz7_7 := blk_frozen BK271.out 7
      go_wp2_with (first | ((with_reducible refine gate_callee (f := 42) rfl ?_); refine goesL_ (some 8) rfl rfl Try.func42 (by kernel_rfl) rfl #[.int .i64 a0_1, .int .i64 1, .int .i64 4611686018427387903] rfl (by (try simp only [List.map_toArray, List.map_cons, List.map_nil]); first | done | rfl | (simp only [List.length_drop, List.length_take]; rfl)) ?_; (with_reducible refine (onairref06_within.calls a0_1 1 4611686018427387903 true _ A4.out).mono ?_); rintro e w' ⟨rfl, ⟨nd, rfl⟩⟩; refine ⟨_, rfl, ?_⟩) | (go_at_call 42; (with_reducible refine (onairref06_within.calls a0_4 1 255 t273 _ A6.out).mono ?_); rintro e w' ⟨rfl, ⟨nd, rfl⟩⟩))
      go_meet
      case rel => exact ⟨_, (t273), (by first | rfl | (simp; done) | (simp [*]; done)), H', ⟨by first | omega | exact Nat.le_refl _⟩, ⟨by (with_reducible repeat (first | refine blk_drewN ?_ _ | refine blk_drew ?_ | refine blk_alloc ?_ _)); exact BK271.out⟩, ⟨by repeat (first | (with_reducible first | exact HB.out | apply below_alloc | apply pw_below_drewN | apply below_drew1 | refine below_set ?_ GE271.out) | exact HB.out)⟩⟩
    · replace c5 := Bool.eq_false_iff.mpr c5
      subst c5
      have H1 : (onairref06_Valid.j0 k false a0_0 a0_1 a0_2 a0_3 a0_4 a0_5 a0_6 a0_7) = some r := by rw [if_neg (show ¬ (false = true) by decide)] at H; exact H
      clear H
      have H := H1
      clear H1
      have H' := Aside0.mk H
      clear H
      have hcz8_0 : w3.cell? ⟨gb271, 0, none⟩ = some (.int .i64 a0_0) := (blk_cell BK271.out 0).trans rfl
      have hcz8_1 : w3.cell? ⟨gb271, 1, none⟩ = some (.int .i64 a0_1) := (blk_cell BK271.out 1).trans rfl
      have hcz8_2 : w3.cell? ⟨gb271, 2, none⟩ = some (.int .i64 a0_2) := (blk_cell BK271.out 2).trans rfl
      have hcz8_3 : w3.cell? ⟨gb271, 3, none⟩ = some (.int .i64 a0_3) := (blk_cell BK271.out 3).trans rfl
      have hcz8_4 : w3.cell? ⟨gb271, 4, none⟩ = some (.int .i64 a0_4) := (blk_cell BK271.out 4).trans rfl
      have hcz8_5 : w3.cell? ⟨gb271, 5, none⟩ = some (.int .i64 a0_5) := (blk_cell BK271.out 5).trans rfl
      have hcz8_6 : w3.cell? ⟨gb271, 6, none⟩ = some (.int .i64 a0_6) := (blk_cell BK271.out 6).trans rfl
      have hcz8_7 : w3.cell? ⟨gb271, 7, none⟩ = some (.int .i64 a0_7) := (blk_cell BK271.out 7).trans rfl
      have hfz8_0 := blk_frozen BK271.out 0
      have hfz8_1 := blk_frozen BK271.out 1
      have hfz8_2 := blk_frozen BK271.out 2
      have hfz8_3 := blk_frozen BK271.out 3
      have hfz8_4 := blk_frozen BK271.out 4
      have hfz8_5 := blk_frozen BK271.out 5
      have hfz8_6 := blk_frozen BK271.out 6
      have hfz8_7 := blk_frozen BK271.out 7
      go_wp2_with (first | ((with_reducible refine gate_callee (f := 42) rfl ?_); refine goesL_ (some 8) rfl rfl Try.func42 (by kernel_rfl) rfl #[.int .i64 a0_1, .int .i64 1, .int .i64 4611686018427387903] rfl (by (try simp only [List.map_toArray, List.map_cons, List.map_nil]); first | done | rfl | (simp only [List.length_drop, List.length_take]; rfl)) ?_; (with_reducible refine (onairref06_within.calls a0_1 1 4611686018427387903 false _ A4.out).mono ?_); rintro e w' ⟨rfl, ⟨nd, rfl⟩⟩; refine ⟨_, rfl, ?_⟩))
      go_meet
      case rel => exact ⟨_, (false), (by first | rfl | (simp; done) | (simp [*]; done)), H', ⟨by first | omega | exact Nat.le_refl _⟩, ⟨by (with_reducible repeat (first | refine blk_drewN ?_ _ | refine blk_drew ?_ | refine blk_alloc ?_ _)); exact BK271.out⟩, ⟨by repeat (first | (with_reducible first | exact HB.out | apply below_alloc | apply pw_below_drewN | apply below_drew1 | refine below_set ?_ GE271.out) | exact HB.out)⟩⟩
  case rest =>
    clear HC2
    try clear p2
    try clear c3
    try clear c4
    try clear c5
    try clear hcz7_0
    try clear hcz7_1
    try clear hcz7_2
    try clear hcz7_3
    try clear hcz7_4
    try clear hcz7_5
    try clear hcz7_6
    try clear hcz7_7
    try clear hcz8_0
    try clear hcz8_1
    try clear hcz8_2
    try clear hcz8_3
    try clear hcz8_4
    try clear hcz8_5
    try clear hcz8_6
    try clear hcz8_7
    try clear hfz7_0
    try clear hfz7_1
    try clear hfz7_2
    try clear hfz7_3
    try clear hfz7_4
    try clear hfz7_5
    try clear hfz7_6
    try clear hfz7_7
    try clear hfz8_0
    try clear hfz8_1
    try clear hfz8_2
    try clear hfz8_3
    try clear hfz8_4
    try clear hfz8_5
    try clear hfz8_6
    try clear hfz8_7
    obtain ⟨kq, x3_1, rfl, HA, HJ1, BK271, HB⟩ := hcut
    cases kq with
    | zero => exact absurd HA.out (by simp [onairref06_Valid.j0])
    | succ kj1 =>
      have H := HA.out
      clear HA
      simp only [onairref06_Valid.j0] at H
      have HC9 := Aside0.mk H
      clear H
      have hcz10_0 : wc.cell? ⟨gb271, 0, none⟩ = some (.int .i64 a0_0) := (blk_cell BK271.out 0).trans rfl
      have hcz10_1 : wc.cell? ⟨gb271, 1, none⟩ = some (.int .i64 a0_1) := (blk_cell BK271.out 1).trans rfl
      have hcz10_2 : wc.cell? ⟨gb271, 2, none⟩ = some (.int .i64 a0_2) := (blk_cell BK271.out 2).trans rfl
      have hcz10_3 : wc.cell? ⟨gb271, 3, none⟩ = some (.int .i64 a0_3) := (blk_cell BK271.out 3).trans rfl
      have hcz10_4 : wc.cell? ⟨gb271, 4, none⟩ = some (.int .i64 a0_4) := (blk_cell BK271.out 4).trans rfl
      have hcz10_5 : wc.cell? ⟨gb271, 5, none⟩ = some (.int .i64 a0_5) := (blk_cell BK271.out 5).trans rfl
      have hcz10_6 : wc.cell? ⟨gb271, 6, none⟩ = some (.int .i64 a0_6) := (blk_cell BK271.out 6).trans rfl
      have hcz10_7 : wc.cell? ⟨gb271, 7, none⟩ = some (.int .i64 a0_7) := (blk_cell BK271.out 7).trans rfl
      have hfz10_0 := blk_frozen BK271.out 0
      have hfz10_1 := blk_frozen BK271.out 1
      have hfz10_2 := blk_frozen BK271.out 2
      have hfz10_3 := blk_frozen BK271.out 3
      have hfz10_4 := blk_frozen BK271.out 4
      have hfz10_5 := blk_frozen BK271.out 5
      have hfz10_6 := blk_frozen BK271.out 6
      have hfz10_7 := blk_frozen BK271.out 7
      go_upto_if 16 with (fail)
      go_cut [16] (fun v16 wc => ∃ (kq : Nat) (x16_8 : Bool), v16 = .bool x16_8 ∧ Aside0 (onairref06_Valid.j1 kq x3_1 a0_0 x16_8 a0_0 a0_1 a0_2 a0_3 a0_4 a0_5 a0_6 a0_7 = some r) ∧ Aside0 (kq ≤ kj1) ∧ Aside0 (wc.heap[gb271]? = some (.cells #[.int .i64 a0_0, .int .i64 a0_1, .int .i64 a0_2, .int .i64 a0_3, .int .i64 a0_4, .int .i64 a0_5, .int .i64 a0_6, .int .i64 a0_7] 82 (0, 0))) ∧ Aside0 (Below w.heap.size w wc))
      case first =>
        have H := HC9.out
        clear HC9
        by_cases c11 : a0_0 = 1
        · rw [if_pos c11] at H
          have c11b0 : (a0_0 == 1) = true := beq_iff_eq.mpr c11
          have c11b1 : (a0_0 != 1) = false := bne_eq_false_iff_eq.mpr c11
          clear c11
          (first | rw [c11b0] | (simp only [i64_w, i32_w]; rw [c11b0]) | skip)
          have H' := Aside0.mk H
          clear H
          go_wp2
          go_meet
          case rel => exact ⟨_, ((a0_0 == 1)), (by first | rfl | (simp; done) | (simp [*]; done)), H', ⟨by have := HJ1.out; first | omega | exact Nat.le_refl _⟩, ⟨by (with_reducible repeat (first | refine blk_drewN ?_ _ | refine blk_drew ?_ | refine blk_alloc ?_ _)); exact BK271.out⟩, ⟨by repeat (first | (with_reducible first | exact HB.out | apply below_alloc | apply pw_below_drewN | apply below_drew1 | refine below_set ?_ GE271.out) | exact HB.out)⟩⟩
        · rw [if_neg c11] at H
          have c11b0 : (a0_0 == 1) = false := beq_eq_false_iff_ne.mpr c11
          have c11b1 : (a0_0 != 1) = true := bne_iff_ne.mpr c11
          (first | rw [c11b0] | (simp only [i64_w, i32_w]; rw [c11b0]) | skip)
          have H' := Aside0.mk H
          clear H
          go_wp2
          go_meet
          case rel => exact ⟨_, ((a0_0 == 2)), (by first | rfl | (simp; done) | (simp [*]; done)), H', ⟨by have := HJ1.out; first | omega | exact Nat.le_refl _⟩, ⟨by (with_reducible repeat (first | refine blk_drewN ?_ _ | refine blk_drew ?_ | refine blk_alloc ?_ _)); exact BK271.out⟩, ⟨by repeat (first | (with_reducible first | exact HB.out | apply below_alloc | apply pw_below_drewN | apply below_drew1 | refine below_set ?_ GE271.out) | exact HB.out)⟩⟩
      case rest =>
        clear HC9
        try clear c1
        try clear p2
        try clear c3
        try clear c4
        try clear c5
        try clear c11
        try clear c11b0
        try clear c11b1
        try clear hcz10_0
        try clear hcz10_1
        try clear hcz10_2
        try clear hcz10_3
        try clear hcz10_4
        try clear hcz10_5
        try clear hcz10_6
        try clear hcz10_7
        try clear hcz7_0
        try clear hcz7_1
        try clear hcz7_2
        try clear hcz7_3
        try clear hcz7_4
        try clear hcz7_5
        try clear hcz7_6
        try clear hcz7_7
        try clear hcz8_0
        try clear hcz8_1
        try clear hcz8_2
        try clear hcz8_3
        try clear hcz8_4
        try clear hcz8_5
        try clear hcz8_6
        try clear hcz8_7
        try clear hfz10_0
        try clear hfz10_1
        try clear hfz10_2
        try clear hfz10_3
        try clear hfz10_4
        try clear hfz10_5
        try clear hfz10_6
        try clear hfz10_7
        try clear hfz7_0
        try clear hfz7_1
        try clear hfz7_2
        try clear hfz7_3
        try clear hfz7_4
        try clear hfz7_5
        try clear hfz7_6
        try clear hfz7_7
        try clear hfz8_0
        try clear hfz8_1
        try clear hfz8_2
        try clear hfz8_3
        try clear hfz8_4
        try clear hfz8_5
        try clear hfz8_6
        try clear hfz8_7
        try clear p2
        obtain ⟨kq, x16_8, rfl, HA, HJ8, BK271, HB⟩ := hcut
        cases kq with
        | zero => exact absurd HA.out (by simp [onairref06_Valid.j1])
        | succ kj8 =>
          have H := HA.out
          clear HA
          simp only [onairref06_Valid.j1] at H
          by_cases c12 : x16_8 = true
          · subst c12
            have H1 : (if x3_1 = true then (if a0_2 ≥ 0 then (if a0_2 < a0_3 then (if a0_3 ≤ 10000000000 then (if a0_5 = 0 then (if a0_6 = 0 then (some (a0_7 == 0)) else (some false)) else (some false)) else (some false)) else (some false)) else (some false)) else (some false)) = some r := by rw [if_pos rfl] at H; exact H
            clear H
            have H := H1
            clear H1
            by_cases c13 : x3_1 = true
            · subst c13
              have H1 : (if a0_2 ≥ 0 then (if a0_2 < a0_3 then (if a0_3 ≤ 10000000000 then (if a0_5 = 0 then (if a0_6 = 0 then (some (a0_7 == 0)) else (some false)) else (some false)) else (some false)) else (some false)) else (some false)) = some r := by rw [if_pos rfl] at H; exact H
              clear H
              have H := H1
              clear H1
              by_cases c14 : a0_2 ≥ 0
              · rw [if_pos c14] at H
                have c14b0 : decide (0 ≤ a0_2) = true := decide_eq_true c14
                clear c14
                by_cases c15 : a0_2 < a0_3
                · rw [if_pos c15] at H
                  have c15b0 : decide (a0_2 < a0_3) = true := decide_eq_true c15
                  clear c15
                  by_cases c16 : a0_3 ≤ 10000000000
                  · rw [if_pos c16] at H
                    have c16b0 : decide (a0_3 ≤ 10000000000) = true := decide_eq_true c16
                    clear c16
                    by_cases c17 : a0_5 = 0
                    · rw [if_pos c17] at H
                      have c17b0 : (a0_5 == 0) = true := beq_iff_eq.mpr c17
                      have c17b1 : (a0_5 != 0) = false := bne_eq_false_iff_eq.mpr c17
                      clear c17
                      by_cases c18 : a0_6 = 0
                      · rw [if_pos c18] at H
                        have c18b0 : (a0_6 == 0) = true := beq_iff_eq.mpr c18
                        have c18b1 : (a0_6 != 0) = false := bne_eq_false_iff_eq.mpr c18
                        clear c18
                        obtain rfl := Option.some.inj H
                        have hcz19_0 : wc.cell? ⟨gb271, 0, none⟩ = some (.int .i64 a0_0) := (blk_cell BK271.out 0).trans rfl
                        have hcz19_1 : wc.cell? ⟨gb271, 1, none⟩ = some (.int .i64 a0_1) := (blk_cell BK271.out 1).trans rfl
                        have hcz19_2 : wc.cell? ⟨gb271, 2, none⟩ = some (.int .i64 a0_2) := (blk_cell BK271.out 2).trans rfl
                        have hcz19_3 : wc.cell? ⟨gb271, 3, none⟩ = some (.int .i64 a0_3) := (blk_cell BK271.out 3).trans rfl
                        have hcz19_4 : wc.cell? ⟨gb271, 4, none⟩ = some (.int .i64 a0_4) := (blk_cell BK271.out 4).trans rfl
                        have hcz19_5 : wc.cell? ⟨gb271, 5, none⟩ = some (.int .i64 a0_5) := (blk_cell BK271.out 5).trans rfl
                        have hcz19_6 : wc.cell? ⟨gb271, 6, none⟩ = some (.int .i64 a0_6) := (blk_cell BK271.out 6).trans rfl
                        have hcz19_7 : wc.cell? ⟨gb271, 7, none⟩ = some (.int .i64 a0_7) := (blk_cell BK271.out 7).trans rfl
                        have hfz19_0 := blk_frozen BK271.out 0
                        have hfz19_1 := blk_frozen BK271.out 1
                        have hfz19_2 := blk_frozen BK271.out 2
                        have hfz19_3 := blk_frozen BK271.out 3
                        have hfz19_4 := blk_frozen BK271.out 4
                        have hfz19_5 := blk_frozen BK271.out 5
                        have hfz19_6 := blk_frozen BK271.out 6
                        have hfz19_7 := blk_frozen BK271.out 7
                        go_wp2
                        go_ret
                        exact ⟨by first | rfl | (simp [errW_none, errW_some] <;> rfl) | (simp [*, errW_none, errW_some] <;> rfl), by repeat (first | (with_reducible first | exact HB.out | apply below_alloc | apply pw_below_drewN | apply below_drew1 | refine below_set ?_ GE271.out) | exact HB.out)⟩
                      · rw [if_neg c18] at H
                        have c18b0 : (a0_6 == 0) = false := beq_eq_false_iff_ne.mpr c18
                        have c18b1 : (a0_6 != 0) = true := bne_iff_ne.mpr c18
                        obtain rfl := Option.some.inj H
                        have hcz20_0 : wc.cell? ⟨gb271, 0, none⟩ = some (.int .i64 a0_0) := (blk_cell BK271.out 0).trans rfl
                        have hcz20_1 : wc.cell? ⟨gb271, 1, none⟩ = some (.int .i64 a0_1) := (blk_cell BK271.out 1).trans rfl
                        have hcz20_2 : wc.cell? ⟨gb271, 2, none⟩ = some (.int .i64 a0_2) := (blk_cell BK271.out 2).trans rfl
                        have hcz20_3 : wc.cell? ⟨gb271, 3, none⟩ = some (.int .i64 a0_3) := (blk_cell BK271.out 3).trans rfl
                        have hcz20_4 : wc.cell? ⟨gb271, 4, none⟩ = some (.int .i64 a0_4) := (blk_cell BK271.out 4).trans rfl
                        have hcz20_5 : wc.cell? ⟨gb271, 5, none⟩ = some (.int .i64 a0_5) := (blk_cell BK271.out 5).trans rfl
                        have hcz20_6 : wc.cell? ⟨gb271, 6, none⟩ = some (.int .i64 a0_6) := (blk_cell BK271.out 6).trans rfl
                        have hcz20_7 : wc.cell? ⟨gb271, 7, none⟩ = some (.int .i64 a0_7) := (blk_cell BK271.out 7).trans rfl
                        have hfz20_0 := blk_frozen BK271.out 0
                        have hfz20_1 := blk_frozen BK271.out 1
                        have hfz20_2 := blk_frozen BK271.out 2
                        have hfz20_3 := blk_frozen BK271.out 3
                        have hfz20_4 := blk_frozen BK271.out 4
                        have hfz20_5 := blk_frozen BK271.out 5
                        have hfz20_6 := blk_frozen BK271.out 6
                        have hfz20_7 := blk_frozen BK271.out 7
                        go_wp2
                        go_ret
                        exact ⟨by first | rfl | (simp [errW_none, errW_some] <;> rfl) | (simp [*, errW_none, errW_some] <;> rfl), by repeat (first | (with_reducible first | exact HB.out | apply below_alloc | apply pw_below_drewN | apply below_drew1 | refine below_set ?_ GE271.out) | exact HB.out)⟩
                    · rw [if_neg c17] at H
                      have c17b0 : (a0_5 == 0) = false := beq_eq_false_iff_ne.mpr c17
                      have c17b1 : (a0_5 != 0) = true := bne_iff_ne.mpr c17
                      obtain rfl := Option.some.inj H
                      have hcz21_0 : wc.cell? ⟨gb271, 0, none⟩ = some (.int .i64 a0_0) := (blk_cell BK271.out 0).trans rfl
                      have hcz21_1 : wc.cell? ⟨gb271, 1, none⟩ = some (.int .i64 a0_1) := (blk_cell BK271.out 1).trans rfl
                      have hcz21_2 : wc.cell? ⟨gb271, 2, none⟩ = some (.int .i64 a0_2) := (blk_cell BK271.out 2).trans rfl
                      have hcz21_3 : wc.cell? ⟨gb271, 3, none⟩ = some (.int .i64 a0_3) := (blk_cell BK271.out 3).trans rfl
                      have hcz21_4 : wc.cell? ⟨gb271, 4, none⟩ = some (.int .i64 a0_4) := (blk_cell BK271.out 4).trans rfl
                      have hcz21_5 : wc.cell? ⟨gb271, 5, none⟩ = some (.int .i64 a0_5) := (blk_cell BK271.out 5).trans rfl
                      have hcz21_6 : wc.cell? ⟨gb271, 6, none⟩ = some (.int .i64 a0_6) := (blk_cell BK271.out 6).trans rfl
                      have hcz21_7 : wc.cell? ⟨gb271, 7, none⟩ = some (.int .i64 a0_7) := (blk_cell BK271.out 7).trans rfl
                      have hfz21_0 := blk_frozen BK271.out 0
                      have hfz21_1 := blk_frozen BK271.out 1
                      have hfz21_2 := blk_frozen BK271.out 2
                      have hfz21_3 := blk_frozen BK271.out 3
                      have hfz21_4 := blk_frozen BK271.out 4
                      have hfz21_5 := blk_frozen BK271.out 5
                      have hfz21_6 := blk_frozen BK271.out 6
                      have hfz21_7 := blk_frozen BK271.out 7
                      go_wp2
                      go_ret
                      exact ⟨by first | rfl | (simp [errW_none, errW_some] <;> rfl) | (simp [*, errW_none, errW_some] <;> rfl), by repeat (first | (with_reducible first | exact HB.out | apply below_alloc | apply pw_below_drewN | apply below_drew1 | refine below_set ?_ GE271.out) | exact HB.out)⟩
                  · rw [if_neg c16] at H
                    have c16b0 : decide (a0_3 ≤ 10000000000) = false := decide_eq_false c16
                    clear c16
                    obtain rfl := Option.some.inj H
                    have hcz22_0 : wc.cell? ⟨gb271, 0, none⟩ = some (.int .i64 a0_0) := (blk_cell BK271.out 0).trans rfl
                    have hcz22_1 : wc.cell? ⟨gb271, 1, none⟩ = some (.int .i64 a0_1) := (blk_cell BK271.out 1).trans rfl
                    have hcz22_2 : wc.cell? ⟨gb271, 2, none⟩ = some (.int .i64 a0_2) := (blk_cell BK271.out 2).trans rfl
                    have hcz22_3 : wc.cell? ⟨gb271, 3, none⟩ = some (.int .i64 a0_3) := (blk_cell BK271.out 3).trans rfl
                    have hcz22_4 : wc.cell? ⟨gb271, 4, none⟩ = some (.int .i64 a0_4) := (blk_cell BK271.out 4).trans rfl
                    have hcz22_5 : wc.cell? ⟨gb271, 5, none⟩ = some (.int .i64 a0_5) := (blk_cell BK271.out 5).trans rfl
                    have hcz22_6 : wc.cell? ⟨gb271, 6, none⟩ = some (.int .i64 a0_6) := (blk_cell BK271.out 6).trans rfl
                    have hcz22_7 : wc.cell? ⟨gb271, 7, none⟩ = some (.int .i64 a0_7) := (blk_cell BK271.out 7).trans rfl
                    have hfz22_0 := blk_frozen BK271.out 0
                    have hfz22_1 := blk_frozen BK271.out 1
                    have hfz22_2 := blk_frozen BK271.out 2
                    have hfz22_3 := blk_frozen BK271.out 3
                    have hfz22_4 := blk_frozen BK271.out 4
                    have hfz22_5 := blk_frozen BK271.out 5
                    have hfz22_6 := blk_frozen BK271.out 6
                    have hfz22_7 := blk_frozen BK271.out 7
                    go_wp2
                    go_ret
                    exact ⟨by first | rfl | (simp [errW_none, errW_some] <;> rfl) | (simp [*, errW_none, errW_some] <;> rfl), by repeat (first | (with_reducible first | exact HB.out | apply below_alloc | apply pw_below_drewN | apply below_drew1 | refine below_set ?_ GE271.out) | exact HB.out)⟩
                · rw [if_neg c15] at H
                  have c15b0 : decide (a0_2 < a0_3) = false := decide_eq_false c15
                  clear c15
                  obtain rfl := Option.some.inj H
                  have hcz23_0 : wc.cell? ⟨gb271, 0, none⟩ = some (.int .i64 a0_0) := (blk_cell BK271.out 0).trans rfl
                  have hcz23_1 : wc.cell? ⟨gb271, 1, none⟩ = some (.int .i64 a0_1) := (blk_cell BK271.out 1).trans rfl
                  have hcz23_2 : wc.cell? ⟨gb271, 2, none⟩ = some (.int .i64 a0_2) := (blk_cell BK271.out 2).trans rfl
                  have hcz23_3 : wc.cell? ⟨gb271, 3, none⟩ = some (.int .i64 a0_3) := (blk_cell BK271.out 3).trans rfl
                  have hcz23_4 : wc.cell? ⟨gb271, 4, none⟩ = some (.int .i64 a0_4) := (blk_cell BK271.out 4).trans rfl
                  have hcz23_5 : wc.cell? ⟨gb271, 5, none⟩ = some (.int .i64 a0_5) := (blk_cell BK271.out 5).trans rfl
                  have hcz23_6 : wc.cell? ⟨gb271, 6, none⟩ = some (.int .i64 a0_6) := (blk_cell BK271.out 6).trans rfl
                  have hcz23_7 : wc.cell? ⟨gb271, 7, none⟩ = some (.int .i64 a0_7) := (blk_cell BK271.out 7).trans rfl
                  have hfz23_0 := blk_frozen BK271.out 0
                  have hfz23_1 := blk_frozen BK271.out 1
                  have hfz23_2 := blk_frozen BK271.out 2
                  have hfz23_3 := blk_frozen BK271.out 3
                  have hfz23_4 := blk_frozen BK271.out 4
                  have hfz23_5 := blk_frozen BK271.out 5
                  have hfz23_6 := blk_frozen BK271.out 6
                  have hfz23_7 := blk_frozen BK271.out 7
                  go_wp2
                  go_ret
                  exact ⟨by first | rfl | (simp [errW_none, errW_some] <;> rfl) | (simp [*, errW_none, errW_some] <;> rfl), by repeat (first | (with_reducible first | exact HB.out | apply below_alloc | apply pw_below_drewN | apply below_drew1 | refine below_set ?_ GE271.out) | exact HB.out)⟩
              · rw [if_neg c14] at H
                have c14b0 : decide (0 ≤ a0_2) = false := decide_eq_false c14
                clear c14
                obtain rfl := Option.some.inj H
                have hcz24_0 : wc.cell? ⟨gb271, 0, none⟩ = some (.int .i64 a0_0) := (blk_cell BK271.out 0).trans rfl
                have hcz24_1 : wc.cell? ⟨gb271, 1, none⟩ = some (.int .i64 a0_1) := (blk_cell BK271.out 1).trans rfl
                have hcz24_2 : wc.cell? ⟨gb271, 2, none⟩ = some (.int .i64 a0_2) := (blk_cell BK271.out 2).trans rfl
                have hcz24_3 : wc.cell? ⟨gb271, 3, none⟩ = some (.int .i64 a0_3) := (blk_cell BK271.out 3).trans rfl
                have hcz24_4 : wc.cell? ⟨gb271, 4, none⟩ = some (.int .i64 a0_4) := (blk_cell BK271.out 4).trans rfl
                have hcz24_5 : wc.cell? ⟨gb271, 5, none⟩ = some (.int .i64 a0_5) := (blk_cell BK271.out 5).trans rfl
                have hcz24_6 : wc.cell? ⟨gb271, 6, none⟩ = some (.int .i64 a0_6) := (blk_cell BK271.out 6).trans rfl
                have hcz24_7 : wc.cell? ⟨gb271, 7, none⟩ = some (.int .i64 a0_7) := (blk_cell BK271.out 7).trans rfl
                have hfz24_0 := blk_frozen BK271.out 0
                have hfz24_1 := blk_frozen BK271.out 1
                have hfz24_2 := blk_frozen BK271.out 2
                have hfz24_3 := blk_frozen BK271.out 3
                have hfz24_4 := blk_frozen BK271.out 4
                have hfz24_5 := blk_frozen BK271.out 5
                have hfz24_6 := blk_frozen BK271.out 6
                have hfz24_7 := blk_frozen BK271.out 7
                go_wp2
                go_ret
                exact ⟨by first | rfl | (simp [errW_none, errW_some] <;> rfl) | (simp [*, errW_none, errW_some] <;> rfl), by repeat (first | (with_reducible first | exact HB.out | apply below_alloc | apply pw_below_drewN | apply below_drew1 | refine below_set ?_ GE271.out) | exact HB.out)⟩
            · replace c13 := Bool.eq_false_iff.mpr c13
              subst c13
              have H1 : (some false) = some r := by rw [if_neg (show ¬ (false = true) by decide)] at H; exact H
              clear H
              have H := H1
              clear H1
              obtain rfl := Option.some.inj H
              go_wp2
              go_ret
              exact ⟨by first | rfl | (simp [errW_none, errW_some] <;> rfl) | (simp [*, errW_none, errW_some] <;> rfl), by repeat (first | (with_reducible first | exact HB.out | apply below_alloc | apply pw_below_drewN | apply below_drew1 | refine below_set ?_ GE271.out) | exact HB.out)⟩
          · replace c12 := Bool.eq_false_iff.mpr c12
            subst c12
            have H1 : (if a0_0 = 3 then (if x3_1 = true then ((onairref06_within.f a0_5 0 1000).bind fun t274 => (if t274 = true then (if a0_2 = 0 then (if a0_3 = 0 then (if a0_6 = 0 then (some (a0_7 == 0)) else (some false)) else (some false)) else (some false)) else (some false))) else (some false)) else (if a0_0 = 4 then (if x3_1 = true then ((onairref06_within.f a0_5 0 10000000000).bind fun t275 => (if t275 = true then (if a0_2 = 0 then (if a0_3 = 0 then (if a0_6 = 0 then (some (a0_7 == 0)) else (some false)) else (some false)) else (some false)) else (some false))) else (some false)) else (if a0_0 = 5 then ((onairref06_within.f a0_6 1 200).bind fun t276 => (if t276 = true then ((onairref06_within.f a0_7 1 200).bind fun t277 => (if t277 = true then (if a0_6 = a0_7 then (some false) else ((onairref06_within.f a0_5 0 86400).bind fun t278 => (if t278 = true then (if a0_1 = 0 then (if a0_2 = 0 then (if a0_3 = 0 then (some (a0_4 == 0)) else (some false)) else (some false)) else (some false)) else (some false)))) else (some false))) else (some false))) else (if a0_0 = 6 then ((onairref06_within.f a0_2 0 86340).bind fun t279 => (if t279 = true then ((onairref06_within.f a0_3 0 86340).bind fun t280 => (if t280 = true then (if (Int.tmod a0_2 60) = 0 then (if (Int.tmod a0_3 60) = 0 then (if a0_2 = a0_3 then (some false) else ((onairref06_within.f a0_6 1 3).bind fun t281 => (if t281 = true then (if a0_1 = 0 then (if a0_4 = 0 then (if a0_5 = 0 then (some (a0_7 == 0)) else (some false)) else (some false)) else (some false)) else (some false)))) else (some false)) else (some false)) else (some false))) else (some false))) else (some false))))) = some r := by rw [if_neg (show ¬ (false = true) by decide)] at H; exact H
            clear H
            have H := H1
            clear H1
            by_cases c25 : a0_0 = 3
            · rw [if_pos c25] at H
              have c25b0 : (a0_0 == 3) = true := beq_iff_eq.mpr c25
              have c25b1 : (a0_0 != 3) = false := bne_eq_false_iff_eq.mpr c25
              clear c25
              by_cases c26 : x3_1 = true
              · subst c26
                have H1 : ((onairref06_within.f a0_5 0 1000).bind fun t274 => (if t274 = true then (if a0_2 = 0 then (if a0_3 = 0 then (if a0_6 = 0 then (some (a0_7 == 0)) else (some false)) else (some false)) else (some false)) else (some false))) = some r := by rw [if_pos rfl] at H; exact H
                clear H
                have H := H1
                clear H1
                replace H := Option.bind_eq_some_iff.mp H
                obtain ⟨t274, A270, H⟩ := H
                replace H : (if t274 = true then (if a0_2 = 0 then (if a0_3 = 0 then (if a0_6 = 0 then (some (a0_7 == 0)) else (some false)) else (some false)) else (some false)) else (some false)) = some r := H
                have A27 := Aside0.mk A270
                clear A270
                by_cases c28 : t274 = true
                · subst c28
                  have H1 : (if a0_2 = 0 then (if a0_3 = 0 then (if a0_6 = 0 then (some (a0_7 == 0)) else (some false)) else (some false)) else (some false)) = some r := by rw [if_pos rfl] at H; exact H
                  clear H
                  have H := H1
                  clear H1
                  by_cases c29 : a0_2 = 0
                  · rw [if_pos c29] at H
                    have c29b0 : (a0_2 == 0) = true := beq_iff_eq.mpr c29
                    have c29b1 : (a0_2 != 0) = false := bne_eq_false_iff_eq.mpr c29
                    clear c29
                    by_cases c30 : a0_3 = 0
                    · rw [if_pos c30] at H
                      have c30b0 : (a0_3 == 0) = true := beq_iff_eq.mpr c30
                      have c30b1 : (a0_3 != 0) = false := bne_eq_false_iff_eq.mpr c30
                      clear c30
                      by_cases c31 : a0_6 = 0
                      · rw [if_pos c31] at H
                        have c31b0 : (a0_6 == 0) = true := beq_iff_eq.mpr c31
                        have c31b1 : (a0_6 != 0) = false := bne_eq_false_iff_eq.mpr c31
                        clear c31
                        obtain rfl := Option.some.inj H
                        have hcz32_0 : wc.cell? ⟨gb271, 0, none⟩ = some (.int .i64 a0_0) := (blk_cell BK271.out 0).trans rfl
                        have hcz32_1 : wc.cell? ⟨gb271, 1, none⟩ = some (.int .i64 a0_1) := (blk_cell BK271.out 1).trans rfl
                        have hcz32_2 : wc.cell? ⟨gb271, 2, none⟩ = some (.int .i64 a0_2) := (blk_cell BK271.out 2).trans rfl
                        have hcz32_3 : wc.cell? ⟨gb271, 3, none⟩ = some (.int .i64 a0_3) := (blk_cell BK271.out 3).trans rfl
                        have hcz32_4 : wc.cell? ⟨gb271, 4, none⟩ = some (.int .i64 a0_4) := (blk_cell BK271.out 4).trans rfl
                        have hcz32_5 : wc.cell? ⟨gb271, 5, none⟩ = some (.int .i64 a0_5) := (blk_cell BK271.out 5).trans rfl
                        have hcz32_6 : wc.cell? ⟨gb271, 6, none⟩ = some (.int .i64 a0_6) := (blk_cell BK271.out 6).trans rfl
                        have hcz32_7 : wc.cell? ⟨gb271, 7, none⟩ = some (.int .i64 a0_7) := (blk_cell BK271.out 7).trans rfl
                        have hfz32_0 := blk_frozen BK271.out 0
                        have hfz32_1 := blk_frozen BK271.out 1
                        have hfz32_2 := blk_frozen BK271.out 2
                        have hfz32_3 := blk_frozen BK271.out 3
                        have hfz32_4 := blk_frozen BK271.out 4
                        have hfz32_5 := blk_frozen BK271.out 5
                        have hfz32_6 := blk_frozen BK271.out 6
                        have hfz32_7 := blk_frozen BK271.out 7
                        go_wp2_with (first | (go_at_call 42; (with_reducible refine (onairref06_within.calls a0_5 0 1000 true _ A27.out).mono ?_); rintro e w' ⟨rfl, ⟨nd, rfl⟩⟩))
                        go_ret
                        exact ⟨by first | rfl | (simp [errW_none, errW_some] <;> rfl) | (simp [*, errW_none, errW_some] <;> rfl), by repeat (first | (with_reducible first | exact HB.out | apply below_alloc | apply pw_below_drewN | apply below_drew1 | refine below_set ?_ GE271.out) | exact HB.out)⟩
                      · rw [if_neg c31] at H
                        have c31b0 : (a0_6 == 0) = false := beq_eq_false_iff_ne.mpr c31
                        have c31b1 : (a0_6 != 0) = true := bne_iff_ne.mpr c31
                        obtain rfl := Option.some.inj H
                        have hcz33_0 : wc.cell? ⟨gb271, 0, none⟩ = some (.int .i64 a0_0) := (blk_cell BK271.out 0).trans rfl
                        have hcz33_1 : wc.cell? ⟨gb271, 1, none⟩ = some (.int .i64 a0_1) := (blk_cell BK271.out 1).trans rfl
                        have hcz33_2 : wc.cell? ⟨gb271, 2, none⟩ = some (.int .i64 a0_2) := (blk_cell BK271.out 2).trans rfl
                        have hcz33_3 : wc.cell? ⟨gb271, 3, none⟩ = some (.int .i64 a0_3) := (blk_cell BK271.out 3).trans rfl
                        have hcz33_4 : wc.cell? ⟨gb271, 4, none⟩ = some (.int .i64 a0_4) := (blk_cell BK271.out 4).trans rfl
                        have hcz33_5 : wc.cell? ⟨gb271, 5, none⟩ = some (.int .i64 a0_5) := (blk_cell BK271.out 5).trans rfl
                        have hcz33_6 : wc.cell? ⟨gb271, 6, none⟩ = some (.int .i64 a0_6) := (blk_cell BK271.out 6).trans rfl
                        have hcz33_7 : wc.cell? ⟨gb271, 7, none⟩ = some (.int .i64 a0_7) := (blk_cell BK271.out 7).trans rfl
                        have hfz33_0 := blk_frozen BK271.out 0
                        have hfz33_1 := blk_frozen BK271.out 1
                        have hfz33_2 := blk_frozen BK271.out 2
                        have hfz33_3 := blk_frozen BK271.out 3
                        have hfz33_4 := blk_frozen BK271.out 4
                        have hfz33_5 := blk_frozen BK271.out 5
                        have hfz33_6 := blk_frozen BK271.out 6
                        have hfz33_7 := blk_frozen BK271.out 7
                        go_wp2_with (first | (go_at_call 42; (with_reducible refine (onairref06_within.calls a0_5 0 1000 true _ A27.out).mono ?_); rintro e w' ⟨rfl, ⟨nd, rfl⟩⟩))
                        go_ret
                        exact ⟨by first | rfl | (simp [errW_none, errW_some] <;> rfl) | (simp [*, errW_none, errW_some] <;> rfl), by repeat (first | (with_reducible first | exact HB.out | apply below_alloc | apply pw_below_drewN | apply below_drew1 | refine below_set ?_ GE271.out) | exact HB.out)⟩
                    · rw [if_neg c30] at H
                      have c30b0 : (a0_3 == 0) = false := beq_eq_false_iff_ne.mpr c30
                      have c30b1 : (a0_3 != 0) = true := bne_iff_ne.mpr c30
                      obtain rfl := Option.some.inj H
                      have hcz34_0 : wc.cell? ⟨gb271, 0, none⟩ = some (.int .i64 a0_0) := (blk_cell BK271.out 0).trans rfl
                      have hcz34_1 : wc.cell? ⟨gb271, 1, none⟩ = some (.int .i64 a0_1) := (blk_cell BK271.out 1).trans rfl
                      have hcz34_2 : wc.cell? ⟨gb271, 2, none⟩ = some (.int .i64 a0_2) := (blk_cell BK271.out 2).trans rfl
                      have hcz34_3 : wc.cell? ⟨gb271, 3, none⟩ = some (.int .i64 a0_3) := (blk_cell BK271.out 3).trans rfl
                      have hcz34_4 : wc.cell? ⟨gb271, 4, none⟩ = some (.int .i64 a0_4) := (blk_cell BK271.out 4).trans rfl
                      have hcz34_5 : wc.cell? ⟨gb271, 5, none⟩ = some (.int .i64 a0_5) := (blk_cell BK271.out 5).trans rfl
                      have hcz34_6 : wc.cell? ⟨gb271, 6, none⟩ = some (.int .i64 a0_6) := (blk_cell BK271.out 6).trans rfl
                      have hcz34_7 : wc.cell? ⟨gb271, 7, none⟩ = some (.int .i64 a0_7) := (blk_cell BK271.out 7).trans rfl
                      have hfz34_0 := blk_frozen BK271.out 0
                      have hfz34_1 := blk_frozen BK271.out 1
                      have hfz34_2 := blk_frozen BK271.out 2
                      have hfz34_3 := blk_frozen BK271.out 3
                      have hfz34_4 := blk_frozen BK271.out 4
                      have hfz34_5 := blk_frozen BK271.out 5
                      have hfz34_6 := blk_frozen BK271.out 6
                      have hfz34_7 := blk_frozen BK271.out 7
                      go_wp2_with (first | (go_at_call 42; (with_reducible refine (onairref06_within.calls a0_5 0 1000 true _ A27.out).mono ?_); rintro e w' ⟨rfl, ⟨nd, rfl⟩⟩))
                      go_ret
                      exact ⟨by first | rfl | (simp [errW_none, errW_some] <;> rfl) | (simp [*, errW_none, errW_some] <;> rfl), by repeat (first | (with_reducible first | exact HB.out | apply below_alloc | apply pw_below_drewN | apply below_drew1 | refine below_set ?_ GE271.out) | exact HB.out)⟩
                  · rw [if_neg c29] at H
                    have c29b0 : (a0_2 == 0) = false := beq_eq_false_iff_ne.mpr c29
                    have c29b1 : (a0_2 != 0) = true := bne_iff_ne.mpr c29
                    obtain rfl := Option.some.inj H
                    have hcz35_0 : wc.cell? ⟨gb271, 0, none⟩ = some (.int .i64 a0_0) := (blk_cell BK271.out 0).trans rfl
                    have hcz35_1 : wc.cell? ⟨gb271, 1, none⟩ = some (.int .i64 a0_1) := (blk_cell BK271.out 1).trans rfl
                    have hcz35_2 : wc.cell? ⟨gb271, 2, none⟩ = some (.int .i64 a0_2) := (blk_cell BK271.out 2).trans rfl
                    have hcz35_3 : wc.cell? ⟨gb271, 3, none⟩ = some (.int .i64 a0_3) := (blk_cell BK271.out 3).trans rfl
                    have hcz35_4 : wc.cell? ⟨gb271, 4, none⟩ = some (.int .i64 a0_4) := (blk_cell BK271.out 4).trans rfl
                    have hcz35_5 : wc.cell? ⟨gb271, 5, none⟩ = some (.int .i64 a0_5) := (blk_cell BK271.out 5).trans rfl
                    have hcz35_6 : wc.cell? ⟨gb271, 6, none⟩ = some (.int .i64 a0_6) := (blk_cell BK271.out 6).trans rfl
                    have hcz35_7 : wc.cell? ⟨gb271, 7, none⟩ = some (.int .i64 a0_7) := (blk_cell BK271.out 7).trans rfl
                    have hfz35_0 := blk_frozen BK271.out 0
                    have hfz35_1 := blk_frozen BK271.out 1
                    have hfz35_2 := blk_frozen BK271.out 2
                    have hfz35_3 := blk_frozen BK271.out 3
                    have hfz35_4 := blk_frozen BK271.out 4
                    have hfz35_5 := blk_frozen BK271.out 5
                    have hfz35_6 := blk_frozen BK271.out 6
                    have hfz35_7 := blk_frozen BK271.out 7
                    go_wp2_with (first | (go_at_call 42; (with_reducible refine (onairref06_within.calls a0_5 0 1000 true _ A27.out).mono ?_); rintro e w' ⟨rfl, ⟨nd, rfl⟩⟩))
                    go_ret
                    exact ⟨by first | rfl | (simp [errW_none, errW_some] <;> rfl) | (simp [*, errW_none, errW_some] <;> rfl), by repeat (first | (with_reducible first | exact HB.out | apply below_alloc | apply pw_below_drewN | apply below_drew1 | refine below_set ?_ GE271.out) | exact HB.out)⟩
                · replace c28 := Bool.eq_false_iff.mpr c28
                  subst c28
                  have H1 : (some false) = some r := by rw [if_neg (show ¬ (false = true) by decide)] at H; exact H
                  clear H
                  have H := H1
                  clear H1
                  obtain rfl := Option.some.inj H
                  have hcz36_0 : wc.cell? ⟨gb271, 0, none⟩ = some (.int .i64 a0_0) := (blk_cell BK271.out 0).trans rfl
                  have hcz36_1 : wc.cell? ⟨gb271, 1, none⟩ = some (.int .i64 a0_1) := (blk_cell BK271.out 1).trans rfl
                  have hcz36_2 : wc.cell? ⟨gb271, 2, none⟩ = some (.int .i64 a0_2) := (blk_cell BK271.out 2).trans rfl
                  have hcz36_3 : wc.cell? ⟨gb271, 3, none⟩ = some (.int .i64 a0_3) := (blk_cell BK271.out 3).trans rfl
                  have hcz36_4 : wc.cell? ⟨gb271, 4, none⟩ = some (.int .i64 a0_4) := (blk_cell BK271.out 4).trans rfl
                  have hcz36_5 : wc.cell? ⟨gb271, 5, none⟩ = some (.int .i64 a0_5) := (blk_cell BK271.out 5).trans rfl
                  have hcz36_6 : wc.cell? ⟨gb271, 6, none⟩ = some (.int .i64 a0_6) := (blk_cell BK271.out 6).trans rfl
                  have hcz36_7 : wc.cell? ⟨gb271, 7, none⟩ = some (.int .i64 a0_7) := (blk_cell BK271.out 7).trans rfl
                  have hfz36_0 := blk_frozen BK271.out 0
                  have hfz36_1 := blk_frozen BK271.out 1
                  have hfz36_2 := blk_frozen BK271.out 2
                  have hfz36_3 := blk_frozen BK271.out 3
                  have hfz36_4 := blk_frozen BK271.out 4
                  have hfz36_5 := blk_frozen BK271.out 5
                  have hfz36_6 := blk_frozen BK271.out 6
                  have hfz36_7 := blk_frozen BK271.out 7
                  go_wp2_with (first | (go_at_call 42; (with_reducible refine (onairref06_within.calls a0_5 0 1000 false _ A27.out).mono ?_); rintro e w' ⟨rfl, ⟨nd, rfl⟩⟩))
                  go_ret
                  exact ⟨by first | rfl | (simp [errW_none, errW_some] <;> rfl) | (simp [*, errW_none, errW_some] <;> rfl), by repeat (first | (with_reducible first | exact HB.out | apply below_alloc | apply pw_below_drewN | apply below_drew1 | refine below_set ?_ GE271.out) | exact HB.out)⟩
              · replace c26 := Bool.eq_false_iff.mpr c26
                subst c26
                have H1 : (some false) = some r := by rw [if_neg (show ¬ (false = true) by decide)] at H; exact H
                clear H
                have H := H1
                clear H1
                obtain rfl := Option.some.inj H
                go_wp2
                go_ret
                exact ⟨by first | rfl | (simp [errW_none, errW_some] <;> rfl) | (simp [*, errW_none, errW_some] <;> rfl), by repeat (first | (with_reducible first | exact HB.out | apply below_alloc | apply pw_below_drewN | apply below_drew1 | refine below_set ?_ GE271.out) | exact HB.out)⟩
            · rw [if_neg c25] at H
              have c25b0 : (a0_0 == 3) = false := beq_eq_false_iff_ne.mpr c25
              have c25b1 : (a0_0 != 3) = true := bne_iff_ne.mpr c25
              by_cases c37 : a0_0 = 4
              · rw [if_pos c37] at H
                have c37b0 : (a0_0 == 4) = true := beq_iff_eq.mpr c37
                have c37b1 : (a0_0 != 4) = false := bne_eq_false_iff_eq.mpr c37
                clear c37
                by_cases c38 : x3_1 = true
                · subst c38
                  have H1 : ((onairref06_within.f a0_5 0 10000000000).bind fun t275 => (if t275 = true then (if a0_2 = 0 then (if a0_3 = 0 then (if a0_6 = 0 then (some (a0_7 == 0)) else (some false)) else (some false)) else (some false)) else (some false))) = some r := by rw [if_pos rfl] at H; exact H
                  clear H
                  have H := H1
                  clear H1
                  replace H := Option.bind_eq_some_iff.mp H
                  obtain ⟨t275, A390, H⟩ := H
                  replace H : (if t275 = true then (if a0_2 = 0 then (if a0_3 = 0 then (if a0_6 = 0 then (some (a0_7 == 0)) else (some false)) else (some false)) else (some false)) else (some false)) = some r := H
                  have A39 := Aside0.mk A390
                  clear A390
                  by_cases c40 : t275 = true
                  · subst c40
                    have H1 : (if a0_2 = 0 then (if a0_3 = 0 then (if a0_6 = 0 then (some (a0_7 == 0)) else (some false)) else (some false)) else (some false)) = some r := by rw [if_pos rfl] at H; exact H
                    clear H
                    have H := H1
                    clear H1
                    by_cases c41 : a0_2 = 0
                    · rw [if_pos c41] at H
                      have c41b0 : (a0_2 == 0) = true := beq_iff_eq.mpr c41
                      have c41b1 : (a0_2 != 0) = false := bne_eq_false_iff_eq.mpr c41
                      clear c41
                      by_cases c42 : a0_3 = 0
                      · rw [if_pos c42] at H
                        have c42b0 : (a0_3 == 0) = true := beq_iff_eq.mpr c42
                        have c42b1 : (a0_3 != 0) = false := bne_eq_false_iff_eq.mpr c42
                        clear c42
                        by_cases c43 : a0_6 = 0
                        · rw [if_pos c43] at H
                          have c43b0 : (a0_6 == 0) = true := beq_iff_eq.mpr c43
                          have c43b1 : (a0_6 != 0) = false := bne_eq_false_iff_eq.mpr c43
                          clear c43
                          obtain rfl := Option.some.inj H
                          have hcz44_0 : wc.cell? ⟨gb271, 0, none⟩ = some (.int .i64 a0_0) := (blk_cell BK271.out 0).trans rfl
                          have hcz44_1 : wc.cell? ⟨gb271, 1, none⟩ = some (.int .i64 a0_1) := (blk_cell BK271.out 1).trans rfl
                          have hcz44_2 : wc.cell? ⟨gb271, 2, none⟩ = some (.int .i64 a0_2) := (blk_cell BK271.out 2).trans rfl
                          have hcz44_3 : wc.cell? ⟨gb271, 3, none⟩ = some (.int .i64 a0_3) := (blk_cell BK271.out 3).trans rfl
                          have hcz44_4 : wc.cell? ⟨gb271, 4, none⟩ = some (.int .i64 a0_4) := (blk_cell BK271.out 4).trans rfl
                          have hcz44_5 : wc.cell? ⟨gb271, 5, none⟩ = some (.int .i64 a0_5) := (blk_cell BK271.out 5).trans rfl
                          have hcz44_6 : wc.cell? ⟨gb271, 6, none⟩ = some (.int .i64 a0_6) := (blk_cell BK271.out 6).trans rfl
                          have hcz44_7 : wc.cell? ⟨gb271, 7, none⟩ = some (.int .i64 a0_7) := (blk_cell BK271.out 7).trans rfl
                          have hfz44_0 := blk_frozen BK271.out 0
                          have hfz44_1 := blk_frozen BK271.out 1
                          have hfz44_2 := blk_frozen BK271.out 2
                          have hfz44_3 := blk_frozen BK271.out 3
                          have hfz44_4 := blk_frozen BK271.out 4
                          have hfz44_5 := blk_frozen BK271.out 5
                          have hfz44_6 := blk_frozen BK271.out 6
                          have hfz44_7 := blk_frozen BK271.out 7
                          go_wp2_with (first | (go_at_call 42; (with_reducible refine (onairref06_within.calls a0_5 0 10000000000 true _ A39.out).mono ?_); rintro e w' ⟨rfl, ⟨nd, rfl⟩⟩))
                          go_ret
                          exact ⟨by first | rfl | (simp [errW_none, errW_some] <;> rfl) | (simp [*, errW_none, errW_some] <;> rfl), by repeat (first | (with_reducible first | exact HB.out | apply below_alloc | apply pw_below_drewN | apply below_drew1 | refine below_set ?_ GE271.out) | exact HB.out)⟩
                        · rw [if_neg c43] at H
                          have c43b0 : (a0_6 == 0) = false := beq_eq_false_iff_ne.mpr c43
                          have c43b1 : (a0_6 != 0) = true := bne_iff_ne.mpr c43
                          obtain rfl := Option.some.inj H
                          have hcz45_0 : wc.cell? ⟨gb271, 0, none⟩ = some (.int .i64 a0_0) := (blk_cell BK271.out 0).trans rfl
                          have hcz45_1 : wc.cell? ⟨gb271, 1, none⟩ = some (.int .i64 a0_1) := (blk_cell BK271.out 1).trans rfl
                          have hcz45_2 : wc.cell? ⟨gb271, 2, none⟩ = some (.int .i64 a0_2) := (blk_cell BK271.out 2).trans rfl
                          have hcz45_3 : wc.cell? ⟨gb271, 3, none⟩ = some (.int .i64 a0_3) := (blk_cell BK271.out 3).trans rfl
                          have hcz45_4 : wc.cell? ⟨gb271, 4, none⟩ = some (.int .i64 a0_4) := (blk_cell BK271.out 4).trans rfl
                          have hcz45_5 : wc.cell? ⟨gb271, 5, none⟩ = some (.int .i64 a0_5) := (blk_cell BK271.out 5).trans rfl
                          have hcz45_6 : wc.cell? ⟨gb271, 6, none⟩ = some (.int .i64 a0_6) := (blk_cell BK271.out 6).trans rfl
                          have hcz45_7 : wc.cell? ⟨gb271, 7, none⟩ = some (.int .i64 a0_7) := (blk_cell BK271.out 7).trans rfl
                          have hfz45_0 := blk_frozen BK271.out 0
                          have hfz45_1 := blk_frozen BK271.out 1
                          have hfz45_2 := blk_frozen BK271.out 2
                          have hfz45_3 := blk_frozen BK271.out 3
                          have hfz45_4 := blk_frozen BK271.out 4
                          have hfz45_5 := blk_frozen BK271.out 5
                          have hfz45_6 := blk_frozen BK271.out 6
                          have hfz45_7 := blk_frozen BK271.out 7
                          go_wp2_with (first | (go_at_call 42; (with_reducible refine (onairref06_within.calls a0_5 0 10000000000 true _ A39.out).mono ?_); rintro e w' ⟨rfl, ⟨nd, rfl⟩⟩))
                          go_ret
                          exact ⟨by first | rfl | (simp [errW_none, errW_some] <;> rfl) | (simp [*, errW_none, errW_some] <;> rfl), by repeat (first | (with_reducible first | exact HB.out | apply below_alloc | apply pw_below_drewN | apply below_drew1 | refine below_set ?_ GE271.out) | exact HB.out)⟩
                      · rw [if_neg c42] at H
                        have c42b0 : (a0_3 == 0) = false := beq_eq_false_iff_ne.mpr c42
                        have c42b1 : (a0_3 != 0) = true := bne_iff_ne.mpr c42
                        obtain rfl := Option.some.inj H
                        have hcz46_0 : wc.cell? ⟨gb271, 0, none⟩ = some (.int .i64 a0_0) := (blk_cell BK271.out 0).trans rfl
                        have hcz46_1 : wc.cell? ⟨gb271, 1, none⟩ = some (.int .i64 a0_1) := (blk_cell BK271.out 1).trans rfl
                        have hcz46_2 : wc.cell? ⟨gb271, 2, none⟩ = some (.int .i64 a0_2) := (blk_cell BK271.out 2).trans rfl
                        have hcz46_3 : wc.cell? ⟨gb271, 3, none⟩ = some (.int .i64 a0_3) := (blk_cell BK271.out 3).trans rfl
                        have hcz46_4 : wc.cell? ⟨gb271, 4, none⟩ = some (.int .i64 a0_4) := (blk_cell BK271.out 4).trans rfl
                        have hcz46_5 : wc.cell? ⟨gb271, 5, none⟩ = some (.int .i64 a0_5) := (blk_cell BK271.out 5).trans rfl
                        have hcz46_6 : wc.cell? ⟨gb271, 6, none⟩ = some (.int .i64 a0_6) := (blk_cell BK271.out 6).trans rfl
                        have hcz46_7 : wc.cell? ⟨gb271, 7, none⟩ = some (.int .i64 a0_7) := (blk_cell BK271.out 7).trans rfl
                        have hfz46_0 := blk_frozen BK271.out 0
                        have hfz46_1 := blk_frozen BK271.out 1
                        have hfz46_2 := blk_frozen BK271.out 2
                        have hfz46_3 := blk_frozen BK271.out 3
                        have hfz46_4 := blk_frozen BK271.out 4
                        have hfz46_5 := blk_frozen BK271.out 5
                        have hfz46_6 := blk_frozen BK271.out 6
                        have hfz46_7 := blk_frozen BK271.out 7
                        go_wp2_with (first | (go_at_call 42; (with_reducible refine (onairref06_within.calls a0_5 0 10000000000 true _ A39.out).mono ?_); rintro e w' ⟨rfl, ⟨nd, rfl⟩⟩))
                        go_ret
                        exact ⟨by first | rfl | (simp [errW_none, errW_some] <;> rfl) | (simp [*, errW_none, errW_some] <;> rfl), by repeat (first | (with_reducible first | exact HB.out | apply below_alloc | apply pw_below_drewN | apply below_drew1 | refine below_set ?_ GE271.out) | exact HB.out)⟩
                    · rw [if_neg c41] at H
                      have c41b0 : (a0_2 == 0) = false := beq_eq_false_iff_ne.mpr c41
                      have c41b1 : (a0_2 != 0) = true := bne_iff_ne.mpr c41
                      obtain rfl := Option.some.inj H
                      have hcz47_0 : wc.cell? ⟨gb271, 0, none⟩ = some (.int .i64 a0_0) := (blk_cell BK271.out 0).trans rfl
                      have hcz47_1 : wc.cell? ⟨gb271, 1, none⟩ = some (.int .i64 a0_1) := (blk_cell BK271.out 1).trans rfl
                      have hcz47_2 : wc.cell? ⟨gb271, 2, none⟩ = some (.int .i64 a0_2) := (blk_cell BK271.out 2).trans rfl
                      have hcz47_3 : wc.cell? ⟨gb271, 3, none⟩ = some (.int .i64 a0_3) := (blk_cell BK271.out 3).trans rfl
                      have hcz47_4 : wc.cell? ⟨gb271, 4, none⟩ = some (.int .i64 a0_4) := (blk_cell BK271.out 4).trans rfl
                      have hcz47_5 : wc.cell? ⟨gb271, 5, none⟩ = some (.int .i64 a0_5) := (blk_cell BK271.out 5).trans rfl
                      have hcz47_6 : wc.cell? ⟨gb271, 6, none⟩ = some (.int .i64 a0_6) := (blk_cell BK271.out 6).trans rfl
                      have hcz47_7 : wc.cell? ⟨gb271, 7, none⟩ = some (.int .i64 a0_7) := (blk_cell BK271.out 7).trans rfl
                      have hfz47_0 := blk_frozen BK271.out 0
                      have hfz47_1 := blk_frozen BK271.out 1
                      have hfz47_2 := blk_frozen BK271.out 2
                      have hfz47_3 := blk_frozen BK271.out 3
                      have hfz47_4 := blk_frozen BK271.out 4
                      have hfz47_5 := blk_frozen BK271.out 5
                      have hfz47_6 := blk_frozen BK271.out 6
                      have hfz47_7 := blk_frozen BK271.out 7
                      go_wp2_with (first | (go_at_call 42; (with_reducible refine (onairref06_within.calls a0_5 0 10000000000 true _ A39.out).mono ?_); rintro e w' ⟨rfl, ⟨nd, rfl⟩⟩))
                      go_ret
                      exact ⟨by first | rfl | (simp [errW_none, errW_some] <;> rfl) | (simp [*, errW_none, errW_some] <;> rfl), by repeat (first | (with_reducible first | exact HB.out | apply below_alloc | apply pw_below_drewN | apply below_drew1 | refine below_set ?_ GE271.out) | exact HB.out)⟩
                  · replace c40 := Bool.eq_false_iff.mpr c40
                    subst c40
                    have H1 : (some false) = some r := by rw [if_neg (show ¬ (false = true) by decide)] at H; exact H
                    clear H
                    have H := H1
                    clear H1
                    obtain rfl := Option.some.inj H
                    have hcz48_0 : wc.cell? ⟨gb271, 0, none⟩ = some (.int .i64 a0_0) := (blk_cell BK271.out 0).trans rfl
                    have hcz48_1 : wc.cell? ⟨gb271, 1, none⟩ = some (.int .i64 a0_1) := (blk_cell BK271.out 1).trans rfl
                    have hcz48_2 : wc.cell? ⟨gb271, 2, none⟩ = some (.int .i64 a0_2) := (blk_cell BK271.out 2).trans rfl
                    have hcz48_3 : wc.cell? ⟨gb271, 3, none⟩ = some (.int .i64 a0_3) := (blk_cell BK271.out 3).trans rfl
                    have hcz48_4 : wc.cell? ⟨gb271, 4, none⟩ = some (.int .i64 a0_4) := (blk_cell BK271.out 4).trans rfl
                    have hcz48_5 : wc.cell? ⟨gb271, 5, none⟩ = some (.int .i64 a0_5) := (blk_cell BK271.out 5).trans rfl
                    have hcz48_6 : wc.cell? ⟨gb271, 6, none⟩ = some (.int .i64 a0_6) := (blk_cell BK271.out 6).trans rfl
                    have hcz48_7 : wc.cell? ⟨gb271, 7, none⟩ = some (.int .i64 a0_7) := (blk_cell BK271.out 7).trans rfl
                    have hfz48_0 := blk_frozen BK271.out 0
                    have hfz48_1 := blk_frozen BK271.out 1
                    have hfz48_2 := blk_frozen BK271.out 2
                    have hfz48_3 := blk_frozen BK271.out 3
                    have hfz48_4 := blk_frozen BK271.out 4
                    have hfz48_5 := blk_frozen BK271.out 5
                    have hfz48_6 := blk_frozen BK271.out 6
                    have hfz48_7 := blk_frozen BK271.out 7
                    go_wp2_with (first | (go_at_call 42; (with_reducible refine (onairref06_within.calls a0_5 0 10000000000 false _ A39.out).mono ?_); rintro e w' ⟨rfl, ⟨nd, rfl⟩⟩))
                    go_ret
                    exact ⟨by first | rfl | (simp [errW_none, errW_some] <;> rfl) | (simp [*, errW_none, errW_some] <;> rfl), by repeat (first | (with_reducible first | exact HB.out | apply below_alloc | apply pw_below_drewN | apply below_drew1 | refine below_set ?_ GE271.out) | exact HB.out)⟩
                · replace c38 := Bool.eq_false_iff.mpr c38
                  subst c38
                  have H1 : (some false) = some r := by rw [if_neg (show ¬ (false = true) by decide)] at H; exact H
                  clear H
                  have H := H1
                  clear H1
                  obtain rfl := Option.some.inj H
                  go_wp2
                  go_ret
                  exact ⟨by first | rfl | (simp [errW_none, errW_some] <;> rfl) | (simp [*, errW_none, errW_some] <;> rfl), by repeat (first | (with_reducible first | exact HB.out | apply below_alloc | apply pw_below_drewN | apply below_drew1 | refine below_set ?_ GE271.out) | exact HB.out)⟩
              · rw [if_neg c37] at H
                have c37b0 : (a0_0 == 4) = false := beq_eq_false_iff_ne.mpr c37
                have c37b1 : (a0_0 != 4) = true := bne_iff_ne.mpr c37
                by_cases c49 : a0_0 = 5
                · rw [if_pos c49] at H
                  have c49b0 : (a0_0 == 5) = true := beq_iff_eq.mpr c49
                  have c49b1 : (a0_0 != 5) = false := bne_eq_false_iff_eq.mpr c49
                  clear c49
                  replace H := Option.bind_eq_some_iff.mp H
                  obtain ⟨t276, A500, H⟩ := H
                  replace H : (if t276 = true then ((onairref06_within.f a0_7 1 200).bind fun t277 => (if t277 = true then (if a0_6 = a0_7 then (some false) else ((onairref06_within.f a0_5 0 86400).bind fun t278 => (if t278 = true then (if a0_1 = 0 then (if a0_2 = 0 then (if a0_3 = 0 then (some (a0_4 == 0)) else (some false)) else (some false)) else (some false)) else (some false)))) else (some false))) else (some false)) = some r := H
                  have A50 := Aside0.mk A500
                  clear A500
                  by_cases c51 : t276 = true
                  · subst c51
                    have H1 : ((onairref06_within.f a0_7 1 200).bind fun t277 => (if t277 = true then (if a0_6 = a0_7 then (some false) else ((onairref06_within.f a0_5 0 86400).bind fun t278 => (if t278 = true then (if a0_1 = 0 then (if a0_2 = 0 then (if a0_3 = 0 then (some (a0_4 == 0)) else (some false)) else (some false)) else (some false)) else (some false)))) else (some false))) = some r := by rw [if_pos rfl] at H; exact H
                    clear H
                    have H := H1
                    clear H1
                    replace H := Option.bind_eq_some_iff.mp H
                    obtain ⟨t277, A520, H⟩ := H
                    replace H : (if t277 = true then (if a0_6 = a0_7 then (some false) else ((onairref06_within.f a0_5 0 86400).bind fun t278 => (if t278 = true then (if a0_1 = 0 then (if a0_2 = 0 then (if a0_3 = 0 then (some (a0_4 == 0)) else (some false)) else (some false)) else (some false)) else (some false)))) else (some false)) = some r := H
                    have A52 := Aside0.mk A520
                    clear A520
                    by_cases c53 : t277 = true
                    · subst c53
                      have H1 : (if a0_6 = a0_7 then (some false) else ((onairref06_within.f a0_5 0 86400).bind fun t278 => (if t278 = true then (if a0_1 = 0 then (if a0_2 = 0 then (if a0_3 = 0 then (some (a0_4 == 0)) else (some false)) else (some false)) else (some false)) else (some false)))) = some r := by rw [if_pos rfl] at H; exact H
                      clear H
                      have H := H1
                      clear H1
                      by_cases c54 : a0_6 = a0_7
                      · rw [if_pos c54] at H
                        have c54b0 : (a0_6 == a0_7) = true := beq_iff_eq.mpr c54
                        have c54b1 : (a0_6 != a0_7) = false := bne_eq_false_iff_eq.mpr c54
                        clear c54
                        obtain rfl := Option.some.inj H
                        have hcz55_0 : wc.cell? ⟨gb271, 0, none⟩ = some (.int .i64 a0_0) := (blk_cell BK271.out 0).trans rfl
                        have hcz55_1 : wc.cell? ⟨gb271, 1, none⟩ = some (.int .i64 a0_1) := (blk_cell BK271.out 1).trans rfl
                        have hcz55_2 : wc.cell? ⟨gb271, 2, none⟩ = some (.int .i64 a0_2) := (blk_cell BK271.out 2).trans rfl
                        have hcz55_3 : wc.cell? ⟨gb271, 3, none⟩ = some (.int .i64 a0_3) := (blk_cell BK271.out 3).trans rfl
                        have hcz55_4 : wc.cell? ⟨gb271, 4, none⟩ = some (.int .i64 a0_4) := (blk_cell BK271.out 4).trans rfl
                        have hcz55_5 : wc.cell? ⟨gb271, 5, none⟩ = some (.int .i64 a0_5) := (blk_cell BK271.out 5).trans rfl
                        have hcz55_6 : wc.cell? ⟨gb271, 6, none⟩ = some (.int .i64 a0_6) := (blk_cell BK271.out 6).trans rfl
                        have hcz55_7 : wc.cell? ⟨gb271, 7, none⟩ = some (.int .i64 a0_7) := (blk_cell BK271.out 7).trans rfl
                        have hfz55_0 := blk_frozen BK271.out 0
                        have hfz55_1 := blk_frozen BK271.out 1
                        have hfz55_2 := blk_frozen BK271.out 2
                        have hfz55_3 := blk_frozen BK271.out 3
                        have hfz55_4 := blk_frozen BK271.out 4
                        have hfz55_5 := blk_frozen BK271.out 5
                        have hfz55_6 := blk_frozen BK271.out 6
                        have hfz55_7 := blk_frozen BK271.out 7
                        go_wp2_with (first | ((with_reducible refine gate_callee (f := 42) rfl ?_); refine goesL_ (some 112) rfl rfl Try.func42 (by kernel_rfl) rfl #[.int .i64 a0_6, .int .i64 1, .int .i64 200] rfl (by (try simp only [List.map_toArray, List.map_cons, List.map_nil]); first | done | rfl | (simp only [List.length_drop, List.length_take]; rfl)) ?_; (with_reducible refine (onairref06_within.calls a0_6 1 200 true _ A50.out).mono ?_); rintro e w' ⟨rfl, ⟨nd, rfl⟩⟩; refine ⟨_, rfl, ?_⟩) | (go_at_call 42; (with_reducible refine (onairref06_within.calls a0_7 1 200 true _ A52.out).mono ?_); rintro e w' ⟨rfl, ⟨nd, rfl⟩⟩))
                        go_ret
                        exact ⟨by first | rfl | (simp [errW_none, errW_some] <;> rfl) | (simp [*, errW_none, errW_some] <;> rfl), by repeat (first | (with_reducible first | exact HB.out | apply below_alloc | apply pw_below_drewN | apply below_drew1 | refine below_set ?_ GE271.out) | exact HB.out)⟩
                      · rw [if_neg c54] at H
                        have c54b0 : (a0_6 == a0_7) = false := beq_eq_false_iff_ne.mpr c54
                        have c54b1 : (a0_6 != a0_7) = true := bne_iff_ne.mpr c54
                        replace H := Option.bind_eq_some_iff.mp H
                        obtain ⟨t278, A560, H⟩ := H
                        replace H : (if t278 = true then (if a0_1 = 0 then (if a0_2 = 0 then (if a0_3 = 0 then (some (a0_4 == 0)) else (some false)) else (some false)) else (some false)) else (some false)) = some r := H
                        have A56 := Aside0.mk A560
                        clear A560
                        by_cases c57 : t278 = true
                        · subst c57
                          have H1 : (if a0_1 = 0 then (if a0_2 = 0 then (if a0_3 = 0 then (some (a0_4 == 0)) else (some false)) else (some false)) else (some false)) = some r := by rw [if_pos rfl] at H; exact H
                          clear H
                          have H := H1
                          clear H1
                          by_cases c58 : a0_1 = 0
                          · rw [if_pos c58] at H
                            have c58b0 : (a0_1 == 0) = true := beq_iff_eq.mpr c58
                            have c58b1 : (a0_1 != 0) = false := bne_eq_false_iff_eq.mpr c58
                            clear c58
                            by_cases c59 : a0_2 = 0
                            · rw [if_pos c59] at H
                              have c59b0 : (a0_2 == 0) = true := beq_iff_eq.mpr c59
                              have c59b1 : (a0_2 != 0) = false := bne_eq_false_iff_eq.mpr c59
                              clear c59
                              by_cases c60 : a0_3 = 0
                              · rw [if_pos c60] at H
                                have c60b0 : (a0_3 == 0) = true := beq_iff_eq.mpr c60
                                have c60b1 : (a0_3 != 0) = false := bne_eq_false_iff_eq.mpr c60
                                clear c60
                                obtain rfl := Option.some.inj H
                                have hcz61_0 : wc.cell? ⟨gb271, 0, none⟩ = some (.int .i64 a0_0) := (blk_cell BK271.out 0).trans rfl
                                have hcz61_1 : wc.cell? ⟨gb271, 1, none⟩ = some (.int .i64 a0_1) := (blk_cell BK271.out 1).trans rfl
                                have hcz61_2 : wc.cell? ⟨gb271, 2, none⟩ = some (.int .i64 a0_2) := (blk_cell BK271.out 2).trans rfl
                                have hcz61_3 : wc.cell? ⟨gb271, 3, none⟩ = some (.int .i64 a0_3) := (blk_cell BK271.out 3).trans rfl
                                have hcz61_4 : wc.cell? ⟨gb271, 4, none⟩ = some (.int .i64 a0_4) := (blk_cell BK271.out 4).trans rfl
                                have hcz61_5 : wc.cell? ⟨gb271, 5, none⟩ = some (.int .i64 a0_5) := (blk_cell BK271.out 5).trans rfl
                                have hcz61_6 : wc.cell? ⟨gb271, 6, none⟩ = some (.int .i64 a0_6) := (blk_cell BK271.out 6).trans rfl
                                have hcz61_7 : wc.cell? ⟨gb271, 7, none⟩ = some (.int .i64 a0_7) := (blk_cell BK271.out 7).trans rfl
                                have hfz61_0 := blk_frozen BK271.out 0
                                have hfz61_1 := blk_frozen BK271.out 1
                                have hfz61_2 := blk_frozen BK271.out 2
                                have hfz61_3 := blk_frozen BK271.out 3
                                have hfz61_4 := blk_frozen BK271.out 4
                                have hfz61_5 := blk_frozen BK271.out 5
                                have hfz61_6 := blk_frozen BK271.out 6
                                have hfz61_7 := blk_frozen BK271.out 7
                                go_wp2_with (first | ((with_reducible refine gate_callee (f := 42) rfl ?_); refine goesL_ (some 112) rfl rfl Try.func42 (by kernel_rfl) rfl #[.int .i64 a0_6, .int .i64 1, .int .i64 200] rfl (by (try simp only [List.map_toArray, List.map_cons, List.map_nil]); first | done | rfl | (simp only [List.length_drop, List.length_take]; rfl)) ?_; (with_reducible refine (onairref06_within.calls a0_6 1 200 true _ A50.out).mono ?_); rintro e w' ⟨rfl, ⟨nd, rfl⟩⟩; refine ⟨_, rfl, ?_⟩) | (go_at_call 42; (with_reducible refine (onairref06_within.calls a0_7 1 200 true _ A52.out).mono ?_); rintro e w' ⟨rfl, ⟨nd, rfl⟩⟩) | (go_at_call 42; (with_reducible refine (onairref06_within.calls a0_5 0 86400 true _ A56.out).mono ?_); rintro e w' ⟨rfl, ⟨nd, rfl⟩⟩))
                                go_ret
                                exact ⟨by first | rfl | (simp [errW_none, errW_some] <;> rfl) | (simp [*, errW_none, errW_some] <;> rfl), by repeat (first | (with_reducible first | exact HB.out | apply below_alloc | apply pw_below_drewN | apply below_drew1 | refine below_set ?_ GE271.out) | exact HB.out)⟩
                              · rw [if_neg c60] at H
                                have c60b0 : (a0_3 == 0) = false := beq_eq_false_iff_ne.mpr c60
                                have c60b1 : (a0_3 != 0) = true := bne_iff_ne.mpr c60
                                obtain rfl := Option.some.inj H
                                have hcz62_0 : wc.cell? ⟨gb271, 0, none⟩ = some (.int .i64 a0_0) := (blk_cell BK271.out 0).trans rfl
                                have hcz62_1 : wc.cell? ⟨gb271, 1, none⟩ = some (.int .i64 a0_1) := (blk_cell BK271.out 1).trans rfl
                                have hcz62_2 : wc.cell? ⟨gb271, 2, none⟩ = some (.int .i64 a0_2) := (blk_cell BK271.out 2).trans rfl
                                have hcz62_3 : wc.cell? ⟨gb271, 3, none⟩ = some (.int .i64 a0_3) := (blk_cell BK271.out 3).trans rfl
                                have hcz62_4 : wc.cell? ⟨gb271, 4, none⟩ = some (.int .i64 a0_4) := (blk_cell BK271.out 4).trans rfl
                                have hcz62_5 : wc.cell? ⟨gb271, 5, none⟩ = some (.int .i64 a0_5) := (blk_cell BK271.out 5).trans rfl
                                have hcz62_6 : wc.cell? ⟨gb271, 6, none⟩ = some (.int .i64 a0_6) := (blk_cell BK271.out 6).trans rfl
                                have hcz62_7 : wc.cell? ⟨gb271, 7, none⟩ = some (.int .i64 a0_7) := (blk_cell BK271.out 7).trans rfl
                                have hfz62_0 := blk_frozen BK271.out 0
                                have hfz62_1 := blk_frozen BK271.out 1
                                have hfz62_2 := blk_frozen BK271.out 2
                                have hfz62_3 := blk_frozen BK271.out 3
                                have hfz62_4 := blk_frozen BK271.out 4
                                have hfz62_5 := blk_frozen BK271.out 5
                                have hfz62_6 := blk_frozen BK271.out 6
                                have hfz62_7 := blk_frozen BK271.out 7
                                go_wp2_with (first | ((with_reducible refine gate_callee (f := 42) rfl ?_); refine goesL_ (some 112) rfl rfl Try.func42 (by kernel_rfl) rfl #[.int .i64 a0_6, .int .i64 1, .int .i64 200] rfl (by (try simp only [List.map_toArray, List.map_cons, List.map_nil]); first | done | rfl | (simp only [List.length_drop, List.length_take]; rfl)) ?_; (with_reducible refine (onairref06_within.calls a0_6 1 200 true _ A50.out).mono ?_); rintro e w' ⟨rfl, ⟨nd, rfl⟩⟩; refine ⟨_, rfl, ?_⟩) | (go_at_call 42; (with_reducible refine (onairref06_within.calls a0_7 1 200 true _ A52.out).mono ?_); rintro e w' ⟨rfl, ⟨nd, rfl⟩⟩) | (go_at_call 42; (with_reducible refine (onairref06_within.calls a0_5 0 86400 true _ A56.out).mono ?_); rintro e w' ⟨rfl, ⟨nd, rfl⟩⟩))
                                go_ret
                                exact ⟨by first | rfl | (simp [errW_none, errW_some] <;> rfl) | (simp [*, errW_none, errW_some] <;> rfl), by repeat (first | (with_reducible first | exact HB.out | apply below_alloc | apply pw_below_drewN | apply below_drew1 | refine below_set ?_ GE271.out) | exact HB.out)⟩
                            · rw [if_neg c59] at H
                              have c59b0 : (a0_2 == 0) = false := beq_eq_false_iff_ne.mpr c59
                              have c59b1 : (a0_2 != 0) = true := bne_iff_ne.mpr c59
                              obtain rfl := Option.some.inj H
                              have hcz63_0 : wc.cell? ⟨gb271, 0, none⟩ = some (.int .i64 a0_0) := (blk_cell BK271.out 0).trans rfl
                              have hcz63_1 : wc.cell? ⟨gb271, 1, none⟩ = some (.int .i64 a0_1) := (blk_cell BK271.out 1).trans rfl
                              have hcz63_2 : wc.cell? ⟨gb271, 2, none⟩ = some (.int .i64 a0_2) := (blk_cell BK271.out 2).trans rfl
                              have hcz63_3 : wc.cell? ⟨gb271, 3, none⟩ = some (.int .i64 a0_3) := (blk_cell BK271.out 3).trans rfl
                              have hcz63_4 : wc.cell? ⟨gb271, 4, none⟩ = some (.int .i64 a0_4) := (blk_cell BK271.out 4).trans rfl
                              have hcz63_5 : wc.cell? ⟨gb271, 5, none⟩ = some (.int .i64 a0_5) := (blk_cell BK271.out 5).trans rfl
                              have hcz63_6 : wc.cell? ⟨gb271, 6, none⟩ = some (.int .i64 a0_6) := (blk_cell BK271.out 6).trans rfl
                              have hcz63_7 : wc.cell? ⟨gb271, 7, none⟩ = some (.int .i64 a0_7) := (blk_cell BK271.out 7).trans rfl
                              have hfz63_0 := blk_frozen BK271.out 0
                              have hfz63_1 := blk_frozen BK271.out 1
                              have hfz63_2 := blk_frozen BK271.out 2
                              have hfz63_3 := blk_frozen BK271.out 3
                              have hfz63_4 := blk_frozen BK271.out 4
                              have hfz63_5 := blk_frozen BK271.out 5
                              have hfz63_6 := blk_frozen BK271.out 6
                              have hfz63_7 := blk_frozen BK271.out 7
                              go_wp2_with (first | ((with_reducible refine gate_callee (f := 42) rfl ?_); refine goesL_ (some 112) rfl rfl Try.func42 (by kernel_rfl) rfl #[.int .i64 a0_6, .int .i64 1, .int .i64 200] rfl (by (try simp only [List.map_toArray, List.map_cons, List.map_nil]); first | done | rfl | (simp only [List.length_drop, List.length_take]; rfl)) ?_; (with_reducible refine (onairref06_within.calls a0_6 1 200 true _ A50.out).mono ?_); rintro e w' ⟨rfl, ⟨nd, rfl⟩⟩; refine ⟨_, rfl, ?_⟩) | (go_at_call 42; (with_reducible refine (onairref06_within.calls a0_7 1 200 true _ A52.out).mono ?_); rintro e w' ⟨rfl, ⟨nd, rfl⟩⟩) | (go_at_call 42; (with_reducible refine (onairref06_within.calls a0_5 0 86400 true _ A56.out).mono ?_); rintro e w' ⟨rfl, ⟨nd, rfl⟩⟩))
                              go_ret
                              exact ⟨by first | rfl | (simp [errW_none, errW_some] <;> rfl) | (simp [*, errW_none, errW_some] <;> rfl), by repeat (first | (with_reducible first | exact HB.out | apply below_alloc | apply pw_below_drewN | apply below_drew1 | refine below_set ?_ GE271.out) | exact HB.out)⟩
                          · rw [if_neg c58] at H
                            have c58b0 : (a0_1 == 0) = false := beq_eq_false_iff_ne.mpr c58
                            have c58b1 : (a0_1 != 0) = true := bne_iff_ne.mpr c58
                            obtain rfl := Option.some.inj H
                            have hcz64_0 : wc.cell? ⟨gb271, 0, none⟩ = some (.int .i64 a0_0) := (blk_cell BK271.out 0).trans rfl
                            have hcz64_1 : wc.cell? ⟨gb271, 1, none⟩ = some (.int .i64 a0_1) := (blk_cell BK271.out 1).trans rfl
                            have hcz64_2 : wc.cell? ⟨gb271, 2, none⟩ = some (.int .i64 a0_2) := (blk_cell BK271.out 2).trans rfl
                            have hcz64_3 : wc.cell? ⟨gb271, 3, none⟩ = some (.int .i64 a0_3) := (blk_cell BK271.out 3).trans rfl
                            have hcz64_4 : wc.cell? ⟨gb271, 4, none⟩ = some (.int .i64 a0_4) := (blk_cell BK271.out 4).trans rfl
                            have hcz64_5 : wc.cell? ⟨gb271, 5, none⟩ = some (.int .i64 a0_5) := (blk_cell BK271.out 5).trans rfl
                            have hcz64_6 : wc.cell? ⟨gb271, 6, none⟩ = some (.int .i64 a0_6) := (blk_cell BK271.out 6).trans rfl
                            have hcz64_7 : wc.cell? ⟨gb271, 7, none⟩ = some (.int .i64 a0_7) := (blk_cell BK271.out 7).trans rfl
                            have hfz64_0 := blk_frozen BK271.out 0
                            have hfz64_1 := blk_frozen BK271.out 1
                            have hfz64_2 := blk_frozen BK271.out 2
                            have hfz64_3 := blk_frozen BK271.out 3
                            have hfz64_4 := blk_frozen BK271.out 4
                            have hfz64_5 := blk_frozen BK271.out 5
                            have hfz64_6 := blk_frozen BK271.out 6
                            have hfz64_7 := blk_frozen BK271.out 7
                            go_wp2_with (first | ((with_reducible refine gate_callee (f := 42) rfl ?_); refine goesL_ (some 112) rfl rfl Try.func42 (by kernel_rfl) rfl #[.int .i64 a0_6, .int .i64 1, .int .i64 200] rfl (by (try simp only [List.map_toArray, List.map_cons, List.map_nil]); first | done | rfl | (simp only [List.length_drop, List.length_take]; rfl)) ?_; (with_reducible refine (onairref06_within.calls a0_6 1 200 true _ A50.out).mono ?_); rintro e w' ⟨rfl, ⟨nd, rfl⟩⟩; refine ⟨_, rfl, ?_⟩) | (go_at_call 42; (with_reducible refine (onairref06_within.calls a0_7 1 200 true _ A52.out).mono ?_); rintro e w' ⟨rfl, ⟨nd, rfl⟩⟩) | (go_at_call 42; (with_reducible refine (onairref06_within.calls a0_5 0 86400 true _ A56.out).mono ?_); rintro e w' ⟨rfl, ⟨nd, rfl⟩⟩))
                            go_ret
                            exact ⟨by first | rfl | (simp [errW_none, errW_some] <;> rfl) | (simp [*, errW_none, errW_some] <;> rfl), by repeat (first | (with_reducible first | exact HB.out | apply below_alloc | apply pw_below_drewN | apply below_drew1 | refine below_set ?_ GE271.out) | exact HB.out)⟩
                        · replace c57 := Bool.eq_false_iff.mpr c57
                          subst c57
                          have H1 : (some false) = some r := by rw [if_neg (show ¬ (false = true) by decide)] at H; exact H
                          clear H
                          have H := H1
                          clear H1
                          obtain rfl := Option.some.inj H
                          have hcz65_0 : wc.cell? ⟨gb271, 0, none⟩ = some (.int .i64 a0_0) := (blk_cell BK271.out 0).trans rfl
                          have hcz65_1 : wc.cell? ⟨gb271, 1, none⟩ = some (.int .i64 a0_1) := (blk_cell BK271.out 1).trans rfl
                          have hcz65_2 : wc.cell? ⟨gb271, 2, none⟩ = some (.int .i64 a0_2) := (blk_cell BK271.out 2).trans rfl
                          have hcz65_3 : wc.cell? ⟨gb271, 3, none⟩ = some (.int .i64 a0_3) := (blk_cell BK271.out 3).trans rfl
                          have hcz65_4 : wc.cell? ⟨gb271, 4, none⟩ = some (.int .i64 a0_4) := (blk_cell BK271.out 4).trans rfl
                          have hcz65_5 : wc.cell? ⟨gb271, 5, none⟩ = some (.int .i64 a0_5) := (blk_cell BK271.out 5).trans rfl
                          have hcz65_6 : wc.cell? ⟨gb271, 6, none⟩ = some (.int .i64 a0_6) := (blk_cell BK271.out 6).trans rfl
                          have hcz65_7 : wc.cell? ⟨gb271, 7, none⟩ = some (.int .i64 a0_7) := (blk_cell BK271.out 7).trans rfl
                          have hfz65_0 := blk_frozen BK271.out 0
                          have hfz65_1 := blk_frozen BK271.out 1
                          have hfz65_2 := blk_frozen BK271.out 2
                          have hfz65_3 := blk_frozen BK271.out 3
                          have hfz65_4 := blk_frozen BK271.out 4
                          have hfz65_5 := blk_frozen BK271.out 5
                          have hfz65_6 := blk_frozen BK271.out 6
                          have hfz65_7 := blk_frozen BK271.out 7
                          go_wp2_with (first | ((with_reducible refine gate_callee (f := 42) rfl ?_); refine goesL_ (some 112) rfl rfl Try.func42 (by kernel_rfl) rfl #[.int .i64 a0_6, .int .i64 1, .int .i64 200] rfl (by (try simp only [List.map_toArray, List.map_cons, List.map_nil]); first | done | rfl | (simp only [List.length_drop, List.length_take]; rfl)) ?_; (with_reducible refine (onairref06_within.calls a0_6 1 200 true _ A50.out).mono ?_); rintro e w' ⟨rfl, ⟨nd, rfl⟩⟩; refine ⟨_, rfl, ?_⟩) | (go_at_call 42; (with_reducible refine (onairref06_within.calls a0_7 1 200 true _ A52.out).mono ?_); rintro e w' ⟨rfl, ⟨nd, rfl⟩⟩) | (go_at_call 42; (with_reducible refine (onairref06_within.calls a0_5 0 86400 false _ A56.out).mono ?_); rintro e w' ⟨rfl, ⟨nd, rfl⟩⟩))
                          go_ret
                          exact ⟨by first | rfl | (simp [errW_none, errW_some] <;> rfl) | (simp [*, errW_none, errW_some] <;> rfl), by repeat (first | (with_reducible first | exact HB.out | apply below_alloc | apply pw_below_drewN | apply below_drew1 | refine below_set ?_ GE271.out) | exact HB.out)⟩
                    · replace c53 := Bool.eq_false_iff.mpr c53
                      subst c53
                      have H1 : (some false) = some r := by rw [if_neg (show ¬ (false = true) by decide)] at H; exact H
                      clear H
                      have H := H1
                      clear H1
                      obtain rfl := Option.some.inj H
                      have hcz66_0 : wc.cell? ⟨gb271, 0, none⟩ = some (.int .i64 a0_0) := (blk_cell BK271.out 0).trans rfl
                      have hcz66_1 : wc.cell? ⟨gb271, 1, none⟩ = some (.int .i64 a0_1) := (blk_cell BK271.out 1).trans rfl
                      have hcz66_2 : wc.cell? ⟨gb271, 2, none⟩ = some (.int .i64 a0_2) := (blk_cell BK271.out 2).trans rfl
                      have hcz66_3 : wc.cell? ⟨gb271, 3, none⟩ = some (.int .i64 a0_3) := (blk_cell BK271.out 3).trans rfl
                      have hcz66_4 : wc.cell? ⟨gb271, 4, none⟩ = some (.int .i64 a0_4) := (blk_cell BK271.out 4).trans rfl
                      have hcz66_5 : wc.cell? ⟨gb271, 5, none⟩ = some (.int .i64 a0_5) := (blk_cell BK271.out 5).trans rfl
                      have hcz66_6 : wc.cell? ⟨gb271, 6, none⟩ = some (.int .i64 a0_6) := (blk_cell BK271.out 6).trans rfl
                      have hcz66_7 : wc.cell? ⟨gb271, 7, none⟩ = some (.int .i64 a0_7) := (blk_cell BK271.out 7).trans rfl
                      have hfz66_0 := blk_frozen BK271.out 0
                      have hfz66_1 := blk_frozen BK271.out 1
                      have hfz66_2 := blk_frozen BK271.out 2
                      have hfz66_3 := blk_frozen BK271.out 3
                      have hfz66_4 := blk_frozen BK271.out 4
                      have hfz66_5 := blk_frozen BK271.out 5
                      have hfz66_6 := blk_frozen BK271.out 6
                      have hfz66_7 := blk_frozen BK271.out 7
                      go_wp2_with (first | ((with_reducible refine gate_callee (f := 42) rfl ?_); refine goesL_ (some 112) rfl rfl Try.func42 (by kernel_rfl) rfl #[.int .i64 a0_6, .int .i64 1, .int .i64 200] rfl (by (try simp only [List.map_toArray, List.map_cons, List.map_nil]); first | done | rfl | (simp only [List.length_drop, List.length_take]; rfl)) ?_; (with_reducible refine (onairref06_within.calls a0_6 1 200 true _ A50.out).mono ?_); rintro e w' ⟨rfl, ⟨nd, rfl⟩⟩; refine ⟨_, rfl, ?_⟩) | (go_at_call 42; (with_reducible refine (onairref06_within.calls a0_7 1 200 false _ A52.out).mono ?_); rintro e w' ⟨rfl, ⟨nd, rfl⟩⟩))
                      go_ret
                      exact ⟨by first | rfl | (simp [errW_none, errW_some] <;> rfl) | (simp [*, errW_none, errW_some] <;> rfl), by repeat (first | (with_reducible first | exact HB.out | apply below_alloc | apply pw_below_drewN | apply below_drew1 | refine below_set ?_ GE271.out) | exact HB.out)⟩
                  · replace c51 := Bool.eq_false_iff.mpr c51
                    subst c51
                    have H1 : (some false) = some r := by rw [if_neg (show ¬ (false = true) by decide)] at H; exact H
                    clear H
                    have H := H1
                    clear H1
                    obtain rfl := Option.some.inj H
                    have hcz67_0 : wc.cell? ⟨gb271, 0, none⟩ = some (.int .i64 a0_0) := (blk_cell BK271.out 0).trans rfl
                    have hcz67_1 : wc.cell? ⟨gb271, 1, none⟩ = some (.int .i64 a0_1) := (blk_cell BK271.out 1).trans rfl
                    have hcz67_2 : wc.cell? ⟨gb271, 2, none⟩ = some (.int .i64 a0_2) := (blk_cell BK271.out 2).trans rfl
                    have hcz67_3 : wc.cell? ⟨gb271, 3, none⟩ = some (.int .i64 a0_3) := (blk_cell BK271.out 3).trans rfl
                    have hcz67_4 : wc.cell? ⟨gb271, 4, none⟩ = some (.int .i64 a0_4) := (blk_cell BK271.out 4).trans rfl
                    have hcz67_5 : wc.cell? ⟨gb271, 5, none⟩ = some (.int .i64 a0_5) := (blk_cell BK271.out 5).trans rfl
                    have hcz67_6 : wc.cell? ⟨gb271, 6, none⟩ = some (.int .i64 a0_6) := (blk_cell BK271.out 6).trans rfl
                    have hcz67_7 : wc.cell? ⟨gb271, 7, none⟩ = some (.int .i64 a0_7) := (blk_cell BK271.out 7).trans rfl
                    have hfz67_0 := blk_frozen BK271.out 0
                    have hfz67_1 := blk_frozen BK271.out 1
                    have hfz67_2 := blk_frozen BK271.out 2
                    have hfz67_3 := blk_frozen BK271.out 3
                    have hfz67_4 := blk_frozen BK271.out 4
                    have hfz67_5 := blk_frozen BK271.out 5
                    have hfz67_6 := blk_frozen BK271.out 6
                    have hfz67_7 := blk_frozen BK271.out 7
                    go_wp2_with (first | ((with_reducible refine gate_callee (f := 42) rfl ?_); refine goesL_ (some 112) rfl rfl Try.func42 (by kernel_rfl) rfl #[.int .i64 a0_6, .int .i64 1, .int .i64 200] rfl (by (try simp only [List.map_toArray, List.map_cons, List.map_nil]); first | done | rfl | (simp only [List.length_drop, List.length_take]; rfl)) ?_; (with_reducible refine (onairref06_within.calls a0_6 1 200 false _ A50.out).mono ?_); rintro e w' ⟨rfl, ⟨nd, rfl⟩⟩; refine ⟨_, rfl, ?_⟩))
                    go_ret
                    exact ⟨by first | rfl | (simp [errW_none, errW_some] <;> rfl) | (simp [*, errW_none, errW_some] <;> rfl), by repeat (first | (with_reducible first | exact HB.out | apply below_alloc | apply pw_below_drewN | apply below_drew1 | refine below_set ?_ GE271.out) | exact HB.out)⟩
                · rw [if_neg c49] at H
                  have c49b0 : (a0_0 == 5) = false := beq_eq_false_iff_ne.mpr c49
                  have c49b1 : (a0_0 != 5) = true := bne_iff_ne.mpr c49
                  by_cases c68 : a0_0 = 6
                  · rw [if_pos c68] at H
                    have c68b0 : (a0_0 == 6) = true := beq_iff_eq.mpr c68
                    have c68b1 : (a0_0 != 6) = false := bne_eq_false_iff_eq.mpr c68
                    clear c68
                    replace H := Option.bind_eq_some_iff.mp H
                    obtain ⟨t279, A690, H⟩ := H
                    replace H : (if t279 = true then ((onairref06_within.f a0_3 0 86340).bind fun t280 => (if t280 = true then (if (Int.tmod a0_2 60) = 0 then (if (Int.tmod a0_3 60) = 0 then (if a0_2 = a0_3 then (some false) else ((onairref06_within.f a0_6 1 3).bind fun t281 => (if t281 = true then (if a0_1 = 0 then (if a0_4 = 0 then (if a0_5 = 0 then (some (a0_7 == 0)) else (some false)) else (some false)) else (some false)) else (some false)))) else (some false)) else (some false)) else (some false))) else (some false)) = some r := H
                    have A69 := Aside0.mk A690
                    clear A690
                    by_cases c70 : t279 = true
                    · subst c70
                      have H1 : ((onairref06_within.f a0_3 0 86340).bind fun t280 => (if t280 = true then (if (Int.tmod a0_2 60) = 0 then (if (Int.tmod a0_3 60) = 0 then (if a0_2 = a0_3 then (some false) else ((onairref06_within.f a0_6 1 3).bind fun t281 => (if t281 = true then (if a0_1 = 0 then (if a0_4 = 0 then (if a0_5 = 0 then (some (a0_7 == 0)) else (some false)) else (some false)) else (some false)) else (some false)))) else (some false)) else (some false)) else (some false))) = some r := by rw [if_pos rfl] at H; exact H
                      clear H
                      have H := H1
                      clear H1
                      replace H := Option.bind_eq_some_iff.mp H
                      obtain ⟨t280, A710, H⟩ := H
                      replace H : (if t280 = true then (if (Int.tmod a0_2 60) = 0 then (if (Int.tmod a0_3 60) = 0 then (if a0_2 = a0_3 then (some false) else ((onairref06_within.f a0_6 1 3).bind fun t281 => (if t281 = true then (if a0_1 = 0 then (if a0_4 = 0 then (if a0_5 = 0 then (some (a0_7 == 0)) else (some false)) else (some false)) else (some false)) else (some false)))) else (some false)) else (some false)) else (some false)) = some r := H
                      have A71 := Aside0.mk A710
                      clear A710
                      by_cases c72 : t280 = true
                      · subst c72
                        have H1 : (if (Int.tmod a0_2 60) = 0 then (if (Int.tmod a0_3 60) = 0 then (if a0_2 = a0_3 then (some false) else ((onairref06_within.f a0_6 1 3).bind fun t281 => (if t281 = true then (if a0_1 = 0 then (if a0_4 = 0 then (if a0_5 = 0 then (some (a0_7 == 0)) else (some false)) else (some false)) else (some false)) else (some false)))) else (some false)) else (some false)) = some r := by rw [if_pos rfl] at H; exact H
                        clear H
                        have H := H1
                        clear H1
                        by_cases c73 : (Int.tmod a0_2 60) = 0
                        · rw [if_pos c73] at H
                          have c73b0 : ((Int.tmod a0_2 60) == 0) = true := beq_iff_eq.mpr c73
                          have c73b1 : ((Int.tmod a0_2 60) != 0) = false := bne_eq_false_iff_eq.mpr c73
                          clear c73
                          by_cases c74 : (Int.tmod a0_3 60) = 0
                          · rw [if_pos c74] at H
                            have c74b0 : ((Int.tmod a0_3 60) == 0) = true := beq_iff_eq.mpr c74
                            have c74b1 : ((Int.tmod a0_3 60) != 0) = false := bne_eq_false_iff_eq.mpr c74
                            clear c74
                            by_cases c75 : a0_2 = a0_3
                            · rw [if_pos c75] at H
                              have c75b0 : (a0_2 == a0_3) = true := beq_iff_eq.mpr c75
                              have c75b1 : (a0_2 != a0_3) = false := bne_eq_false_iff_eq.mpr c75
                              clear c75
                              obtain rfl := Option.some.inj H
                              have hcz76_0 : wc.cell? ⟨gb271, 0, none⟩ = some (.int .i64 a0_0) := (blk_cell BK271.out 0).trans rfl
                              have hcz76_1 : wc.cell? ⟨gb271, 1, none⟩ = some (.int .i64 a0_1) := (blk_cell BK271.out 1).trans rfl
                              have hcz76_2 : wc.cell? ⟨gb271, 2, none⟩ = some (.int .i64 a0_2) := (blk_cell BK271.out 2).trans rfl
                              have hcz76_3 : wc.cell? ⟨gb271, 3, none⟩ = some (.int .i64 a0_3) := (blk_cell BK271.out 3).trans rfl
                              have hcz76_4 : wc.cell? ⟨gb271, 4, none⟩ = some (.int .i64 a0_4) := (blk_cell BK271.out 4).trans rfl
                              have hcz76_5 : wc.cell? ⟨gb271, 5, none⟩ = some (.int .i64 a0_5) := (blk_cell BK271.out 5).trans rfl
                              have hcz76_6 : wc.cell? ⟨gb271, 6, none⟩ = some (.int .i64 a0_6) := (blk_cell BK271.out 6).trans rfl
                              have hcz76_7 : wc.cell? ⟨gb271, 7, none⟩ = some (.int .i64 a0_7) := (blk_cell BK271.out 7).trans rfl
                              have hfz76_0 := blk_frozen BK271.out 0
                              have hfz76_1 := blk_frozen BK271.out 1
                              have hfz76_2 := blk_frozen BK271.out 2
                              have hfz76_3 := blk_frozen BK271.out 3
                              have hfz76_4 := blk_frozen BK271.out 4
                              have hfz76_5 := blk_frozen BK271.out 5
                              have hfz76_6 := blk_frozen BK271.out 6
                              have hfz76_7 := blk_frozen BK271.out 7
                              go_wp2_with (first | ((with_reducible refine gate_callee (f := 42) rfl ?_); refine goesL_ (some 155) rfl rfl Try.func42 (by kernel_rfl) rfl #[.int .i64 a0_2, .int .i64 0, .int .i64 86340] rfl (by (try simp only [List.map_toArray, List.map_cons, List.map_nil]); first | done | rfl | (simp only [List.length_drop, List.length_take]; rfl)) ?_; (with_reducible refine (onairref06_within.calls a0_2 0 86340 true _ A69.out).mono ?_); rintro e w' ⟨rfl, ⟨nd, rfl⟩⟩; refine ⟨_, rfl, ?_⟩) | (go_at_call 42; (with_reducible refine (onairref06_within.calls a0_3 0 86340 true _ A71.out).mono ?_); rintro e w' ⟨rfl, ⟨nd, rfl⟩⟩))
                              go_ret
                              exact ⟨by first | rfl | (simp [errW_none, errW_some] <;> rfl) | (simp [*, errW_none, errW_some] <;> rfl), by repeat (first | (with_reducible first | exact HB.out | apply below_alloc | apply pw_below_drewN | apply below_drew1 | refine below_set ?_ GE271.out) | exact HB.out)⟩
                            · rw [if_neg c75] at H
                              have c75b0 : (a0_2 == a0_3) = false := beq_eq_false_iff_ne.mpr c75
                              have c75b1 : (a0_2 != a0_3) = true := bne_iff_ne.mpr c75
                              replace H := Option.bind_eq_some_iff.mp H
                              obtain ⟨t281, A770, H⟩ := H
                              replace H : (if t281 = true then (if a0_1 = 0 then (if a0_4 = 0 then (if a0_5 = 0 then (some (a0_7 == 0)) else (some false)) else (some false)) else (some false)) else (some false)) = some r := H
                              have A77 := Aside0.mk A770
                              clear A770
                              by_cases c78 : t281 = true
                              · subst c78
                                have H1 : (if a0_1 = 0 then (if a0_4 = 0 then (if a0_5 = 0 then (some (a0_7 == 0)) else (some false)) else (some false)) else (some false)) = some r := by rw [if_pos rfl] at H; exact H
                                clear H
                                have H := H1
                                clear H1
                                by_cases c79 : a0_1 = 0
                                · rw [if_pos c79] at H
                                  have c79b0 : (a0_1 == 0) = true := beq_iff_eq.mpr c79
                                  have c79b1 : (a0_1 != 0) = false := bne_eq_false_iff_eq.mpr c79
                                  clear c79
                                  by_cases c80 : a0_4 = 0
                                  · rw [if_pos c80] at H
                                    have c80b0 : (a0_4 == 0) = true := beq_iff_eq.mpr c80
                                    have c80b1 : (a0_4 != 0) = false := bne_eq_false_iff_eq.mpr c80
                                    clear c80
                                    by_cases c81 : a0_5 = 0
                                    · rw [if_pos c81] at H
                                      have c81b0 : (a0_5 == 0) = true := beq_iff_eq.mpr c81
                                      have c81b1 : (a0_5 != 0) = false := bne_eq_false_iff_eq.mpr c81
                                      clear c81
                                      obtain rfl := Option.some.inj H
                                      have hcz82_0 : wc.cell? ⟨gb271, 0, none⟩ = some (.int .i64 a0_0) := (blk_cell BK271.out 0).trans rfl
                                      have hcz82_1 : wc.cell? ⟨gb271, 1, none⟩ = some (.int .i64 a0_1) := (blk_cell BK271.out 1).trans rfl
                                      have hcz82_2 : wc.cell? ⟨gb271, 2, none⟩ = some (.int .i64 a0_2) := (blk_cell BK271.out 2).trans rfl
                                      have hcz82_3 : wc.cell? ⟨gb271, 3, none⟩ = some (.int .i64 a0_3) := (blk_cell BK271.out 3).trans rfl
                                      have hcz82_4 : wc.cell? ⟨gb271, 4, none⟩ = some (.int .i64 a0_4) := (blk_cell BK271.out 4).trans rfl
                                      have hcz82_5 : wc.cell? ⟨gb271, 5, none⟩ = some (.int .i64 a0_5) := (blk_cell BK271.out 5).trans rfl
                                      have hcz82_6 : wc.cell? ⟨gb271, 6, none⟩ = some (.int .i64 a0_6) := (blk_cell BK271.out 6).trans rfl
                                      have hcz82_7 : wc.cell? ⟨gb271, 7, none⟩ = some (.int .i64 a0_7) := (blk_cell BK271.out 7).trans rfl
                                      have hfz82_0 := blk_frozen BK271.out 0
                                      have hfz82_1 := blk_frozen BK271.out 1
                                      have hfz82_2 := blk_frozen BK271.out 2
                                      have hfz82_3 := blk_frozen BK271.out 3
                                      have hfz82_4 := blk_frozen BK271.out 4
                                      have hfz82_5 := blk_frozen BK271.out 5
                                      have hfz82_6 := blk_frozen BK271.out 6
                                      have hfz82_7 := blk_frozen BK271.out 7
                                      go_wp2_with (first | ((with_reducible refine gate_callee (f := 42) rfl ?_); refine goesL_ (some 155) rfl rfl Try.func42 (by kernel_rfl) rfl #[.int .i64 a0_2, .int .i64 0, .int .i64 86340] rfl (by (try simp only [List.map_toArray, List.map_cons, List.map_nil]); first | done | rfl | (simp only [List.length_drop, List.length_take]; rfl)) ?_; (with_reducible refine (onairref06_within.calls a0_2 0 86340 true _ A69.out).mono ?_); rintro e w' ⟨rfl, ⟨nd, rfl⟩⟩; refine ⟨_, rfl, ?_⟩) | (go_at_call 42; (with_reducible refine (onairref06_within.calls a0_3 0 86340 true _ A71.out).mono ?_); rintro e w' ⟨rfl, ⟨nd, rfl⟩⟩) | (go_at_call 42; (with_reducible refine (onairref06_within.calls a0_6 1 3 true _ A77.out).mono ?_); rintro e w' ⟨rfl, ⟨nd, rfl⟩⟩))
                                      go_ret
                                      exact ⟨by first | rfl | (simp [errW_none, errW_some] <;> rfl) | (simp [*, errW_none, errW_some] <;> rfl), by repeat (first | (with_reducible first | exact HB.out | apply below_alloc | apply pw_below_drewN | apply below_drew1 | refine below_set ?_ GE271.out) | exact HB.out)⟩
                                    · rw [if_neg c81] at H
                                      have c81b0 : (a0_5 == 0) = false := beq_eq_false_iff_ne.mpr c81
                                      have c81b1 : (a0_5 != 0) = true := bne_iff_ne.mpr c81
                                      obtain rfl := Option.some.inj H
                                      have hcz83_0 : wc.cell? ⟨gb271, 0, none⟩ = some (.int .i64 a0_0) := (blk_cell BK271.out 0).trans rfl
                                      have hcz83_1 : wc.cell? ⟨gb271, 1, none⟩ = some (.int .i64 a0_1) := (blk_cell BK271.out 1).trans rfl
                                      have hcz83_2 : wc.cell? ⟨gb271, 2, none⟩ = some (.int .i64 a0_2) := (blk_cell BK271.out 2).trans rfl
                                      have hcz83_3 : wc.cell? ⟨gb271, 3, none⟩ = some (.int .i64 a0_3) := (blk_cell BK271.out 3).trans rfl
                                      have hcz83_4 : wc.cell? ⟨gb271, 4, none⟩ = some (.int .i64 a0_4) := (blk_cell BK271.out 4).trans rfl
                                      have hcz83_5 : wc.cell? ⟨gb271, 5, none⟩ = some (.int .i64 a0_5) := (blk_cell BK271.out 5).trans rfl
                                      have hcz83_6 : wc.cell? ⟨gb271, 6, none⟩ = some (.int .i64 a0_6) := (blk_cell BK271.out 6).trans rfl
                                      have hcz83_7 : wc.cell? ⟨gb271, 7, none⟩ = some (.int .i64 a0_7) := (blk_cell BK271.out 7).trans rfl
                                      have hfz83_0 := blk_frozen BK271.out 0
                                      have hfz83_1 := blk_frozen BK271.out 1
                                      have hfz83_2 := blk_frozen BK271.out 2
                                      have hfz83_3 := blk_frozen BK271.out 3
                                      have hfz83_4 := blk_frozen BK271.out 4
                                      have hfz83_5 := blk_frozen BK271.out 5
                                      have hfz83_6 := blk_frozen BK271.out 6
                                      have hfz83_7 := blk_frozen BK271.out 7
                                      go_wp2_with (first | ((with_reducible refine gate_callee (f := 42) rfl ?_); refine goesL_ (some 155) rfl rfl Try.func42 (by kernel_rfl) rfl #[.int .i64 a0_2, .int .i64 0, .int .i64 86340] rfl (by (try simp only [List.map_toArray, List.map_cons, List.map_nil]); first | done | rfl | (simp only [List.length_drop, List.length_take]; rfl)) ?_; (with_reducible refine (onairref06_within.calls a0_2 0 86340 true _ A69.out).mono ?_); rintro e w' ⟨rfl, ⟨nd, rfl⟩⟩; refine ⟨_, rfl, ?_⟩) | (go_at_call 42; (with_reducible refine (onairref06_within.calls a0_3 0 86340 true _ A71.out).mono ?_); rintro e w' ⟨rfl, ⟨nd, rfl⟩⟩) | (go_at_call 42; (with_reducible refine (onairref06_within.calls a0_6 1 3 true _ A77.out).mono ?_); rintro e w' ⟨rfl, ⟨nd, rfl⟩⟩))
                                      go_ret
                                      exact ⟨by first | rfl | (simp [errW_none, errW_some] <;> rfl) | (simp [*, errW_none, errW_some] <;> rfl), by repeat (first | (with_reducible first | exact HB.out | apply below_alloc | apply pw_below_drewN | apply below_drew1 | refine below_set ?_ GE271.out) | exact HB.out)⟩
                                  · rw [if_neg c80] at H
                                    have c80b0 : (a0_4 == 0) = false := beq_eq_false_iff_ne.mpr c80
                                    have c80b1 : (a0_4 != 0) = true := bne_iff_ne.mpr c80
                                    obtain rfl := Option.some.inj H
                                    have hcz84_0 : wc.cell? ⟨gb271, 0, none⟩ = some (.int .i64 a0_0) := (blk_cell BK271.out 0).trans rfl
                                    have hcz84_1 : wc.cell? ⟨gb271, 1, none⟩ = some (.int .i64 a0_1) := (blk_cell BK271.out 1).trans rfl
                                    have hcz84_2 : wc.cell? ⟨gb271, 2, none⟩ = some (.int .i64 a0_2) := (blk_cell BK271.out 2).trans rfl
                                    have hcz84_3 : wc.cell? ⟨gb271, 3, none⟩ = some (.int .i64 a0_3) := (blk_cell BK271.out 3).trans rfl
                                    have hcz84_4 : wc.cell? ⟨gb271, 4, none⟩ = some (.int .i64 a0_4) := (blk_cell BK271.out 4).trans rfl
                                    have hcz84_5 : wc.cell? ⟨gb271, 5, none⟩ = some (.int .i64 a0_5) := (blk_cell BK271.out 5).trans rfl
                                    have hcz84_6 : wc.cell? ⟨gb271, 6, none⟩ = some (.int .i64 a0_6) := (blk_cell BK271.out 6).trans rfl
                                    have hcz84_7 : wc.cell? ⟨gb271, 7, none⟩ = some (.int .i64 a0_7) := (blk_cell BK271.out 7).trans rfl
                                    have hfz84_0 := blk_frozen BK271.out 0
                                    have hfz84_1 := blk_frozen BK271.out 1
                                    have hfz84_2 := blk_frozen BK271.out 2
                                    have hfz84_3 := blk_frozen BK271.out 3
                                    have hfz84_4 := blk_frozen BK271.out 4
                                    have hfz84_5 := blk_frozen BK271.out 5
                                    have hfz84_6 := blk_frozen BK271.out 6
                                    have hfz84_7 := blk_frozen BK271.out 7
                                    go_wp2_with (first | ((with_reducible refine gate_callee (f := 42) rfl ?_); refine goesL_ (some 155) rfl rfl Try.func42 (by kernel_rfl) rfl #[.int .i64 a0_2, .int .i64 0, .int .i64 86340] rfl (by (try simp only [List.map_toArray, List.map_cons, List.map_nil]); first | done | rfl | (simp only [List.length_drop, List.length_take]; rfl)) ?_; (with_reducible refine (onairref06_within.calls a0_2 0 86340 true _ A69.out).mono ?_); rintro e w' ⟨rfl, ⟨nd, rfl⟩⟩; refine ⟨_, rfl, ?_⟩) | (go_at_call 42; (with_reducible refine (onairref06_within.calls a0_3 0 86340 true _ A71.out).mono ?_); rintro e w' ⟨rfl, ⟨nd, rfl⟩⟩) | (go_at_call 42; (with_reducible refine (onairref06_within.calls a0_6 1 3 true _ A77.out).mono ?_); rintro e w' ⟨rfl, ⟨nd, rfl⟩⟩))
                                    go_ret
                                    exact ⟨by first | rfl | (simp [errW_none, errW_some] <;> rfl) | (simp [*, errW_none, errW_some] <;> rfl), by repeat (first | (with_reducible first | exact HB.out | apply below_alloc | apply pw_below_drewN | apply below_drew1 | refine below_set ?_ GE271.out) | exact HB.out)⟩
                                · rw [if_neg c79] at H
                                  have c79b0 : (a0_1 == 0) = false := beq_eq_false_iff_ne.mpr c79
                                  have c79b1 : (a0_1 != 0) = true := bne_iff_ne.mpr c79
                                  obtain rfl := Option.some.inj H
                                  have hcz85_0 : wc.cell? ⟨gb271, 0, none⟩ = some (.int .i64 a0_0) := (blk_cell BK271.out 0).trans rfl
                                  have hcz85_1 : wc.cell? ⟨gb271, 1, none⟩ = some (.int .i64 a0_1) := (blk_cell BK271.out 1).trans rfl
                                  have hcz85_2 : wc.cell? ⟨gb271, 2, none⟩ = some (.int .i64 a0_2) := (blk_cell BK271.out 2).trans rfl
                                  have hcz85_3 : wc.cell? ⟨gb271, 3, none⟩ = some (.int .i64 a0_3) := (blk_cell BK271.out 3).trans rfl
                                  have hcz85_4 : wc.cell? ⟨gb271, 4, none⟩ = some (.int .i64 a0_4) := (blk_cell BK271.out 4).trans rfl
                                  have hcz85_5 : wc.cell? ⟨gb271, 5, none⟩ = some (.int .i64 a0_5) := (blk_cell BK271.out 5).trans rfl
                                  have hcz85_6 : wc.cell? ⟨gb271, 6, none⟩ = some (.int .i64 a0_6) := (blk_cell BK271.out 6).trans rfl
                                  have hcz85_7 : wc.cell? ⟨gb271, 7, none⟩ = some (.int .i64 a0_7) := (blk_cell BK271.out 7).trans rfl
                                  have hfz85_0 := blk_frozen BK271.out 0
                                  have hfz85_1 := blk_frozen BK271.out 1
                                  have hfz85_2 := blk_frozen BK271.out 2
                                  have hfz85_3 := blk_frozen BK271.out 3
                                  have hfz85_4 := blk_frozen BK271.out 4
                                  have hfz85_5 := blk_frozen BK271.out 5
                                  have hfz85_6 := blk_frozen BK271.out 6
                                  have hfz85_7 := blk_frozen BK271.out 7
                                  go_wp2_with (first | ((with_reducible refine gate_callee (f := 42) rfl ?_); refine goesL_ (some 155) rfl rfl Try.func42 (by kernel_rfl) rfl #[.int .i64 a0_2, .int .i64 0, .int .i64 86340] rfl (by (try simp only [List.map_toArray, List.map_cons, List.map_nil]); first | done | rfl | (simp only [List.length_drop, List.length_take]; rfl)) ?_; (with_reducible refine (onairref06_within.calls a0_2 0 86340 true _ A69.out).mono ?_); rintro e w' ⟨rfl, ⟨nd, rfl⟩⟩; refine ⟨_, rfl, ?_⟩) | (go_at_call 42; (with_reducible refine (onairref06_within.calls a0_3 0 86340 true _ A71.out).mono ?_); rintro e w' ⟨rfl, ⟨nd, rfl⟩⟩) | (go_at_call 42; (with_reducible refine (onairref06_within.calls a0_6 1 3 true _ A77.out).mono ?_); rintro e w' ⟨rfl, ⟨nd, rfl⟩⟩))
                                  go_ret
                                  exact ⟨by first | rfl | (simp [errW_none, errW_some] <;> rfl) | (simp [*, errW_none, errW_some] <;> rfl), by repeat (first | (with_reducible first | exact HB.out | apply below_alloc | apply pw_below_drewN | apply below_drew1 | refine below_set ?_ GE271.out) | exact HB.out)⟩
                              · replace c78 := Bool.eq_false_iff.mpr c78
                                subst c78
                                have H1 : (some false) = some r := by rw [if_neg (show ¬ (false = true) by decide)] at H; exact H
                                clear H
                                have H := H1
                                clear H1
                                obtain rfl := Option.some.inj H
                                have hcz86_0 : wc.cell? ⟨gb271, 0, none⟩ = some (.int .i64 a0_0) := (blk_cell BK271.out 0).trans rfl
                                have hcz86_1 : wc.cell? ⟨gb271, 1, none⟩ = some (.int .i64 a0_1) := (blk_cell BK271.out 1).trans rfl
                                have hcz86_2 : wc.cell? ⟨gb271, 2, none⟩ = some (.int .i64 a0_2) := (blk_cell BK271.out 2).trans rfl
                                have hcz86_3 : wc.cell? ⟨gb271, 3, none⟩ = some (.int .i64 a0_3) := (blk_cell BK271.out 3).trans rfl
                                have hcz86_4 : wc.cell? ⟨gb271, 4, none⟩ = some (.int .i64 a0_4) := (blk_cell BK271.out 4).trans rfl
                                have hcz86_5 : wc.cell? ⟨gb271, 5, none⟩ = some (.int .i64 a0_5) := (blk_cell BK271.out 5).trans rfl
                                have hcz86_6 : wc.cell? ⟨gb271, 6, none⟩ = some (.int .i64 a0_6) := (blk_cell BK271.out 6).trans rfl
                                have hcz86_7 : wc.cell? ⟨gb271, 7, none⟩ = some (.int .i64 a0_7) := (blk_cell BK271.out 7).trans rfl
                                have hfz86_0 := blk_frozen BK271.out 0
                                have hfz86_1 := blk_frozen BK271.out 1
                                have hfz86_2 := blk_frozen BK271.out 2
                                have hfz86_3 := blk_frozen BK271.out 3
                                have hfz86_4 := blk_frozen BK271.out 4
                                have hfz86_5 := blk_frozen BK271.out 5
                                have hfz86_6 := blk_frozen BK271.out 6
                                have hfz86_7 := blk_frozen BK271.out 7
                                go_wp2_with (first | ((with_reducible refine gate_callee (f := 42) rfl ?_); refine goesL_ (some 155) rfl rfl Try.func42 (by kernel_rfl) rfl #[.int .i64 a0_2, .int .i64 0, .int .i64 86340] rfl (by (try simp only [List.map_toArray, List.map_cons, List.map_nil]); first | done | rfl | (simp only [List.length_drop, List.length_take]; rfl)) ?_; (with_reducible refine (onairref06_within.calls a0_2 0 86340 true _ A69.out).mono ?_); rintro e w' ⟨rfl, ⟨nd, rfl⟩⟩; refine ⟨_, rfl, ?_⟩) | (go_at_call 42; (with_reducible refine (onairref06_within.calls a0_3 0 86340 true _ A71.out).mono ?_); rintro e w' ⟨rfl, ⟨nd, rfl⟩⟩) | (go_at_call 42; (with_reducible refine (onairref06_within.calls a0_6 1 3 false _ A77.out).mono ?_); rintro e w' ⟨rfl, ⟨nd, rfl⟩⟩))
                                go_ret
                                exact ⟨by first | rfl | (simp [errW_none, errW_some] <;> rfl) | (simp [*, errW_none, errW_some] <;> rfl), by repeat (first | (with_reducible first | exact HB.out | apply below_alloc | apply pw_below_drewN | apply below_drew1 | refine below_set ?_ GE271.out) | exact HB.out)⟩
                          · rw [if_neg c74] at H
                            have c74b0 : ((Int.tmod a0_3 60) == 0) = false := beq_eq_false_iff_ne.mpr c74
                            have c74b1 : ((Int.tmod a0_3 60) != 0) = true := bne_iff_ne.mpr c74
                            obtain rfl := Option.some.inj H
                            have hcz87_0 : wc.cell? ⟨gb271, 0, none⟩ = some (.int .i64 a0_0) := (blk_cell BK271.out 0).trans rfl
                            have hcz87_1 : wc.cell? ⟨gb271, 1, none⟩ = some (.int .i64 a0_1) := (blk_cell BK271.out 1).trans rfl
                            have hcz87_2 : wc.cell? ⟨gb271, 2, none⟩ = some (.int .i64 a0_2) := (blk_cell BK271.out 2).trans rfl
                            have hcz87_3 : wc.cell? ⟨gb271, 3, none⟩ = some (.int .i64 a0_3) := (blk_cell BK271.out 3).trans rfl
                            have hcz87_4 : wc.cell? ⟨gb271, 4, none⟩ = some (.int .i64 a0_4) := (blk_cell BK271.out 4).trans rfl
                            have hcz87_5 : wc.cell? ⟨gb271, 5, none⟩ = some (.int .i64 a0_5) := (blk_cell BK271.out 5).trans rfl
                            have hcz87_6 : wc.cell? ⟨gb271, 6, none⟩ = some (.int .i64 a0_6) := (blk_cell BK271.out 6).trans rfl
                            have hcz87_7 : wc.cell? ⟨gb271, 7, none⟩ = some (.int .i64 a0_7) := (blk_cell BK271.out 7).trans rfl
                            have hfz87_0 := blk_frozen BK271.out 0
                            have hfz87_1 := blk_frozen BK271.out 1
                            have hfz87_2 := blk_frozen BK271.out 2
                            have hfz87_3 := blk_frozen BK271.out 3
                            have hfz87_4 := blk_frozen BK271.out 4
                            have hfz87_5 := blk_frozen BK271.out 5
                            have hfz87_6 := blk_frozen BK271.out 6
                            have hfz87_7 := blk_frozen BK271.out 7
                            go_wp2_with (first | ((with_reducible refine gate_callee (f := 42) rfl ?_); refine goesL_ (some 155) rfl rfl Try.func42 (by kernel_rfl) rfl #[.int .i64 a0_2, .int .i64 0, .int .i64 86340] rfl (by (try simp only [List.map_toArray, List.map_cons, List.map_nil]); first | done | rfl | (simp only [List.length_drop, List.length_take]; rfl)) ?_; (with_reducible refine (onairref06_within.calls a0_2 0 86340 true _ A69.out).mono ?_); rintro e w' ⟨rfl, ⟨nd, rfl⟩⟩; refine ⟨_, rfl, ?_⟩) | (go_at_call 42; (with_reducible refine (onairref06_within.calls a0_3 0 86340 true _ A71.out).mono ?_); rintro e w' ⟨rfl, ⟨nd, rfl⟩⟩))
                            go_ret
                            exact ⟨by first | rfl | (simp [errW_none, errW_some] <;> rfl) | (simp [*, errW_none, errW_some] <;> rfl), by repeat (first | (with_reducible first | exact HB.out | apply below_alloc | apply pw_below_drewN | apply below_drew1 | refine below_set ?_ GE271.out) | exact HB.out)⟩
                        · rw [if_neg c73] at H
                          have c73b0 : ((Int.tmod a0_2 60) == 0) = false := beq_eq_false_iff_ne.mpr c73
                          have c73b1 : ((Int.tmod a0_2 60) != 0) = true := bne_iff_ne.mpr c73
                          obtain rfl := Option.some.inj H
                          have hcz88_0 : wc.cell? ⟨gb271, 0, none⟩ = some (.int .i64 a0_0) := (blk_cell BK271.out 0).trans rfl
                          have hcz88_1 : wc.cell? ⟨gb271, 1, none⟩ = some (.int .i64 a0_1) := (blk_cell BK271.out 1).trans rfl
                          have hcz88_2 : wc.cell? ⟨gb271, 2, none⟩ = some (.int .i64 a0_2) := (blk_cell BK271.out 2).trans rfl
                          have hcz88_3 : wc.cell? ⟨gb271, 3, none⟩ = some (.int .i64 a0_3) := (blk_cell BK271.out 3).trans rfl
                          have hcz88_4 : wc.cell? ⟨gb271, 4, none⟩ = some (.int .i64 a0_4) := (blk_cell BK271.out 4).trans rfl
                          have hcz88_5 : wc.cell? ⟨gb271, 5, none⟩ = some (.int .i64 a0_5) := (blk_cell BK271.out 5).trans rfl
                          have hcz88_6 : wc.cell? ⟨gb271, 6, none⟩ = some (.int .i64 a0_6) := (blk_cell BK271.out 6).trans rfl
                          have hcz88_7 : wc.cell? ⟨gb271, 7, none⟩ = some (.int .i64 a0_7) := (blk_cell BK271.out 7).trans rfl
                          have hfz88_0 := blk_frozen BK271.out 0
                          have hfz88_1 := blk_frozen BK271.out 1
                          have hfz88_2 := blk_frozen BK271.out 2
                          have hfz88_3 := blk_frozen BK271.out 3
                          have hfz88_4 := blk_frozen BK271.out 4
                          have hfz88_5 := blk_frozen BK271.out 5
                          have hfz88_6 := blk_frozen BK271.out 6
                          have hfz88_7 := blk_frozen BK271.out 7
                          go_wp2_with (first | ((with_reducible refine gate_callee (f := 42) rfl ?_); refine goesL_ (some 155) rfl rfl Try.func42 (by kernel_rfl) rfl #[.int .i64 a0_2, .int .i64 0, .int .i64 86340] rfl (by (try simp only [List.map_toArray, List.map_cons, List.map_nil]); first | done | rfl | (simp only [List.length_drop, List.length_take]; rfl)) ?_; (with_reducible refine (onairref06_within.calls a0_2 0 86340 true _ A69.out).mono ?_); rintro e w' ⟨rfl, ⟨nd, rfl⟩⟩; refine ⟨_, rfl, ?_⟩) | (go_at_call 42; (with_reducible refine (onairref06_within.calls a0_3 0 86340 true _ A71.out).mono ?_); rintro e w' ⟨rfl, ⟨nd, rfl⟩⟩))
                          go_ret
                          exact ⟨by first | rfl | (simp [errW_none, errW_some] <;> rfl) | (simp [*, errW_none, errW_some] <;> rfl), by repeat (first | (with_reducible first | exact HB.out | apply below_alloc | apply pw_below_drewN | apply below_drew1 | refine below_set ?_ GE271.out) | exact HB.out)⟩
                      · replace c72 := Bool.eq_false_iff.mpr c72
                        subst c72
                        have H1 : (some false) = some r := by rw [if_neg (show ¬ (false = true) by decide)] at H; exact H
                        clear H
                        have H := H1
                        clear H1
                        obtain rfl := Option.some.inj H
                        have hcz89_0 : wc.cell? ⟨gb271, 0, none⟩ = some (.int .i64 a0_0) := (blk_cell BK271.out 0).trans rfl
                        have hcz89_1 : wc.cell? ⟨gb271, 1, none⟩ = some (.int .i64 a0_1) := (blk_cell BK271.out 1).trans rfl
                        have hcz89_2 : wc.cell? ⟨gb271, 2, none⟩ = some (.int .i64 a0_2) := (blk_cell BK271.out 2).trans rfl
                        have hcz89_3 : wc.cell? ⟨gb271, 3, none⟩ = some (.int .i64 a0_3) := (blk_cell BK271.out 3).trans rfl
                        have hcz89_4 : wc.cell? ⟨gb271, 4, none⟩ = some (.int .i64 a0_4) := (blk_cell BK271.out 4).trans rfl
                        have hcz89_5 : wc.cell? ⟨gb271, 5, none⟩ = some (.int .i64 a0_5) := (blk_cell BK271.out 5).trans rfl
                        have hcz89_6 : wc.cell? ⟨gb271, 6, none⟩ = some (.int .i64 a0_6) := (blk_cell BK271.out 6).trans rfl
                        have hcz89_7 : wc.cell? ⟨gb271, 7, none⟩ = some (.int .i64 a0_7) := (blk_cell BK271.out 7).trans rfl
                        have hfz89_0 := blk_frozen BK271.out 0
                        have hfz89_1 := blk_frozen BK271.out 1
                        have hfz89_2 := blk_frozen BK271.out 2
                        have hfz89_3 := blk_frozen BK271.out 3
                        have hfz89_4 := blk_frozen BK271.out 4
                        have hfz89_5 := blk_frozen BK271.out 5
                        have hfz89_6 := blk_frozen BK271.out 6
                        have hfz89_7 := blk_frozen BK271.out 7
                        go_wp2_with (first | ((with_reducible refine gate_callee (f := 42) rfl ?_); refine goesL_ (some 155) rfl rfl Try.func42 (by kernel_rfl) rfl #[.int .i64 a0_2, .int .i64 0, .int .i64 86340] rfl (by (try simp only [List.map_toArray, List.map_cons, List.map_nil]); first | done | rfl | (simp only [List.length_drop, List.length_take]; rfl)) ?_; (with_reducible refine (onairref06_within.calls a0_2 0 86340 true _ A69.out).mono ?_); rintro e w' ⟨rfl, ⟨nd, rfl⟩⟩; refine ⟨_, rfl, ?_⟩) | (go_at_call 42; (with_reducible refine (onairref06_within.calls a0_3 0 86340 false _ A71.out).mono ?_); rintro e w' ⟨rfl, ⟨nd, rfl⟩⟩))
                        go_ret
                        exact ⟨by first | rfl | (simp [errW_none, errW_some] <;> rfl) | (simp [*, errW_none, errW_some] <;> rfl), by repeat (first | (with_reducible first | exact HB.out | apply below_alloc | apply pw_below_drewN | apply below_drew1 | refine below_set ?_ GE271.out) | exact HB.out)⟩
                    · replace c70 := Bool.eq_false_iff.mpr c70
                      subst c70
                      have H1 : (some false) = some r := by rw [if_neg (show ¬ (false = true) by decide)] at H; exact H
                      clear H
                      have H := H1
                      clear H1
                      obtain rfl := Option.some.inj H
                      have hcz90_0 : wc.cell? ⟨gb271, 0, none⟩ = some (.int .i64 a0_0) := (blk_cell BK271.out 0).trans rfl
                      have hcz90_1 : wc.cell? ⟨gb271, 1, none⟩ = some (.int .i64 a0_1) := (blk_cell BK271.out 1).trans rfl
                      have hcz90_2 : wc.cell? ⟨gb271, 2, none⟩ = some (.int .i64 a0_2) := (blk_cell BK271.out 2).trans rfl
                      have hcz90_3 : wc.cell? ⟨gb271, 3, none⟩ = some (.int .i64 a0_3) := (blk_cell BK271.out 3).trans rfl
                      have hcz90_4 : wc.cell? ⟨gb271, 4, none⟩ = some (.int .i64 a0_4) := (blk_cell BK271.out 4).trans rfl
                      have hcz90_5 : wc.cell? ⟨gb271, 5, none⟩ = some (.int .i64 a0_5) := (blk_cell BK271.out 5).trans rfl
                      have hcz90_6 : wc.cell? ⟨gb271, 6, none⟩ = some (.int .i64 a0_6) := (blk_cell BK271.out 6).trans rfl
                      have hcz90_7 : wc.cell? ⟨gb271, 7, none⟩ = some (.int .i64 a0_7) := (blk_cell BK271.out 7).trans rfl
                      have hfz90_0 := blk_frozen BK271.out 0
                      have hfz90_1 := blk_frozen BK271.out 1
                      have hfz90_2 := blk_frozen BK271.out 2
                      have hfz90_3 := blk_frozen BK271.out 3
                      have hfz90_4 := blk_frozen BK271.out 4
                      have hfz90_5 := blk_frozen BK271.out 5
                      have hfz90_6 := blk_frozen BK271.out 6
                      have hfz90_7 := blk_frozen BK271.out 7
                      go_wp2_with (first | ((with_reducible refine gate_callee (f := 42) rfl ?_); refine goesL_ (some 155) rfl rfl Try.func42 (by kernel_rfl) rfl #[.int .i64 a0_2, .int .i64 0, .int .i64 86340] rfl (by (try simp only [List.map_toArray, List.map_cons, List.map_nil]); first | done | rfl | (simp only [List.length_drop, List.length_take]; rfl)) ?_; (with_reducible refine (onairref06_within.calls a0_2 0 86340 false _ A69.out).mono ?_); rintro e w' ⟨rfl, ⟨nd, rfl⟩⟩; refine ⟨_, rfl, ?_⟩))
                      go_ret
                      exact ⟨by first | rfl | (simp [errW_none, errW_some] <;> rfl) | (simp [*, errW_none, errW_some] <;> rfl), by repeat (first | (with_reducible first | exact HB.out | apply below_alloc | apply pw_below_drewN | apply below_drew1 | refine below_set ?_ GE271.out) | exact HB.out)⟩
                  · rw [if_neg c68] at H
                    have c68b0 : (a0_0 == 6) = false := beq_eq_false_iff_ne.mpr c68
                    have c68b1 : (a0_0 != 6) = true := bne_iff_ne.mpr c68
                    obtain rfl := Option.some.inj H
                    go_wp2
                    go_ret
                    exact ⟨by first | rfl | (simp [errW_none, errW_some] <;> rfl) | (simp [*, errW_none, errW_some] <;> rfl), by repeat (first | (with_reducible first | exact HB.out | apply below_alloc | apply pw_below_drewN | apply below_drew1 | refine below_set ?_ GE271.out) | exact HB.out)⟩

end Go.Proofs.Ytpdbhaoppdgmeaa.Pr
