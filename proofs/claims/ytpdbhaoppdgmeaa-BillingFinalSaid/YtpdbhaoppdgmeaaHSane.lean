/- Law 26's sane: the fixed examples hold. (Printed by wip/sane26.py.) -/
import Derived.Test.YtpdbhaoppdgmeaaHSaneB
import Derived.Deep.RegionHeld3
import Derived.Outline
namespace Go.Proofs.Ytpdbhaoppdgmeaa.Pr
open Go.RowKit Go.Proofs.Ytpdbhaoppdgmeaa.Sup Go.Proofs.YtpdbhaoppdgmeaaW.PrintWords Go.Proofs.YtpdbhaoppdgmeaaW.PrintLast Go.Proofs.YtpdbhaoppdgmeaaW.PrintMore
set_option linter.unusedVariables false
set_option linter.unusedSimpArgs false

/-- What stays while sane runs: the plan's box and its rows. -/
structure Env (w W : World) (gp : Nat) (A4 : Option Addr) (c4 : Nat) (A9 : Option Addr) (c9 : Nat) (A10 : Option Addr) (c10 : Nat) (A11 : Option Addr) (c11 : Nat) (A12 : Option Addr) (c12 : Nat) : Prop where
  plan : W.heap[gp]? = some (.cells #[.int .i64 0, .int .i64 0, .int .i64 0, .int .i64 0, .slice A4 0 c4, .int .i64 0, .int .i64 0, .int .i64 0, .int .i64 0, .slice A9 1 c9, .slice A10 0 c10, .slice A11 2 c11, .slice A12 0 c12] 32 (0, 0))
  h4 : Kd.C k96 W A4 ([] : List S96).length []
  h9 : Kd.C k45 W A9 ([⟨2, 2, 20, 0, 0⟩] : List S45).length [⟨2, 2, 20, 0, 0⟩]
  h10 : Kd.C k78 W A10 ([] : List S78).length []
  h11 : Kd.C k59 W A11 ([⟨1, 2, 0, 0, 100, 200, 10⟩, ⟨2, 2, 0, 0, 100, 200, 30⟩] : List S59).length [⟨1, 2, 0, 0, 100, 200, 10⟩, ⟨2, 2, 0, 0, 100, 200, 30⟩]
  h12 : Kd.C k82 W A12 ([] : List S82).length []
  below : Below w.heap.size w W
theorem Env.step {w W W' : World} {gp : Nat} {A4 A9 A10 A11 A12 : Option Addr} {c4 c9 c10 c11 c12 : Nat} (h : Env w W gp A4 c4 A9 c9 A10 c10 A11 c11 A12 c12) (k : Below W.heap.size W W') : Env w W' gp A4 c4 A9 c9 A10 c10 A11 c11 A12 c12 :=
  ⟨blk_below h.plan k, Kd.C_below h.h4 k, Kd.C_below h.h9 k, Kd.C_below h.h10 k, Kd.C_below h.h11 k, Kd.C_below h.h12 k, h.below.trans (k.mono h.below.size)⟩
theorem below_trans' {a b c : World} (h : Below a.heap.size a b) (k : Below b.heap.size b c) : Below a.heap.size a c := h.trans (k.mono h.size)
theorem plan13 {W : World} {g t : Nat} {v0 v1 v2 v3 v4 v5 v6 v7 v8 v9 v10 v11 v12 : Value} (h : W.heap[g]? = some (.cells #[v0, v1, v2, v3, v4, v5, v6, v7, v8, v9, v10, v11, v12] t (0, 0))) : W.cell? ⟨g, 0, none⟩ = some v0 ∧ W.cell? ⟨g, 1, none⟩ = some v1 ∧ W.cell? ⟨g, 2, none⟩ = some v2 ∧ W.cell? ⟨g, 3, none⟩ = some v3 ∧ W.cell? ⟨g, 4, none⟩ = some v4 ∧ W.cell? ⟨g, 5, none⟩ = some v5 ∧ W.cell? ⟨g, 6, none⟩ = some v6 ∧ W.cell? ⟨g, 7, none⟩ = some v7 ∧ W.cell? ⟨g, 8, none⟩ = some v8 ∧ W.cell? ⟨g, 9, none⟩ = some v9 ∧ W.cell? ⟨g, 10, none⟩ = some v10 ∧ W.cell? ⟨g, 11, none⟩ = some v11 ∧ W.cell? ⟨g, 12, none⟩ = some v12 :=
  ⟨(blk_cell h 0).trans rfl, (blk_cell h 1).trans rfl, (blk_cell h 2).trans rfl, (blk_cell h 3).trans rfl, (blk_cell h 4).trans rfl, (blk_cell h 5).trans rfl, (blk_cell h 6).trans rfl, (blk_cell h 7).trans rfl, (blk_cell h 8).trans rfl, (blk_cell h 9).trans rfl, (blk_cell h 10).trans rfl, (blk_cell h 11).trans rfl, (blk_cell h 12).trans rfl⟩
theorem lines2 {W : World} {base : Nat} {ok : Nat → Prop} {v : Value} {x y : S49} (h : Kd.R k49 49 W base ok v [x, y]) : ∃ g c, v = .slice (some ⟨g, 0, none⟩) 2 c ∧ 2 ≤ c := by
  obtain ⟨inner, ho⟩ := Kd.R_own h
  obtain ⟨A, c, rfl, hc, _⟩ := Kd.R_reads h
  rcases ho.2 with ⟨e, h0⟩ | ⟨g, c', cur, e, _⟩
  · simp at h0
  · cases e; exact ⟨g, c, rfl, hc⟩
theorem lines2_cells {W : World} {base g c : Nat} {ok : Nat → Prop} {x y : S49} (h : Kd.R k49 49 W base ok (.slice (some ⟨g, 0, none⟩) 2 c) [x, y]) :
    W.cell? ⟨g, 0, none⟩ = some (.int .i64 x.f0) ∧ W.cell? ⟨g, 1, none⟩ = some (.int .i64 x.f1) ∧ W.cell? ⟨g, 2, none⟩ = some (.int .i64 x.f2) ∧ W.cell? ⟨g, 3, none⟩ = some (.int .i64 x.f3) ∧ W.cell? ⟨g, 4, none⟩ = some (.int .i64 y.f0) ∧ W.cell? ⟨g, 5, none⟩ = some (.int .i64 y.f1) ∧ W.cell? ⟨g, 6, none⟩ = some (.int .i64 y.f2) ∧ W.cell? ⟨g, 7, none⟩ = some (.int .i64 y.f3) := by
  obtain ⟨ad, e, hc⟩ := (Kd.R_reads' h).2.2.2.2 (by simp)
  cases e
  obtain ⟨c0, _, h0, k0⟩ := hc 0 x rfl
  obtain ⟨c1, _, h1, k1⟩ := hc 1 y rfl
  obtain rfl := k49_open h0
  obtain rfl := k49_open h1
  exact ⟨k0 0 _ rfl, k0 1 _ rfl, k0 2 _ rfl, k0 3 _ rfl, k1 0 _ rfl, k1 1 _ rfl, k1 2 _ rfl, k1 3 _ rfl⟩
theorem ints2 {W : World} {base : Nat} {ok : Nat → Prop} {v : Value} {x y : Int} (h : Kd.R (Kd.int .i64) 3 W base ok v [x, y]) : ∃ g c, v = .slice (some ⟨g, 0, none⟩) 2 c ∧ 2 ≤ c ∧ W.cell? ⟨g, 0, none⟩ = some (.int .i64 x) := by
  obtain ⟨inner, ho⟩ := Kd.R_own h
  obtain ⟨A, c, rfl, hc, hC⟩ := Kd.R_reads h
  rcases ho.2 with ⟨e, h0⟩ | ⟨g, c', cur, e, _⟩
  · simp at h0
  · cases e
    refine ⟨g, c, rfl, hc, ?_⟩
    have := Kd.R_cell 0 h 0 (by decide) (by simp)
    exact this.1
theorem ints2_cell {W : World} {base g c : Nat} {ok : Nat → Prop} {x y : Int} (h : Kd.R (Kd.int .i64) 3 W base ok (.slice (some ⟨g, 0, none⟩) 2 c) [x, y]) : W.cell? ⟨g, 0, none⟩ = some (.int .i64 x) :=
  (Kd.R_cell 0 h 0 (by decide) (by simp)).1

set_option maxHeartbeats 8000000 in
set_option maxRecDepth 100000 in
theorem sane.calls (w : World) : Calls Try.prog 5 #[] w fun e w' => e = .returned (.bool true) ∧ Below w.heap.size w w' := by
  have huQ := Try.underlying32
  have huR := Try.underlying43
  have huL := Try.underlying49
  go_enter Try.func5, Try.ntmps5
  go_wp2_with fail
  refine (onairlaw26_example.calls 0 0 0 0 [] 0 0 0 0 [⟨2, 2, 20, 0, 0⟩] [] [⟨1, 2, 0, 0, 100, 200, 10⟩, ⟨2, 2, 0, 0, 100, 200, 30⟩] [] w rfl).mono ?_
  rintro e w1 ⟨v4, v9, v10, v11, v12, rfl, h4, h9, h10, h11, h12, hb1⟩
  obtain ⟨A4, c4, rfl, l4, H4⟩ := Kd.R_reads h4
  obtain ⟨A9, c9, rfl, l9, H9⟩ := Kd.R_reads h9
  obtain ⟨A10, c10, rfl, l10, H10⟩ := Kd.S_reads h10
  obtain ⟨A11, c11, rfl, l11, H11⟩ := Kd.R_reads h11
  obtain ⟨A12, c12, rfl, l12, H12⟩ := Kd.R_reads h12
  obtain ⟨W2, hW2⟩ : ∃ W, W = w1.alloc (.cells #[.int .i64 0, .int .i64 0, .int .i64 0, .int .i64 0, .slice A4 0 c4, .int .i64 0, .int .i64 0, .int .i64 0, .int .i64 0, .slice A9 1 c9, .slice A10 0 c10, .slice A11 2 c11, .slice A12 0 c12] 32) := ⟨_, rfl⟩
  obtain ⟨gp, hgp⟩ : ∃ g, g = w1.heap.size := ⟨_, rfl⟩
  have HE2 := Aside0.mk (show Env w W2 gp A4 c4 A9 c9 A10 c10 A11 c11 A12 c12 by
    rw [hW2, hgp]
    exact ⟨new1 w1 _, Kd.C_alloc H4 _, Kd.C_alloc H9 _, Kd.C_alloc H10 _, Kd.C_alloc H11 _, Kd.C_alloc H12 _, below_alloc hb1 _⟩)
  clear h4 h9 h10 h11 h12 H4 H9 H10 H11 H12 hb1
  simp only [List.length_nil, List.length_cons, Nat.zero_add] at l4 l9 l10 l11 l12
  go_upto_region 2 with (fail)
  rw [← hW2, ← hgp]
  clear hW2 hgp
  go_region_held3 (fun w' => w'.cell? ⟨gp, 0, none⟩ = some (.int .i64 0) ∧ w'.cell? ⟨gp, 1, none⟩ = some (.int .i64 0) ∧ w'.cell? ⟨gp, 2, none⟩ = some (.int .i64 0) ∧ w'.cell? ⟨gp, 3, none⟩ = some (.int .i64 0) ∧ w'.cell? ⟨gp, 4, none⟩ = some (.slice A4 0 c4) ∧ w'.cell? ⟨gp, 5, none⟩ = some (.int .i64 0) ∧ w'.cell? ⟨gp, 6, none⟩ = some (.int .i64 0) ∧ w'.cell? ⟨gp, 7, none⟩ = some (.int .i64 0) ∧ w'.cell? ⟨gp, 8, none⟩ = some (.int .i64 0) ∧ w'.cell? ⟨gp, 9, none⟩ = some (.slice A9 1 c9) ∧ w'.cell? ⟨gp, 10, none⟩ = some (.slice A10 0 c10) ∧ w'.cell? ⟨gp, 11, none⟩ = some (.slice A11 2 c11) ∧ w'.cell? ⟨gp, 12, none⟩ = some (.slice A12 0 c12)) (exact plan13 (HE2.out.step (by repeat (first | exact Below.refl _ _ | apply below_alloc | apply below_drew1 | apply pw_below_drewN | refine below_trans' ?_ (by assumption)))).plan) (first | (go_at_call 14; refine (onairlaw26_shown.calls _ _ _ _ _ _ _ _ _ rfl).mono ?_; rintro e W_ ⟨rfl, hb_⟩) | (go_at_call 9; refine (billing_Invoice.calls 0 0 0 0 A4 c4 [] 0 0 0 0 A9 c9 [⟨2, 2, 20, 0, 0⟩] A10 c10 [] A11 c11 [⟨1, 2, 0, 0, 100, 200, 10⟩, ⟨2, 2, 0, 0, 100, 200, 30⟩] A12 c12 [] _ 1 [⟨0, 0, 50, 20, 2, 0⟩] 100 _ _ (HE2.out.step (by repeat (first | exact Below.refl _ _ | apply below_alloc | apply below_drew1 | apply pw_below_drewN | refine below_trans' ?_ (by assumption)))).h4 l4 (HE2.out.step (by repeat (first | exact Below.refl _ _ | apply below_alloc | apply below_drew1 | apply pw_below_drewN | refine below_trans' ?_ (by assumption)))).h9 l9 (HE2.out.step (by repeat (first | exact Below.refl _ _ | apply below_alloc | apply below_drew1 | apply pw_below_drewN | refine below_trans' ?_ (by assumption)))).h10 l10 (HE2.out.step (by repeat (first | exact Below.refl _ _ | apply below_alloc | apply below_drew1 | apply pw_below_drewN | refine below_trans' ?_ (by assumption)))).h11 l11 (HE2.out.step (by repeat (first | exact Below.refl _ _ | apply below_alloc | apply below_drew1 | apply pw_below_drewN | refine below_trans' ?_ (by assumption)))).h12 l12 (C_rec1 (t := 43) ⟨0, 0, 50, 20, 2, 0⟩ (by repeat (first | exact new1 _ _ | refine blk_drew ?_ | refine blk_drewN ?_ _))) (by decide) sane_a).mono ?_; rintro e W3 ⟨v, rfl, hr, hb⟩))
  have HE3 : Aside0 (Env w W3 gp A4 c4 A9 c9 A10 c10 A11 c11 A12 c12) := ⟨HE2.out.step (by repeat (first | exact Below.refl _ _ | apply below_alloc | apply below_drew1 | apply pw_below_drewN | refine below_trans' ?_ (by assumption)))⟩
  obtain ⟨ga, ca, rfl, la⟩ := lines2 hr
  have Ha := Aside0.mk hr
  clear hr hb hb_
  go_upto_region 3 with (fail)
  go_region_held3 (fun w' => w'.cell? ⟨gp, 0, none⟩ = some (.int .i64 0) ∧ w'.cell? ⟨gp, 1, none⟩ = some (.int .i64 0) ∧ w'.cell? ⟨gp, 2, none⟩ = some (.int .i64 0) ∧ w'.cell? ⟨gp, 3, none⟩ = some (.int .i64 0) ∧ w'.cell? ⟨gp, 4, none⟩ = some (.slice A4 0 c4) ∧ w'.cell? ⟨gp, 5, none⟩ = some (.int .i64 0) ∧ w'.cell? ⟨gp, 6, none⟩ = some (.int .i64 0) ∧ w'.cell? ⟨gp, 7, none⟩ = some (.int .i64 0) ∧ w'.cell? ⟨gp, 8, none⟩ = some (.int .i64 0) ∧ w'.cell? ⟨gp, 9, none⟩ = some (.slice A9 1 c9) ∧ w'.cell? ⟨gp, 10, none⟩ = some (.slice A10 0 c10) ∧ w'.cell? ⟨gp, 11, none⟩ = some (.slice A11 2 c11) ∧ w'.cell? ⟨gp, 12, none⟩ = some (.slice A12 0 c12)) (exact plan13 (HE3.out.step (by repeat (first | exact Below.refl _ _ | apply below_alloc | apply below_drew1 | apply pw_below_drewN | refine below_trans' ?_ (by assumption)))).plan) (first | (go_at_call 14; refine (onairlaw26_shown.calls _ _ _ _ _ _ _ _ _ rfl).mono ?_; rintro e W_ ⟨rfl, hb_⟩) | (go_at_call 9; refine (billing_Invoice.calls 0 0 0 0 A4 c4 [] 0 0 0 0 A9 c9 [⟨2, 2, 20, 0, 0⟩] A10 c10 [] A11 c11 [⟨1, 2, 0, 0, 100, 200, 10⟩, ⟨2, 2, 0, 0, 100, 200, 30⟩] A12 c12 [] _ 2 [⟨0, 0, 150, 20, 2, 0⟩, ⟨0, 0, 50, 20, 2, 0⟩] 200 _ _ (HE3.out.step (by repeat (first | exact Below.refl _ _ | apply below_alloc | apply below_drew1 | apply pw_below_drewN | refine below_trans' ?_ (by assumption)))).h4 l4 (HE3.out.step (by repeat (first | exact Below.refl _ _ | apply below_alloc | apply below_drew1 | apply pw_below_drewN | refine below_trans' ?_ (by assumption)))).h9 l9 (HE3.out.step (by repeat (first | exact Below.refl _ _ | apply below_alloc | apply below_drew1 | apply pw_below_drewN | refine below_trans' ?_ (by assumption)))).h10 l10 (HE3.out.step (by repeat (first | exact Below.refl _ _ | apply below_alloc | apply below_drew1 | apply pw_below_drewN | refine below_trans' ?_ (by assumption)))).h11 l11 (HE3.out.step (by repeat (first | exact Below.refl _ _ | apply below_alloc | apply below_drew1 | apply pw_below_drewN | refine below_trans' ?_ (by assumption)))).h12 l12 (C_rec2 (t := 43) ⟨0, 0, 150, 20, 2, 0⟩ ⟨0, 0, 50, 20, 2, 0⟩ (by repeat (first | exact new1 _ _ | refine blk_drew ?_ | refine blk_drewN ?_ _))) (by decide) sane_b).mono ?_; rintro e W4 ⟨v, rfl, hr, hb⟩))
  have HE4 : Aside0 (Env w W4 gp A4 c4 A9 c9 A10 c10 A11 c11 A12 c12) := ⟨HE3.out.step (by repeat (first | exact Below.refl _ _ | apply below_alloc | apply below_drew1 | apply pw_below_drewN | refine below_trans' ?_ (by assumption)))⟩
  obtain ⟨gb, cb, rfl, lb⟩ := lines2 hr
  have Hb := Aside0.mk hr
  replace Ha : Aside0 (Kd.R k49 49 W4 _ _ (.slice (some ⟨ga, 0, none⟩) 2 ca) [⟨1, 2, 50, 10⟩, ⟨2, 1, -1, 0⟩]) := ⟨Kd.R_below Ha.out (by repeat (first | exact Below.refl _ _ | apply below_alloc | apply below_drew1 | apply pw_below_drewN | refine below_trans' ?_ (by assumption)))⟩
  clear hr hb hb_
  go_upto_region 4 with (fail)
  go_region_held3 (fun w' => w'.cell? ⟨gp, 0, none⟩ = some (.int .i64 0) ∧ w'.cell? ⟨gp, 1, none⟩ = some (.int .i64 0) ∧ w'.cell? ⟨gp, 2, none⟩ = some (.int .i64 0) ∧ w'.cell? ⟨gp, 3, none⟩ = some (.int .i64 0) ∧ w'.cell? ⟨gp, 4, none⟩ = some (.slice A4 0 c4) ∧ w'.cell? ⟨gp, 5, none⟩ = some (.int .i64 0) ∧ w'.cell? ⟨gp, 6, none⟩ = some (.int .i64 0) ∧ w'.cell? ⟨gp, 7, none⟩ = some (.int .i64 0) ∧ w'.cell? ⟨gp, 8, none⟩ = some (.int .i64 0) ∧ w'.cell? ⟨gp, 9, none⟩ = some (.slice A9 1 c9) ∧ w'.cell? ⟨gp, 10, none⟩ = some (.slice A10 0 c10) ∧ w'.cell? ⟨gp, 11, none⟩ = some (.slice A11 2 c11) ∧ w'.cell? ⟨gp, 12, none⟩ = some (.slice A12 0 c12)) (exact plan13 (HE4.out.step (by repeat (first | exact Below.refl _ _ | apply below_alloc | apply below_drew1 | apply pw_below_drewN | refine below_trans' ?_ (by assumption)))).plan) (first | (go_at_call 14; refine (onairlaw26_shown.calls _ _ _ _ _ _ _ _ _ rfl).mono ?_; rintro e W_ ⟨rfl, hb_⟩) | (go_at_call 9; refine (billing_Invoice.calls 0 0 0 0 A4 c4 [] 0 0 0 0 A9 c9 [⟨2, 2, 20, 0, 0⟩] A10 c10 [] A11 c11 [⟨1, 2, 0, 0, 100, 200, 10⟩, ⟨2, 2, 0, 0, 100, 200, 30⟩] A12 c12 [] _ 1 [⟨0, 0, 50, 19, 2, 0⟩] 219 _ _ (HE4.out.step (by repeat (first | exact Below.refl _ _ | apply below_alloc | apply below_drew1 | apply pw_below_drewN | refine below_trans' ?_ (by assumption)))).h4 l4 (HE4.out.step (by repeat (first | exact Below.refl _ _ | apply below_alloc | apply below_drew1 | apply pw_below_drewN | refine below_trans' ?_ (by assumption)))).h9 l9 (HE4.out.step (by repeat (first | exact Below.refl _ _ | apply below_alloc | apply below_drew1 | apply pw_below_drewN | refine below_trans' ?_ (by assumption)))).h10 l10 (HE4.out.step (by repeat (first | exact Below.refl _ _ | apply below_alloc | apply below_drew1 | apply pw_below_drewN | refine below_trans' ?_ (by assumption)))).h11 l11 (HE4.out.step (by repeat (first | exact Below.refl _ _ | apply below_alloc | apply below_drew1 | apply pw_below_drewN | refine below_trans' ?_ (by assumption)))).h12 l12 (C_rec1 (t := 43) ⟨0, 0, 50, 19, 2, 0⟩ (by repeat (first | exact new1 _ _ | refine blk_drew ?_ | refine blk_drewN ?_ _))) (by decide) sane_c).mono ?_; rintro e W5 ⟨v, rfl, hr, hb⟩))
  have HE5 : Aside0 (Env w W5 gp A4 c4 A9 c9 A10 c10 A11 c11 A12 c12) := ⟨HE4.out.step (by repeat (first | exact Below.refl _ _ | apply below_alloc | apply below_drew1 | apply pw_below_drewN | refine below_trans' ?_ (by assumption)))⟩
  obtain ⟨gc, cc, rfl, lc⟩ := lines2 hr
  have Hc := Aside0.mk hr
  replace Ha : Aside0 (Kd.R k49 49 W5 _ _ (.slice (some ⟨ga, 0, none⟩) 2 ca) [⟨1, 2, 50, 10⟩, ⟨2, 1, -1, 0⟩]) := ⟨Kd.R_below Ha.out (by repeat (first | exact Below.refl _ _ | apply below_alloc | apply below_drew1 | apply pw_below_drewN | refine below_trans' ?_ (by assumption)))⟩
  replace Hb : Aside0 (Kd.R k49 49 W5 _ _ (.slice (some ⟨gb, 0, none⟩) 2 cb) [⟨1, 2, 50, 10⟩, ⟨2, 3, 150, 30⟩]) := ⟨Kd.R_below Hb.out (by repeat (first | exact Below.refl _ _ | apply below_alloc | apply below_drew1 | apply pw_below_drewN | refine below_trans' ?_ (by assumption)))⟩
  clear hr hb hb_
  go_upto_region 5 with (fail)
  go_region_held3 (fun w' => w'.cell? ⟨gp, 0, none⟩ = some (.int .i64 0) ∧ w'.cell? ⟨gp, 1, none⟩ = some (.int .i64 0) ∧ w'.cell? ⟨gp, 2, none⟩ = some (.int .i64 0) ∧ w'.cell? ⟨gp, 3, none⟩ = some (.int .i64 0) ∧ w'.cell? ⟨gp, 4, none⟩ = some (.slice A4 0 c4) ∧ w'.cell? ⟨gp, 5, none⟩ = some (.int .i64 0) ∧ w'.cell? ⟨gp, 6, none⟩ = some (.int .i64 0) ∧ w'.cell? ⟨gp, 7, none⟩ = some (.int .i64 0) ∧ w'.cell? ⟨gp, 8, none⟩ = some (.int .i64 0) ∧ w'.cell? ⟨gp, 9, none⟩ = some (.slice A9 1 c9) ∧ w'.cell? ⟨gp, 10, none⟩ = some (.slice A10 0 c10) ∧ w'.cell? ⟨gp, 11, none⟩ = some (.slice A11 2 c11) ∧ w'.cell? ⟨gp, 12, none⟩ = some (.slice A12 0 c12)) (exact plan13 (HE5.out.step (by repeat (first | exact Below.refl _ _ | apply below_alloc | apply below_drew1 | apply pw_below_drewN | refine below_trans' ?_ (by assumption)))).plan) (first | (go_at_call 14; refine (onairlaw26_shown.calls _ _ _ _ _ _ _ _ _ rfl).mono ?_; rintro e W_ ⟨rfl, hb_⟩) | (go_at_call 9; refine (billing_Invoice.calls 0 0 0 0 A4 c4 [] 0 0 0 0 A9 c9 [⟨2, 2, 20, 0, 0⟩] A10 c10 [] A11 c11 [⟨1, 2, 0, 0, 100, 200, 10⟩, ⟨2, 2, 0, 0, 100, 200, 30⟩] A12 c12 [] _ 1 [⟨0, 0, 50, 19, 2, 0⟩] 220 _ _ (HE5.out.step (by repeat (first | exact Below.refl _ _ | apply below_alloc | apply below_drew1 | apply pw_below_drewN | refine below_trans' ?_ (by assumption)))).h4 l4 (HE5.out.step (by repeat (first | exact Below.refl _ _ | apply below_alloc | apply below_drew1 | apply pw_below_drewN | refine below_trans' ?_ (by assumption)))).h9 l9 (HE5.out.step (by repeat (first | exact Below.refl _ _ | apply below_alloc | apply below_drew1 | apply pw_below_drewN | refine below_trans' ?_ (by assumption)))).h10 l10 (HE5.out.step (by repeat (first | exact Below.refl _ _ | apply below_alloc | apply below_drew1 | apply pw_below_drewN | refine below_trans' ?_ (by assumption)))).h11 l11 (HE5.out.step (by repeat (first | exact Below.refl _ _ | apply below_alloc | apply below_drew1 | apply pw_below_drewN | refine below_trans' ?_ (by assumption)))).h12 l12 (C_rec1 (t := 43) ⟨0, 0, 50, 19, 2, 0⟩ (by repeat (first | exact new1 _ _ | refine blk_drew ?_ | refine blk_drewN ?_ _))) (by decide) sane_d).mono ?_; rintro e W6 ⟨v, rfl, hr, hb⟩))
  have HE6 : Aside0 (Env w W6 gp A4 c4 A9 c9 A10 c10 A11 c11 A12 c12) := ⟨HE5.out.step (by repeat (first | exact Below.refl _ _ | apply below_alloc | apply below_drew1 | apply pw_below_drewN | refine below_trans' ?_ (by assumption)))⟩
  obtain ⟨gd, cd, rfl, ld⟩ := lines2 hr
  have Hd := Aside0.mk hr
  replace Ha : Aside0 (Kd.R k49 49 W6 _ _ (.slice (some ⟨ga, 0, none⟩) 2 ca) [⟨1, 2, 50, 10⟩, ⟨2, 1, -1, 0⟩]) := ⟨Kd.R_below Ha.out (by repeat (first | exact Below.refl _ _ | apply below_alloc | apply below_drew1 | apply pw_below_drewN | refine below_trans' ?_ (by assumption)))⟩
  replace Hb : Aside0 (Kd.R k49 49 W6 _ _ (.slice (some ⟨gb, 0, none⟩) 2 cb) [⟨1, 2, 50, 10⟩, ⟨2, 3, 150, 30⟩]) := ⟨Kd.R_below Hb.out (by repeat (first | exact Below.refl _ _ | apply below_alloc | apply below_drew1 | apply pw_below_drewN | refine below_trans' ?_ (by assumption)))⟩
  replace Hc : Aside0 (Kd.R k49 49 W6 _ _ (.slice (some ⟨gc, 0, none⟩) 2 cc) [⟨1, 1, -1, 0⟩, ⟨2, 1, -1, 0⟩]) := ⟨Kd.R_below Hc.out (by repeat (first | exact Below.refl _ _ | apply below_alloc | apply below_drew1 | apply pw_below_drewN | refine below_trans' ?_ (by assumption)))⟩
  clear hr hb hb_
  go_upto_region 8 with (fail)
  go_region_held3 (fun w' => w'.cell? ⟨gp, 0, none⟩ = some (.int .i64 0) ∧ w'.cell? ⟨gp, 1, none⟩ = some (.int .i64 0) ∧ w'.cell? ⟨gp, 2, none⟩ = some (.int .i64 0) ∧ w'.cell? ⟨gp, 3, none⟩ = some (.int .i64 0) ∧ w'.cell? ⟨gp, 4, none⟩ = some (.slice A4 0 c4) ∧ w'.cell? ⟨gp, 5, none⟩ = some (.int .i64 0) ∧ w'.cell? ⟨gp, 6, none⟩ = some (.int .i64 0) ∧ w'.cell? ⟨gp, 7, none⟩ = some (.int .i64 0) ∧ w'.cell? ⟨gp, 8, none⟩ = some (.int .i64 0) ∧ w'.cell? ⟨gp, 9, none⟩ = some (.slice A9 1 c9) ∧ w'.cell? ⟨gp, 10, none⟩ = some (.slice A10 0 c10) ∧ w'.cell? ⟨gp, 11, none⟩ = some (.slice A11 2 c11) ∧ w'.cell? ⟨gp, 12, none⟩ = some (.slice A12 0 c12)) (exact plan13 (HE6.out.step (by repeat (first | exact Below.refl _ _ | apply below_alloc | apply below_drew1 | apply pw_below_drewN | refine below_trans' ?_ (by assumption)))).plan) (first | (go_at_call 14; refine (onairlaw26_shown.calls _ _ _ _ _ _ _ _ _ rfl).mono ?_; rintro e W_ ⟨rfl, hb_⟩) | (go_at_call 15; refine (billing_Whole.calls 0 0 0 0 A4 c4 [] 0 0 0 0 A9 c9 [⟨2, 2, 20, 0, 0⟩] A10 c10 [] A11 c11 [⟨1, 2, 0, 0, 100, 200, 10⟩, ⟨2, 2, 0, 0, 100, 200, 30⟩] A12 c12 [] _ 2 [⟨0, 0, 150, 20, 2, 0⟩, ⟨0, 0, 50, 20, 2, 0⟩] 2 0 _ _ (HE6.out.step (by repeat (first | exact Below.refl _ _ | apply below_alloc | apply below_drew1 | apply pw_below_drewN | refine below_trans' ?_ (by assumption)))).h4 l4 (HE6.out.step (by repeat (first | exact Below.refl _ _ | apply below_alloc | apply below_drew1 | apply pw_below_drewN | refine below_trans' ?_ (by assumption)))).h9 l9 (HE6.out.step (by repeat (first | exact Below.refl _ _ | apply below_alloc | apply below_drew1 | apply pw_below_drewN | refine below_trans' ?_ (by assumption)))).h10 l10 (HE6.out.step (by repeat (first | exact Below.refl _ _ | apply below_alloc | apply below_drew1 | apply pw_below_drewN | refine below_trans' ?_ (by assumption)))).h11 l11 (HE6.out.step (by repeat (first | exact Below.refl _ _ | apply below_alloc | apply below_drew1 | apply pw_below_drewN | refine below_trans' ?_ (by assumption)))).h12 l12 (C_rec2 (t := 43) ⟨0, 0, 150, 20, 2, 0⟩ ⟨0, 0, 50, 20, 2, 0⟩ (by repeat (first | exact new1 _ _ | refine blk_drew ?_ | refine blk_drewN ?_ _))) (by decide) sane_w).mono ?_; rintro e W7 ⟨v, rfl, hr, hb⟩))
  have HE7 : Aside0 (Env w W7 gp A4 c4 A9 c9 A10 c10 A11 c11 A12 c12) := ⟨HE6.out.step (by repeat (first | exact Below.refl _ _ | apply below_alloc | apply below_drew1 | apply pw_below_drewN | refine below_trans' ?_ (by assumption)))⟩
  replace Ha : Aside0 (Kd.R k49 49 W7 _ _ (.slice (some ⟨ga, 0, none⟩) 2 ca) [⟨1, 2, 50, 10⟩, ⟨2, 1, -1, 0⟩]) := ⟨Kd.R_below Ha.out (by repeat (first | exact Below.refl _ _ | apply below_alloc | apply below_drew1 | apply pw_below_drewN | refine below_trans' ?_ (by assumption)))⟩
  replace Hb : Aside0 (Kd.R k49 49 W7 _ _ (.slice (some ⟨gb, 0, none⟩) 2 cb) [⟨1, 2, 50, 10⟩, ⟨2, 3, 150, 30⟩]) := ⟨Kd.R_below Hb.out (by repeat (first | exact Below.refl _ _ | apply below_alloc | apply below_drew1 | apply pw_below_drewN | refine below_trans' ?_ (by assumption)))⟩
  replace Hc : Aside0 (Kd.R k49 49 W7 _ _ (.slice (some ⟨gc, 0, none⟩) 2 cc) [⟨1, 1, -1, 0⟩, ⟨2, 1, -1, 0⟩]) := ⟨Kd.R_below Hc.out (by repeat (first | exact Below.refl _ _ | apply below_alloc | apply below_drew1 | apply pw_below_drewN | refine below_trans' ?_ (by assumption)))⟩
  replace Hd : Aside0 (Kd.R k49 49 W7 _ _ (.slice (some ⟨gd, 0, none⟩) 2 cd) [⟨1, 4, -1, 0⟩, ⟨2, 4, -1, 0⟩]) := ⟨Kd.R_below Hd.out (by repeat (first | exact Below.refl _ _ | apply below_alloc | apply below_drew1 | apply pw_below_drewN | refine below_trans' ?_ (by assumption)))⟩
  obtain ⟨gw, cw, rfl, lw, hw0⟩ := ints2 hr
  have HW := Aside0.mk hr
  clear hr hb hb_
  obtain ⟨a0, a1, a2, a3, a4, a5, a6, a7⟩ := lines2_cells Ha.out
  obtain ⟨b0, b1, b2, b3, b4, b5, b6, b7⟩ := lines2_cells Hb.out
  obtain ⟨_, d1, _, _, _, d5, _, _⟩ := lines2_cells Hd.out
  obtain ⟨_, e1, _, _, _, e5, _, _⟩ := lines2_cells Hc.out
  go_wp2_with fail
  refine (billing_Total.calls 10 (some ⟨gb, 0, none⟩) cb [⟨1, 2, 50, 10⟩, ⟨2, 3, 150, 30⟩] 40 W7 (Kd.R_reads' Hb.out).2.2 lb sane_t).mono ?_
  rintro e W8 ⟨rfl, hb8⟩
  have HE8 : Aside0 (Env w W8 gp A4 c4 A9 c9 A10 c10 A11 c11 A12 c12) := ⟨HE7.out.step hb8⟩
  replace Hc : Aside0 (Kd.R k49 49 W8 _ _ (.slice (some ⟨gc, 0, none⟩) 2 cc) [⟨1, 1, -1, 0⟩, ⟨2, 1, -1, 0⟩]) := ⟨Kd.R_below Hc.out hb8⟩
  replace Hd : Aside0 (Kd.R k49 49 W8 _ _ (.slice (some ⟨gd, 0, none⟩) 2 cd) [⟨1, 4, -1, 0⟩, ⟨2, 4, -1, 0⟩]) := ⟨Kd.R_below Hd.out hb8⟩
  replace HW : Aside0 (Kd.R (Kd.int .i64) 3 W8 _ _ (.slice (some ⟨gw, 0, none⟩) 2 cw) [50, 150]) := ⟨Kd.R_below HW.out hb8⟩
  clear hb8 hw0 a0 a1 a2 a3 a4 a5 a6 a7 b0 b1 b2 b3 b4 b5 b6 b7 d1 d5 e1 e5
  go_upto_region 11 with (fail)
  go_region_held3 (fun w' => (w'.cell? ⟨gp, 0, none⟩ = some (.int .i64 0) ∧ w'.cell? ⟨gp, 1, none⟩ = some (.int .i64 0) ∧ w'.cell? ⟨gp, 2, none⟩ = some (.int .i64 0) ∧ w'.cell? ⟨gp, 3, none⟩ = some (.int .i64 0) ∧ w'.cell? ⟨gp, 4, none⟩ = some (.slice A4 0 c4) ∧ w'.cell? ⟨gp, 5, none⟩ = some (.int .i64 0) ∧ w'.cell? ⟨gp, 6, none⟩ = some (.int .i64 0) ∧ w'.cell? ⟨gp, 7, none⟩ = some (.int .i64 0) ∧ w'.cell? ⟨gp, 8, none⟩ = some (.int .i64 0) ∧ w'.cell? ⟨gp, 9, none⟩ = some (.slice A9 1 c9) ∧ w'.cell? ⟨gp, 10, none⟩ = some (.slice A10 0 c10) ∧ w'.cell? ⟨gp, 11, none⟩ = some (.slice A11 2 c11) ∧ w'.cell? ⟨gp, 12, none⟩ = some (.slice A12 0 c12)) ∧ w'.cell? ⟨gc, 5, none⟩ = some (.int .i64 1) ∧ w'.cell? ⟨gd, 5, none⟩ = some (.int .i64 4) ∧ w'.cell? ⟨gw, 0, none⟩ = some (.int .i64 50)) (exact ⟨plan13 (HE8.out.step (by repeat (first | exact Below.refl _ _ | apply below_alloc | apply below_drew1 | apply pw_below_drewN | refine below_trans' ?_ (by assumption)))).plan, (lines2_cells (Kd.R_below Hc.out (by repeat (first | exact Below.refl _ _ | apply below_alloc | apply below_drew1 | apply pw_below_drewN | refine below_trans' ?_ (by assumption))))).2.2.2.2.2.1, (lines2_cells (Kd.R_below Hd.out (by repeat (first | exact Below.refl _ _ | apply below_alloc | apply below_drew1 | apply pw_below_drewN | refine below_trans' ?_ (by assumption))))).2.2.2.2.2.1, ints2_cell (Kd.R_below HW.out (by repeat (first | exact Below.refl _ _ | apply below_alloc | apply below_drew1 | apply pw_below_drewN | refine below_trans' ?_ (by assumption))))⟩) (first | (go_at_call 14; refine (onairlaw26_shown.calls _ _ _ _ _ _ _ _ _ rfl).mono ?_; rintro e W_ ⟨rfl, hb_⟩) | (go_at_call 17; refine (billing_Runs.calls 0 0 0 0 A4 c4 [] 0 0 0 0 A9 c9 [⟨2, 2, 20, 0, 0⟩] A10 c10 [] A11 c11 [⟨1, 2, 0, 0, 100, 200, 10⟩, ⟨2, 2, 0, 0, 100, 200, 30⟩] A12 c12 [] _ 1 [⟨0, 0, 50, 19, 2, 0⟩] 2 0 _ _ (HE8.out.step (by repeat (first | exact Below.refl _ _ | apply below_alloc | apply below_drew1 | apply pw_below_drewN | refine below_trans' ?_ (by assumption)))).h4 l4 (HE8.out.step (by repeat (first | exact Below.refl _ _ | apply below_alloc | apply below_drew1 | apply pw_below_drewN | refine below_trans' ?_ (by assumption)))).h9 l9 (HE8.out.step (by repeat (first | exact Below.refl _ _ | apply below_alloc | apply below_drew1 | apply pw_below_drewN | refine below_trans' ?_ (by assumption)))).h10 l10 (HE8.out.step (by repeat (first | exact Below.refl _ _ | apply below_alloc | apply below_drew1 | apply pw_below_drewN | refine below_trans' ?_ (by assumption)))).h11 l11 (HE8.out.step (by repeat (first | exact Below.refl _ _ | apply below_alloc | apply below_drew1 | apply pw_below_drewN | refine below_trans' ?_ (by assumption)))).h12 l12 (C_rec1 (t := 43) ⟨0, 0, 50, 19, 2, 0⟩ (by repeat (first | exact new1 _ _ | refine blk_drew ?_ | refine blk_drewN ?_ _))) (by decide) sane_r).mono ?_; rintro e W9 ⟨rfl, hb⟩))
  have HE9 : Aside0 (Env w W9 gp A4 c4 A9 c9 A10 c10 A11 c11 A12 c12) := ⟨HE8.out.step (by repeat (first | exact Below.refl _ _ | apply below_alloc | apply below_drew1 | apply pw_below_drewN | refine below_trans' ?_ (by assumption)))⟩
  clear hb hb_
  go_wp2_with fail
  go_ret
  exact ⟨rfl, HE9.out.below⟩
end Go.Proofs.Ytpdbhaoppdgmeaa.Pr
