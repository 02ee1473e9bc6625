/- billing.Runs counts the airings of the item in the region; it makes some memory and changes nothing that lay. -/
import Derived.Test.YtpdbhaoppdgmeaaHAir
namespace Go.Proofs.Ytpdbhaoppdgmeaa.Pr
open Go.RowKit Go.Shelf Go.Proofs.Ytpdbhaoppdgmeaa.Sup Go.Proofs.YtpdbhaoppdgmeaaW.PrintWords Go.Proofs.YtpdbhaoppdgmeaaW.PrintLast Go.Proofs.YtpdbhaoppdgmeaaW.PrintMore
attribute [local go_sem] max2_int min2_int max_two min_two
attribute [local go_sem] Oper.semAt_some
set_option linter.unusedVariables false
set_option linter.unusedSimpArgs false

def billing_Runs.f (a0_0 : Int) (a0_1 : Int) (a0_2 : Int) (a0_3 : Int) (l0_4 : List (S96)) (a0_5 : Int) (a0_6 : Int) (a0_7 : Int) (a0_8 : Int) (l0_9 : List (S45)) (l0_10 : List (S78)) (l0_11 : List (S59)) (l0_12 : List (S82)) (l1 : List (S43)) (a2 : Int) (a3 : Int) : Option Int := if l1.length ≤ 140737488355328 then some ((airs a0_0 a2 a3 l1).length : Int) else none

set_option maxHeartbeats 2000000 in
set_option maxRecDepth 100000 in
theorem billing_Runs.calls (a0_0 : Int) (a0_1 : Int) (a0_2 : Int) (a0_3 : Int) (A0_4 : Option Addr) (c0_4 : Nat) (l0_4 : List (S96)) (a0_5 : Int) (a0_6 : Int) (a0_7 : Int) (a0_8 : Int) (A0_9 : Option Addr) (c0_9 : Nat) (l0_9 : List (S45)) (A0_10 : Option Addr) (c0_10 : Nat) (l0_10 : List (S78)) (A0_11 : Option Addr) (c0_11 : Nat) (l0_11 : List (S59)) (A0_12 : Option Addr) (c0_12 : Nat) (l0_12 : List (S82)) (A1 : Option Addr) (c1 : Nat) (l1 : List (S43)) (a2 : Int) (a3 : Int) (r : Int) (w : World) (hr0_4 : Kd.C k96 w A0_4 l0_4.length l0_4) (hc0_4 : l0_4.length ≤ c0_4) (hr0_9 : Kd.C k45 w A0_9 l0_9.length l0_9) (hc0_9 : l0_9.length ≤ c0_9) (hr0_10 : Kd.C k78 w A0_10 l0_10.length l0_10) (hc0_10 : l0_10.length ≤ c0_10) (hr0_11 : Kd.C k59 w A0_11 l0_11.length l0_11) (hc0_11 : l0_11.length ≤ c0_11) (hr0_12 : Kd.C k82 w A0_12 l0_12.length l0_12) (hc0_12 : l0_12.length ≤ c0_12) (hr1 : Kd.C k43 w A1 l1.length l1) (hc1 : l1.length ≤ c1) (h : billing_Runs.f a0_0 a0_1 a0_2 a0_3 l0_4 a0_5 a0_6 a0_7 a0_8 l0_9 l0_10 l0_11 l0_12 l1 a2 a3 = some r) :
    Calls Try.prog 17 #[.agg #[.int .i64 a0_0, .int .i64 a0_1, .int .i64 a0_2, .int .i64 a0_3, .slice A0_4 l0_4.length c0_4, .int .i64 a0_5, .int .i64 a0_6, .int .i64 a0_7, .int .i64 a0_8, .slice A0_9 l0_9.length c0_9, .slice A0_10 l0_10.length c0_10, .slice A0_11 l0_11.length c0_11, .slice A0_12 l0_12.length c0_12], .slice A1 l1.length c1, .int .i64 a2, .int .i64 a3] w fun e w' => e = .returned (.int .i64 r) ∧ Below w.heap.size w w' := by
  have hu2 := Try.underlying32
  unfold billing_Runs.f at h
  split at h
  case isFalse => cases h
  rename_i hlen
  simp only [Option.some.injEq] at h
  have HR := Aside0.mk hr1
  have H := Aside0.mk h
  clear h hr1 hc1 hr0_4 hc0_4 hr0_9 hc0_9 hr0_10 hc0_10 hr0_11 hc0_11 hr0_12 hc0_12
  refine (callsIn_wide (n := 6)).1 ?_
  refine callsIn_of_wp_marks Try.func17 rfl trivial ?_ rfl
  simp only [Try.ntmps17, List.size_toArray, List.length_cons, List.length_nil, Nat.reduceAdd, Nat.reduceSub, Array.replicate_succ, Array.replicate_zero, List.push_toArray, List.append_toArray, List.nil_append, List.cons_append]
  gi_wp2_with ((refine ⟨trivial, ?_⟩); gi_at_call 32; refine (callsIn_wide.2 (airings.calls a0_0 a0_1 a0_2 a0_3 A0_4 c0_4 l0_4 a0_5 a0_6 a0_7 a0_8 A0_9 c0_9 l0_9 A0_10 c0_10 l0_10 A0_11 c0_11 l0_11 A0_12 c0_12 l0_12 A1 c1 l1 a2 a3 _)).mono ?_; rintro e w1 ⟨Bl, Bp, Ba, rfl, HBl, HBp, HBa, HG, HB1⟩)
  have hsz := HB1.out.size
  simp only [World.size_alloc] at hsz
  have HB := Aside0.mk ((((Below.refl _ w).alloc (Nat.le_refl _) (.cells #[.int .i64 a0_0, .int .i64 a0_1, .int .i64 a0_2, .int .i64 a0_3, .slice A0_4 l0_4.length c0_4, .int .i64 a0_5, .int .i64 a0_6, .int .i64 a0_7, .int .i64 a0_8, .slice A0_9 l0_9.length c0_9, .slice A0_10 l0_10.length c0_10, .slice A0_11 l0_11.length c0_11, .slice A0_12 l0_12.length c0_12] 32)).alloc (by simp) (.cells #[.int .i64 0] 3)).trans (HB1.out.mono (by simp; omega)))
  have HN := Aside0.mk (blk_below (new2 w (.cells #[.int .i64 a0_0, .int .i64 a0_1, .int .i64 a0_2, .int .i64 a0_3, .slice A0_4 l0_4.length c0_4, .int .i64 a0_5, .int .i64 a0_6, .int .i64 a0_7, .int .i64 a0_8, .slice A0_9 l0_9.length c0_9, .slice A0_10 l0_10.length c0_10, .slice A0_11 l0_11.length c0_11, .slice A0_12 l0_12.length c0_12] 32) (.cells #[.int .i64 0] 3)) HB1.out)
  obtain ⟨g1, g2, g3⟩ := HG.out
  simp only [World.size_alloc] at g1 g2 g3
  refine wpIn_rangeFunc_ownF rfl (by omega) (gf := 45) (lb := #[.pointer (some ⟨Bl, 0, none⟩), .pointer (some ⟨Bp, 0, none⟩), .pointer (some ⟨Ba, 0, none⟩)]) rfl trivial (enters_of Try.func45 (by kernel_rfl) rfl)
    (airings1_stops 5 (by omega) w w1 HB.out Bl Bp Ba a0_0 a0_1 a0_2 a0_3 A0_4 c0_4 l0_4 a0_5 a0_6 a0_7 a0_8 A0_9 c0_9 l0_9 A0_10 c0_10 l0_10 A0_11 c0_11 l0_11 A0_12 c0_12 l0_12 A1 c1 l1 a2 a3 HBl.out HBp.out HBa.out HR.out) (fun h k => KeepB.trans h k) (KeepB.put (by omega) (by intro b hb; simp at hb; rcases hb with rfl | rfl | rfl; exact blk_lt HBl.out; exact blk_lt HBp.out; exact blk_lt HBa.out)) (Below.refl _ _) (fun _ => rfl)
    (fun pre W => Aside0 (Boxed W (w.heap.size + 1) 3 (.int .i64 (pre.length : Int))) ∧ Aside0 (Below w.heap.size w W)) (fun _ _ _ => False) ?hI ?hIx ?h0 ?a1 ?assign ?body ?done ?stop
  case hI => exact fun s A B row hs hg hr => ⟨⟨hs.1.out.kept hg (fun e => by obtain ⟨h1, o, h2, h3⟩ := hr _ e.symm; rw [show A.heap[w.heap.size + 1]? = _ from hs.1.out] at h2; cases h2; cases h3)⟩, ⟨hs.2.out.grown hg hs.2.out.size (fun k e => by have := (hr k e).1; omega)⟩⟩
  case hIx => exact fun _ _ _ _ _ hs _ _ => hs
  case h0 => exact ⟨⟨HN.out⟩, HB⟩
  case assign =>
    intro l x W K hK
    have hK' := Aside0.mk hK
    clear hK
    simp only [encRec]
    gi_wp2
    exact hK'.out
  case body =>
    rintro l pre x W ⟨hb, hB⟩ hlt
    have hc := hb.out.cell
    have hf := hb.out.frozen
    gi_wp2
    refine ⟨KeepsOthers.setCell _ _ _, (KeepB.refl _ _ W).setCell (by omega) (by intro b hb; simp at hb; omega) _, ⟨?_⟩, ⟨hB.out.setCell (p := ⟨w.heap.size + 1, 0, none⟩) (Nat.le_succ _) _⟩⟩
    have := hb.out.set (.int .i64 ((pre.length : Int) + 1))
    rw [List.length_append, List.length_singleton, Int.natCast_add]
    exact this
  case done =>
    rintro D ys W hD rfl ⟨hb, hB⟩ hK
    have hc := hb.out.cell
    gi_wp2
    refine ⟨by simp, .inl ⟨_, _, rfl, run_takeDeferred hK, ?_⟩⟩
    exact ⟨_, results_tmp rfl _ _ _, by rw [← H.out]; rfl, hB.out.trans (belowK_b (w := w) (Nat.le_refl _) W D _ _ (by omega) hK rfl rfl)⟩
  case stop =>
    rintro D c pre W _ _ h _
    exact h.elim
end Go.Proofs.Ytpdbhaoppdgmeaa.Pr
