/- The row of BillingFinal: lines that are Billed, MadeGood or Credited stay the same, whatever is aired later. No condition. -/
import Derived.Test.YtpdbhaoppdgmeaaRows
import Derived.Test.YtpdbhaoppdgmeaaHLaw2
import Derived.Test.YtpdbhaoppdgmeaaHOpen
import Derived.WalkKit
import Derived.ProofKit
import Derived.OpenShut
import Derived.ShutString
import Derived.ChangeOld
import Derived.Below
import Derived.Carry
import Derived.SizedLaws
namespace Go.Proofs.Ytpdbhaoppdgmeaa.billingFinal
open Go.ChangeShapes Go.WideShapes Go.ChangeAt Go.RowKit Go.Proofs.YtpdbhaoppdgmeaaW.PrintWords
set_option linter.unusedVariables false
theorem own : ownKnob Try.prog.godebug = none := by kernel_rfl
theorem laidOut : laidOutB Try.prog = true := by kernel_rfl
set_option maxRecDepth 100000 in
theorem lifted (os : Os) (started : os.Started) (H : Type) (enc : TypeId × Value → H) :
    ReturnsInHanded {} Try.checked os 4 .any (Rows.billingFinalSpec.pre6 enc Try.prog Try.f4 Rows.billingFinalRow.domain false) (Rows.billingFinalSpec.post enc Try.prog Try.f4 false true false false) := by
  refine returnsInHanded_of_change (C := Try.checked) own started (by kernel_rfl) Try.func4
    (ChangeSpec.witness6 (enc := enc) (C := Try.checked) false ⟨#[], #[.agg #[.int .i64 0, .int .i64 0, .int .i64 0, .int .i64 0, .slice none 0 0, .int .i64 0, .int .i64 0, .int .i64 0, .int .i64 0, .slice none 0 0, .slice none 0 0, .slice none 0 0, .slice none 0 0], .slice none 0 0, .slice none 0 0, .int .i64 0, .int .i64 0], []⟩ 8 (by kernel_rfl) (by kernel_rfl) (by kernel_rfl) (by kernel_rfl)) ?_
  intro W base args ds gs before hval0 hW hcnd _
  have hval : ∀ (j : Nat) t v, Try.f4.params[j]? = some t → args[j]? = some v → Value.okWide Try.prog W .any base t v := hval0
  have hW' := hW
  obtain ⟨p, q, hA0, hV, rfl, hfz, hnd⟩ := hW
  have hA : DataW.TrodAll enc Try.prog W 0 (fun _ => true) true Try.f4.params.toList args.toList ds p := hA0
  rw [Try.params4] at hA hval
  obtain ⟨v0, vs0, d0, ds0, p0, q0, hargs, rfl, rfl, h0, r0⟩ := trodAll_cons hA
  obtain ⟨v1, vs1, d1, ds1, p1, q1, rfl, rfl, rfl, h1, r1⟩ := trodAll_cons r0
  obtain ⟨v2, vs2, d2, ds2, p2, q2, rfl, rfl, rfl, h2, r2⟩ := trodAll_cons r1
  obtain ⟨v3, vs3, d3, ds3, p3, q3, rfl, rfl, rfl, h3, r3⟩ := trodAll_cons r2
  obtain ⟨v4, vs4, d4, ds4, p4, q4, rfl, rfl, rfl, h4, r4⟩ := trodAll_cons r3
  obtain ⟨rfl, rfl, rfl⟩ := trodAll_nil r4
  obtain rfl : args = #[v0, v1, v2, v3, v4] := by cases args; simp_all
  obtain ⟨rfl, rfl⟩ := trodVars_none hV
  have k0 := h0
  have k1 := h1
  have k2 := h2
  have lt0 : ∀ x ∈ p0, x.block < W.heap.size := by obtain ⟨m, hm⟩ := k0; exact DataW.trod_lt m _ _ _ hm
  have lt1 : ∀ x ∈ p1, x.block < W.heap.size := by obtain ⟨m, hm⟩ := k1; exact DataW.trod_lt m _ _ _ hm
  have lt2 : ∀ x ∈ p2, x.block < W.heap.size := by obtain ⟨m, hm⟩ := k2; exact DataW.trod_lt m _ _ _ hm
  obtain ⟨cs, rfl, hsz⟩ := okWide_struct Try.underlying32 (hval 0 32 v0 rfl rfl)
  obtain ⟨a1, len1, cap1, rfl⟩ := okWide_slice (t := 33) (e := 43) (by kernel_rfl) (hval 1 33 v1 rfl rfl)
  obtain ⟨a2, len2, cap2, rfl⟩ := okWide_slice (t := 33) (e := 43) (by kernel_rfl) (hval 2 33 v2 rfl rfl)
  obtain ⟨n0, hn0⟩ := h0
  obtain ⟨x, hx⟩ := Pr.opens32 n0 _ _ hn0
  obtain ⟨A4, c4, A9, c9, A10, c10, A11, c11, A12, c12, e0, l4, g4, l9, g9, l10, g10, l11, g11, l12, g12⟩ := Pr.k32_open hx
  obtain ⟨n1, hn1⟩ := h1
  obtain ⟨y, A1, c1, e1, l1, g1⟩ := Pr.opens_slice (enc := enc) (W := W) (t := 33) (e := 43) (by kernel_rfl) (by kernel_rfl) Pr.opens43 n1 _ _ hn1
  obtain ⟨n2, hn2⟩ := h2
  obtain ⟨z, A2, c2, e2, l2, g2⟩ := Pr.opens_slice (enc := enc) (W := W) (t := 33) (e := 43) (by kernel_rfl) (by kernel_rfl) Pr.opens43 n2 _ _ hn2
  obtain ⟨a3, rfl, rfl, rfl, w3⟩ := open_int Try.underlying3 (hval 3 3 v3 rfl rfl) h3
  obtain ⟨a4, rfl, rfl, rfl, w4⟩ := open_int Try.underlying3 (hval 4 3 v4 rfl rfl) h4
  have e0' : cs = #[.int .i64 x.f0, .int .i64 x.f1.f0, .int .i64 x.f1.f1, .int .i64 x.f2.f0, .slice A4 x.f2.f1.length c4, .int .i64 x.f3, .int .i64 x.f4, .int .i64 x.f5, .int .i64 x.f6, .slice A9 x.f7.length c9, .slice A10 x.f8.length c10, .slice A11 x.f9.length c11, .slice A12 x.f10.length c12] := by
    have : cs.toList = _ := e0
    exact Array.toList_inj.1 (this.trans rfl)
  subst e0'
  simp [Value.cells] at e1
  obtain ⟨rfl, rfl, rfl⟩ := e1
  simp [Value.cells] at e2
  obtain ⟨rfl, rfl, rfl⟩ := e2
  have hw4 : a4 ≤ 9223372036854775807 := by
    have e : IntKind.i64.max = 9223372036854775807 := by decide
    have h := w4
    unfold Lit.wf at h
    simp only [Bool.and_eq_true, decide_eq_true_eq] at h
    rw [← e]; exact h.2
  clear hA0 hval0
  refine (Pr.law2.calls x.f0 x.f1.f0 x.f1.f1 x.f2.f0 A4 c4 x.f2.f1 x.f3 x.f4 x.f5 x.f6 A9 c9 x.f7 A10 c10 x.f8 A11 c11 x.f9 A12 c12 x.f10 a1 cap1 y a2 cap2 z a3 a4 W g4 l4 g9 l9 g10 l10 g11 l11 g12 l12 g1 l1 g2 l2 hw4).mono fun e W' ⟨he, bel⟩ => ?_
  subst he
  exact ⟨_, rfl, _, _, _, [], _, [], hW', trodAll_mk1 (shut_bool Try.underlying4 _), (trodAll_cons_mk (Below.trod laidOut (by kernel_rfl) (of_decide_eq_true (by kernel_rfl)) k0 bel lt0) (trodAll_cons_mk (Below.trod laidOut (by kernel_rfl) (of_decide_eq_true (by kernel_rfl)) k1 bel lt1) (trodAll_cons_mk (Below.trod laidOut (by kernel_rfl) (of_decide_eq_true (by kernel_rfl)) k2 bel lt2) (trodAll_cons_mk (shut_int Try.underlying3 w3) (trodAll_cons_mk (shut_int Try.underlying3 w4) trodAll_mk0))))), rfl, bel.frame _, fun h => by cases h⟩
theorem over : Rows.billingFinalRow.holds Try.pinned (OpenSpec.ofChange Rows.billingFinalSpec) :=
  OpenClaim.holds_of_wide 4 Try.f4 rfl rfl rfl rfl rfl rfl rfl ⟨rfl, rfl, rfl, rfl, rfl⟩ rfl rfl rfl rfl rfl (by kernel_rfl) Try.func4 (by kernel_rfl)
    (of_decide_eq_true (by kernel_rfl)) (by unfold Func.isWrapper; first | (rw [if_pos (by decide +kernel)]; kernel_rfl) | (rw [if_neg (by decide +kernel)]; exact ⟨rfl, rfl⟩))
    (fun os started H enc _ => lifted os started H enc)
theorem proved : Rows.BillingFinalSaid := over
end Go.Proofs.Ytpdbhaoppdgmeaa.billingFinal
namespace Go.Proofs.Ytpdbhaoppdgmeaa
/-- The row, under a short name, for the claim. -/
theorem billingFinal_holds : Rows.BillingFinalSaid := billingFinal.proved
end Go.Proofs.Ytpdbhaoppdgmeaa
