/- The fixed examples of law 26's sane: what the functions give there. -/
import Derived.Test.YtpdbhaoppdgmeaaHInvoice
import Derived.Test.YtpdbhaoppdgmeaaHRuns
import Derived.Test.YtpdbhaoppdgmeaaPr1
namespace Go.Proofs.Ytpdbhaoppdgmeaa.Pr
open Go.RowKit Go.Proofs.Ytpdbhaoppdgmeaa.Sup Go.Proofs.YtpdbhaoppdgmeaaW.PrintWords Go.Proofs.YtpdbhaoppdgmeaaW.PrintLast Go.Proofs.YtpdbhaoppdgmeaaW.PrintMore
set_option linter.unusedVariables false
set_option linter.unusedSimpArgs false

theorem sane_a : billing_Invoice.f 0 0 0 0 [] 0 0 0 0 [⟨2, 2, 20, 0, 0⟩] [] [⟨1, 2, 0, 0, 100, 200, 10⟩, ⟨2, 2, 0, 0, 100, 200, 30⟩] [] [⟨0, 0, 50, 20, 2, 0⟩] 100 = some [⟨1, 2, 50, 10⟩, ⟨2, 1, -1, 0⟩] := by kernel_rfl
theorem sane_b : billing_Invoice.f 0 0 0 0 [] 0 0 0 0 [⟨2, 2, 20, 0, 0⟩] [] [⟨1, 2, 0, 0, 100, 200, 10⟩, ⟨2, 2, 0, 0, 100, 200, 30⟩] [] [⟨0, 0, 150, 20, 2, 0⟩, ⟨0, 0, 50, 20, 2, 0⟩] 200 = some [⟨1, 2, 50, 10⟩, ⟨2, 3, 150, 30⟩] := by kernel_rfl
theorem sane_c : billing_Invoice.f 0 0 0 0 [] 0 0 0 0 [⟨2, 2, 20, 0, 0⟩] [] [⟨1, 2, 0, 0, 100, 200, 10⟩, ⟨2, 2, 0, 0, 100, 200, 30⟩] [] [⟨0, 0, 50, 19, 2, 0⟩] 219 = some [⟨1, 1, -1, 0⟩, ⟨2, 1, -1, 0⟩] := by kernel_rfl
theorem sane_d : billing_Invoice.f 0 0 0 0 [] 0 0 0 0 [⟨2, 2, 20, 0, 0⟩] [] [⟨1, 2, 0, 0, 100, 200, 10⟩, ⟨2, 2, 0, 0, 100, 200, 30⟩] [] [⟨0, 0, 50, 19, 2, 0⟩] 220 = some [⟨1, 4, -1, 0⟩, ⟨2, 4, -1, 0⟩] := by kernel_rfl
theorem sane_w : billing_Whole.f 0 0 0 0 [] 0 0 0 0 [⟨2, 2, 20, 0, 0⟩] [] [⟨1, 2, 0, 0, 100, 200, 10⟩, ⟨2, 2, 0, 0, 100, 200, 30⟩] [] [⟨0, 0, 150, 20, 2, 0⟩, ⟨0, 0, 50, 20, 2, 0⟩] 2 0 = some [50, 150] := by kernel_rfl
theorem sane_t : billing_Total.f 10 [⟨1, 2, 50, 10⟩, ⟨2, 3, 150, 30⟩] = some 40 := by kernel_rfl
theorem sane_r : billing_Runs.f 0 0 0 0 [] 0 0 0 0 [⟨2, 2, 20, 0, 0⟩] [] [⟨1, 2, 0, 0, 100, 200, 10⟩, ⟨2, 2, 0, 0, 100, 200, 30⟩] [] [⟨0, 0, 50, 19, 2, 0⟩] 2 0 = some 1 := by kernel_rfl

theorem C_rec1 {W : World} {g t : Nat} (x : S43) (h : W.heap[g]? = some (.cells #[.int .i64 x.f0, .int .i64 x.f1, .int .i64 x.f2, .int .i64 x.f3, .int .i64 x.f4, .int .i64 x.f5] t (0, 0))) : Kd.C k43 W (some ⟨g, 0, none⟩) 1 [x] := by
  refine ⟨rfl, by decide, fun _ => ⟨_, rfl, fun j p hj => ?_⟩⟩
  match j, hj with
  | 0, hj =>
    cases hj
    refine ⟨_, rfl, k43_mk W x, fun i u hu => ?_⟩
    rw [add_plain]
    refine (blk_cell h _).trans ?_
    match i, hu with
    | 0, hu => exact hu
    | 1, hu => exact hu
    | 2, hu => exact hu
    | 3, hu => exact hu
    | 4, hu => exact hu
    | 5, hu => exact hu
theorem C_rec2 {W : World} {g t : Nat} (x y : S43) (h : W.heap[g]? = some (.cells #[.int .i64 x.f0, .int .i64 x.f1, .int .i64 x.f2, .int .i64 x.f3, .int .i64 x.f4, .int .i64 x.f5, .int .i64 y.f0, .int .i64 y.f1, .int .i64 y.f2, .int .i64 y.f3, .int .i64 y.f4, .int .i64 y.f5] t (0, 0))) : Kd.C k43 W (some ⟨g, 0, none⟩) 2 [x, y] := by
  refine ⟨rfl, by decide, fun _ => ⟨_, rfl, fun j p hj => ?_⟩⟩
  match j, hj with
  | 0, hj =>
    cases hj
    refine ⟨_, rfl, k43_mk W x, fun i u hu => ?_⟩
    rw [add_plain]
    refine (blk_cell h _).trans ?_
    match i, hu with
    | 0, hu => exact hu
    | 1, hu => exact hu
    | 2, hu => exact hu
    | 3, hu => exact hu
    | 4, hu => exact hu
    | 5, hu => exact hu
  | 1, hj =>
    cases hj
    refine ⟨_, rfl, k43_mk W y, fun i u hu => ?_⟩
    rw [add_plain]
    refine (blk_cell h _).trans ?_
    match i, hu with
    | 0, hu => exact hu
    | 1, hu => exact hu
    | 2, hu => exact hu
    | 3, hu => exact hu
    | 4, hu => exact hu
    | 5, hu => exact hu
end Go.Proofs.Ytpdbhaoppdgmeaa.Pr
