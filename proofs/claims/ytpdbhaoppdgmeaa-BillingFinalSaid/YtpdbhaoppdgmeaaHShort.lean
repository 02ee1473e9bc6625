/- The law's short and few: the plan and the records, cut. They share the argument's memory. -/
import Derived.Test.YtpdbhaoppdgmeaaHSup
import Derived.Test.YtpdbhaoppdgmeaaPr0
namespace Go.Proofs.Ytpdbhaoppdgmeaa.Pr
open Go.RowKit Go.Proofs.Ytpdbhaoppdgmeaa.Sup Go.Proofs.YtpdbhaoppdgmeaaW.PrintWords Go.Proofs.YtpdbhaoppdgmeaaW.PrintLast Go.Proofs.YtpdbhaoppdgmeaaW.PrintMore
attribute [local go_sem] max2_int min2_int max_two min_two
set_option linter.unusedVariables false
set_option linter.unusedSimpArgs false

set_option maxHeartbeats 4000000 in
set_option maxRecDepth 100000 in
theorem few.calls (A : Option Addr) (n c : Nat) (hc : n ≤ c) (hm : n ≤ 9223372036854775807) (n' : Nat) (e' : n' = min n 40) (w : World) : Calls Try.prog 7 #[.slice A n c] w fun e w' => e = .returned (.slice A n' c) ∧ w' = w := by
  go_enter Try.func7, Try.ntmps7
  go_wp2_with fail
  all_goals (go_ret; refine ⟨?_, rfl⟩; simp; try omega)
set_option maxHeartbeats 4000000 in
set_option maxRecDepth 100000 in
theorem short.calls (a0_0 : Int) (a0_1 : Int) (a0_2 : Int) (a0_3 : Int) (A0_4 : Option Addr) (c0_4 : Nat) (l0_4 : List (S96)) (a0_5 : Int) (a0_6 : Int) (a0_7 : Int) (a0_8 : Int) (A0_9 : Option Addr) (c0_9 : Nat) (l0_9 : List (S45)) (A0_10 : Option Addr) (c0_10 : Nat) (l0_10 : List (S78)) (A0_11 : Option Addr) (c0_11 : Nat) (l0_11 : List (S59)) (A0_12 : Option Addr) (c0_12 : Nat) (l0_12 : List (S82)) (w : World) (h4 : l0_4.length ≤ c0_4) (h9 : l0_9.length ≤ c0_9) (h11 : l0_11.length ≤ c0_11) (h12 : l0_12.length ≤ c0_12) (m4 : l0_4.length ≤ 9223372036854775807) (m9 : l0_9.length ≤ 9223372036854775807) (m11 : l0_11.length ≤ 9223372036854775807) (m12 : l0_12.length ≤ 9223372036854775807) (n4 n9 n11 n12 : Nat) (e4 : n4 = min l0_4.length 10) (e9 : n9 = min l0_9.length 20) (e11 : n11 = min l0_11.length 15) (e12 : n12 = min l0_12.length 15) :
    Calls Try.prog 6 #[.agg #[.int .i64 a0_0, .int .i64 a0_1, .int .i64 a0_2, .int .i64 a0_3, .slice A0_4 l0_4.length c0_4, .int .i64 a0_5, .int .i64 a0_6, .int .i64 a0_7, .int .i64 a0_8, .slice A0_9 l0_9.length c0_9, .slice A0_10 l0_10.length c0_10, .slice A0_11 l0_11.length c0_11, .slice A0_12 l0_12.length c0_12]] w fun e w' => e = .returned (.agg #[.int .i64 a0_0, .int .i64 a0_1, .int .i64 a0_2, .int .i64 a0_3, .slice A0_4 n4 c0_4, .int .i64 a0_5, .int .i64 a0_6, .int .i64 a0_7, .int .i64 a0_8, .slice A0_9 n9 c0_9, .slice A0_10 l0_10.length c0_10, .slice A0_11 n11 c0_11, .slice A0_12 n12 c0_12]) ∧ Below w.heap.size w w' := by
  have huQ := Try.underlying32
  go_enter Try.func6, Try.ntmps6
  go_wp2_with fail
  all_goals
    refine bodyPost_ret (results_cell_row rfl _ _ (w.heap.size + 1) 32 _ (0, 0) _ rfl (new2 w _ _) huQ rfl (by kernel_rfl)) rfl ⟨?_, below_alloc (below_alloc (Below.refl _ _) _) _⟩
    simp
    try omega
end Go.Proofs.Ytpdbhaoppdgmeaa.Pr
