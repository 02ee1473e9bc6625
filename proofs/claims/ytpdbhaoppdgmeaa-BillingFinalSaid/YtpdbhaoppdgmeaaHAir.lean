/- billing.airings: the iterator yields the records of the list that are airings of the item in the region, in their order, whatever the loop's body does to memory of its own. -/
import Derived.Test.YtpdbhaoppdgmeaaPr0
import Derived.Test.YtpdbhaoppdgmeaaHSup
namespace Go.Proofs.Ytpdbhaoppdgmeaa.Pr
open Go.RowKit Go.Shelf Go.Proofs.Ytpdbhaoppdgmeaa.Sup Go.Proofs.YtpdbhaoppdgmeaaW.PrintWords Go.Proofs.YtpdbhaoppdgmeaaW.PrintLast Go.Proofs.YtpdbhaoppdgmeaaW.PrintMore
attribute [local go_sem] max2_int min2_int max_two min_two
attribute [local go_sem] Oper.semAt_some
set_option linter.unusedVariables false
set_option linter.unusedSimpArgs false

def isAir (ch item region : Int) (r : S43) : Bool := r.f0 == ch && r.f5 == 0 && decide (0 ≤ r.f2) && decide (r.f2 ≤ 100000000) && r.f4 == item && r.f1 == region
def airs (ch item region : Int) (l : List S43) : List S43 := l.filter (isAir ch item region)
def encRec (r : S43) : Array Value := #[.agg #[.int .i64 r.f0, .int .i64 r.f1, .int .i64 r.f2, .int .i64 r.f3, .int .i64 r.f4, .int .i64 r.f5]]

theorem airs_snoc (ch item region : Int) (l : List S43) (k : Int) (h0 : 0 ≤ k) (h1 : k < l.length) :
    airs ch item region (l.take (k + 1).toNat) = airs ch item region (l.take k.toNat) ++ if isAir ch item region (rd_T43 l k) then [rd_T43 l k] else [] := by
  have e : (k + 1).toNat = k.toNat + 1 := by omega
  have hk : k.toNat < l.length := by omega
  rw [e, List.take_succ_eq_append_getElem hk]
  have : rd_T43 l k = l[k.toNat] := by simp [rd_T43, List.getD_eq_getElem?_getD, hk]
  rw [this]
  unfold airs
  rw [List.filter_append]
  by_cases hh : isAir ch item region l[k.toNat] <;> simp [List.filter_cons, hh]
theorem airs_short (ch item region : Int) (l : List S43) (k : Int) (h1 : k < l.length) (h0 : 0 ≤ k) : (airs ch item region (l.take k.toNat)).length < l.length := by
  unfold airs
  have := List.length_filter_le (isAir ch item region) (l.take k.toNat)
  have := List.length_take_le k.toNat l
  omega

set_option maxHeartbeats 2000000 in
set_option maxRecDepth 100000 in
theorem airings1_stops (n : Nat) (hn : 2 ≤ n) (w0 w : World) (hw0 : Below w0.heap.size w0 w) (Bl Bp Ba : Nat) (a0_0 : Int) (a0_1 : Int) (a0_2 : Int) (a0_3 : Int) (A0_4 : Option Addr) (c0_4 : Nat) (l0_4 : List (S96)) (a0_5 : Int) (a0_6 : Int) (a0_7 : Int) (a0_8 : Int) (A0_9 : Option Addr) (c0_9 : Nat) (l0_9 : List (S45)) (A0_10 : Option Addr) (c0_10 : Nat) (l0_10 : List (S78)) (A0_11 : Option Addr) (c0_11 : Nat) (l0_11 : List (S59)) (A0_12 : Option Addr) (c0_12 : Nat) (l0_12 : List (S82)) (A1 : Option Addr) (c1 : Nat) (l1 : List S43) (item region : Int)
    (hl : w.heap[Bl]? = some (.cells #[.slice A1 l1.length c1] 33 (0, 0)))
    (hp : w.heap[Bp]? = some (.cells #[.int .i64 a0_0, .int .i64 a0_1, .int .i64 a0_2, .int .i64 a0_3, .slice A0_4 l0_4.length c0_4, .int .i64 a0_5, .int .i64 a0_6, .int .i64 a0_7, .int .i64 a0_8, .slice A0_9 l0_9.length c0_9, .slice A0_10 l0_10.length c0_10, .slice A0_11 l0_11.length c0_11, .slice A0_12 l0_12.length c0_12] 32 (0, 0)))
    (ha : w.heap[Ba]? = some (.cells #[.int .i64 item, .int .i64 region] 61 (0, 0)))
    (hr1 : Kd.C k43 w0 A1 l1.length l1) :
    SeqStopsK Fence.wide n Try.prog 45 #[.pointer (some ⟨Bl, 0, none⟩), .pointer (some ⟨Bp, 0, none⟩), .pointer (some ⟨Ba, 0, none⟩)] encRec (KeepB w0.heap.size [Bl, Bp, Ba])
      (fun ys => ys = airs a0_0 item region l1) (fun _ => True) l1.length w := by
  intro l J Jx W hW hJ hJx hY h0
  have hu := Try.underlying43
  have hu2 := Try.underlying61
  have hm : l1.length ≤ 9223372036854775807 := Kd.C_max hr1
  have h1n : 1 ≤ n - 1 := by omega
  have HW := Aside0.mk hW
  have HL := Aside0.mk hl
  have HP := Aside0.mk hp
  have HA := Aside0.mk ha
  have HR := Aside0.mk hr1
  have H0 := Aside0.mk hw0
  have HS := hw0.size
  clear hW hl hp ha hr1 hw0
  refine callsIn_of_wp Try.func45 rfl trivial ?_ rfl
  simp only [Try.ntmps45, List.size_toArray, List.length_cons, List.length_nil, Nat.reduceAdd, Nat.reduceSub, Array.replicate_succ, Array.replicate_zero, List.push_toArray, List.append_toArray, List.nil_append, List.cons_append]
  have hl0 : (W).cell? ⟨Bl, 0, none⟩ = some (.slice A1 l1.length c1) := (blk_cell (blk_below HL.out HW.out) 0).trans rfl
  have hlf0 := blk_frozen (blk_below HL.out HW.out) 0
  gi_wp2
  gi_loopw [9] (fun i wr => ∃ k : Int, i = .int .i64 k ∧ Aside0 (0 ≤ k) ∧ Aside0 (k ≤ l1.length) ∧ Aside0 (J (airs a0_0 item region (l1.take k.toNat)) wr) ∧ Aside0 (KeepB w0.heap.size [Bl, Bp, Ba] w wr)) (fun i _ => l1.length - (intOf i).toNat)
  case atStart => exact ⟨0, rfl, ⟨by omega⟩, ⟨by omega⟩, ⟨by simpa [airs] using h0⟩, ⟨(KeepB.refl _ _ w).of_below HS HW.out⟩⟩
  case round =>
    obtain ⟨k, rfl, HK0, HK, HJ, HB⟩ := hrel
    have hk := HK.out
    have hk0 := HK0.out
    clear hlf0
    by_cases hlt : k < (l1.length : Int)
    · have hsn := Aside0.mk (airs_snoc a0_0 item region l1 k hk0 hlt)
      have hsh := airs_short a0_0 item region l1 k hlt hk0
      have hJa := fun o => hJ _ _ _ none HJ.out (World.grownBy_alloc wr o none) (fun r e => by cases e)
      have BEa := fun o => HB.out.alloc HS o
      have HB0 := Aside0.mk (H0.out.trans HB.out.1)
      have BP := HB.out.at_ (b := Bp) (by simp) HP.out
      have BA := HB.out.at_ (b := Ba) (by simp) HA.out
      obtain ⟨ad, e_, hx0, hx1, hx2, hx3, hx4, hx5⟩ := at_T43 HR.out k hk0 hlt
      cases e_
      replace hx0 := ((HB0.out).cell (World.block_lt_of_cell? _ _ hx0)).trans hx0
      replace hx1 := ((HB0.out).cell (World.block_lt_of_cell? _ _ hx1)).trans hx1
      replace hx2 := ((HB0.out).cell (World.block_lt_of_cell? _ _ hx2)).trans hx2
      replace hx3 := ((HB0.out).cell (World.block_lt_of_cell? _ _ hx3)).trans hx3
      replace hx4 := ((HB0.out).cell (World.block_lt_of_cell? _ _ hx4)).trans hx4
      replace hx5 := ((HB0.out).cell (World.block_lt_of_cell? _ _ hx5)).trans hx5
      have hp0 : (wr).cell? ⟨Bp, 0, none⟩ = some (.int .i64 a0_0) := (blk_cell BP 0).trans rfl
      have hpf0 := blk_frozen BP 0
      have hp1 : (wr).cell? ⟨Bp, 1, none⟩ = some (.int .i64 a0_1) := (blk_cell BP 1).trans rfl
      have hpf1 := blk_frozen BP 1
      have hp2 : (wr).cell? ⟨Bp, 2, none⟩ = some (.int .i64 a0_2) := (blk_cell BP 2).trans rfl
      have hpf2 := blk_frozen BP 2
      have hp3 : (wr).cell? ⟨Bp, 3, none⟩ = some (.int .i64 a0_3) := (blk_cell BP 3).trans rfl
      have hpf3 := blk_frozen BP 3
      have hp4 : (wr).cell? ⟨Bp, 4, none⟩ = some (.slice A0_4 l0_4.length c0_4) := (blk_cell BP 4).trans rfl
      have hpf4 := blk_frozen BP 4
      have hp5 : (wr).cell? ⟨Bp, 5, none⟩ = some (.int .i64 a0_5) := (blk_cell BP 5).trans rfl
      have hpf5 := blk_frozen BP 5
      have hp6 : (wr).cell? ⟨Bp, 6, none⟩ = some (.int .i64 a0_6) := (blk_cell BP 6).trans rfl
      have hpf6 := blk_frozen BP 6
      have hp7 : (wr).cell? ⟨Bp, 7, none⟩ = some (.int .i64 a0_7) := (blk_cell BP 7).trans rfl
      have hpf7 := blk_frozen BP 7
      have hp8 : (wr).cell? ⟨Bp, 8, none⟩ = some (.int .i64 a0_8) := (blk_cell BP 8).trans rfl
      have hpf8 := blk_frozen BP 8
      have hp9 : (wr).cell? ⟨Bp, 9, none⟩ = some (.slice A0_9 l0_9.length c0_9) := (blk_cell BP 9).trans rfl
      have hpf9 := blk_frozen BP 9
      have hp10 : (wr).cell? ⟨Bp, 10, none⟩ = some (.slice A0_10 l0_10.length c0_10) := (blk_cell BP 10).trans rfl
      have hpf10 := blk_frozen BP 10
      have hp11 : (wr).cell? ⟨Bp, 11, none⟩ = some (.slice A0_11 l0_11.length c0_11) := (blk_cell BP 11).trans rfl
      have hpf11 := blk_frozen BP 11
      have hp12 : (wr).cell? ⟨Bp, 12, none⟩ = some (.slice A0_12 l0_12.length c0_12) := (blk_cell BP 12).trans rfl
      have hpf12 := blk_frozen BP 12
      have ha0 : (wr).cell? ⟨Ba, 0, none⟩ = some (.int .i64 item) := (blk_cell BA 0).trans rfl
      have haf0 := blk_frozen BA 0
      have ha1 : (wr).cell? ⟨Ba, 1, none⟩ = some (.int .i64 region) := (blk_cell BA 1).trans rfl
      have haf1 := blk_frozen BA 1
      have hG1 := blk_lt BP
      have hG2 := blk_lt BA
      clear BP BA
      have p := eq_true hk0
      have q := eq_true hlt
      have c := decide_eq_true hlt
      by_cases hy : isAir a0_0 item region (rd_T43 l1 k) = true
      · simp only [isAir, Bool.and_eq_true, beq_iff_eq, decide_eq_true_eq] at hy
        obtain ⟨⟨⟨⟨⟨e0, e5⟩, e2⟩, e2'⟩, e4⟩, e1⟩ := hy
        obtain ⟨fn, tmps, assign, body, hyy, hRR⟩ := hY _ (rd_T43 l1 k) _ (hJa (.cells #[.int .i64 (rd_T43 l1 k).f0, .int .i64 (rd_T43 l1 k).f1, .int .i64 (rd_T43 l1 k).f2, .int .i64 (rd_T43 l1 k).f3, .int .i64 (rd_T43 l1 k).f4, .int .i64 (rd_T43 l1 k).f5] 43)) hsh
        have hRR' := Aside0.mk hRR
        clear hRR
        dsimp only [encRec] at hyy
        have b0 : ((rd_T43 l1 k).f0 != a0_0) = false := by rw [e0]; simp
        have b5 : ((rd_T43 l1 k).f5 != 0) = false := by rw [e5]; rfl
        have b2 : decide ((rd_T43 l1 k).f2 < 0) = false := by simp; omega
        have b2' : decide (100000000 < (rd_T43 l1 k).f2) = false := by simp; omega
        have b4 : ((rd_T43 l1 k).f4 == item) = true := by rw [e4]; simp
        have b1 : ((rd_T43 l1 k).f1 == region) = true := by rw [e1]; simp
        have hair := Aside0.mk (show isAir a0_0 item region (rd_T43 l1 k) = true by simp [isAir, e0, e1, e2, e2', e4, e5])
        clear e0 e1 e2 e2' e4 e5 hJa BEa
        gi_wp2
        refine ⟨fun _ => by omega, hRR'.out.mono ?_⟩
        rintro e W' (⟨rfl, hJ3, hk3⟩ | ⟨rfl, hJx3⟩)
        · gi_wp2
          go_roundw
          case rel => exact ⟨k + 1, rfl, ⟨by omega⟩, ⟨by omega⟩, ⟨by rw [hsn.out]; simp only [hair.out, if_true]; exact hJ3⟩, ⟨(HB.out.alloc HS _).trans hk3⟩⟩
          case measure => simp [intOf]; omega
        · gi_wp2
          refine bodyPost_ret (results_none rfl _ _ _) rfl ?_
          exact ⟨⟨_, rfl⟩, .inr ⟨_, trivial, hJx3⟩⟩
      · have hy' := Aside0.mk (show isAir a0_0 item region (rd_T43 l1 k) = false by simpa using hy)
        have hJa' := Aside0.mk hJa
        have BEa' := Aside0.mk BEa
        clear hJa BEa
        by_cases e0 : (rd_T43 l1 k).f0 = a0_0
        · have b0 : ((rd_T43 l1 k).f0 != a0_0) = false := by rw [e0]; simp
          by_cases e5 : (rd_T43 l1 k).f5 = 0
          · have b5 : ((rd_T43 l1 k).f5 != 0) = false := by rw [e5]; rfl
            by_cases e2 : 0 ≤ (rd_T43 l1 k).f2
            · have b2 : decide ((rd_T43 l1 k).f2 < 0) = false := by simp; omega
              by_cases e2' : (rd_T43 l1 k).f2 ≤ 100000000
              · have b2' : decide (100000000 < (rd_T43 l1 k).f2) = false := by simp; omega
                by_cases e4 : (rd_T43 l1 k).f4 = item
                · have b4 : ((rd_T43 l1 k).f4 == item) = true := by rw [e4]; simp
                  have e1 : ¬ (rd_T43 l1 k).f1 = region := by
                    intro e1
                    exact hy (by simp [isAir, e0, e1, e2, e2', e4, e5])
                  have b1 : ((rd_T43 l1 k).f1 == region) = false := by simpa using e1
                  clear e0 e5 e2 e2' e4 e1 hy
                  gi_wp2
                  refine ⟨fun _ _ => trivial, ?_⟩
                  gi_wp2
                  go_roundw
                  case rel => exact ⟨k + 1, rfl, ⟨by omega⟩, ⟨by omega⟩, ⟨by rw [hsn.out]; simp only [hy'.out, Bool.false_eq_true, if_false, List.append_nil]; exact hJa'.out _⟩, ⟨BEa'.out _⟩⟩
                  case measure => simp [intOf]; omega
                · have b4 : ((rd_T43 l1 k).f4 == item) = false := by simpa using e4
                  clear e0 e5 e2 e2' e4 hy
                  gi_wp2
                  refine ⟨fun _ _ => trivial, ?_⟩
                  gi_wp2
                  go_roundw
                  case rel => exact ⟨k + 1, rfl, ⟨by omega⟩, ⟨by omega⟩, ⟨by rw [hsn.out]; simp only [hy'.out, Bool.false_eq_true, if_false, List.append_nil]; exact hJa'.out _⟩, ⟨BEa'.out _⟩⟩
                  case measure => simp [intOf]; omega
              · have b2' : decide (100000000 < (rd_T43 l1 k).f2) = true := by simp; omega
                clear e0 e5 e2 e2' hy
                gi_wp2
                go_roundw
                case rel => exact ⟨k + 1, rfl, ⟨by omega⟩, ⟨by omega⟩, ⟨by rw [hsn.out]; simp only [hy'.out, Bool.false_eq_true, if_false, List.append_nil]; exact hJa'.out _⟩, ⟨BEa'.out _⟩⟩
                case measure => simp [intOf]; omega
            · have b2 : decide ((rd_T43 l1 k).f2 < 0) = true := by simp; omega
              clear e0 e5 e2 hy
              gi_wp2
              go_roundw
              case rel => exact ⟨k + 1, rfl, ⟨by omega⟩, ⟨by omega⟩, ⟨by rw [hsn.out]; simp only [hy'.out, Bool.false_eq_true, if_false, List.append_nil]; exact hJa'.out _⟩, ⟨BEa'.out _⟩⟩
              case measure => simp [intOf]; omega
          · have b5 : ((rd_T43 l1 k).f5 != 0) = true := by simpa using e5
            clear e0 e5 hy
            gi_wp2
            go_roundw
            case rel => exact ⟨k + 1, rfl, ⟨by omega⟩, ⟨by omega⟩, ⟨by rw [hsn.out]; simp only [hy'.out, Bool.false_eq_true, if_false, List.append_nil]; exact hJa'.out _⟩, ⟨BEa'.out _⟩⟩
            case measure => simp [intOf]; omega
        · have b0 : ((rd_T43 l1 k).f0 != a0_0) = true := by simpa using e0
          clear e0 hy
          gi_wp2
          go_roundw
          case rel => exact ⟨k + 1, rfl, ⟨by omega⟩, ⟨by omega⟩, ⟨by rw [hsn.out]; simp only [hy'.out, Bool.false_eq_true, if_false, List.append_nil]; exact hJa'.out _⟩, ⟨BEa'.out _⟩⟩
          case measure => simp [intOf]; omega
    · obtain rfl : k = l1.length := by omega
      gi_wp2
      go_end0
      have := HJ.out
      rw [show ((l1.length : Int)).toNat = l1.length from by omega, List.take_length] at this
      exact ⟨⟨_, rfl⟩, .inl this⟩

set_option maxHeartbeats 1000000 in
set_option maxRecDepth 100000 in
theorem airings.calls (a0_0 : Int) (a0_1 : Int) (a0_2 : Int) (a0_3 : Int) (A0_4 : Option Addr) (c0_4 : Nat) (l0_4 : List (S96)) (a0_5 : Int) (a0_6 : Int) (a0_7 : Int) (a0_8 : Int) (A0_9 : Option Addr) (c0_9 : Nat) (l0_9 : List (S45)) (A0_10 : Option Addr) (c0_10 : Nat) (l0_10 : List (S78)) (A0_11 : Option Addr) (c0_11 : Nat) (l0_11 : List (S59)) (A0_12 : Option Addr) (c0_12 : Nat) (l0_12 : List (S82)) (A1 : Option Addr) (c1 : Nat) (l1 : List S43) (item region : Int) (w : World) :
    Calls Try.prog 32 #[.agg #[.int .i64 a0_0, .int .i64 a0_1, .int .i64 a0_2, .int .i64 a0_3, .slice A0_4 l0_4.length c0_4, .int .i64 a0_5, .int .i64 a0_6, .int .i64 a0_7, .int .i64 a0_8, .slice A0_9 l0_9.length c0_9, .slice A0_10 l0_10.length c0_10, .slice A0_11 l0_11.length c0_11, .slice A0_12 l0_12.length c0_12], .slice A1 l1.length c1, .agg #[.int .i64 item, .int .i64 region]] w fun e w' =>
      ∃ Bl Bp Ba : Nat, e = .returned (.func (.func 45) #[] #[.pointer (some ⟨Bl, 0, none⟩), .pointer (some ⟨Bp, 0, none⟩), .pointer (some ⟨Ba, 0, none⟩)]) ∧
      Aside0 (w'.heap[Bl]? = some (.cells #[.slice A1 l1.length c1] 33 (0, 0))) ∧ Aside0 (w'.heap[Bp]? = some (.cells #[.int .i64 a0_0, .int .i64 a0_1, .int .i64 a0_2, .int .i64 a0_3, .slice A0_4 l0_4.length c0_4, .int .i64 a0_5, .int .i64 a0_6, .int .i64 a0_7, .int .i64 a0_8, .slice A0_9 l0_9.length c0_9, .slice A0_10 l0_10.length c0_10, .slice A0_11 l0_11.length c0_11, .slice A0_12 l0_12.length c0_12] 32 (0, 0))) ∧ Aside0 (w'.heap[Ba]? = some (.cells #[.int .i64 item, .int .i64 region] 61 (0, 0))) ∧
      Aside0 (w.heap.size ≤ Bl ∧ w.heap.size ≤ Bp ∧ w.heap.size ≤ Ba) ∧ Aside0 (Below w.heap.size w w') := by
  have hu2 := Try.underlying32
  have hu3 := Try.underlying61
  go_enter Try.func32, Try.ntmps32
  go_wp2
  go_ret
  exact ⟨_, _, _, rfl, ⟨blk_alloc (new2 w _ _) _⟩, ⟨blk_alloc (blk_alloc (new1 w _) _) _⟩, ⟨new3 w _ _ _⟩, ⟨by omega, by omega, by omega⟩, ⟨(((Below.refl _ w).alloc (Nat.le_refl _) _).alloc (by simp) _).alloc (by simp; omega) _⟩⟩
end Go.Proofs.Ytpdbhaoppdgmeaa.Pr
