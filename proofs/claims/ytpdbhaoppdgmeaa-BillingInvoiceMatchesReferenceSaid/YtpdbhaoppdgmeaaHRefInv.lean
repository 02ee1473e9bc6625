/- Law 26's reference: Invoice, walked by hand: it leaves refOf. -/
import Derived.Test.YtpdbhaoppdgmeaaHRefT
import Derived.Test.YtpdbhaoppdgmeaaHServe
import Derived.Outline
namespace Go.Proofs.Ytpdbhaoppdgmeaa.Pr
open Go.RowKit Go.Shelf Go.Proofs.Ytpdbhaoppdgmeaa.Sup Go.Proofs.YtpdbhaoppdgmeaaW.PrintWords Go.Proofs.YtpdbhaoppdgmeaaW.PrintLast Go.Proofs.YtpdbhaoppdgmeaaW.PrintMore
attribute [local go_sem] max2_int min2_int max_two min_two
set_option linter.unusedVariables false
set_option linter.unusedSimpArgs false

/-- Memory between two rounds: the plan's box, the lines. -/
structure RefAt (w W : World) (plan : Array Value) (v : Value) (ls : List S49) : Prop where
  plan_ : W.heap[w.heap.size]? = some (.cells plan 32 (0, 0))
  row : Kd.R k49 49 W w.heap.size (fun _ => True) v ls
  below : Below w.heap.size w W
theorem below_tr3 {a b c : World} (h : Below a.heap.size a b) (k : Below b.heap.size b c) : Below a.heap.size a c := h.trans (k.mono h.size)
theorem RefAt.step {w W W' : World} {plan : Array Value} {v : Value} {ls : List S49} (h : RefAt w W plan v ls) (k : Below W.heap.size W W') : RefAt w W' plan v ls :=
  ⟨blk_below h.plan_ k, Kd.R_below h.row k, h.below.trans (k.mono h.below.size)⟩
theorem RefAt.pushed {w W W' : World} {plan : Array Value} {v v1 : Value} {ls xs : List S49} (h : RefAt w W plan v ls) (ho : Kd.R k49 49 W' w.heap.size (fun _ => True) v1 xs) (hb : Below w.heap.size w W') (hg : W.grownBy W' v.ownBlock) : RefAt w W' plan v1 xs :=
  ⟨blk_grown h.plan_ hg (Kd.R_ne h.row h.plan_ (by decide)), ho, hb⟩
theorem RefAt.form {w W : World} {plan : Array Value} {v : Value} {ls : List S49} (h : RefAt w W plan v ls) (hn : 0 < ls.length) : ∃ g c, v = .slice (some ⟨g, 0, none⟩) ls.length c := by
  obtain ⟨inner, ho⟩ := Kd.R_own h.row
  obtain ⟨A, c, rfl, hc, _⟩ := Kd.R_reads h.row
  rcases ho.2 with ⟨e, h0⟩ | ⟨g, c', cur, e, _⟩
  · omega
  · cases e; exact ⟨g, c, rfl⟩
theorem RefAt.put {w W : World} {plan : Array Value} {g n cap : Nat} {ls : List S49} (h : RefAt w W plan (.slice (some ⟨g, 0, none⟩) n cap) ls) (i : Int) (h0 : 0 ≤ i) (h1 : i < n) (x : S49) :
    RefAt w ((((W.setCell ⟨g, i.toNat * 4, none⟩ (.int .i64 x.f0)).setCell ⟨g, i.toNat * 4 + 1, none⟩ (.int .i64 x.f1)).setCell ⟨g, i.toNat * 4 + 2, none⟩ (.int .i64 x.f2)).setCell ⟨g, i.toNat * 4 + 3, none⟩ (.int .i64 x.f3)) plan (.slice (some ⟨g, 0, none⟩) n cap) (ls.set i.toNat x) := by
  obtain ⟨hr, hg⟩ := lines_put h.row i h0 h1 x
  obtain ⟨hbase, cells, hc⟩ := lines_typed h.row
  exact ⟨blk_grown h.plan_ hg (fun e => by cases e; have := h.plan_; rw [hc] at this; cases this), hr, h.below.grown hg h.below.size (fun j e => by cases e; exact hbase)⟩
theorem RefAt.put1 {w W : World} {plan : Array Value} {g n cap : Nat} {ls : List S49} (h : RefAt w W plan (.slice (some ⟨g, 0, none⟩) n cap) ls) (i : Int) (h0 : 0 ≤ i) (h1 : i < n) (u : Int) :
    RefAt w (W.setCell ⟨g, i.toNat * 4 + 1, none⟩ (.int .i64 u)) plan (.slice (some ⟨g, 0, none⟩) n cap) (ls.set i.toNat ⟨(rd_T49 ls i).f0, u, (rd_T49 ls i).f2, (rd_T49 ls i).f3⟩) := by
  obtain ⟨c, hl, hM, hcc, hf⟩ := Kd.R_elem h.row z49 i h0 h1
  obtain rfl := k49_openM hM
  obtain ⟨hr, hg⟩ := Kd.R_seg h.row i h0 h1 (seg := [.int .i64 u]) (j := 1) hl hcc (show 1 + 1 ≤ 4 from by decide) (x' := ⟨(rd_T49 ls i).f0, u, (rd_T49 ls i).f2, (rd_T49 ls i).f3⟩) (k49_mkM _ _ _ ⟨(rd_T49 ls i).f0, u, (rd_T49 ls i).f2, (rd_T49 ls i).f3⟩) (fun _ hk => hk.elim) (okp := fun _ => False)
  obtain ⟨hbase, cells, hc⟩ := lines_typed h.row
  exact ⟨blk_grown h.plan_ hg (fun e => by cases e; have := h.plan_; rw [hc] at this; cases this), hr, h.below.grown hg h.below.size (fun j e => by cases e; exact hbase)⟩
theorem refL_len (st : List S49 → Nat → S59 → List S49) (hst : ∀ ls i b, (st ls i b).length = ls.length) : ∀ bs i ls, (refL st bs i ls).length = ls.length
  | [], _, _ => rfl
  | b :: r, i, ls => by rw [refL, refL_len st hst r (i + 1), hst]
theorem step1_len (wf : Int × Int → List Int) (bs : List S59) (ls : List S49) (i : Nat) (b : S59) : (refStep1 wf bs ls i b).length = ls.length := by
  unfold refStep1; simp only; split <;> simp
theorem step2_len (wf : Int × Int → List Int) (items : List S45) (now : Int) (bs : List S59) (ls : List S49) (i : Nat) (b : S59) : (refStep2 wf items now bs ls i b).length = ls.length := by
  unfold refStep2; simp only; split
  · rfl
  · split
    · simp
    · split <;> simp
theorem over_eq (items : List S45) (b : S59) (now : Int) : onairref26_over.f now b.f5 (itemOf items b.f1).1.f2 = some (lateB items b now) := by
  unfold onairref26_over.f lateB
  split
  · rfl
  · split <;> rfl

set_option maxHeartbeats 8000000 in
set_option maxRecDepth 100000 in
theorem refInvoice.calls (a0_0 : Int) (a0_1 : Int) (a0_2 : Int) (a0_3 : Int) (A0_4 : Option Addr) (c0_4 : Nat) (l0_4 : List (S96)) (a0_5 : Int) (a0_6 : Int) (a0_7 : Int) (a0_8 : Int) (A0_9 : Option Addr) (c0_9 : Nat) (l0_9 : List (S45)) (A0_10 : Option Addr) (c0_10 : Nat) (l0_10 : List (S78)) (A0_11 : Option Addr) (c0_11 : Nat) (l0_11 : List (S59)) (A0_12 : Option Addr) (c0_12 : Nat) (l0_12 : List (S82)) (A1 : Option Addr) (c1 : Nat) (l1 : List (S43)) (a2 : Int) (w : World) (hr0_4 : Kd.C k96 w A0_4 l0_4.length l0_4) (hc0_4 : l0_4.length ≤ c0_4) (hr0_9 : Kd.C k45 w A0_9 l0_9.length l0_9) (hc0_9 : l0_9.length ≤ c0_9) (hr0_10 : Kd.C k78 w A0_10 l0_10.length l0_10) (hc0_10 : l0_10.length ≤ c0_10) (hr0_11 : Kd.C k59 w A0_11 l0_11.length l0_11) (hc0_11 : l0_11.length ≤ c0_11) (hr0_12 : Kd.C k82 w A0_12 l0_12.length l0_12) (hc0_12 : l0_12.length ≤ c0_12) (hr1 : Kd.C k43 w A1 l1.length l1) (hc1 : l1.length ≤ c1) (hl1 : l1.length ≤ 274877906944) (hli : l0_9.length ≤ 1099511627776) (hlb : l0_11.length ≤ 1099511627776) :
    Calls Try.prog 10 #[.agg #[.int .i64 a0_0, .int .i64 a0_1, .int .i64 a0_2, .int .i64 a0_3, .slice A0_4 l0_4.length c0_4, .int .i64 a0_5, .int .i64 a0_6, .int .i64 a0_7, .int .i64 a0_8, .slice A0_9 l0_9.length c0_9, .slice A0_10 l0_10.length c0_10, .slice A0_11 l0_11.length c0_11, .slice A0_12 l0_12.length c0_12], .slice A1 l1.length c1, .int .i64 a2] w fun e w' => ∃ v0_ : Value, e = .returned v0_ ∧ Kd.R k49 49 w' w.heap.size (fun _ => True) v0_ (refOf (fun key => wholeOf l0_9 a0_0 l1 key.1 key.2) l0_9 a2 l0_11) ∧ Below w.heap.size w w' := by
  have hu := Try.underlying59
  have huL := Try.underlying49
  have huQ := Try.underlying32
  have huI := Try.underlying45
  obtain ⟨wf, hwf⟩ : ∃ wf : Int × Int → List Int, wf = fun key => wholeOf l0_9 a0_0 l1 key.1 key.2 := ⟨_, rfl⟩
  have ht : ∀ (W : World) (hB : Below w.heap.size w W) (ls : List S49) (A : Option Addr) (n c : Nat) (hn : ls.length = n) (hls : Kd.C k49 W A ls.length ls) (hc : n ≤ c) (hlen : n ≤ l0_11.length) (b : S59) (lo hi : Int),
      Calls Try.prog 23 #[.agg #[.int .i64 a0_0, .int .i64 a0_1, .int .i64 a0_2, .int .i64 a0_3, .slice A0_4 l0_4.length c0_4, .int .i64 a0_5, .int .i64 a0_6, .int .i64 a0_7, .int .i64 a0_8, .slice A0_9 l0_9.length c0_9, .slice A0_10 l0_10.length c0_10, .slice A0_11 l0_11.length c0_11, .slice A0_12 l0_12.length c0_12], .slice A1 l1.length c1, .slice A n c, .agg #[.int .i64 b.f0, .int .i64 b.f1, .int .i64 b.f2, .int .i64 b.f3, .int .i64 b.f4, .int .i64 b.f5, .int .i64 b.f6], .int .i64 lo, .int .i64 hi] W
        fun e w' => e = .returned (.int .i64 (takeR (wf (b.f1, b.f2)) (b.f1, b.f2) ls l0_11 lo hi)) ∧ Below W.heap.size W w' := fun W hB ls A n c hn hls hc hlen b lo hi => by
    subst hn
    rw [hwf]
    exact onairref26_take.calls (l0_9.length + 4 * l1.length + l0_11.length + 5) a0_0 a0_1 a0_2 a0_3 A0_4 c0_4 l0_4 a0_5 a0_6 a0_7 a0_8 A0_9 c0_9 l0_9 A0_10 c0_10 l0_10 A0_11 c0_11 l0_11 A0_12 c0_12 l0_12 A1 c1 l1 A c ls b.f0 b.f1 b.f2 b.f3 b.f4 b.f5 b.f6 lo hi _ W (Kd.C_below hr0_4 hB) hc0_4 (Kd.C_below hr0_9 hB) hc0_9 (Kd.C_below hr0_10 hB) hc0_10 (Kd.C_below hr0_11 hB) hc0_11 (Kd.C_below hr0_12 hB) hc0_12 (Kd.C_below hr1 hB) hc1 hls hc (ref_take a0_0 a0_1 a0_2 a0_3 l0_4 a0_5 a0_6 a0_7 a0_8 l0_9 l0_10 l0_11 l0_12 l1 ls b.f0 b.f1 b.f2 b.f3 b.f4 b.f5 b.f6 lo hi hli hl1 hlen hlb _ (Nat.le_refl _))
  have hi := fun (W : World) (hB : Below w.heap.size w W) (id : Int) => onairref08_Item.calls (l0_9.length + 1) a0_0 a0_1 a0_2 a0_3 A0_4 c0_4 l0_4 a0_5 a0_6 a0_7 a0_8 A0_9 c0_9 l0_9 A0_10 c0_10 l0_10 A0_11 c0_11 l0_11 A0_12 c0_12 l0_12 id _ _ _ _ _ _ W (Kd.C_below hr0_4 hB) hc0_4 (Kd.C_below hr0_9 hB) hc0_9 (Kd.C_below hr0_10 hB) hc0_10 (Kd.C_below hr0_11 hB) hc0_11 (Kd.C_below hr0_12 hB) hc0_12 (ref_Item a0_0 a0_1 a0_2 a0_3 l0_4 a0_5 a0_6 a0_7 a0_8 l0_9 l0_10 l0_11 l0_12 id hli _ (Nat.le_refl _))
  have HT := Aside0.mk ht
  have HI := Aside0.mk hi
  have HBK := Aside0.mk hr0_11
  clear ht hi hr1 hc1 hr0_4 hc0_4 hr0_9 hc0_9 hr0_10 hc0_10 hr0_11 hc0_11 hr0_12 hc0_12
  have hm : l0_11.length ≤ 9223372036854775807 := Kd.C_max HBK.out
  rw [← hwf]
  clear hwf
  have HPL := Aside0.mk (new1 w (.cells #[.int .i64 a0_0, .int .i64 a0_1, .int .i64 a0_2, .int .i64 a0_3, .slice A0_4 l0_4.length c0_4, .int .i64 a0_5, .int .i64 a0_6, .int .i64 a0_7, .int .i64 a0_8, .slice A0_9 l0_9.length c0_9, .slice A0_10 l0_10.length c0_10, .slice A0_11 l0_11.length c0_11, .slice A0_12 l0_12.length c0_12] 32))
  go_enter Try.func10, Try.ntmps10
  go_wp2_with fail
  go_loopw [7, 8] (fun v7 v8 wr => ∃ k : Int, v8 = .int .i64 k ∧ Aside0 (0 ≤ k) ∧ Aside0 (k ≤ l0_11.length) ∧ Aside0 (RefAt w wr #[.int .i64 a0_0, .int .i64 a0_1, .int .i64 a0_2, .int .i64 a0_3, .slice A0_4 l0_4.length c0_4, .int .i64 a0_5, .int .i64 a0_6, .int .i64 a0_7, .int .i64 a0_8, .slice A0_9 l0_9.length c0_9, .slice A0_10 l0_10.length c0_10, .slice A0_11 l0_11.length c0_11, .slice A0_12 l0_12.length c0_12] v7 ((l0_11.take k.toNat).map refLine))) (fun _ v8 _ => l0_11.length - (intOf v8).toNat)
  case atStart => exact ⟨0, rfl, ⟨Int.le_refl _⟩, ⟨by omega⟩, ⟨⟨HPL.out, Kd.R_nil _ _ _ _ _, below_alloc (Below.refl _ _) _⟩⟩⟩
  case round =>
    obtain ⟨k, rfl, K0, K1, HR⟩ := hrel
    have hk0 := K0.out
    have hk1 := K1.out
    by_cases hlt : k < (l0_11.length : Int)
    · skip
      obtain ⟨ad, e_, hx0, hx1, hx2, hx3, hx4, hx5, hx6⟩ := at_T59 HBK.out k hk0 hlt
      cases e_
      replace hx0 := ((HR.out.below).cell (World.block_lt_of_cell? _ _ hx0)).trans hx0
      replace hx1 := ((HR.out.below).cell (World.block_lt_of_cell? _ _ hx1)).trans hx1
      replace hx2 := ((HR.out.below).cell (World.block_lt_of_cell? _ _ hx2)).trans hx2
      replace hx3 := ((HR.out.below).cell (World.block_lt_of_cell? _ _ hx3)).trans hx3
      replace hx4 := ((HR.out.below).cell (World.block_lt_of_cell? _ _ hx4)).trans hx4
      replace hx5 := ((HR.out.below).cell (World.block_lt_of_cell? _ _ hx5)).trans hx5
      replace hx6 := ((HR.out.below).cell (World.block_lt_of_cell? _ _ hx6)).trans hx6
      have hp0 : (wr).cell? ⟨w.heap.size, 0, none⟩ = some (.int .i64 a0_0) := (blk_cell HR.out.plan_ 0).trans rfl
      have hpf0 := blk_frozen HR.out.plan_ 0
      have hp1 : (wr).cell? ⟨w.heap.size, 1, none⟩ = some (.int .i64 a0_1) := (blk_cell HR.out.plan_ 1).trans rfl
      have hpf1 := blk_frozen HR.out.plan_ 1
      have hp2 : (wr).cell? ⟨w.heap.size, 2, none⟩ = some (.int .i64 a0_2) := (blk_cell HR.out.plan_ 2).trans rfl
      have hpf2 := blk_frozen HR.out.plan_ 2
      have hp3 : (wr).cell? ⟨w.heap.size, 3, none⟩ = some (.int .i64 a0_3) := (blk_cell HR.out.plan_ 3).trans rfl
      have hpf3 := blk_frozen HR.out.plan_ 3
      have hp4 : (wr).cell? ⟨w.heap.size, 4, none⟩ = some (.slice A0_4 l0_4.length c0_4) := (blk_cell HR.out.plan_ 4).trans rfl
      have hpf4 := blk_frozen HR.out.plan_ 4
      have hp5 : (wr).cell? ⟨w.heap.size, 5, none⟩ = some (.int .i64 a0_5) := (blk_cell HR.out.plan_ 5).trans rfl
      have hpf5 := blk_frozen HR.out.plan_ 5
      have hp6 : (wr).cell? ⟨w.heap.size, 6, none⟩ = some (.int .i64 a0_6) := (blk_cell HR.out.plan_ 6).trans rfl
      have hpf6 := blk_frozen HR.out.plan_ 6
      have hp7 : (wr).cell? ⟨w.heap.size, 7, none⟩ = some (.int .i64 a0_7) := (blk_cell HR.out.plan_ 7).trans rfl
      have hpf7 := blk_frozen HR.out.plan_ 7
      have hp8 : (wr).cell? ⟨w.heap.size, 8, none⟩ = some (.int .i64 a0_8) := (blk_cell HR.out.plan_ 8).trans rfl
      have hpf8 := blk_frozen HR.out.plan_ 8
      have hp9 : (wr).cell? ⟨w.heap.size, 9, none⟩ = some (.slice A0_9 l0_9.length c0_9) := (blk_cell HR.out.plan_ 9).trans rfl
      have hpf9 := blk_frozen HR.out.plan_ 9
      have hp10 : (wr).cell? ⟨w.heap.size, 10, none⟩ = some (.slice A0_10 l0_10.length c0_10) := (blk_cell HR.out.plan_ 10).trans rfl
      have hpf10 := blk_frozen HR.out.plan_ 10
      have hp11 : (wr).cell? ⟨w.heap.size, 11, none⟩ = some (.slice (some ad) l0_11.length c0_11) := (blk_cell HR.out.plan_ 11).trans rfl
      have hpf11 := blk_frozen HR.out.plan_ 11
      have hp12 : (wr).cell? ⟨w.heap.size, 12, none⟩ = some (.slice A0_12 l0_12.length c0_12) := (blk_cell HR.out.plan_ 12).trans rfl
      have hpf12 := blk_frozen HR.out.plan_ 12
      have p := eq_true hk0
      have q_ := eq_true hlt
      have c_ := decide_eq_true hlt
      have hln : ((l0_11.take k.toNat).map refLine).length ≤ 1099511627776 := by simp; omega
      obtain ⟨lsx, hlsx⟩ : ∃ l, l = (l0_11.take k.toNat).map refLine := ⟨_, rfl⟩
      rw [← hlsx] at hln HR
      have HRW := Aside0.mk HR.out.row
      have HBW := Aside0.mk HR.out.below
      have HLX := Aside0.mk hlsx
      clear hlsx
      go_wp2_with (first | ((with_reducible refine gate_builtin (b := .append) (xs := #[.tmp 25, .tmp 33]) rfl ?_); at_builtin; refine Kd.R_append k49 (w0 := w) w.heap.size rfl (.tmp 25) (.tmp 33) 38 49 (.agg #[(.int .i64 0), (.int .i64 0), (.int .i64 0), (.int .i64 0)]) 32 rfl Try.underlying38 info49 rfl (by decide) (by omega) u7 lsx (⟨(rd_T59 l0_11 k).f0, 1, -1, 0⟩ : S49) [.int .i64 (rd_T59 l0_11 k).f0, .int .i64 1, .int .i64 (-1), .int .i64 0] (fun _ => True) (fun _ => False) rfl rfl (k49_mkM _ _ _ _) (fun _ hk => hk.elim) (fun _ _ => trivial) HRW.out HBW.out HBW.out.size (by omega) ?_; intro v1 w9 ho hb hg hat; have HR2 := Aside0.mk (HR.out.pushed ho hb hg); clear ho hb hg hat))
      go_roundw
      case measure =>
        show l0_11.length - (k + 1).toNat < l0_11.length - k.toNat
        omega
      case rel =>
        refine ⟨k + 1, rfl, ⟨by omega⟩, ⟨by omega⟩, ⟨?_⟩⟩
        have hi : k.toNat < l0_11.length := by omega
        rw [show (k + 1).toNat = k.toNat + 1 by omega, List.take_succ_eq_append_getElem hi, List.map_append, ← HLX.out]
        have e : refLine l0_11[k.toNat] = ⟨(rd_T59 l0_11 k).f0, 1, -1, 0⟩ := by
          have := rd_bk l0_11 k.toNat hi
          rw [Int.toNat_of_nonneg hk0] at this
          rw [this]; rfl
        rw [List.map_cons, List.map_nil, e]
        exact HR2.out
    · have c_ := decide_eq_false hlt
      have hkl : k.toNat = l0_11.length := by omega
      have HR0 : Aside0 (RefAt w wr #[.int .i64 a0_0, .int .i64 a0_1, .int .i64 a0_2, .int .i64 a0_3, .slice A0_4 l0_4.length c0_4, .int .i64 a0_5, .int .i64 a0_6, .int .i64 a0_7, .int .i64 a0_8, .slice A0_9 l0_9.length c0_9, .slice A0_10 l0_10.length c0_10, .slice A0_11 l0_11.length c0_11, .slice A0_12 l0_12.length c0_12] u7 (l0_11.map refLine)) := ⟨by have := HR.out; rwa [hkl, List.take_length] at this⟩
      clear HR K0 K1
      have hp0 : (wr).cell? ⟨w.heap.size, 0, none⟩ = some (.int .i64 a0_0) := (blk_cell HR0.out.plan_ 0).trans rfl
      have hpf0 := blk_frozen HR0.out.plan_ 0
      have hp1 : (wr).cell? ⟨w.heap.size, 1, none⟩ = some (.int .i64 a0_1) := (blk_cell HR0.out.plan_ 1).trans rfl
      have hpf1 := blk_frozen HR0.out.plan_ 1
      have hp2 : (wr).cell? ⟨w.heap.size, 2, none⟩ = some (.int .i64 a0_2) := (blk_cell HR0.out.plan_ 2).trans rfl
      have hpf2 := blk_frozen HR0.out.plan_ 2
      have hp3 : (wr).cell? ⟨w.heap.size, 3, none⟩ = some (.int .i64 a0_3) := (blk_cell HR0.out.plan_ 3).trans rfl
      have hpf3 := blk_frozen HR0.out.plan_ 3
      have hp4 : (wr).cell? ⟨w.heap.size, 4, none⟩ = some (.slice A0_4 l0_4.length c0_4) := (blk_cell HR0.out.plan_ 4).trans rfl
      have hpf4 := blk_frozen HR0.out.plan_ 4
      have hp5 : (wr).cell? ⟨w.heap.size, 5, none⟩ = some (.int .i64 a0_5) := (blk_cell HR0.out.plan_ 5).trans rfl
      have hpf5 := blk_frozen HR0.out.plan_ 5
      have hp6 : (wr).cell? ⟨w.heap.size, 6, none⟩ = some (.int .i64 a0_6) := (blk_cell HR0.out.plan_ 6).trans rfl
      have hpf6 := blk_frozen HR0.out.plan_ 6
      have hp7 : (wr).cell? ⟨w.heap.size, 7, none⟩ = some (.int .i64 a0_7) := (blk_cell HR0.out.plan_ 7).trans rfl
      have hpf7 := blk_frozen HR0.out.plan_ 7
      have hp8 : (wr).cell? ⟨w.heap.size, 8, none⟩ = some (.int .i64 a0_8) := (blk_cell HR0.out.plan_ 8).trans rfl
      have hpf8 := blk_frozen HR0.out.plan_ 8
      have hp9 : (wr).cell? ⟨w.heap.size, 9, none⟩ = some (.slice A0_9 l0_9.length c0_9) := (blk_cell HR0.out.plan_ 9).trans rfl
      have hpf9 := blk_frozen HR0.out.plan_ 9
      have hp10 : (wr).cell? ⟨w.heap.size, 10, none⟩ = some (.slice A0_10 l0_10.length c0_10) := (blk_cell HR0.out.plan_ 10).trans rfl
      have hpf10 := blk_frozen HR0.out.plan_ 10
      have hp11 : (wr).cell? ⟨w.heap.size, 11, none⟩ = some (.slice A0_11 l0_11.length c0_11) := (blk_cell HR0.out.plan_ 11).trans rfl
      have hpf11 := blk_frozen HR0.out.plan_ 11
      have hp12 : (wr).cell? ⟨w.heap.size, 12, none⟩ = some (.slice A0_12 l0_12.length c0_12) := (blk_cell HR0.out.plan_ 12).trans rfl
      have hpf12 := blk_frozen HR0.out.plan_ 12
      obtain ⟨A7, c7, hv7⟩ := Kd.R_slice HR0.out.row
      rw [List.length_map] at hv7
      subst hv7
      go_wp2_with fail
      clear hp0 hpf0 hp1 hpf1 hp2 hpf2 hp3 hpf3 hp4 hpf4 hp5 hpf5 hp6 hpf6 hp7 hpf7 hp8 hpf8 hp9 hpf9 hp10 hpf10 hp11 hpf11 hp12 hpf12 c_
      go_loopw [9] (fun v9 wr => ∃ (i : Int) (ls : List S49), v9 = .int .i64 i ∧ Aside0 (0 ≤ i) ∧ Aside0 (i ≤ l0_11.length) ∧ Aside0 (RefAt w wr #[.int .i64 a0_0, .int .i64 a0_1, .int .i64 a0_2, .int .i64 a0_3, .slice A0_4 l0_4.length c0_4, .int .i64 a0_5, .int .i64 a0_6, .int .i64 a0_7, .int .i64 a0_8, .slice A0_9 l0_9.length c0_9, .slice A0_10 l0_10.length c0_10, .slice A0_11 l0_11.length c0_11, .slice A0_12 l0_12.length c0_12] (.slice A7 l0_11.length c7) ls) ∧ Aside0 (ls.length = l0_11.length) ∧
        Aside0 (refL (refStep1 wf l0_11) (l0_11.drop i.toNat) i.toNat ls = refL (refStep1 wf l0_11) l0_11 0 (l0_11.map refLine))) (fun v9 _ => l0_11.length - (intOf v9).toNat)
      case atStart => exact ⟨0, _, rfl, ⟨Int.le_refl _⟩, ⟨by omega⟩, HR0, ⟨by simp⟩, ⟨rfl⟩⟩
      case round =>
        clear HR0
        obtain ⟨i, ls, rfl, I0, I1, HR, HLN, HFF⟩ := hrel
        have hi0 := I0.out
        have hi1 := I1.out
        by_cases hlt2 : i < (l0_11.length : Int)
        · have hdrop : l0_11.drop i.toNat = rd_T59 l0_11 i :: l0_11.drop (i + 1).toNat := by
            rw [List.drop_eq_getElem_cons (show i.toNat < l0_11.length by omega), show (i + 1).toNat = i.toNat + 1 by omega]
            simp [rd_T59, List.getD_eq_getElem?_getD, show i.toNat < l0_11.length by omega]
          have hF := HFF.out
          rw [hdrop] at hF
          simp only [refL] at hF
          rw [show i.toNat + 1 = (i + 1).toNat by omega] at hF
          have HF := Aside0.mk hF
          clear hF HFF hdrop
          have hln : ls.length = l0_11.length := HLN.out
          obtain ⟨g, cc, hv⟩ := HR.out.form (by omega)
          injection hv with e1 e2 e3
          subst e1
          subst e3
          have hcc : l0_11.length ≤ c7 := (Kd.R_reads' HR.out.row).2.1
          have hCL := fun (W : World) (hB : Below wr.heap.size wr W) => (Kd.R_reads' (Kd.R_below HR.out.row hB)).2.2
          have HCL := Aside0.mk hCL
          clear hCL e2
          obtain ⟨ad, e_, hx0, hx1, hx2, hx3, hx4, hx5, hx6⟩ := at_T59 HBK.out i hi0 hlt2
          cases e_
          replace hx0 := ((HR.out.below).cell (World.block_lt_of_cell? _ _ hx0)).trans hx0
          replace hx1 := ((HR.out.below).cell (World.block_lt_of_cell? _ _ hx1)).trans hx1
          replace hx2 := ((HR.out.below).cell (World.block_lt_of_cell? _ _ hx2)).trans hx2
          replace hx3 := ((HR.out.below).cell (World.block_lt_of_cell? _ _ hx3)).trans hx3
          replace hx4 := ((HR.out.below).cell (World.block_lt_of_cell? _ _ hx4)).trans hx4
          replace hx5 := ((HR.out.below).cell (World.block_lt_of_cell? _ _ hx5)).trans hx5
          replace hx6 := ((HR.out.below).cell (World.block_lt_of_cell? _ _ hx6)).trans hx6
          have hp0 : (wr).cell? ⟨w.heap.size, 0, none⟩ = some (.int .i64 a0_0) := (blk_cell HR.out.plan_ 0).trans rfl
          have hpf0 := blk_frozen HR.out.plan_ 0
          have hp1 : (wr).cell? ⟨w.heap.size, 1, none⟩ = some (.int .i64 a0_1) := (blk_cell HR.out.plan_ 1).trans rfl
          have hpf1 := blk_frozen HR.out.plan_ 1
          have hp2 : (wr).cell? ⟨w.heap.size, 2, none⟩ = some (.int .i64 a0_2) := (blk_cell HR.out.plan_ 2).trans rfl
          have hpf2 := blk_frozen HR.out.plan_ 2
          have hp3 : (wr).cell? ⟨w.heap.size, 3, none⟩ = some (.int .i64 a0_3) := (blk_cell HR.out.plan_ 3).trans rfl
          have hpf3 := blk_frozen HR.out.plan_ 3
          have hp4 : (wr).cell? ⟨w.heap.size, 4, none⟩ = some (.slice A0_4 l0_4.length c0_4) := (blk_cell HR.out.plan_ 4).trans rfl
          have hpf4 := blk_frozen HR.out.plan_ 4
          have hp5 : (wr).cell? ⟨w.heap.size, 5, none⟩ = some (.int .i64 a0_5) := (blk_cell HR.out.plan_ 5).trans rfl
          have hpf5 := blk_frozen HR.out.plan_ 5
          have hp6 : (wr).cell? ⟨w.heap.size, 6, none⟩ = some (.int .i64 a0_6) := (blk_cell HR.out.plan_ 6).trans rfl
          have hpf6 := blk_frozen HR.out.plan_ 6
          have hp7 : (wr).cell? ⟨w.heap.size, 7, none⟩ = some (.int .i64 a0_7) := (blk_cell HR.out.plan_ 7).trans rfl
          have hpf7 := blk_frozen HR.out.plan_ 7
          have hp8 : (wr).cell? ⟨w.heap.size, 8, none⟩ = some (.int .i64 a0_8) := (blk_cell HR.out.plan_ 8).trans rfl
          have hpf8 := blk_frozen HR.out.plan_ 8
          have hp9 : (wr).cell? ⟨w.heap.size, 9, none⟩ = some (.slice A0_9 l0_9.length c0_9) := (blk_cell HR.out.plan_ 9).trans rfl
          have hpf9 := blk_frozen HR.out.plan_ 9
          have hp10 : (wr).cell? ⟨w.heap.size, 10, none⟩ = some (.slice A0_10 l0_10.length c0_10) := (blk_cell HR.out.plan_ 10).trans rfl
          have hpf10 := blk_frozen HR.out.plan_ 10
          have hp11 : (wr).cell? ⟨w.heap.size, 11, none⟩ = some (.slice (some ad) l0_11.length c0_11) := (blk_cell HR.out.plan_ 11).trans rfl
          have hpf11 := blk_frozen HR.out.plan_ 11
          have hp12 : (wr).cell? ⟨w.heap.size, 12, none⟩ = some (.slice A0_12 l0_12.length c0_12) := (blk_cell HR.out.plan_ 12).trans rfl
          have hpf12 := blk_frozen HR.out.plan_ 12
          have gp := blk_lt HR.out.plan_
          have p := eq_true hi0
          have q_ := eq_true hlt2
          have c_ := decide_eq_true hlt2
          generalize hbk : rd_T59 l0_11 i = bk at *
          clear hbk
          go_wp2_with fail
          refine (HT.out _ (below_alloc HR.out.below _) ls _ _ _ hln (HCL.out _ (below_alloc (Below.refl _ _) _)) hcc (Nat.le_refl _) bk _ _).mono ?_
          rintro e W3 ⟨rfl, hb3⟩
          have HR3 := Aside0.mk (HR.out.step (below_then (below_alloc (Below.refl _ _) (.cells #[.int .i64 bk.f0, .int .i64 bk.f1, .int .i64 bk.f2, .int .i64 bk.f3, .int .i64 bk.f4, .int .i64 bk.f5, .int .i64 bk.f6] 59)) (by simp) hb3))
          have HBX := Aside0.mk (blk_below (new1 wr (.cells #[.int .i64 bk.f0, .int .i64 bk.f1, .int .i64 bk.f2, .int .i64 bk.f3, .int .i64 bk.f4, .int .i64 bk.f5, .int .i64 bk.f6] 59)) hb3)
          obtain ⟨Bx, hBx⟩ : ∃ B, B = wr.heap.size := ⟨_, rfl⟩
          rw [← hBx] at HBX ⊢
          obtain ⟨r, hr⟩ : ∃ r, r = takeR (wf (bk.f1, bk.f2)) (bk.f1, bk.f2) ls l0_11 bk.f3 bk.f4 := ⟨_, rfl⟩
          rw [← hr]
          have HRR := Aside0.mk hr
          clear hr hBx hb3 HR HCL hx0 hx1 hx2 hx3 hx4 hx5 hx6 hp0 hpf0 hp1 hpf1 hp2 hpf2 hp3 hpf3 hp4 hpf4 hp5 hpf5 hp6 hpf6 hp7 hpf7 hp8 hpf8 hp9 hpf9 hp10 hpf10 hp11 hpf11 hp12 hpf12 gp
          by_cases hge : 0 ≤ r
          · have c2 := decide_eq_true hge
            have HPUT := Aside0.mk (HR3.out.put i hi0 hlt2 ⟨bk.f0, 2, r, bk.f6⟩)
            have hbx0 : (W3).cell? ⟨Bx, 0, none⟩ = some (.int .i64 bk.f0) := (blk_cell HBX.out 0).trans rfl
            have hbxf0 := blk_frozen HBX.out 0
            have hbx1 : (W3).cell? ⟨Bx, 1, none⟩ = some (.int .i64 bk.f1) := (blk_cell HBX.out 1).trans rfl
            have hbxf1 := blk_frozen HBX.out 1
            have hbx2 : (W3).cell? ⟨Bx, 2, none⟩ = some (.int .i64 bk.f2) := (blk_cell HBX.out 2).trans rfl
            have hbxf2 := blk_frozen HBX.out 2
            have hbx3 : (W3).cell? ⟨Bx, 3, none⟩ = some (.int .i64 bk.f3) := (blk_cell HBX.out 3).trans rfl
            have hbxf3 := blk_frozen HBX.out 3
            have hbx4 : (W3).cell? ⟨Bx, 4, none⟩ = some (.int .i64 bk.f4) := (blk_cell HBX.out 4).trans rfl
            have hbxf4 := blk_frozen HBX.out 4
            have hbx5 : (W3).cell? ⟨Bx, 5, none⟩ = some (.int .i64 bk.f5) := (blk_cell HBX.out 5).trans rfl
            have hbxf5 := blk_frozen HBX.out 5
            have hbx6 : (W3).cell? ⟨Bx, 6, none⟩ = some (.int .i64 bk.f6) := (blk_cell HBX.out 6).trans rfl
            have hbxf6 := blk_frozen HBX.out 6
            obtain ⟨⟨l0_, l1_, l2_, l3_⟩, lf⟩ := lines_elem HR3.out.row i hi0 hlt2
            have lf0 := lf (i.toNat * 4)
            have lf1 := lf (i.toNat * 4 + 1)
            have lf2 := lf (i.toNat * 4 + 2)
            have lf3 := lf (i.toNat * 4 + 3)
            clear lf
            go_wp2_with fail
            go_roundw
            case measure =>
              show l0_11.length - (i + 1).toNat < l0_11.length - i.toNat
              omega
            case rel =>
              refine ⟨i + 1, _, rfl, ⟨by omega⟩, ⟨by omega⟩, HPUT, ⟨by rw [List.length_set]; exact hln⟩, ⟨?_⟩⟩
              rw [← HF.out]
              congr 1
              unfold refStep1
              simp only
              rw [← HRR.out, if_pos hge]
          · have c2 := decide_eq_false hge
            go_wp2_with fail
            go_roundw
            case measure =>
              show l0_11.length - (i + 1).toNat < l0_11.length - i.toNat
              omega
            case rel =>
              refine ⟨i + 1, ls, rfl, ⟨by omega⟩, ⟨by omega⟩, HR3, ⟨hln⟩, ⟨?_⟩⟩
              rw [← HF.out]
              congr 1
              unfold refStep1
              simp only
              rw [← HRR.out, if_neg (by omega)]
        · have c_ := decide_eq_false hlt2
          have hkl2 : i.toNat = l0_11.length := by omega
          have hFE := HFF.out
          rw [hkl2, List.drop_length] at hFE
          simp only [refL] at hFE
          have HFE := Aside0.mk hFE
          have HR1 := Aside0.mk HR.out
          have HLN1 := Aside0.mk HLN.out
          clear hFE HFF HR HLN
          go_wp2_with fail
          clear c_
          go_loopw [12] (fun v12 wr2 => ∃ (i : Int) (ls : List S49), v12 = .int .i64 i ∧ Aside0 (0 ≤ i) ∧ Aside0 (i ≤ l0_11.length) ∧ Aside0 (RefAt w wr2 #[.int .i64 a0_0, .int .i64 a0_1, .int .i64 a0_2, .int .i64 a0_3, .slice A0_4 l0_4.length c0_4, .int .i64 a0_5, .int .i64 a0_6, .int .i64 a0_7, .int .i64 a0_8, .slice A0_9 l0_9.length c0_9, .slice A0_10 l0_10.length c0_10, .slice A0_11 l0_11.length c0_11, .slice A0_12 l0_12.length c0_12] (.slice A7 l0_11.length c7) ls) ∧ Aside0 (ls.length = l0_11.length) ∧
            Aside0 (refL (refStep2 wf l0_9 a2 l0_11) (l0_11.drop i.toNat) i.toNat ls = refOf wf l0_9 a2 l0_11)) (fun v12 _ => l0_11.length - (intOf v12).toNat)
          case atStart => exact ⟨0, _, rfl, ⟨Int.le_refl _⟩, ⟨by omega⟩, HR1, HLN1, ⟨by unfold refOf; rw [← HFE.out]; rfl⟩⟩
          case round =>
            clear HR1 HLN1 HFE I0 I1 hi0 hi1 hlt2 hkl2 hlt hk0 hk1 hkl
            obtain ⟨i, ls, rfl, I0, I1, HR, HLN, HFF⟩ := hrel
            have hi0 := I0.out
            have hi1 := I1.out
            by_cases hlt2 : i < (l0_11.length : Int)
            · have hdrop : l0_11.drop i.toNat = rd_T59 l0_11 i :: l0_11.drop (i + 1).toNat := by
                rw [List.drop_eq_getElem_cons (show i.toNat < l0_11.length by omega), show (i + 1).toNat = i.toNat + 1 by omega]
                simp [rd_T59, List.getD_eq_getElem?_getD, show i.toNat < l0_11.length by omega]
              have hF := HFF.out
              rw [hdrop] at hF
              simp only [refL] at hF
              rw [show i.toNat + 1 = (i + 1).toNat by omega] at hF
              have HF := Aside0.mk hF
              clear hF HFF hdrop
              have hln : ls.length = l0_11.length := HLN.out
              obtain ⟨g, cc, hv⟩ := HR.out.form (by omega)
              injection hv with e1 e2 e3
              subst e1
              subst e3
              have hcc : l0_11.length ≤ c7 := (Kd.R_reads' HR.out.row).2.1
              have hCL := fun (W : World) (hB : Below wr.heap.size wr W) => (Kd.R_reads' (Kd.R_below HR.out.row hB)).2.2
              have HCL := Aside0.mk hCL
              clear hCL e2
              obtain ⟨ad, e_, hx0, hx1, hx2, hx3, hx4, hx5, hx6⟩ := at_T59 HBK.out i hi0 hlt2
              cases e_
              replace hx0 := ((HR.out.below).cell (World.block_lt_of_cell? _ _ hx0)).trans hx0
              replace hx1 := ((HR.out.below).cell (World.block_lt_of_cell? _ _ hx1)).trans hx1
              replace hx2 := ((HR.out.below).cell (World.block_lt_of_cell? _ _ hx2)).trans hx2
              replace hx3 := ((HR.out.below).cell (World.block_lt_of_cell? _ _ hx3)).trans hx3
              replace hx4 := ((HR.out.below).cell (World.block_lt_of_cell? _ _ hx4)).trans hx4
              replace hx5 := ((HR.out.below).cell (World.block_lt_of_cell? _ _ hx5)).trans hx5
              replace hx6 := ((HR.out.below).cell (World.block_lt_of_cell? _ _ hx6)).trans hx6
              have hp0 : (wr).cell? ⟨w.heap.size, 0, none⟩ = some (.int .i64 a0_0) := (blk_cell HR.out.plan_ 0).trans rfl
              have hpf0 := blk_frozen HR.out.plan_ 0
              have hp1 : (wr).cell? ⟨w.heap.size, 1, none⟩ = some (.int .i64 a0_1) := (blk_cell HR.out.plan_ 1).trans rfl
              have hpf1 := blk_frozen HR.out.plan_ 1
              have hp2 : (wr).cell? ⟨w.heap.size, 2, none⟩ = some (.int .i64 a0_2) := (blk_cell HR.out.plan_ 2).trans rfl
              have hpf2 := blk_frozen HR.out.plan_ 2
              have hp3 : (wr).cell? ⟨w.heap.size, 3, none⟩ = some (.int .i64 a0_3) := (blk_cell HR.out.plan_ 3).trans rfl
              have hpf3 := blk_frozen HR.out.plan_ 3
              have hp4 : (wr).cell? ⟨w.heap.size, 4, none⟩ = some (.slice A0_4 l0_4.length c0_4) := (blk_cell HR.out.plan_ 4).trans rfl
              have hpf4 := blk_frozen HR.out.plan_ 4
              have hp5 : (wr).cell? ⟨w.heap.size, 5, none⟩ = some (.int .i64 a0_5) := (blk_cell HR.out.plan_ 5).trans rfl
              have hpf5 := blk_frozen HR.out.plan_ 5
              have hp6 : (wr).cell? ⟨w.heap.size, 6, none⟩ = some (.int .i64 a0_6) := (blk_cell HR.out.plan_ 6).trans rfl
              have hpf6 := blk_frozen HR.out.plan_ 6
              have hp7 : (wr).cell? ⟨w.heap.size, 7, none⟩ = some (.int .i64 a0_7) := (blk_cell HR.out.plan_ 7).trans rfl
              have hpf7 := blk_frozen HR.out.plan_ 7
              have hp8 : (wr).cell? ⟨w.heap.size, 8, none⟩ = some (.int .i64 a0_8) := (blk_cell HR.out.plan_ 8).trans rfl
              have hpf8 := blk_frozen HR.out.plan_ 8
              have hp9 : (wr).cell? ⟨w.heap.size, 9, none⟩ = some (.slice A0_9 l0_9.length c0_9) := (blk_cell HR.out.plan_ 9).trans rfl
              have hpf9 := blk_frozen HR.out.plan_ 9
              have hp10 : (wr).cell? ⟨w.heap.size, 10, none⟩ = some (.slice A0_10 l0_10.length c0_10) := (blk_cell HR.out.plan_ 10).trans rfl
              have hpf10 := blk_frozen HR.out.plan_ 10
              have hp11 : (wr).cell? ⟨w.heap.size, 11, none⟩ = some (.slice (some ad) l0_11.length c0_11) := (blk_cell HR.out.plan_ 11).trans rfl
              have hpf11 := blk_frozen HR.out.plan_ 11
              have hp12 : (wr).cell? ⟨w.heap.size, 12, none⟩ = some (.slice A0_12 l0_12.length c0_12) := (blk_cell HR.out.plan_ 12).trans rfl
              have hpf12 := blk_frozen HR.out.plan_ 12
              have gp := blk_lt HR.out.plan_
              have p := eq_true hi0
              have q_ := eq_true hlt2
              have c_ := decide_eq_true hlt2
              generalize hbk : rd_T59 l0_11 i = bk at *
              clear hbk
              obtain ⟨⟨l0_, l1_, l2_, l3_⟩, lf⟩ := lines_elem HR.out.row i hi0 hlt2
              have gl := (lines_typed HR.out.row).2
              obtain ⟨glc, glh⟩ := gl
              have gl := blk_lt glh
              clear lf glh
              by_cases hst : ((rd_T49 ls i).f1 == 2) = true
              · have HST := Aside0.mk hst
                go_wp2_with fail
                go_roundw
                case measure =>
                  show l0_11.length - (i + 1).toNat < l0_11.length - i.toNat
                  omega
                case rel =>
                  refine ⟨i + 1, ls, rfl, ⟨by omega⟩, ⟨by omega⟩, ⟨HR.out.step (below_alloc (Below.refl _ _) _)⟩, ⟨hln⟩, ⟨?_⟩⟩
                  rw [← HF.out]
                  congr 1
                  unfold refStep2
                  rw [Int.toNat_of_nonneg hi0, if_pos (by simpa using HST.out)]
              · have hst' : ((rd_T49 ls i).f1 == 2) = false := by simpa using hst
                have HST := Aside0.mk hst
                clear hst
                go_wp2_with fail
                refine (HT.out _ (below_alloc HR.out.below _) ls _ _ _ hln (HCL.out _ (below_alloc (Below.refl _ _) _)) hcc (Nat.le_refl _) bk _ _).mono ?_
                rintro e W3 ⟨rfl, hb3⟩
                have HR3 := Aside0.mk (HR.out.step (below_then (below_alloc (Below.refl _ _) (.cells #[.int .i64 bk.f0, .int .i64 bk.f1, .int .i64 bk.f2, .int .i64 bk.f3, .int .i64 bk.f4, .int .i64 bk.f5, .int .i64 bk.f6] 59)) (by simp) hb3))
                have HBX := Aside0.mk (blk_below (new1 wr (.cells #[.int .i64 bk.f0, .int .i64 bk.f1, .int .i64 bk.f2, .int .i64 bk.f3, .int .i64 bk.f4, .int .i64 bk.f5, .int .i64 bk.f6] 59)) hb3)
                obtain ⟨Bx, hBx⟩ : ∃ B, B = wr.heap.size := ⟨_, rfl⟩
                rw [← hBx] at HBX ⊢
                obtain ⟨r, hr⟩ : ∃ r, r = takeR (wf (bk.f1, bk.f2)) (bk.f1, bk.f2) ls l0_11 bk.f4 bk.f5 := ⟨_, rfl⟩
                rw [← hr]
                have HRR := Aside0.mk hr
                clear hr hBx hb3 HR HCL l0_ l1_ l2_ l3_ gl hst' hx0 hx1 hx2 hx3 hx4 hx5 hx6 hp0 hpf0 hp1 hpf1 hp2 hpf2 hp3 hpf3 hp4 hpf4 hp5 hpf5 hp6 hpf6 hp7 hpf7 hp8 hpf8 hp9 hpf9 hp10 hpf10 hp11 hpf11 hp12 hpf12 gp
                have hp0 : (W3).cell? ⟨w.heap.size, 0, none⟩ = some (.int .i64 a0_0) := (blk_cell HR3.out.plan_ 0).trans rfl
                have hpf0 := blk_frozen HR3.out.plan_ 0
                have hp1 : (W3).cell? ⟨w.heap.size, 1, none⟩ = some (.int .i64 a0_1) := (blk_cell HR3.out.plan_ 1).trans rfl
                have hpf1 := blk_frozen HR3.out.plan_ 1
                have hp2 : (W3).cell? ⟨w.heap.size, 2, none⟩ = some (.int .i64 a0_2) := (blk_cell HR3.out.plan_ 2).trans rfl
                have hpf2 := blk_frozen HR3.out.plan_ 2
                have hp3 : (W3).cell? ⟨w.heap.size, 3, none⟩ = some (.int .i64 a0_3) := (blk_cell HR3.out.plan_ 3).trans rfl
                have hpf3 := blk_frozen HR3.out.plan_ 3
                have hp4 : (W3).cell? ⟨w.heap.size, 4, none⟩ = some (.slice A0_4 l0_4.length c0_4) := (blk_cell HR3.out.plan_ 4).trans rfl
                have hpf4 := blk_frozen HR3.out.plan_ 4
                have hp5 : (W3).cell? ⟨w.heap.size, 5, none⟩ = some (.int .i64 a0_5) := (blk_cell HR3.out.plan_ 5).trans rfl
                have hpf5 := blk_frozen HR3.out.plan_ 5
                have hp6 : (W3).cell? ⟨w.heap.size, 6, none⟩ = some (.int .i64 a0_6) := (blk_cell HR3.out.plan_ 6).trans rfl
                have hpf6 := blk_frozen HR3.out.plan_ 6
                have hp7 : (W3).cell? ⟨w.heap.size, 7, none⟩ = some (.int .i64 a0_7) := (blk_cell HR3.out.plan_ 7).trans rfl
                have hpf7 := blk_frozen HR3.out.plan_ 7
                have hp8 : (W3).cell? ⟨w.heap.size, 8, none⟩ = some (.int .i64 a0_8) := (blk_cell HR3.out.plan_ 8).trans rfl
                have hpf8 := blk_frozen HR3.out.plan_ 8
                have hp9 : (W3).cell? ⟨w.heap.size, 9, none⟩ = some (.slice A0_9 l0_9.length c0_9) := (blk_cell HR3.out.plan_ 9).trans rfl
                have hpf9 := blk_frozen HR3.out.plan_ 9
                have hp10 : (W3).cell? ⟨w.heap.size, 10, none⟩ = some (.slice A0_10 l0_10.length c0_10) := (blk_cell HR3.out.plan_ 10).trans rfl
                have hpf10 := blk_frozen HR3.out.plan_ 10
                have hp11 : (W3).cell? ⟨w.heap.size, 11, none⟩ = some (.slice (some ad) l0_11.length c0_11) := (blk_cell HR3.out.plan_ 11).trans rfl
                have hpf11 := blk_frozen HR3.out.plan_ 11
                have hp12 : (W3).cell? ⟨w.heap.size, 12, none⟩ = some (.slice A0_12 l0_12.length c0_12) := (blk_cell HR3.out.plan_ 12).trans rfl
                have hpf12 := blk_frozen HR3.out.plan_ 12
                have hbx0 : (W3).cell? ⟨Bx, 0, none⟩ = some (.int .i64 bk.f0) := (blk_cell HBX.out 0).trans rfl
                have hbxf0 := blk_frozen HBX.out 0
                have hbx1 : (W3).cell? ⟨Bx, 1, none⟩ = some (.int .i64 bk.f1) := (blk_cell HBX.out 1).trans rfl
                have hbxf1 := blk_frozen HBX.out 1
                have hbx2 : (W3).cell? ⟨Bx, 2, none⟩ = some (.int .i64 bk.f2) := (blk_cell HBX.out 2).trans rfl
                have hbxf2 := blk_frozen HBX.out 2
                have hbx3 : (W3).cell? ⟨Bx, 3, none⟩ = some (.int .i64 bk.f3) := (blk_cell HBX.out 3).trans rfl
                have hbxf3 := blk_frozen HBX.out 3
                have hbx4 : (W3).cell? ⟨Bx, 4, none⟩ = some (.int .i64 bk.f4) := (blk_cell HBX.out 4).trans rfl
                have hbxf4 := blk_frozen HBX.out 4
                have hbx5 : (W3).cell? ⟨Bx, 5, none⟩ = some (.int .i64 bk.f5) := (blk_cell HBX.out 5).trans rfl
                have hbxf5 := blk_frozen HBX.out 5
                have hbx6 : (W3).cell? ⟨Bx, 6, none⟩ = some (.int .i64 bk.f6) := (blk_cell HBX.out 6).trans rfl
                have hbxf6 := blk_frozen HBX.out 6
                go_wp2_with fail
                refine (HI.out W3 HR3.out.below bk.f1).mono ?_
                rintro e W4 ⟨rfl, hb4⟩
                have HR4 := Aside0.mk (HR3.out.step hb4)
                have HBX4 := Aside0.mk (blk_below HBX.out hb4)
                clear hb4 HR3 HBX hp0 hpf0 hp1 hpf1 hp2 hpf2 hp3 hpf3 hp4 hpf4 hp5 hpf5 hp6 hpf6 hp7 hpf7 hp8 hpf8 hp9 hpf9 hp10 hpf10 hp11 hpf11 hp12 hpf12 hbx0 hbxf0 hbx1 hbxf1 hbx2 hbxf2 hbx3 hbxf3 hbx4 hbxf4 hbx5 hbxf5 hbx6 hbxf6
                have hbx0 : (W4).cell? ⟨Bx, 0, none⟩ = some (.int .i64 bk.f0) := (blk_cell HBX4.out 0).trans rfl
                have hbxf0 := blk_frozen HBX4.out 0
                have hbx1 : (W4).cell? ⟨Bx, 1, none⟩ = some (.int .i64 bk.f1) := (blk_cell HBX4.out 1).trans rfl
                have hbxf1 := blk_frozen HBX4.out 1
                have hbx2 : (W4).cell? ⟨Bx, 2, none⟩ = some (.int .i64 bk.f2) := (blk_cell HBX4.out 2).trans rfl
                have hbxf2 := blk_frozen HBX4.out 2
                have hbx3 : (W4).cell? ⟨Bx, 3, none⟩ = some (.int .i64 bk.f3) := (blk_cell HBX4.out 3).trans rfl
                have hbxf3 := blk_frozen HBX4.out 3
                have hbx4 : (W4).cell? ⟨Bx, 4, none⟩ = some (.int .i64 bk.f4) := (blk_cell HBX4.out 4).trans rfl
                have hbxf4 := blk_frozen HBX4.out 4
                have hbx5 : (W4).cell? ⟨Bx, 5, none⟩ = some (.int .i64 bk.f5) := (blk_cell HBX4.out 5).trans rfl
                have hbxf5 := blk_frozen HBX4.out 5
                have hbx6 : (W4).cell? ⟨Bx, 6, none⟩ = some (.int .i64 bk.f6) := (blk_cell HBX4.out 6).trans rfl
                have hbxf6 := blk_frozen HBX4.out 6
                have gbx := blk_lt HBX4.out
                obtain ⟨it, hit⟩ : ∃ x, x = (itemOf l0_9 bk.f1).1 := ⟨_, rfl⟩
                rw [← hit]
                have HIT := Aside0.mk hit
                clear hit
                go_wp2_with fail
                refine (onairref26_over.calls a2 bk.f5 it.f2 (lateB l0_9 bk a2) _ (by rw [HIT.out]; exact over_eq l0_9 bk a2)).mono ?_
                rintro e W5 ⟨rfl, hd⟩
                have hbd := below_tr3 (below_alloc (Below.refl _ W4) (.cells #[.int .i64 it.f0, .int .i64 it.f1, .int .i64 it.f2, .int .i64 it.f3, .int .i64 it.f4] 45)) hd.below
                have HR5 := Aside0.mk (HR4.out.step hbd)
                have HBX5 := Aside0.mk (blk_below HBX4.out hbd)
                have hnot : ¬ (rd_T49 ls i).f1 = 2 := by have := HST.out; simpa using this
                have HNOT := Aside0.mk hnot
                clear hd hbd HR4 HBX4 hnot gbx hbx0 hbxf0 hbx1 hbxf1 hbx2 hbxf2 hbx3 hbxf3 hbx4 hbxf4 hbx5 hbxf5 hbx6 hbxf6
                obtain ⟨lb, hlb2⟩ : ∃ b, b = lateB l0_9 bk a2 := ⟨_, rfl⟩
                rw [← hlb2]
                have HLB := Aside0.mk hlb2
                clear hlb2
                obtain ⟨⟨l0_, l1_, l2_, l3_⟩, lf⟩ := lines_elem HR5.out.row i hi0 hlt2
                have lf0 := lf (i.toNat * 4)
                have lf1 := lf (i.toNat * 4 + 1)
                have lf2 := lf (i.toNat * 4 + 2)
                have lf3 := lf (i.toNat * 4 + 3)
                clear lf
                by_cases hge : 0 ≤ r
                · have c2 := decide_eq_true hge
                  have HPUT := Aside0.mk (HR5.out.put i hi0 hlt2 ⟨bk.f0, 3, r, bk.f6⟩)
                  have hbx0 : (W5).cell? ⟨Bx, 0, none⟩ = some (.int .i64 bk.f0) := (blk_cell HBX5.out 0).trans rfl
                  have hbxf0 := blk_frozen HBX5.out 0
                  have hbx1 : (W5).cell? ⟨Bx, 1, none⟩ = some (.int .i64 bk.f1) := (blk_cell HBX5.out 1).trans rfl
                  have hbxf1 := blk_frozen HBX5.out 1
                  have hbx2 : (W5).cell? ⟨Bx, 2, none⟩ = some (.int .i64 bk.f2) := (blk_cell HBX5.out 2).trans rfl
                  have hbxf2 := blk_frozen HBX5.out 2
                  have hbx3 : (W5).cell? ⟨Bx, 3, none⟩ = some (.int .i64 bk.f3) := (blk_cell HBX5.out 3).trans rfl
                  have hbxf3 := blk_frozen HBX5.out 3
                  have hbx4 : (W5).cell? ⟨Bx, 4, none⟩ = some (.int .i64 bk.f4) := (blk_cell HBX5.out 4).trans rfl
                  have hbxf4 := blk_frozen HBX5.out 4
                  have hbx5 : (W5).cell? ⟨Bx, 5, none⟩ = some (.int .i64 bk.f5) := (blk_cell HBX5.out 5).trans rfl
                  have hbxf5 := blk_frozen HBX5.out 5
                  have hbx6 : (W5).cell? ⟨Bx, 6, none⟩ = some (.int .i64 bk.f6) := (blk_cell HBX5.out 6).trans rfl
                  have hbxf6 := blk_frozen HBX5.out 6
                  go_wp2_with fail
                  go_roundw
                  case measure =>
                    show l0_11.length - (i + 1).toNat < l0_11.length - i.toNat
                    omega
                  case rel =>
                    refine ⟨i + 1, _, rfl, ⟨by omega⟩, ⟨by omega⟩, HPUT, ⟨by rw [List.length_set]; exact hln⟩, ⟨?_⟩⟩
                    rw [← HF.out]
                    congr 1
                    unfold refStep2
                    rw [Int.toNat_of_nonneg hi0, if_neg HNOT.out]
                    simp only
                    rw [← HRR.out, if_pos hge]
                · have c2 := decide_eq_false hge
                  cases lb with
                  | true =>
                    have HPUT := Aside0.mk (HR5.out.put1 i hi0 hlt2 4)
                    go_wp2_with fail
                    go_roundw
                    case measure =>
                      show l0_11.length - (i + 1).toNat < l0_11.length - i.toNat
                      omega
                    case rel =>
                      refine ⟨i + 1, _, rfl, ⟨by omega⟩, ⟨by omega⟩, HPUT, ⟨by rw [List.length_set]; exact hln⟩, ⟨?_⟩⟩
                      rw [← HF.out]
                      congr 1
                      unfold refStep2
                      rw [Int.toNat_of_nonneg hi0, if_neg HNOT.out]
                      simp only
                      rw [← HRR.out, if_neg (by omega), if_pos HLB.out.symm]
                  | false =>
                    go_wp2_with fail
                    go_roundw
                    case measure =>
                      show l0_11.length - (i + 1).toNat < l0_11.length - i.toNat
                      omega
                    case rel =>
                      refine ⟨i + 1, ls, rfl, ⟨by omega⟩, ⟨by omega⟩, HR5, ⟨hln⟩, ⟨?_⟩⟩
                      rw [← HF.out]
                      congr 1
                      unfold refStep2
                      rw [Int.toNat_of_nonneg hi0, if_neg HNOT.out]
                      simp only
                      rw [← HRR.out, if_neg (by omega), if_neg (by rw [← HLB.out]; simp)]
            · have c_ := decide_eq_false hlt2
              have hkl2 : i.toNat = l0_11.length := by omega
              have hFE := HFF.out
              rw [hkl2, List.drop_length] at hFE
              simp only [refL] at hFE
              have HFE := Aside0.mk hFE
              clear hFE HFF
              go_wp2_with fail
              go_ret
              rw [← HFE.out]
              exact ⟨_, rfl, HR.out.row, HR.out.below⟩
end Go.Proofs.Ytpdbhaoppdgmeaa.Pr
