/- billing.Invoice's closure: each booking that is not billed takes the smallest unused airing of its window. -/
import Derived.Test.YtpdbhaoppdgmeaaHPools
namespace Go.Proofs.Ytpdbhaoppdgmeaa.Pr
open Go.RowKit Go.Proofs.Ytpdbhaoppdgmeaa.Sup Go.Proofs.YtpdbhaoppdgmeaaW.PrintWords Go.Proofs.YtpdbhaoppdgmeaaW.PrintLast Go.Proofs.YtpdbhaoppdgmeaaW.PrintMore
attribute [local go_sem] max2_int min2_int max_two min_two
set_option linter.unusedVariables false
set_option linter.unusedSimpArgs false

set_option maxHeartbeats 1000000 in
theorem window1.calls (b : S59) (w : World) : Calls Try.prog 21 #[.agg #[.int .i64 b.f0, .int .i64 b.f1, .int .i64 b.f2, .int .i64 b.f3, .int .i64 b.f4, .int .i64 b.f5, .int .i64 b.f6]] w fun e w' => e = .returned (.tuple #[.int .i64 b.f3, .int .i64 b.f4]) ∧ Below w.heap.size w w' := by
  have hu := Try.underlying59
  go_enter Try.func21, Try.ntmps21
  go_wp2
  go_quiet (fail)
  go_wp2
  go_ret2
  exact ⟨rfl, by repeat (first | exact (Below.refl _ w).alloc (Nat.le_refl _) _ | apply pw_below_drewN | apply below_drew)⟩
set_option maxHeartbeats 1000000 in
theorem window2.calls (b : S59) (w : World) : Calls Try.prog 22 #[.agg #[.int .i64 b.f0, .int .i64 b.f1, .int .i64 b.f2, .int .i64 b.f3, .int .i64 b.f4, .int .i64 b.f5, .int .i64 b.f6]] w fun e w' => e = .returned (.tuple #[.int .i64 b.f4, .int .i64 b.f5]) ∧ Below w.heap.size w w' := by
  have hu := Try.underlying59
  go_enter Try.func22, Try.ntmps22
  go_wp2
  go_quiet (fail)
  go_wp2
  go_ret2
  exact ⟨rfl, by repeat (first | exact (Below.refl _ w).alloc (Nat.le_refl _) _ | apply pw_below_drewN | apply below_drew)⟩

theorem lines_elem {W : World} {base g n cap : Nat} {ok : Nat → Prop} {xs : List S49} (h : Kd.R k49 49 W base ok (.slice (some ⟨g, 0, none⟩) n cap) xs) (i : Int) (h0 : 0 ≤ i) (h1 : i < n) :
    (W.cell? ⟨g, i.toNat * 4, none⟩ = some (.int .i64 (rd_T49 xs i).f0) ∧ W.cell? ⟨g, i.toNat * 4 + 1, none⟩ = some (.int .i64 (rd_T49 xs i).f1) ∧ W.cell? ⟨g, i.toNat * 4 + 2, none⟩ = some (.int .i64 (rd_T49 xs i).f2) ∧ W.cell? ⟨g, i.toNat * 4 + 3, none⟩ = some (.int .i64 (rd_T49 xs i).f3)) ∧
    ∀ j, W.frozen? ⟨g, j, none⟩ = false := by
  obtain ⟨c, hl, hM, hc, hf⟩ := Kd.R_elem h z49 i h0 h1
  obtain rfl := k49_openM hM
  have e : k49.sz = 4 := rfl
  rw [e] at hc
  refine ⟨⟨hc 0 _ rfl, hc 1 _ rfl, hc 2 _ rfl, hc 3 _ rfl⟩, fun j => ?_⟩
  obtain ⟨inner, ho⟩ := Kd.R_own h
  obtain ⟨cells, hb⟩ := own_typed ho g rfl
  exact blk_frozen hb j
theorem lines_put {W : World} {base g n cap : Nat} {ok : Nat → Prop} {xs : List S49} (h : Kd.R k49 49 W base ok (.slice (some ⟨g, 0, none⟩) n cap) xs) (i : Int) (h0 : 0 ≤ i) (h1 : i < n) (x : S49) :
    Kd.R k49 49 ((((W.setCell ⟨g, i.toNat * 4, none⟩ (.int .i64 x.f0)).setCell ⟨g, i.toNat * 4 + 1, none⟩ (.int .i64 x.f1)).setCell ⟨g, i.toNat * 4 + 2, none⟩ (.int .i64 x.f2)).setCell ⟨g, i.toNat * 4 + 3, none⟩ (.int .i64 x.f3)) base ok (.slice (some ⟨g, 0, none⟩) n cap) (xs.set i.toNat x) ∧
    W.grownBy ((((W.setCell ⟨g, i.toNat * 4, none⟩ (.int .i64 x.f0)).setCell ⟨g, i.toNat * 4 + 1, none⟩ (.int .i64 x.f1)).setCell ⟨g, i.toNat * 4 + 2, none⟩ (.int .i64 x.f2)).setCell ⟨g, i.toNat * 4 + 3, none⟩ (.int .i64 x.f3)) (some g) := by
  obtain ⟨c, hl, hM, hc, hf⟩ := Kd.R_elem h z49 i h0 h1
  obtain rfl := k49_openM hM
  exact Kd.R_seg h i h0 h1 (seg := [.int .i64 x.f0, .int .i64 x.f1, .int .i64 x.f2, .int .i64 x.f3]) (j := 0) hl hc (show 4 ≤ 4 from by decide) (x' := x) (k49_mkM _ _ _ x) (fun _ hk => hk.elim) (okp := fun _ => False)
theorem lines_typed {W : World} {base g n cap : Nat} {ok : Nat → Prop} {xs : List S49} (h : Kd.R k49 49 W base ok (.slice (some ⟨g, 0, none⟩) n cap) xs) : base ≤ g ∧ ∃ cells, W.heap[g]? = some (.cells cells 49 (0, 0)) := by
  obtain ⟨inner, ho⟩ := Kd.R_own h
  exact ⟨own_base ho g rfl, own_typed ho g rfl⟩

/-! ### What serve computes -/
def serveStep (wf : Int × Int → List Int) (state : Int) (win : S59 → Int × Int) (s : List S49 × List ((Int × Int) × List Bool)) (i : Nat) (b : S59) : List S49 × List ((Int × Int) × List Bool) :=
  if (rd_T49 s.1 (i : Int)).f1 = 2 then s else
  match s.2.find? (fun p => p.1 == (b.f1, b.f2)) with
  | none => s
  | some p => match takeIdx (wf (b.f1, b.f2)) p.2 (win b).1 (win b).2 with
    | none => s
    | some j => (s.1.set i ⟨b.f0, state, (wf (b.f1, b.f2)).getD j 0, b.f6⟩, setMark s.2 (b.f1, b.f2) (p.2.set j true))
def serveL (wf : Int × Int → List Int) (state : Int) (win : S59 → Int × Int) : List S59 → Nat → List S49 × List ((Int × Int) × List Bool) → List S49 × List ((Int × Int) × List Bool)
  | [], _, s => s
  | b :: r, i, s => serveL wf state win r (i + 1) (serveStep wf state win s i b)

/-- Memory between two of serve's rounds. -/
structure ServeAt (W : World) (w0 : World) (Bp Bl Bm mb gl n cap : Nat) (plan : Array Value) (wf : Int × Int → List Int) (ls : List S49) (ps : List PE) : Prop where
  plan_ : W.heap[Bp]? = some (.cells plan 32 (0, 0))
  lines_ : W.heap[Bl]? = some (.cells #[.slice (some ⟨gl, 0, none⟩) n cap] 38 (0, 0))
  row : Kd.R k49 49 W w0.heap.size (fun _ => True) (.slice (some ⟨gl, 0, none⟩) n cap) ls
  map_ : W.heap[Bm]? = some (.cells #[.map (some mb)] 57 (0, 0))
  pools : PoolsAt W w0.heap.size mb wf ps
  below : Aside0 (Below w0.heap.size w0 W)
  keys : ls.length = n
theorem ServeAt.kept {W W' w0 : World} {Bp Bl Bm mb gl n cap : Nat} {plan : Array Value} {wf : Int × Int → List Int} {ls : List S49} {ps : List PE} (h : ServeAt W w0 Bp Bl Bm mb gl n cap plan wf ls ps) (k : Below W.heap.size W W') : ServeAt W' w0 Bp Bl Bm mb gl n cap plan wf ls ps :=
  ⟨blk_below h.plan_ k, blk_below h.lines_ k, Kd.R_below h.row k, blk_below h.map_ k, h.pools.kept ((Keeps.refl _ _).below k), ⟨h.below.out.trans (k.mono h.below.out.size)⟩, h.keys⟩

theorem R_keeps {α : Type} {d : Kd α} {e : Nat} {W W' : World} {base : Nat} {ok : Nat → Prop} {v : Value} {xs : List α} {sel : Obj → Bool} (h : d.R e W base ok v xs) (k : Keeps sel W W') (hs : ∀ q, q ∈ e :: d.E → ∀ cells, sel (.cells cells q (0, 0)) = true) : d.R e W' base ok v xs := by
  have h1 := Kd.R_step (Kd.R_bound h) (w1 := W') (fun j hj hlt => by
    obtain ⟨_, _, _, q, hq, cells, hc⟩ := hj
    rw [hc]; exact k.2 _ _ hc (hs q hq cells))
  exact Kd.R_mono h1 (fun j hj => hj.1)

theorem k49_E : k49.E = [] := rfl
theorem ServeAt.turned {W W' w0 : World} {Bp Bl Bm mb gl n cap : Nat} {plan : Array Value} {wf : Int × Int → List Int} {ls : List S49} {ps ps' : List PE} (h : ServeAt W w0 Bp Bl Bm mb gl n cap plan wf ls ps) (kp : Keeps selRest W W') (hp2 : PoolsAt W' w0.heap.size mb wf ps') (hb : Below w0.heap.size w0 W') : ServeAt W' w0 Bp Bl Bm mb gl n cap plan wf ls ps' := by
  refine ⟨kp.2 _ _ h.plan_ rfl, kp.2 _ _ h.lines_ rfl, R_keeps h.row kp (fun q hq cells => ?_), kp.2 _ _ h.map_ rfl, hp2, ⟨hb⟩, h.keys⟩
  rw [k49_E, List.mem_singleton] at hq
  subst hq
  rfl
theorem ServeAt.put {W w0 : World} {Bp Bl Bm mb gl n cap : Nat} {plan : Array Value} {wf : Int × Int → List Int} {ls : List S49} {ps : List PE} (h : ServeAt W w0 Bp Bl Bm mb gl n cap plan wf ls ps) (i : Int) (h0 : 0 ≤ i) (h1 : i < n) (x : S49) :
    ServeAt ((((W.setCell ⟨gl, i.toNat * 4, none⟩ (.int .i64 x.f0)).setCell ⟨gl, i.toNat * 4 + 1, none⟩ (.int .i64 x.f1)).setCell ⟨gl, i.toNat * 4 + 2, none⟩ (.int .i64 x.f2)).setCell ⟨gl, i.toNat * 4 + 3, none⟩ (.int .i64 x.f3)) w0 Bp Bl Bm mb gl n cap plan wf (ls.set i.toNat x) ps := by
  obtain ⟨hr, hg⟩ := lines_put h.row i h0 h1 x
  obtain ⟨hbase, cells, hc⟩ := lines_typed h.row
  have other : ∀ (b : Nat) (cs : Array Value) (t : TypeId), W.heap[b]? = some (.cells cs t (0, 0)) → t ≠ 49 → _ := fun b cs t hb ht => (hg.block b (blk_lt hb) (fun e => by cases e; rw [hb] at hc; cases hc; exact ht rfl)).trans hb
  refine ⟨other _ _ _ h.plan_ (by decide), other _ _ _ h.lines_ (by decide), hr, other _ _ _ h.map_ (by decide), h.pools.kept ((Keeps.refl _ _).grown hg (fun k o e ho => by cases e; rw [hc] at ho; cases ho; rfl)), ⟨h.below.out.grown hg h.below.out.size (fun j e => by cases e; exact hbase)⟩, ?_⟩
  rw [List.length_set]; exact h.keys

def ServePost (w0 : World) (Bp Bl Bm mb gl n cap : Nat) (plan : Array Value) (wf : Int × Int → List Int) (bs : List S59) (final : List S49 × List ((Int × Int) × List Bool)) (e : Ending) (W : World) : Prop :=
  e = .returned (.tuple #[]) ∧ ∃ ls ps, ServeAt W w0 Bp Bl Bm mb gl n cap plan wf ls ps ∧ (ls, marks ps) = final ∧ ∀ b ∈ bs, ∃ p, ps.find? (fun p => p.key == (b.f1, b.f2)) = some p

set_option maxHeartbeats 8000000 in
set_option maxRecDepth 100000 in
theorem serve.calls (K : Nat) (win : S59 → Int × Int) (eK : ∀ args w, (callFunc K args).run Try.prog w = .ok (.enter K args) w)
    (hwin : ∀ (b : S59) (w : World), Calls Try.prog K #[.agg #[.int .i64 b.f0, .int .i64 b.f1, .int .i64 b.f2, .int .i64 b.f3, .int .i64 b.f4, .int .i64 b.f5, .int .i64 b.f6]] w fun e w' => e = .returned (.tuple #[.int .i64 (win b).1, .int .i64 (win b).2]) ∧ Below w.heap.size w w')
    (state : Int) (w0 w : World) (Bp Bl Bm mb gl n cap : Nat) (plan : Array Value) (A : Option Addr) (c : Nat) (bs : List S59) (hplan : plan[11]? = some (.slice A bs.length c)) (hA : Kd.C k59 w0 A bs.length bs) (hn : bs.length = n)
    (wf : Int × Int → List Int) (hwf : ∀ k, (wf k).Pairwise (· < ·) ∧ (wf k).length ≤ 140737488355328) (ls : List S49) (ps : List PE) (hS : ServeAt w w0 Bp Bl Bm mb gl n cap plan wf ls ps) (hkeys : ∀ b ∈ bs, ∃ p, ps.find? (fun p => p.key == (b.f1, b.f2)) = some p) :
    Calls Try.prog 19 #[.int .i64 state, .func (.func K) #[] #[], .pointer (some ⟨Bp, 0, none⟩), .pointer (some ⟨Bl, 0, none⟩), .pointer (some ⟨Bm, 0, none⟩)] w (ServePost w0 Bp Bl Bm mb gl n cap plan wf bs (serveL wf state win bs 0 (ls, marks ps))) := by
  have hu := Try.underlying59
  have huL := Try.underlying49
  have huP := Try.underlying61
  have huQ := Try.underlying32
  have hm : bs.length ≤ 9223372036854775807 := Kd.C_max hA
  have HA := Aside0.mk hA
  have HW := Aside0.mk hwin
  have HP := Aside0.mk hplan
  have HWF := Aside0.mk hwf
  have HN := Aside0.mk hn
  have HS := Aside0.mk hS
  have HK := Aside0.mk hkeys
  clear hA hwin hplan hwf hn hS hkeys
  have hp11 : w.cell? ⟨Bp, 11, none⟩ = some (.slice A bs.length c) := (blk_cell HS.out.plan_ 11).trans HP.out
  go_enter Try.func19, Try.ntmps19
  go_wp2_with fail
  go_step3
  go_wp2_with fail
  go_step3
  go_wp2_with fail
  clear hp11
  go_loopw [16] (fun i wr => ∃ (k : Int) (ls' : List S49) (ps' : List PE), i = .int .i64 k ∧ Aside0 (0 ≤ k) ∧ Aside0 (k ≤ bs.length) ∧ Aside0 (ServeAt wr w0 Bp Bl Bm mb gl n cap plan wf ls' ps') ∧ Aside0 (∀ b ∈ bs, ∃ p, ps'.find? (fun p => p.key == (b.f1, b.f2)) = some p) ∧ Aside0 (serveL wf state win (bs.drop k.toNat) k.toNat (ls', marks ps') = serveL wf state win bs 0 (ls, marks ps))) (fun i _ => bs.length - (intOf i).toNat)
  case atStart => exact ⟨0, ls, ps, rfl, ⟨Int.le_refl _⟩, ⟨by omega⟩, HS, HK, ⟨rfl⟩⟩
  case round =>
    clear HS HK
    obtain ⟨k, ls', ps', rfl, K0, K1, HS, HK, HF⟩ := hrel
    have hk0 := K0.out
    have hk1 := K1.out
    by_cases hlt : k < (bs.length : Int)
    · have hdrop : bs.drop k.toNat = rd_T59 bs k :: bs.drop (k + 1).toNat := by
        rw [List.drop_eq_getElem_cons (show k.toNat < bs.length by omega), show (k + 1).toNat = k.toNat + 1 by omega]
        simp [rd_T59, List.getD_eq_getElem?_getD, show k.toNat < bs.length by omega]
      have HF2 := HF.out
      rw [hdrop] at HF2
      simp only [serveL] at HF2
      rw [show k.toNat + 1 = (k + 1).toNat by omega] at HF2
      have HF3 := Aside0.mk HF2
      clear HF2 HF
      have HMEM := Aside0.mk (show rd_T59 bs k ∈ bs by
        simp only [rd_T59, List.getD_eq_getElem?_getD, List.getElem?_eq_getElem (show k.toNat < bs.length by omega), Option.getD_some]; exact List.getElem_mem _)
      clear hdrop
      have hll : ls'.length = n := HS.out.keys
      have hkn : k < (n : Int) := by have := HN.out; omega
      obtain ⟨ad, e_, hx0, hx1, hx2, hx3, hx4, hx5, hx6⟩ := at_T59 HA.out k hk0 hlt
      cases e_
      replace hx0 := ((HS.out.below.out).cell (World.block_lt_of_cell? _ _ hx0)).trans hx0
      replace hx1 := ((HS.out.below.out).cell (World.block_lt_of_cell? _ _ hx1)).trans hx1
      replace hx2 := ((HS.out.below.out).cell (World.block_lt_of_cell? _ _ hx2)).trans hx2
      replace hx3 := ((HS.out.below.out).cell (World.block_lt_of_cell? _ _ hx3)).trans hx3
      replace hx4 := ((HS.out.below.out).cell (World.block_lt_of_cell? _ _ hx4)).trans hx4
      replace hx5 := ((HS.out.below.out).cell (World.block_lt_of_cell? _ _ hx5)).trans hx5
      replace hx6 := ((HS.out.below.out).cell (World.block_lt_of_cell? _ _ hx6)).trans hx6
      have p := eq_true hk0
      have q_ := eq_true hlt
      have q2 := eq_true hkn
      have c_ := decide_eq_true hlt
      have hl0 : (wr).cell? ⟨Bl, 0, none⟩ = some (.slice (some ⟨gl, 0, none⟩) n cap) := (blk_cell HS.out.lines_ 0).trans rfl
      have hlf0 := blk_frozen HS.out.lines_ 0
      obtain ⟨⟨e0, e1, e2, e3⟩, ef⟩ := lines_elem HS.out.row k hk0 hkn
      have g1 := blk_lt HS.out.lines_
      have g2 : gl < wr.heap.size := by obtain ⟨_, cells, h⟩ := lines_typed HS.out.row; exact blk_lt h
      clear ef
      by_cases hst : ((rd_T49 ls' k).f1 == 2) = true
      · have HST := Aside0.mk hst
        go_wp2_with fail
        go_roundw
        case rel =>
          refine ⟨k + 1, ls', ps', rfl, ⟨by omega⟩, ⟨by omega⟩, ⟨HS.out.kept (below_alloc (Below.refl _ _) _)⟩, HK, ⟨?_⟩⟩
          rw [← HF3.out]
          congr 1
          unfold serveStep
          rw [Int.toNat_of_nonneg hk0, if_pos (by simpa using HST.out)]
        case measure =>
          show bs.length - (k + 1).toNat < bs.length - k.toNat
          omega
      · have hst' : ((rd_T49 ls' k).f1 == 2) = false := by simpa using hst
        have HST := Aside0.mk hst
        clear hst
        go_wp2_with fail
        refine (HW.out _ _).mono ?_
        rintro e w1 ⟨rfl, hb⟩
        obtain ⟨pe, hpe⟩ := HK.out _ HMEM.out
        have hkey : pe.key = ((rd_T59 bs k).f1, (rd_T59 bs k).f2) := by have := List.find?_some hpe; simpa using this
        have HPE := Aside0.mk hpe
        have HKEY := Aside0.mk hkey
        clear hpe hkey
        have HS1 := Aside0.mk (HS.out.kept (below_then (below_alloc (Below.refl _ _) (.cells #[.int .i64 (rd_T59 bs k).f0, .int .i64 (rd_T59 bs k).f1, .int .i64 (rd_T59 bs k).f2, .int .i64 (rd_T59 bs k).f3, .int .i64 (rd_T59 bs k).f4, .int .i64 (rd_T59 bs k).f5, .int .i64 (rd_T59 bs k).f6] 59)) (by simp) hb))
        have HBX := Aside0.mk (blk_below (new1 wr (.cells #[.int .i64 (rd_T59 bs k).f0, .int .i64 (rd_T59 bs k).f1, .int .i64 (rd_T59 bs k).f2, .int .i64 (rd_T59 bs k).f3, .int .i64 (rd_T59 bs k).f4, .int .i64 (rd_T59 bs k).f5, .int .i64 (rd_T59 bs k).f6] 59)) hb)
        have gx := blk_lt HBX.out
        clear hb hx0 hx1 hx2 hx3 hx4 hx5 hx6 hl0 hlf0 e0 e1 e2 e3 g1 g2 HS
        have hlook := lookup_place HS1.out.pools.map ((rd_T59 bs k).f1, (rd_T59 bs k).f2)
        rw [look_some _ _ _ HPE.out] at hlook
        simp only [keyV, ptrV] at hlook
        have HPO := Aside0.mk (HS1.out.pools.ok pe (List.mem_of_find?_eq_some HPE.out))
        have hbx0 : (w1).cell? ⟨wr.heap.size, 0, none⟩ = some (.int .i64 (rd_T59 bs k).f0) := (blk_cell HBX.out 0).trans rfl
        have hbxf0 := blk_frozen HBX.out 0
        have hbx1 : (w1).cell? ⟨wr.heap.size, 1, none⟩ = some (.int .i64 (rd_T59 bs k).f1) := (blk_cell HBX.out 1).trans rfl
        have hbxf1 := blk_frozen HBX.out 1
        have hbx2 : (w1).cell? ⟨wr.heap.size, 2, none⟩ = some (.int .i64 (rd_T59 bs k).f2) := (blk_cell HBX.out 2).trans rfl
        have hbxf2 := blk_frozen HBX.out 2
        have hbx3 : (w1).cell? ⟨wr.heap.size, 3, none⟩ = some (.int .i64 (rd_T59 bs k).f3) := (blk_cell HBX.out 3).trans rfl
        have hbxf3 := blk_frozen HBX.out 3
        have hbx4 : (w1).cell? ⟨wr.heap.size, 4, none⟩ = some (.int .i64 (rd_T59 bs k).f4) := (blk_cell HBX.out 4).trans rfl
        have hbxf4 := blk_frozen HBX.out 4
        have hbx5 : (w1).cell? ⟨wr.heap.size, 5, none⟩ = some (.int .i64 (rd_T59 bs k).f5) := (blk_cell HBX.out 5).trans rfl
        have hbxf5 := blk_frozen HBX.out 5
        have hbx6 : (w1).cell? ⟨wr.heap.size, 6, none⟩ = some (.int .i64 (rd_T59 bs k).f6) := (blk_cell HBX.out 6).trans rfl
        have hbxf6 := blk_frozen HBX.out 6
        have hl0 : (w1).cell? ⟨Bl, 0, none⟩ = some (.slice (some ⟨gl, 0, none⟩) n cap) := (blk_cell HS1.out.lines_ 0).trans rfl
        have hlf0 := blk_frozen HS1.out.lines_ 0
        have hm_0 : (w1).cell? ⟨Bm, 0, none⟩ = some (.map (some mb)) := (blk_cell HS1.out.map_ 0).trans rfl
        have hm_f0 := blk_frozen HS1.out.map_ 0
        go_wp2_with fail
        refine (pool_take.calls w0.heap.size pe.q pe.gu pe.v (wf pe.key) pe.used _ _ w1 HPO.out.1 HPO.out.2.1 HPO.out.2.2.1 HPO.out.2.2.2.1 (HWF.out _).1 (HWF.out _).2).mono ?_
        rintro e w2 ⟨hg, hm⟩
        have hpk : ps'.find? (fun x => x.key == pe.key) = some pe := by rw [HKEY.out]; exact HPE.out
        have hus : (marks ps').find? (fun p => p.1 == ((rd_T59 bs k).f1, (rd_T59 bs k).f2)) = some (pe.key, pe.used) := by rw [find_marks, HPE.out]; rfl
        have HUS := Aside0.mk hus
        clear hus hlook hbx0 hbxf0 hbx1 hbxf1 hbx2 hbxf2 hbx3 hbxf3 hbx4 hbxf4 hbx5 hbxf5 hbx6 hbxf6 hl0 hlf0 hm_0 hm_f0
        have hnot : ¬ (rd_T49 ls' k).f1 = 2 := by have := HST.out; simpa using this
        have HNOT := Aside0.mk hnot
        clear hnot
        cases hti : takeIdx (wf pe.key) pe.used (win (rd_T59 bs k)).1 (win (rd_T59 bs k)).2 with
        | none =>
          rw [hti] at hm
          obtain ⟨rfl, hb2⟩ := hm
          obtain ⟨hp2, kp⟩ := HS1.out.pools.still pe hpk hg hb2
          have HS2 := Aside0.mk (HS1.out.turned kp hp2 (HS1.out.below.out.grown hg HS1.out.below.out.size (fun j e => by cases e; exact HPO.out.2.2.2.2.2)))
          have HTI := Aside0.mk hti
          clear hti hp2 kp hg hb2 HS1 hpk
          go_wp2_with fail
          go_roundw
          case rel =>
            refine ⟨k + 1, ls', ps', rfl, ⟨by omega⟩, ⟨by omega⟩, HS2, HK, ⟨?_⟩⟩
            rw [← HF3.out]
            congr 1
            unfold serveStep
            rw [Int.toNat_of_nonneg hk0, if_neg HNOT.out, HUS.out]
            simp only
            rw [← HKEY.out, HTI.out]
          case measure =>
            show bs.length - (k + 1).toNat < bs.length - k.toNat
            omega
        | some j =>
          rw [hti] at hm
          obtain ⟨rfl, hb2⟩ := hm
          obtain ⟨hp2, kp⟩ := HS1.out.pools.marked pe hpk (pe.used.set j true) (by simp) hg hb2
          have HS2 := Aside0.mk (HS1.out.turned kp hp2 (HS1.out.below.out.grown hg HS1.out.below.out.size (fun j e => by cases e; exact HPO.out.2.2.2.2.2)))
          have HBX2 := Aside0.mk (kp.2 _ _ HBX.out rfl)
          have HTI := Aside0.mk hti
          have HPUT := Aside0.mk (HS2.out.put k hk0 hkn ⟨(rd_T59 bs k).f0, state, (wf pe.key).getD j 0, (rd_T59 bs k).f6⟩)
          have hkg := kp.1
          clear hti hp2 kp hg hb2 HS1 hpk
          have hbx0 : (w2).cell? ⟨wr.heap.size, 0, none⟩ = some (.int .i64 (rd_T59 bs k).f0) := (blk_cell HBX2.out 0).trans rfl
          have hbxf0 := blk_frozen HBX2.out 0
          have hbx1 : (w2).cell? ⟨wr.heap.size, 1, none⟩ = some (.int .i64 (rd_T59 bs k).f1) := (blk_cell HBX2.out 1).trans rfl
          have hbxf1 := blk_frozen HBX2.out 1
          have hbx2 : (w2).cell? ⟨wr.heap.size, 2, none⟩ = some (.int .i64 (rd_T59 bs k).f2) := (blk_cell HBX2.out 2).trans rfl
          have hbxf2 := blk_frozen HBX2.out 2
          have hbx3 : (w2).cell? ⟨wr.heap.size, 3, none⟩ = some (.int .i64 (rd_T59 bs k).f3) := (blk_cell HBX2.out 3).trans rfl
          have hbxf3 := blk_frozen HBX2.out 3
          have hbx4 : (w2).cell? ⟨wr.heap.size, 4, none⟩ = some (.int .i64 (rd_T59 bs k).f4) := (blk_cell HBX2.out 4).trans rfl
          have hbxf4 := blk_frozen HBX2.out 4
          have hbx5 : (w2).cell? ⟨wr.heap.size, 5, none⟩ = some (.int .i64 (rd_T59 bs k).f5) := (blk_cell HBX2.out 5).trans rfl
          have hbxf5 := blk_frozen HBX2.out 5
          have hbx6 : (w2).cell? ⟨wr.heap.size, 6, none⟩ = some (.int .i64 (rd_T59 bs k).f6) := (blk_cell HBX2.out 6).trans rfl
          have hbxf6 := blk_frozen HBX2.out 6
          have hl0 : (w2).cell? ⟨Bl, 0, none⟩ = some (.slice (some ⟨gl, 0, none⟩) n cap) := (blk_cell HS2.out.lines_ 0).trans rfl
          have hlf0 := blk_frozen HS2.out.lines_ 0
          obtain ⟨⟨e0, e1, e2, e3⟩, ef⟩ := lines_elem HS2.out.row k hk0 hkn
          have ef0 := ef (k.toNat * 4)
          have ef1 := ef (k.toNat * 4 + 1)
          have ef2 := ef (k.toNat * 4 + 2)
          have ef3 := ef (k.toNat * 4 + 3)
          clear ef
          generalize hfr : (wf pe.key).getD j 0 = fr at *
          have HFR := Aside0.mk hfr
          clear hfr
          go_wp2_with fail
          go_roundw
          case rel =>
            refine ⟨k + 1, _, setPE ps' pe.key (pe.used.set j true), rfl, ⟨by omega⟩, ⟨by omega⟩, HPUT, ⟨fun b hb => find_setPE _ _ _ _ (HK.out b hb)⟩, ⟨?_⟩⟩
            rw [← HF3.out]
            congr 1
            unfold serveStep
            rw [Int.toNat_of_nonneg hk0, if_neg HNOT.out, HUS.out]
            simp only
            rw [← HKEY.out, HTI.out]
            simp only [marks_set, HFR.out]
          case measure =>
            show bs.length - (k + 1).toNat < bs.length - k.toNat
            omega
    · have c_ := decide_eq_false hlt
      have HFE := HF.out
      rw [show k.toNat = bs.length by omega, List.drop_length] at HFE
      have HFE' := Aside0.mk HFE
      clear HFE
      go_wp2_with fail
      refine bodyPost_end (results_none rfl _ _ _) rfl ?_
      exact ⟨rfl, ls', ps', HS.out, HFE'.out, HK.out⟩
end Go.Proofs.Ytpdbhaoppdgmeaa.Pr
