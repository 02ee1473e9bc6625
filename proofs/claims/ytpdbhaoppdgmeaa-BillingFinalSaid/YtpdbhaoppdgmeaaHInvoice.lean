/- billing.Invoice: a line for each booking; it makes some memory and changes nothing that lay. -/
import Derived.Test.YtpdbhaoppdgmeaaHServe
import Derived.Test.YtpdbhaoppdgmeaaHWhole
import Derived.Test.YtpdbhaoppdgmeaaPr1
import Derived.Outline
import Derived.Deep.RegionHeld3
namespace Go.Proofs.Ytpdbhaoppdgmeaa.Pr
open Go.RowKit Go.Shelf Go.Proofs.Ytpdbhaoppdgmeaa.Sup Go.Proofs.YtpdbhaoppdgmeaaW.PrintWords Go.Proofs.YtpdbhaoppdgmeaaW.PrintLast Go.Proofs.YtpdbhaoppdgmeaaW.PrintMore
attribute [local go_sem] max2_int min2_int max_two min_two
set_option linter.unusedVariables false
set_option linter.unusedSimpArgs false

def passedB (items : List S45) (b : S59) (now : Int) : Bool :=
  if now < b.f5 then false else decide ((IntKind.u64.wrap ((IntKind.u64.wrap now) - (IntKind.u64.wrap b.f5))) ≥ (IntKind.u64.wrap (mx (itemOf items b.f1).1.f2 0)))
theorem passed_eq (a0_0 : Int) (a0_1 : Int) (a0_2 : Int) (a0_3 : Int) (l0_4 : List (S96)) (a0_5 : Int) (a0_6 : Int) (a0_7 : Int) (a0_8 : Int) (l0_9 : List (S45)) (l0_10 : List (S78)) (l0_11 : List (S59)) (l0_12 : List (S82)) (b : S59) (now : Int) : billing_passed.f a0_0 a0_1 a0_2 a0_3 l0_4 a0_5 a0_6 a0_7 a0_8 l0_9 l0_10 l0_11 l0_12 b.f0 b.f1 b.f2 b.f3 b.f4 b.f5 b.f6 now = some (passedB l0_9 b now) := by
  unfold billing_passed.f plan_Item.f passedB
  simp only [Option.bind_some]
  split <;> rfl
def line0 (items : List S45) (now : Int) (b : S59) : S49 := ⟨b.f0, if passedB items b now then 4 else 1, -1, 0⟩
def addKey (wf : Int × Int → List Int) (us : List ((Int × Int) × List Bool)) (key : Int × Int) : List ((Int × Int) × List Bool) :=
  if (us.find? (fun p => p.1 == key)).isSome then us else us ++ [(key, List.replicate (wf key).length false)]
def marks0 (wf : Int × Int → List Int) (bs : List S59) : List ((Int × Int) × List Bool) := bs.foldl (fun us b => addKey wf us (b.f1, b.f2)) []
def wfOf (items : List S45) (ch : Int) (l : List S43) (k : Int × Int) : List Int := wholeOf items ch l k.1 k.2
def win1 (b : S59) : Int × Int := (b.f3, b.f4)
def win2 (b : S59) : Int × Int := (b.f4, b.f5)
def invoiceOf (items : List S45) (ch : Int) (bs : List S59) (l : List S43) (now : Int) : List S49 :=
  (serveL (wfOf items ch l) 3 win2 bs 0 (serveL (wfOf items ch l) 2 win1 bs 0 (bs.map (line0 items now), marks0 (wfOf items ch l) bs))).1
def billing_Invoice.f (a0_0 : Int) (a0_1 : Int) (a0_2 : Int) (a0_3 : Int) (l0_4 : List (S96)) (a0_5 : Int) (a0_6 : Int) (a0_7 : Int) (a0_8 : Int) (l0_9 : List (S45)) (l0_10 : List (S78)) (l0_11 : List (S59)) (l0_12 : List (S82)) (l1 : List (S43)) (a2 : Int) : Option (List S49) :=
  if l1.length ≤ 1099511627776 ∧ l0_11.length ≤ 1099511627776 then some (invoiceOf l0_9 a0_0 l0_11 l1 a2) else none

theorem wfOf_ok (items : List S45) (ch : Int) (l : List S43) (hl : l.length ≤ 1099511627776) (k : Int × Int) : (wfOf items ch l k).Pairwise (· < ·) ∧ (wfOf items ch l k).length ≤ 1099511627776 := by
  unfold wfOf wholeOf
  split
  · refine ⟨sortU_sorted _, ?_⟩
    have h1 := sortU_len (wholeRaw (itemOf items k.1).1.f2 (airs ch k.1 k.2 l))
    have h2 := wholeRaw_len (itemOf items k.1).1.f2 (airs ch k.1 k.2 l)
    have h3 := List.length_filter_le (isAir ch k.1 k.2) l
    unfold airs at *
    omega
  · exact ⟨List.Pairwise.nil, by simp⟩

theorem R_made {W : World} {base g c : Nat} (h : W.ownsRow base 49 4 (.slice (some ⟨g, 0, none⟩) 0 c) 0 []) : Kd.R k49 49 W base (fun _ => True) (.slice (some ⟨g, 0, none⟩) 0 c) [] :=
  ⟨fun _ _ => trivial, [], h, by simp, fun j p hj => by simp at hj⟩
theorem lookV_ptr (ps : List PE) (k : Int × Int) : lookV (ps.map fun p => (p.key, p.q)) k = .pointer ((ps.find? (fun p => p.key == k)).map (fun p => (⟨p.q, 0, none⟩ : Addr))) := by
  cases h : ps.find? (fun p => p.key == k) with
  | none => rw [look_none _ _ h]; rfl
  | some p => rw [look_some _ _ _ h]; rfl
theorem run_eql_pool (a b : Option Addr) (w : World) : (binOp .eql 62 (.pointer a) (.pointer none)).run Try.prog w = .ok (.bool a.isNone) w := by
  cases a <;> kernel_rfl

theorem made_bools (n : Nat) : madeCells #[.bool false] n = boolCells (List.replicate n false) := by
  unfold madeCells boolCells
  apply Array.ext
  · simp
  · intro i h1 h2
    simp
    rw [Nat.mod_one]; rfl
def selCells : Obj → Bool
  | .cells .. => true
  | _ => false
theorem ServeAt.added {W w0 : World} {Bp Bl Bm mb gl n cap : Nat} {plan : Array Value} {wf : Int × Int → List Int} {ls : List S49} {ps : List PE} (h : ServeAt W w0 Bp Bl Bm mb gl n cap plan wf ls ps) (key : Int × Int) (hno : ps.find? (fun p => p.key == key) = none) (q gu g0 : Nat) (v : Value)
    (hold : ∀ p ∈ ps, p.gu < g0) (hgu : g0 ≤ gu) (hq : W.heap[q]? = some (.cells #[v, .slice (some ⟨gu, 0, none⟩) (wf key).length (wf key).length] 65 (0, 0))) (hv : W.ownsRow w0.heap.size 3 1 v (wf key).length (nums .i64 (wf key)))
    (hu : W.heap[gu]? = some (.cells (boolCells (List.replicate (wf key).length false)) 4 (0, 0))) (hbq : w0.heap.size ≤ q) (hbu : w0.heap.size ≤ gu) {o : Obj} (hm : MapAt (W.putObj mb o) mb ((ps.map fun p => (p.key, p.q)) ++ [(key, q)])) :
    ServeAt (W.putObj mb o) w0 Bp Bl Bm mb gl n cap plan wf ls (ps ++ [⟨key, q, gu, v, List.replicate (wf key).length false⟩]) := by
  obtain ⟨es, clock, hmb, _⟩ := h.pools.map
  have kc : Keeps selCells W (W.putObj mb o) := (Keeps.refl _ W).grown (grownBy_putObj' W mb o) (fun k o' e ho => by cases e; rw [hmb] at ho; cases ho; rfl)
  have kv : ∀ {x : Value} {m : Nat} {ys : List Value}, W.ownsRow w0.heap.size 3 1 x m ys → (W.putObj mb o).ownsRow w0.heap.size 3 1 x m ys := fun hx => own_move hx (fun j hj => by
    obtain ⟨cells, hc⟩ := own_typed hx j hj
    rw [hc]; exact kc.2 _ _ hc rfl)
  refine ⟨kc.2 _ _ h.plan_ rfl, kc.2 _ _ h.lines_ rfl, R_keeps h.row kc (fun _ _ _ => rfl), kc.2 _ _ h.map_ rfl, ⟨?_, ?_, ?_, h.pools.base_⟩, ⟨h.below.out.grown (grownBy_putObj' W mb o) h.below.out.size (fun j e => by cases e; exact h.pools.base_)⟩, h.keys⟩
  · rw [List.map_append]; exact hm
  · intro p hp
    rcases List.mem_append.1 hp with hp | hp
    · obtain ⟨a, b, c, d⟩ := h.pools.ok p hp
      exact ⟨kc.2 _ _ a rfl, kv b, kc.2 _ _ c rfl, d⟩
    · obtain rfl := List.mem_singleton.1 hp
      exact ⟨kc.2 _ _ hq rfl, kv hv, kc.2 _ _ hu rfl, by simp, hbq, hbu⟩
  · rw [List.pairwise_append]
    refine ⟨h.pools.apart, by simp, fun a ha b hb => ?_⟩
    obtain rfl := List.mem_singleton.1 hb
    have := hold a ha
    refine ⟨by show a.gu ≠ gu; omega, fun e => ?_⟩
    have := List.find?_eq_none.1 hno a ha
    simp [e] at this
theorem marks0_snoc (wf : Int × Int → List Int) (bs : List S59) (i : Nat) (h : i < bs.length) : marks0 wf (bs.take (i + 1)) = addKey wf (marks0 wf (bs.take i)) (bs[i].f1, bs[i].f2) := by
  unfold marks0
  rw [List.take_succ_eq_append_getElem h, List.foldl_append]; rfl
theorem find_app (ps : List PE) (p : PE) (k : Int × Int) (h : (∃ q, ps.find? (fun p => p.key == k) = some q) ∨ p.key = k) : ∃ q, (ps ++ [p]).find? (fun p => p.key == k) = some q := by
  rw [List.find?_append]
  cases e : ps.find? (fun p => p.key == k) with
  | some q => exact ⟨q, rfl⟩
  | none =>
    rcases h with ⟨q, hq⟩ | h
    · rw [e] at hq; cases hq
    · exact ⟨p, by simp [h]⟩

def selLines : Obj → Bool
  | .cells _ t _ => t == 49
  | _ => false
theorem ServeAt.pushed {W w0 w9 : World} {Bp Bl Bm mb gl n cap : Nat} {plan : Array Value} {wf : Int × Int → List Int} {ls : List S49} {ps : List PE} (h : ServeAt W w0 Bp Bl Bm mb gl n cap plan wf ls ps) (x : S49) (v1 : Value)
    (ho : Kd.R k49 49 w9 w0.heap.size (fun _ => True) v1 (ls ++ [x])) (hb : Below w0.heap.size w0 w9) (hg : W.grownBy w9 (some gl)) (hBl : w0.heap.size ≤ Bl) :
    ∃ gl' cap', v1 = .slice (some ⟨gl', 0, none⟩) (ls.length + 1) cap' ∧ w9.heap[Bl]? = some (.cells #[.slice (some ⟨gl, 0, none⟩) n cap] 38 (0, 0)) ∧ ServeAt (w9.setCell ⟨Bl, 0, none⟩ v1) w0 Bp Bl Bm mb gl' (ls.length + 1) cap' plan wf (ls ++ [x]) ps := by
  obtain ⟨inner, hown⟩ := Kd.R_own ho
  obtain ⟨gl', cap', rfl⟩ : ∃ gl' cap', v1 = .slice (some ⟨gl', 0, none⟩) (ls.length + 1) cap' := by
    rcases hown.2 with ⟨rfl, h0⟩ | ⟨g, c, cur, rfl, _⟩
    · simp at h0
    · exact ⟨g, c, by simp⟩
  obtain ⟨_, cells, hc⟩ := lines_typed h.row
  have h9 : ∀ (b : Nat) (cs : Array Value) (t : TypeId), W.heap[b]? = some (.cells cs t (0, 0)) → t ≠ 49 → w9.heap[b]? = some (.cells cs t (0, 0)) := fun b cs t hb ht => (hg.block b (blk_lt hb) (fun e => by cases e; rw [hb] at hc; cases hc; exact ht rfl)).trans hb
  have hl9 := h9 _ _ _ h.lines_ (by decide)
  have hgs := grownBy_setCell_at w9 Bl 0 (.slice (some ⟨gl', 0, none⟩) (ls.length + 1) cap')
  have hs : ∀ (b : Nat) (cs : Array Value) (t : TypeId), w9.heap[b]? = some (.cells cs t (0, 0)) → t ≠ 38 → (w9.setCell ⟨Bl, 0, none⟩ (.slice (some ⟨gl', 0, none⟩) (ls.length + 1) cap')).heap[b]? = some (.cells cs t (0, 0)) := fun b cs t hb ht => (hgs.block b (blk_lt hb) (fun e => by cases e; rw [hb] at hl9; cases hl9; exact ht rfl)).trans hb
  refine ⟨gl', cap', rfl, hl9, hs _ _ _ (h9 _ _ _ h.plan_ (by decide)) (by decide), blk_put hl9 0 _ rfl, R_keeps (sel := selLines) ho ((Keeps.refl _ _).grown hgs (fun k o e hk => by cases e; rw [hl9] at hk; cases hk; rfl)) (fun q hq cells => ?_), hs _ _ _ (h9 _ _ _ h.map_ (by decide)) (by decide),
    h.pools.kept (((Keeps.refl _ _).grown hg (fun k o e hk => by cases e; rw [hc] at hk; cases hk; rfl)).grown hgs (fun k o e hk => by cases e; rw [hl9] at hk; cases hk; rfl)), ⟨hb.setCell hBl _⟩, by simp⟩
  rw [k49_E, List.mem_singleton] at hq
  subst hq
  rfl

set_option maxHeartbeats 8000000 in
set_option maxRecDepth 100000 in
theorem invoice_walk (a0_0 : Int) (a0_1 : Int) (a0_2 : Int) (a0_3 : Int) (A0_4 : Option Addr) (c0_4 : Nat) (l0_4 : List (S96)) (a0_5 : Int) (a0_6 : Int) (a0_7 : Int) (a0_8 : Int) (A0_9 : Option Addr) (c0_9 : Nat) (l0_9 : List (S45)) (A0_10 : Option Addr) (c0_10 : Nat) (l0_10 : List (S78)) (A0_11 : Option Addr) (c0_11 : Nat) (l0_11 : List (S59)) (A0_12 : Option Addr) (c0_12 : Nat) (l0_12 : List (S82)) (A1 : Option Addr) (c1 : Nat) (l1 : List (S43)) (a2 : Int) (w : World) (hr0_4 : Kd.C k96 w A0_4 l0_4.length l0_4) (hc0_4 : l0_4.length ≤ c0_4) (hr0_9 : Kd.C k45 w A0_9 l0_9.length l0_9) (hc0_9 : l0_9.length ≤ c0_9) (hr0_10 : Kd.C k78 w A0_10 l0_10.length l0_10) (hc0_10 : l0_10.length ≤ c0_10) (hr0_11 : Kd.C k59 w A0_11 l0_11.length l0_11) (hc0_11 : l0_11.length ≤ c0_11) (hr0_12 : Kd.C k82 w A0_12 l0_12.length l0_12) (hc0_12 : l0_12.length ≤ c0_12) (hr1 : Kd.C k43 w A1 l1.length l1) (hc1 : l1.length ≤ c1) (hl1 : l1.length ≤ 1099511627776) (hlb : l0_11.length ≤ 1099511627776) :
    Calls Try.prog 9 #[.agg #[.int .i64 a0_0, .int .i64 a0_1, .int .i64 a0_2, .int .i64 a0_3, .slice A0_4 l0_4.length c0_4, .int .i64 a0_5, .int .i64 a0_6, .int .i64 a0_7, .int .i64 a0_8, .slice A0_9 l0_9.length c0_9, .slice A0_10 l0_10.length c0_10, .slice A0_11 l0_11.length c0_11, .slice A0_12 l0_12.length c0_12], .slice A1 l1.length c1, .int .i64 a2] w fun e w' => ∃ v0_ : Value, e = .returned v0_ ∧ Kd.R k49 49 w' w.heap.size (fun _ => True) v0_ (invoiceOf l0_9 a0_0 l0_11 l1 a2) ∧ Below w.heap.size w w' := by
  have hu := Try.underlying59
  have huL := Try.underlying49
  have huP := Try.underlying61
  have huQ := Try.underlying32
  have huO := Try.underlying65
  have hi := fun (W : World) (hB : Below w.heap.size w W) (b : S59) => billing_passed.calls a0_0 a0_1 a0_2 a0_3 A0_4 c0_4 l0_4 a0_5 a0_6 a0_7 a0_8 A0_9 c0_9 l0_9 A0_10 c0_10 l0_10 A0_11 c0_11 l0_11 A0_12 c0_12 l0_12 b.f0 b.f1 b.f2 b.f3 b.f4 b.f5 b.f6 a2 _ W (Kd.C_below hr0_4 hB) hc0_4 (Kd.C_below hr0_9 hB) hc0_9 (Kd.C_below hr0_10 hB) hc0_10 (Kd.C_below hr0_11 hB) hc0_11 (Kd.C_below hr0_12 hB) hc0_12 (passed_eq a0_0 a0_1 a0_2 a0_3 l0_4 a0_5 a0_6 a0_7 a0_8 l0_9 l0_10 l0_11 l0_12 b a2)
  have hw := fun (W : World) (hB : Below w.heap.size w W) (i r : Int) => billing_Whole.calls a0_0 a0_1 a0_2 a0_3 A0_4 c0_4 l0_4 a0_5 a0_6 a0_7 a0_8 A0_9 c0_9 l0_9 A0_10 c0_10 l0_10 A0_11 c0_11 l0_11 A0_12 c0_12 l0_12 A1 c1 l1 i r (wfOf l0_9 a0_0 l1 (i, r)) W (Kd.C_below hr0_4 hB) hc0_4 (Kd.C_below hr0_9 hB) hc0_9 (Kd.C_below hr0_10 hB) hc0_10 (Kd.C_below hr0_11 hB) hc0_11 (Kd.C_below hr0_12 hB) hc0_12 (Kd.C_below hr1 hB) hc1 (by unfold billing_Whole.f; rw [if_pos (by omega)]; rfl)
  have HI := Aside0.mk hi
  have HWH := Aside0.mk hw
  have HBK := Aside0.mk hr0_11
  have HWF := Aside0.mk (wfOf_ok l0_9 a0_0 l1 hl1)
  clear hi hw hr1 hc1 hr0_4 hc0_4 hr0_9 hc0_9 hr0_10 hc0_10 hr0_11 hc0_11 hr0_12 hc0_12
  have hmm := @run_makeMap Try.prog
  obtain ⟨inf, hinf, hz0, hz1, hz2⟩ := info_parts info49
  have hmk := fun (W : World) (hb : w.heap.size ≤ W.heap.size) => run_make_own (P := Try.prog) W w.heap.size 38 49 inf _ 4 Try.underlying38 hinf hz0 hz1 .i64 .i64 l0_11.length (by rw [hz2]; omega) (by unfold maxLen; omega) hb
  obtain ⟨wm, hrun, hown, hgrow⟩ := hmk (((w.alloc (.cells #[.int .i64 a0_0, .int .i64 a0_1, .int .i64 a0_2, .int .i64 a0_3, .slice A0_4 l0_4.length c0_4, .int .i64 a0_5, .int .i64 a0_6, .int .i64 a0_7, .int .i64 a0_8, .slice A0_9 l0_9.length c0_9, .slice A0_10 l0_10.length c0_10, .slice A0_11 l0_11.length c0_11, .slice A0_12 l0_12.length c0_12] 32)).alloc (.map #[] 0)).alloc (.cells #[.map (some (w.heap.size + 1))] 57)) (by simp; omega)
  have HB1 := Aside0.mk (((((Below.refl _ w).alloc (Nat.le_refl _) (.cells #[.int .i64 a0_0, .int .i64 a0_1, .int .i64 a0_2, .int .i64 a0_3, .slice A0_4 l0_4.length c0_4, .int .i64 a0_5, .int .i64 a0_6, .int .i64 a0_7, .int .i64 a0_8, .slice A0_9 l0_9.length c0_9, .slice A0_10 l0_10.length c0_10, .slice A0_11 l0_11.length c0_11, .slice A0_12 l0_12.length c0_12] 32)).alloc (by simp) (.map #[] 0)).alloc (by simp; omega) (.cells #[.map (some (w.heap.size + 1))] 57)).grown hgrow (by simp; omega) (fun k e => by cases e))
  have HPL := Aside0.mk (blk_grown' (blk_alloc (blk_alloc (new1 w (.cells #[.int .i64 a0_0, .int .i64 a0_1, .int .i64 a0_2, .int .i64 a0_3, .slice A0_4 l0_4.length c0_4, .int .i64 a0_5, .int .i64 a0_6, .int .i64 a0_7, .int .i64 a0_8, .slice A0_9 l0_9.length c0_9, .slice A0_10 l0_10.length c0_10, .slice A0_11 l0_11.length c0_11, .slice A0_12 l0_12.length c0_12] 32)) (.map #[] 0)) (.cells #[.map (some (w.heap.size + 1))] 57)) hgrow)
  have HMP := Aside0.mk (blk_grown' (blk_alloc (new2 w (.cells #[.int .i64 a0_0, .int .i64 a0_1, .int .i64 a0_2, .int .i64 a0_3, .slice A0_4 l0_4.length c0_4, .int .i64 a0_5, .int .i64 a0_6, .int .i64 a0_7, .int .i64 a0_8, .slice A0_9 l0_9.length c0_9, .slice A0_10 l0_10.length c0_10, .slice A0_11 l0_11.length c0_11, .slice A0_12 l0_12.length c0_12] 32) (.map #[] 0)) (.cells #[.map (some (w.heap.size + 1))] 57)) hgrow)
  have HMB := Aside0.mk (blk_grown' (new3 w (.cells #[.int .i64 a0_0, .int .i64 a0_1, .int .i64 a0_2, .int .i64 a0_3, .slice A0_4 l0_4.length c0_4, .int .i64 a0_5, .int .i64 a0_6, .int .i64 a0_7, .int .i64 a0_8, .slice A0_9 l0_9.length c0_9, .slice A0_10 l0_10.length c0_10, .slice A0_11 l0_11.length c0_11, .slice A0_12 l0_12.length c0_12] 32) (.map #[] 0) (.cells #[.map (some (w.heap.size + 1))] 57)) hgrow)
  have HOW := Aside0.mk (R_made hown)
  clear hmk hown hgrow
  simp only [World.size_alloc] at hrun HOW
  have hp0 : (wm).cell? ⟨w.heap.size, 0, none⟩ = some (.int .i64 a0_0) := (blk_cell HPL.out 0).trans rfl
  have hpf0 := blk_frozen HPL.out 0
  have hp1 : (wm).cell? ⟨w.heap.size, 1, none⟩ = some (.int .i64 a0_1) := (blk_cell HPL.out 1).trans rfl
  have hpf1 := blk_frozen HPL.out 1
  have hp2 : (wm).cell? ⟨w.heap.size, 2, none⟩ = some (.int .i64 a0_2) := (blk_cell HPL.out 2).trans rfl
  have hpf2 := blk_frozen HPL.out 2
  have hp3 : (wm).cell? ⟨w.heap.size, 3, none⟩ = some (.int .i64 a0_3) := (blk_cell HPL.out 3).trans rfl
  have hpf3 := blk_frozen HPL.out 3
  have hp4 : (wm).cell? ⟨w.heap.size, 4, none⟩ = some (.slice A0_4 l0_4.length c0_4) := (blk_cell HPL.out 4).trans rfl
  have hpf4 := blk_frozen HPL.out 4
  have hp5 : (wm).cell? ⟨w.heap.size, 5, none⟩ = some (.int .i64 a0_5) := (blk_cell HPL.out 5).trans rfl
  have hpf5 := blk_frozen HPL.out 5
  have hp6 : (wm).cell? ⟨w.heap.size, 6, none⟩ = some (.int .i64 a0_6) := (blk_cell HPL.out 6).trans rfl
  have hpf6 := blk_frozen HPL.out 6
  have hp7 : (wm).cell? ⟨w.heap.size, 7, none⟩ = some (.int .i64 a0_7) := (blk_cell HPL.out 7).trans rfl
  have hpf7 := blk_frozen HPL.out 7
  have hp8 : (wm).cell? ⟨w.heap.size, 8, none⟩ = some (.int .i64 a0_8) := (blk_cell HPL.out 8).trans rfl
  have hpf8 := blk_frozen HPL.out 8
  have hp9 : (wm).cell? ⟨w.heap.size, 9, none⟩ = some (.slice A0_9 l0_9.length c0_9) := (blk_cell HPL.out 9).trans rfl
  have hpf9 := blk_frozen HPL.out 9
  have hp10 : (wm).cell? ⟨w.heap.size, 10, none⟩ = some (.slice A0_10 l0_10.length c0_10) := (blk_cell HPL.out 10).trans rfl
  have hpf10 := blk_frozen HPL.out 10
  have hp11 : (wm).cell? ⟨w.heap.size, 11, none⟩ = some (.slice A0_11 l0_11.length c0_11) := (blk_cell HPL.out 11).trans rfl
  have hpf11 := blk_frozen HPL.out 11
  have hp12 : (wm).cell? ⟨w.heap.size, 12, none⟩ = some (.slice A0_12 l0_12.length c0_12) := (blk_cell HPL.out 12).trans rfl
  have hpf12 := blk_frozen HPL.out 12
  have hmb0 : (wm).cell? ⟨w.heap.size + 1 + 1, 0, none⟩ = some (.map (some (w.heap.size + 1))) := (blk_cell HMB.out 0).trans rfl
  have hmbf0 := blk_frozen HMB.out 0
  have gm := blk_lt HMB.out
  have gm2 : w.heap.size < wm.heap.size := by omega
  go_enter Try.func9, Try.ntmps9
  go_wp2_with fail
  have HBL := Aside0.mk (new1 wm (.cells #[.slice (some ⟨w.heap.size + 1 + 1 + 1, 0, none⟩) 0 l0_11.length] 38))
  obtain ⟨Bl, hBl⟩ : ∃ B, B = wm.heap.size := ⟨_, rfl⟩
  rw [← hBl] at HBL ⊢
  have hBl' := Nat.le_of_eq hBl
  have hBl'' := Nat.le_of_eq hBl.symm
  clear hBl hrun hmm
  have hm : l0_11.length ≤ 9223372036854775807 := Kd.C_max HBK.out
  go_loopg [23] l0_11.length (fun d v23 wr => ∃ (k : Int) (gl cap : Nat) (ls : List S49) (ps : List PE), v23 = .int .i64 k ∧ Aside0 (0 ≤ k) ∧ Aside0 (k + d = l0_11.length) ∧ Aside0 (ServeAt wr w w.heap.size Bl (w.heap.size + 2) (w.heap.size + 1) gl ls.length cap #[.int .i64 a0_0, .int .i64 a0_1, .int .i64 a0_2, .int .i64 a0_3, .slice A0_4 l0_4.length c0_4, .int .i64 a0_5, .int .i64 a0_6, .int .i64 a0_7, .int .i64 a0_8, .slice A0_9 l0_9.length c0_9, .slice A0_10 l0_10.length c0_10, .slice A0_11 l0_11.length c0_11, .slice A0_12 l0_12.length c0_12] (wfOf l0_9 a0_0 l1) ls ps) ∧
      Aside0 (ls = (l0_11.take k.toNat).map (line0 l0_9 a2)) ∧ Aside0 (marks ps = marks0 (wfOf l0_9 a0_0 l1) (l0_11.take k.toNat)) ∧ Aside0 (∀ b ∈ l0_11.take k.toNat, ∃ p, ps.find? (fun p => p.key == (b.f1, b.f2)) = some p) ∧ Aside0 (Bl < wr.heap.size))
  case atStart =>
    refine ⟨0, _, _, [], [], rfl, ⟨Int.le_refl _⟩, ⟨by omega⟩, ⟨⟨blk_alloc HPL.out _, HBL.out, Kd.R_alloc HOW.out _, blk_alloc HMB.out _, ⟨⟨#[], 0, blk_alloc HMP.out _, rfl⟩, fun p hp => by simp at hp, List.Pairwise.nil, by omega⟩, ⟨below_alloc HB1.out _⟩, rfl⟩⟩, ⟨rfl⟩, ⟨rfl⟩, ⟨fun b hb => by simp at hb⟩, ⟨by simp; omega⟩⟩
  case round =>
    clear HPL HMP HMB HOW HB1 HBL hp0 hpf0 hp1 hpf1 hp2 hpf2 hp3 hpf3 hp4 hpf4 hp5 hpf5 hp6 hpf6 hp7 hpf7 hp8 hpf8 hp9 hpf9 hp10 hpf10 hp11 hpf11 hp12 hpf12 hmb0 hmbf0
    obtain ⟨k, gl, cap, ls, ps, rfl, K0, K1, HS, HLS, HMK, HKY, HG⟩ := hrel
    have hk0 := K0.out
    have hk1 := K1.out
    cases gk with
    | zero =>
      --F<
      have hlt : ¬ k < (l0_11.length : Int) := by omega
      have c_ := decide_eq_false hlt
      have hkl : k.toNat = l0_11.length := by omega
      have HLS1 : Aside0 (ls = l0_11.map (line0 l0_9 a2)) := ⟨by have := HLS.out; rwa [hkl, List.take_length] at this⟩
      have HMK1 : Aside0 (marks ps = marks0 (wfOf l0_9 a0_0 l1) l0_11) := ⟨by have := HMK.out; rwa [hkl, List.take_length] at this⟩
      have HKY1 : Aside0 (∀ b ∈ l0_11, ∃ p, ps.find? (fun p => p.key == (b.f1, b.f2)) = some p) := ⟨by have := HKY.out; rwa [hkl, List.take_length] at this⟩
      have hln : ls.length = l0_11.length := by rw [HLS1.out]; simp
      clear HLS HMK HKY
      go_wp2_with fail
      refine (serve.calls 21 win1 (enters_of Try.func21 (by kernel_rfl) rfl) window1.calls 2 w _ w.heap.size Bl (w.heap.size + 1 + 1) (w.heap.size + 1) gl ls.length cap _ A0_11 c0_11 l0_11 rfl HBK.out hln.symm (wfOf l0_9 a0_0 l1) (fun k => ⟨(HWF.out k).1, by have := (HWF.out k).2; omega⟩) ls ps HS.out HKY1.out).mono ?_
      rintro e w1 ⟨rfl, ls1, ps1, hS1, hf1, hky1⟩
      have HS1 := Aside0.mk hS1
      have HF1 := Aside0.mk hf1
      have HKY2 := Aside0.mk hky1
      clear hS1 hf1 hky1
      go_wp2_with fail
      refine (serve.calls 22 win2 (enters_of Try.func22 (by kernel_rfl) rfl) window2.calls 3 w _ w.heap.size Bl (w.heap.size + 1 + 1) (w.heap.size + 1) gl ls.length cap _ A0_11 c0_11 l0_11 rfl HBK.out hln.symm (wfOf l0_9 a0_0 l1) (fun k => ⟨(HWF.out k).1, by have := (HWF.out k).2; omega⟩) ls1 ps1 HS1.out HKY2.out).mono ?_
      rintro e w2 ⟨rfl, ls2, ps2, hS2, hf2, -⟩
      have hl0 : (w2).cell? ⟨Bl, 0, none⟩ = some (.slice (some ⟨gl, 0, none⟩) ls.length cap) := (blk_cell hS2.lines_ 0).trans rfl
      have hlf0 := blk_frozen hS2.lines_ 0
      have HS2 := Aside0.mk hS2
      have HF2 := Aside0.mk hf2
      clear hS2 hf2
      go_wp2_with fail
      go_ret
      have hfin : ls2 = invoiceOf l0_9 a0_0 l0_11 l1 a2 := by
        unfold invoiceOf
        rw [← HLS1.out, ← HMK1.out, ← HF1.out, ← HF2.out]
      rw [← hfin]
      refine ⟨_, rfl, ?_, HS2.out.below.out⟩
      show Kd.R k49 49 w2 w.heap.size (fun _ => True) (.slice (some ⟨gl, 0, none⟩) l0_11.length cap) ls2
      rw [← hln]; exact HS2.out.row
    | succ d =>
      have hlt : k < (l0_11.length : Int) := by omega
      obtain ⟨ad, e_, hx0, hx1, hx2, hx3, hx4, hx5, hx6⟩ := at_T59 HBK.out k hk0 hlt
      cases e_
      replace hx0 := ((HS.out.below.out).cell (World.block_lt_of_cell? _ _ hx0)).trans hx0
      replace hx1 := ((HS.out.below.out).cell (World.block_lt_of_cell? _ _ hx1)).trans hx1
      replace hx2 := ((HS.out.below.out).cell (World.block_lt_of_cell? _ _ hx2)).trans hx2
      replace hx3 := ((HS.out.below.out).cell (World.block_lt_of_cell? _ _ hx3)).trans hx3
      replace hx4 := ((HS.out.below.out).cell (World.block_lt_of_cell? _ _ hx4)).trans hx4
      replace hx5 := ((HS.out.below.out).cell (World.block_lt_of_cell? _ _ hx5)).trans hx5
      replace hx6 := ((HS.out.below.out).cell (World.block_lt_of_cell? _ _ hx6)).trans hx6
      have p := eq_true hk0
      have q_ := eq_true hlt
      have c_ := decide_eq_true hlt
      generalize hbk : rd_T59 l0_11 k = bk at *
      have HBKE := Aside0.mk hbk
      clear hbk
      go_upto_region 7 with (fail)
      have HS2 := Aside0.mk (HS.out.kept (below_alloc (below_alloc (Below.refl _ _) (.cells #[.int .i64 bk.f0, .int .i64 bk.f1, .int .i64 bk.f2, .int .i64 bk.f3, .int .i64 bk.f4, .int .i64 bk.f5, .int .i64 bk.f6] 59)) (.cells #[.int .i64 bk.f1, .int .i64 bk.f2] 61)))
      have HBX := Aside0.mk (blk_alloc (new1 wr (.cells #[.int .i64 bk.f0, .int .i64 bk.f1, .int .i64 bk.f2, .int .i64 bk.f3, .int .i64 bk.f4, .int .i64 bk.f5, .int .i64 bk.f6] 59)) (.cells #[.int .i64 bk.f1, .int .i64 bk.f2] 61))
      have HPX := Aside0.mk (new2 wr (.cells #[.int .i64 bk.f0, .int .i64 bk.f1, .int .i64 bk.f2, .int .i64 bk.f3, .int .i64 bk.f4, .int .i64 bk.f5, .int .i64 bk.f6] 59) (.cells #[.int .i64 bk.f1, .int .i64 bk.f2] 61))
      have hwr := HS.out.below.out.size
      have hGr := HG.out
      generalize (wr.alloc (.cells #[.int .i64 bk.f0, .int .i64 bk.f1, .int .i64 bk.f2, .int .i64 bk.f3, .int .i64 bk.f4, .int .i64 bk.f5, .int .i64 bk.f6] 59)).alloc (.cells #[.int .i64 bk.f1, .int .i64 bk.f2] 61) = W2 at *
      obtain ⟨Bx, hBx⟩ : ∃ B, B = wr.heap.size := ⟨_, rfl⟩
      rw [← hBx] at HBX HPX hwr hGr ⊢
      clear hBx HS HG hx0 hx1 hx2 hx3 hx4 hx5 hx6
      have hlook := lookup_place HS2.out.pools.map (bk.f1, bk.f2)
      rw [lookV_ptr] at hlook
      simp only [keyV] at hlook
      obtain ⟨a?, ha⟩ : ∃ a?, a? = (ps.find? (fun p => p.key == (bk.f1, bk.f2))).map (fun p => (⟨p.q, 0, none⟩ : Addr)) := ⟨_, rfl⟩
      rw [← ha] at hlook
      have HAQ := Aside0.mk ha
      clear ha
      have hq := fun w => run_eql_pool a? none w
      have hm_0 : (W2).cell? ⟨(w.heap.size + 2), 0, none⟩ = some (.map (some (w.heap.size + 1))) := (blk_cell HS2.out.map_ 0).trans rfl
      have hm_f0 := blk_frozen HS2.out.map_ 0
      have hpx0 : (W2).cell? ⟨(Bx + 1), 0, none⟩ = some (.int .i64 bk.f1) := (blk_cell HPX.out 0).trans rfl
      have hpxf0 := blk_frozen HPX.out 0
      have hpx1 : (W2).cell? ⟨(Bx + 1), 1, none⟩ = some (.int .i64 bk.f2) := (blk_cell HPX.out 1).trans rfl
      have hpxf1 := blk_frozen HPX.out 1
      go_upto_if 35 with (fail)
      go_cut [12] (fun v12 wc => ∃ ps' : List PE, Aside0 (ServeAt wc w w.heap.size Bl (w.heap.size + 2) (w.heap.size + 1) gl ls.length cap #[.int .i64 a0_0, .int .i64 a0_1, .int .i64 a0_2, .int .i64 a0_3, .slice A0_4 l0_4.length c0_4, .int .i64 a0_5, .int .i64 a0_6, .int .i64 a0_7, .int .i64 a0_8, .slice A0_9 l0_9.length c0_9, .slice A0_10 l0_10.length c0_10, .slice (some ad) l0_11.length c0_11, .slice A0_12 l0_12.length c0_12] (wfOf l0_9 a0_0 l1) ls ps') ∧ Aside0 (marks ps' = addKey (wfOf l0_9 a0_0 l1) (marks ps) (bk.f1, bk.f2)) ∧
        Aside0 (∀ k2 : Int × Int, (∃ p, ps.find? (fun p => p.key == k2) = some p) ∨ (bk.f1, bk.f2) = k2 → ∃ p, ps'.find? (fun p => p.key == k2) = some p) ∧ Aside0 (wc.heap[Bx]? = some (.cells #[.int .i64 bk.f0, .int .i64 bk.f1, .int .i64 bk.f2, .int .i64 bk.f3, .int .i64 bk.f4, .int .i64 bk.f5, .int .i64 bk.f6] 59 (0, 0))) ∧ Aside0 (Bl < wc.heap.size) ∧ Aside0 (Bx < wc.heap.size))
      case first =>
        --F<
        cases hfd : ps.find? (fun p => p.key == (bk.f1, bk.f2)) with
        | some p =>
          have ha : a? = some ⟨p.q, 0, none⟩ := by rw [HAQ.out, hfd]; rfl
          subst ha
          have HFD := Aside0.mk hfd
          clear hfd
          go_wp2_with fail
          go_meet
          case rel => exact ⟨ps, HS2, ⟨by unfold addKey; rw [find_marks, HFD.out]; rfl⟩, ⟨fun k2 h => h.elim id (fun e => e ▸ ⟨p, HFD.out⟩)⟩, HBX, ⟨by have := HS2.out.below.out.size; have := blk_lt HS2.out.lines_; omega⟩, ⟨blk_lt HBX.out⟩⟩
        | none =>
          have ha : a? = none := by rw [HAQ.out, hfd]; rfl
          subst ha
          have HFD := Aside0.mk hfd
          clear hfd
          have hp0 : (W2).cell? ⟨w.heap.size, 0, none⟩ = some (.int .i64 a0_0) := (blk_cell HS2.out.plan_ 0).trans rfl
          have hpf0 := blk_frozen HS2.out.plan_ 0
          have hp1 : (W2).cell? ⟨w.heap.size, 1, none⟩ = some (.int .i64 a0_1) := (blk_cell HS2.out.plan_ 1).trans rfl
          have hpf1 := blk_frozen HS2.out.plan_ 1
          have hp2 : (W2).cell? ⟨w.heap.size, 2, none⟩ = some (.int .i64 a0_2) := (blk_cell HS2.out.plan_ 2).trans rfl
          have hpf2 := blk_frozen HS2.out.plan_ 2
          have hp3 : (W2).cell? ⟨w.heap.size, 3, none⟩ = some (.int .i64 a0_3) := (blk_cell HS2.out.plan_ 3).trans rfl
          have hpf3 := blk_frozen HS2.out.plan_ 3
          have hp4 : (W2).cell? ⟨w.heap.size, 4, none⟩ = some (.slice A0_4 l0_4.length c0_4) := (blk_cell HS2.out.plan_ 4).trans rfl
          have hpf4 := blk_frozen HS2.out.plan_ 4
          have hp5 : (W2).cell? ⟨w.heap.size, 5, none⟩ = some (.int .i64 a0_5) := (blk_cell HS2.out.plan_ 5).trans rfl
          have hpf5 := blk_frozen HS2.out.plan_ 5
          have hp6 : (W2).cell? ⟨w.heap.size, 6, none⟩ = some (.int .i64 a0_6) := (blk_cell HS2.out.plan_ 6).trans rfl
          have hpf6 := blk_frozen HS2.out.plan_ 6
          have hp7 : (W2).cell? ⟨w.heap.size, 7, none⟩ = some (.int .i64 a0_7) := (blk_cell HS2.out.plan_ 7).trans rfl
          have hpf7 := blk_frozen HS2.out.plan_ 7
          have hp8 : (W2).cell? ⟨w.heap.size, 8, none⟩ = some (.int .i64 a0_8) := (blk_cell HS2.out.plan_ 8).trans rfl
          have hpf8 := blk_frozen HS2.out.plan_ 8
          have hp9 : (W2).cell? ⟨w.heap.size, 9, none⟩ = some (.slice A0_9 l0_9.length c0_9) := (blk_cell HS2.out.plan_ 9).trans rfl
          have hpf9 := blk_frozen HS2.out.plan_ 9
          have hp10 : (W2).cell? ⟨w.heap.size, 10, none⟩ = some (.slice A0_10 l0_10.length c0_10) := (blk_cell HS2.out.plan_ 10).trans rfl
          have hpf10 := blk_frozen HS2.out.plan_ 10
          have hp11 : (W2).cell? ⟨w.heap.size, 11, none⟩ = some (.slice (some ad) l0_11.length c0_11) := (blk_cell HS2.out.plan_ 11).trans rfl
          have hpf11 := blk_frozen HS2.out.plan_ 11
          have hp12 : (W2).cell? ⟨w.heap.size, 12, none⟩ = some (.slice A0_12 l0_12.length c0_12) := (blk_cell HS2.out.plan_ 12).trans rfl
          have hpf12 := blk_frozen HS2.out.plan_ 12
          have hbx0 : (W2).cell? ⟨Bx, 0, none⟩ = some (.int .i64 bk.f0) := (blk_cell HBX.out 0).trans rfl
          have hbxf0 := blk_frozen HBX.out 0
          have hbx1 : (W2).cell? ⟨Bx, 1, none⟩ = some (.int .i64 bk.f1) := (blk_cell HBX.out 1).trans rfl
          have hbxf1 := blk_frozen HBX.out 1
          have hbx2 : (W2).cell? ⟨Bx, 2, none⟩ = some (.int .i64 bk.f2) := (blk_cell HBX.out 2).trans rfl
          have hbxf2 := blk_frozen HBX.out 2
          have hbx3 : (W2).cell? ⟨Bx, 3, none⟩ = some (.int .i64 bk.f3) := (blk_cell HBX.out 3).trans rfl
          have hbxf3 := blk_frozen HBX.out 3
          have hbx4 : (W2).cell? ⟨Bx, 4, none⟩ = some (.int .i64 bk.f4) := (blk_cell HBX.out 4).trans rfl
          have hbxf4 := blk_frozen HBX.out 4
          have hbx5 : (W2).cell? ⟨Bx, 5, none⟩ = some (.int .i64 bk.f5) := (blk_cell HBX.out 5).trans rfl
          have hbxf5 := blk_frozen HBX.out 5
          have hbx6 : (W2).cell? ⟨Bx, 6, none⟩ = some (.int .i64 bk.f6) := (blk_cell HBX.out 6).trans rfl
          have hbxf6 := blk_frozen HBX.out 6
          go_wp2_with fail
          refine (HWH.out W2 HS2.out.below.out bk.f1 bk.f2).mono ?_
          rintro e W3 ⟨v, rfl, hv, hb3⟩
          have HS3 := Aside0.mk (HS2.out.kept hb3)
          have HBX3 := Aside0.mk (blk_below HBX.out hb3)
          have HPX3 := Aside0.mk (blk_below HPX.out hb3)
          have HV := Aside0.mk hv
          have HB3 := Aside0.mk hb3
          clear hp0 hpf0 hp1 hpf1 hp2 hpf2 hp3 hpf3 hp4 hpf4 hp5 hpf5 hp6 hpf6 hp7 hpf7 hp8 hpf8 hp9 hpf9 hp10 hpf10 hp11 hpf11 hp12 hpf12 hbx0 hbxf0 hbx1 hbxf1 hbx2 hbxf2 hbx3 hbxf3 hbx4 hbxf4 hbx5 hbxf5 hbx6 hbxf6 hpx0 hpxf0 hpx1 hpxf1 hm_0 hm_f0 hlook hb3 hv
          have hm_0 : (W3).cell? ⟨(w.heap.size + 2), 0, none⟩ = some (.map (some (w.heap.size + 1))) := (blk_cell HS3.out.map_ 0).trans rfl
          have hm_f0 := blk_frozen HS3.out.map_ 0
          have hpx0 : (W3).cell? ⟨(Bx + 1), 0, none⟩ = some (.int .i64 bk.f1) := (blk_cell HPX3.out 0).trans rfl
          have hpxf0 := blk_frozen HPX3.out 0
          have hpx1 : (W3).cell? ⟨(Bx + 1), 1, none⟩ = some (.int .i64 bk.f2) := (blk_cell HPX3.out 1).trans rfl
          have hpxf1 := blk_frozen HPX3.out 1
          obtain ⟨A3, c3, rfl⟩ := own_slice (Kd.own_of_R HV.out)
          have hfl : (wfOf l0_9 a0_0 l1 (bk.f1, bk.f2)).length ≤ 1099511627776 := (HWF.out _).2
          have hmb := fun W => run_make_row' (P := Try.prog) 63 4 (.bool false) 1 Try.underlying63 (by kernel_rfl) rfl .i64 .i64 (wfOf l0_9 a0_0 l1 (bk.f1, bk.f2)).length (by omega) (by omega) W
          have hbl5 : Below W3.heap.size W3 (((W3.alloc (.cells (madeCells #[.bool false] (wfOf l0_9 a0_0 l1 (bk.f1, bk.f2)).length) 4)).alloc (.cells #[.slice A3 (wfOf l0_9 a0_0 l1 (bk.f1, bk.f2)).length c3, .slice (some ⟨W3.heap.size, 0, none⟩) (wfOf l0_9 a0_0 l1 (bk.f1, bk.f2)).length (wfOf l0_9 a0_0 l1 (bk.f1, bk.f2)).length] 65)).drew) := by
            repeat (first | exact Below.refl _ _ | apply below_alloc | apply pw_below_drewN | apply below_drew1)
          have hb5 : (((W3.alloc (.cells (madeCells #[.bool false] (wfOf l0_9 a0_0 l1 (bk.f1, bk.f2)).length) 4)).alloc (.cells #[.slice A3 (wfOf l0_9 a0_0 l1 (bk.f1, bk.f2)).length c3, .slice (some ⟨W3.heap.size, 0, none⟩) (wfOf l0_9 a0_0 l1 (bk.f1, bk.f2)).length (wfOf l0_9 a0_0 l1 (bk.f1, bk.f2)).length] 65)).drew).heap[W3.heap.size]? = some (.cells (boolCells (List.replicate (wfOf l0_9 a0_0 l1 (bk.f1, bk.f2)).length false)) 4 (0, 0)) := by
            rw [← made_bools]; exact blk_alloc (new1 W3 _) _
          have hq5 := new2 W3 (.cells (madeCells #[.bool false] (wfOf l0_9 a0_0 l1 (bk.f1, bk.f2)).length) 4) (.cells #[.slice A3 (wfOf l0_9 a0_0 l1 (bk.f1, bk.f2)).length c3, .slice (some ⟨W3.heap.size, 0, none⟩) (wfOf l0_9 a0_0 l1 (bk.f1, bk.f2)).length (wfOf l0_9 a0_0 l1 (bk.f1, bk.f2)).length] 65)
          have HS5 := HS3.out.kept hbl5
          have hv5 : (((W3.alloc (.cells (madeCells #[.bool false] (wfOf l0_9 a0_0 l1 (bk.f1, bk.f2)).length) 4)).alloc (.cells #[.slice A3 (wfOf l0_9 a0_0 l1 (bk.f1, bk.f2)).length c3, .slice (some ⟨W3.heap.size, 0, none⟩) (wfOf l0_9 a0_0 l1 (bk.f1, bk.f2)).length (wfOf l0_9 a0_0 l1 (bk.f1, bk.f2)).length] 65)).drew).ownsRow w.heap.size 3 1 (.slice A3 (wfOf l0_9 a0_0 l1 (bk.f1, bk.f2)).length c3) (wfOf l0_9 a0_0 l1 (bk.f1, bk.f2)).length (nums .i64 (wfOf l0_9 a0_0 l1 (bk.f1, bk.f2))) := own_weaken (own_move (Kd.own_of_R HV.out) (fun j hj => by obtain ⟨cells, hc⟩ := own_typed (Kd.own_of_R HV.out) j hj; rw [hc]; exact blk_below hc hbl5)) HS2.out.below.out.size
          obtain ⟨o5, hup, hm5⟩ := update_place HS5.pools.map (bk.f1, bk.f2) (W3.heap.size + 1) (by rw [find_qs, HFD.out]; simp)
          have g3 : w.heap.size ≤ W3.heap.size := HS3.out.below.out.size
          have HS6 := Aside0.mk (HS5.added (bk.f1, bk.f2) HFD.out (W3.heap.size + 1) W3.heap.size W2.heap.size (.slice A3 (wfOf l0_9 a0_0 l1 (bk.f1, bk.f2)).length c3) (fun p hp => blk_lt (HS2.out.pools.ok p hp).2.2.1) HB3.out.size hq5 hv5 hb5 (by omega) g3 hm5)
          have HBX6 := Aside0.mk (show ((((W3.alloc (.cells (madeCells #[.bool false] (wfOf l0_9 a0_0 l1 (bk.f1, bk.f2)).length) 4)).alloc (.cells #[.slice A3 (wfOf l0_9 a0_0 l1 (bk.f1, bk.f2)).length c3, .slice (some ⟨W3.heap.size, 0, none⟩) (wfOf l0_9 a0_0 l1 (bk.f1, bk.f2)).length (wfOf l0_9 a0_0 l1 (bk.f1, bk.f2)).length] 65)).drew).putObj (w.heap.size + 1) o5).heap[Bx]? = _ from (World.putObj_heap_other (by omega)).trans (blk_below HBX3.out hbl5))
          have HG6 := Aside0.mk (show W3.heap.size ≤ ((((W3.alloc (.cells (madeCells #[.bool false] (wfOf l0_9 a0_0 l1 (bk.f1, bk.f2)).length) 4)).alloc (.cells #[.slice A3 (wfOf l0_9 a0_0 l1 (bk.f1, bk.f2)).length c3, .slice (some ⟨W3.heap.size, 0, none⟩) (wfOf l0_9 a0_0 l1 (bk.f1, bk.f2)).length (wfOf l0_9 a0_0 l1 (bk.f1, bk.f2)).length] 65)).drew).putObj (w.heap.size + 1) o5).heap.size by simp; omega)
          have HPX6 : (((W3.alloc (.cells (madeCells #[.bool false] (wfOf l0_9 a0_0 l1 (bk.f1, bk.f2)).length) 4)).alloc (.cells #[.slice A3 (wfOf l0_9 a0_0 l1 (bk.f1, bk.f2)).length c3, .slice (some ⟨W3.heap.size, 0, none⟩) (wfOf l0_9 a0_0 l1 (bk.f1, bk.f2)).length (wfOf l0_9 a0_0 l1 (bk.f1, bk.f2)).length] 65)).drew.putObj (w.heap.size + 1) o5).heap[Bx + 1]? = _ := (World.putObj_heap_other (by omega)).trans (blk_below HPX3.out hbl5)
          have HSP := Aside0.mk (And.intro ((blk_cell HS6.out.map_ 0).trans rfl) (And.intro ((blk_cell HPX6 0).trans rfl) ((blk_cell HPX6 1).trans rfl)) : (((W3.alloc (.cells (madeCells #[.bool false] (wfOf l0_9 a0_0 l1 (bk.f1, bk.f2)).length) 4)).alloc (.cells #[.slice A3 (wfOf l0_9 a0_0 l1 (bk.f1, bk.f2)).length c3, .slice (some ⟨W3.heap.size, 0, none⟩) (wfOf l0_9 a0_0 l1 (bk.f1, bk.f2)).length (wfOf l0_9 a0_0 l1 (bk.f1, bk.f2)).length] 65)).drew.putObj (w.heap.size + 1) o5).cell? ⟨w.heap.size + 1 + 1, 0, none⟩ = some (.map (some (w.heap.size + 1))) ∧ (((W3.alloc (.cells (madeCells #[.bool false] (wfOf l0_9 a0_0 l1 (bk.f1, bk.f2)).length) 4)).alloc (.cells #[.slice A3 (wfOf l0_9 a0_0 l1 (bk.f1, bk.f2)).length c3, .slice (some ⟨W3.heap.size, 0, none⟩) (wfOf l0_9 a0_0 l1 (bk.f1, bk.f2)).length (wfOf l0_9 a0_0 l1 (bk.f1, bk.f2)).length] 65)).drew.putObj (w.heap.size + 1) o5).cell? ⟨Bx + 1, 0, none⟩ = some (.int .i64 bk.f1) ∧ (((W3.alloc (.cells (madeCells #[.bool false] (wfOf l0_9 a0_0 l1 (bk.f1, bk.f2)).length) 4)).alloc (.cells #[.slice A3 (wfOf l0_9 a0_0 l1 (bk.f1, bk.f2)).length c3, .slice (some ⟨W3.heap.size, 0, none⟩) (wfOf l0_9 a0_0 l1 (bk.f1, bk.f2)).length (wfOf l0_9 a0_0 l1 (bk.f1, bk.f2)).length] 65)).drew.putObj (w.heap.size + 1) o5).cell? ⟨Bx + 1, 1, none⟩ = some (.int .i64 bk.f2))
          clear HPX6
          simp only [keyV, ptrV] at hup
          clear hbl5 hb5 hq5 HS5 hv5 hm5
          go_upto_region 9 with (fail)
          go_region_held3 (fun w' => w'.cell? ⟨w.heap.size + 1 + 1, 0, none⟩ = some (.map (some (w.heap.size + 1))) ∧ w'.cell? ⟨Bx + 1, 0, none⟩ = some (.int .i64 bk.f1) ∧ w'.cell? ⟨Bx + 1, 1, none⟩ = some (.int .i64 bk.f2)) (first | exact HSP.out | go_keep) (fail)
          go_wp2_with fail
          go_meet
          case rel =>
            refine ⟨ps ++ [⟨(bk.f1, bk.f2), W3.heap.size + 1, W3.heap.size, .slice A3 (wfOf l0_9 a0_0 l1 (bk.f1, bk.f2)).length c3, List.replicate (wfOf l0_9 a0_0 l1 (bk.f1, bk.f2)).length false⟩], HS6, ⟨?_⟩, ⟨fun k2 h => find_app _ _ _ h⟩, HBX6, ⟨blk_lt HS6.out.lines_⟩, ⟨blk_lt HBX6.out⟩⟩
            unfold addKey
            rw [find_marks, HFD.out]
            simp [marks]
      case rest =>
        clear hm_0 hm_f0 hpx0 hpxf0 hpx1 hpxf1 hlook hq HS2 HBX HPX HAQ HWH
        obtain ⟨ps', HS4, HMK4, HKY4, HBX4, HG4, HGx4⟩ := hcut
        have hp0 : (wc).cell? ⟨w.heap.size, 0, none⟩ = some (.int .i64 a0_0) := (blk_cell HS4.out.plan_ 0).trans rfl
        have hpf0 := blk_frozen HS4.out.plan_ 0
        have hp1 : (wc).cell? ⟨w.heap.size, 1, none⟩ = some (.int .i64 a0_1) := (blk_cell HS4.out.plan_ 1).trans rfl
        have hpf1 := blk_frozen HS4.out.plan_ 1
        have hp2 : (wc).cell? ⟨w.heap.size, 2, none⟩ = some (.int .i64 a0_2) := (blk_cell HS4.out.plan_ 2).trans rfl
        have hpf2 := blk_frozen HS4.out.plan_ 2
        have hp3 : (wc).cell? ⟨w.heap.size, 3, none⟩ = some (.int .i64 a0_3) := (blk_cell HS4.out.plan_ 3).trans rfl
        have hpf3 := blk_frozen HS4.out.plan_ 3
        have hp4 : (wc).cell? ⟨w.heap.size, 4, none⟩ = some (.slice A0_4 l0_4.length c0_4) := (blk_cell HS4.out.plan_ 4).trans rfl
        have hpf4 := blk_frozen HS4.out.plan_ 4
        have hp5 : (wc).cell? ⟨w.heap.size, 5, none⟩ = some (.int .i64 a0_5) := (blk_cell HS4.out.plan_ 5).trans rfl
        have hpf5 := blk_frozen HS4.out.plan_ 5
        have hp6 : (wc).cell? ⟨w.heap.size, 6, none⟩ = some (.int .i64 a0_6) := (blk_cell HS4.out.plan_ 6).trans rfl
        have hpf6 := blk_frozen HS4.out.plan_ 6
        have hp7 : (wc).cell? ⟨w.heap.size, 7, none⟩ = some (.int .i64 a0_7) := (blk_cell HS4.out.plan_ 7).trans rfl
        have hpf7 := blk_frozen HS4.out.plan_ 7
        have hp8 : (wc).cell? ⟨w.heap.size, 8, none⟩ = some (.int .i64 a0_8) := (blk_cell HS4.out.plan_ 8).trans rfl
        have hpf8 := blk_frozen HS4.out.plan_ 8
        have hp9 : (wc).cell? ⟨w.heap.size, 9, none⟩ = some (.slice A0_9 l0_9.length c0_9) := (blk_cell HS4.out.plan_ 9).trans rfl
        have hpf9 := blk_frozen HS4.out.plan_ 9
        have hp10 : (wc).cell? ⟨w.heap.size, 10, none⟩ = some (.slice A0_10 l0_10.length c0_10) := (blk_cell HS4.out.plan_ 10).trans rfl
        have hpf10 := blk_frozen HS4.out.plan_ 10
        have hp11 : (wc).cell? ⟨w.heap.size, 11, none⟩ = some (.slice (some ad) l0_11.length c0_11) := (blk_cell HS4.out.plan_ 11).trans rfl
        have hpf11 := blk_frozen HS4.out.plan_ 11
        have hp12 : (wc).cell? ⟨w.heap.size, 12, none⟩ = some (.slice A0_12 l0_12.length c0_12) := (blk_cell HS4.out.plan_ 12).trans rfl
        have hpf12 := blk_frozen HS4.out.plan_ 12
        have hbx0 : (wc).cell? ⟨Bx, 0, none⟩ = some (.int .i64 bk.f0) := (blk_cell HBX4.out 0).trans rfl
        have hbxf0 := blk_frozen HBX4.out 0
        have hbx1 : (wc).cell? ⟨Bx, 1, none⟩ = some (.int .i64 bk.f1) := (blk_cell HBX4.out 1).trans rfl
        have hbxf1 := blk_frozen HBX4.out 1
        have hbx2 : (wc).cell? ⟨Bx, 2, none⟩ = some (.int .i64 bk.f2) := (blk_cell HBX4.out 2).trans rfl
        have hbxf2 := blk_frozen HBX4.out 2
        have hbx3 : (wc).cell? ⟨Bx, 3, none⟩ = some (.int .i64 bk.f3) := (blk_cell HBX4.out 3).trans rfl
        have hbxf3 := blk_frozen HBX4.out 3
        have hbx4 : (wc).cell? ⟨Bx, 4, none⟩ = some (.int .i64 bk.f4) := (blk_cell HBX4.out 4).trans rfl
        have hbxf4 := blk_frozen HBX4.out 4
        have hbx5 : (wc).cell? ⟨Bx, 5, none⟩ = some (.int .i64 bk.f5) := (blk_cell HBX4.out 5).trans rfl
        have hbxf5 := blk_frozen HBX4.out 5
        have hbx6 : (wc).cell? ⟨Bx, 6, none⟩ = some (.int .i64 bk.f6) := (blk_cell HBX4.out 6).trans rfl
        have hbxf6 := blk_frozen HBX4.out 6
        have hl0 : (wc).cell? ⟨Bl, 0, none⟩ = some (.slice (some ⟨gl, 0, none⟩) ls.length cap) := (blk_cell HS4.out.lines_ 0).trans rfl
        have hlf0 := blk_frozen HS4.out.lines_ 0
        have gB := HGx4.out
        have gL := HG4.out
        have gw := blk_lt HS4.out.plan_
        go_wp2_with fail
        refine (HI.out _ (below_alloc HS4.out.below.out _) bk).mono ?_
        rintro e Wp ⟨rfl, hbp⟩
        have HS5 := Aside0.mk (HS4.out.kept (below_then (below_alloc (Below.refl _ _) (.cells #[.int .i64 bk.f0, .int .i64 1, .int .i64 (-1), .int .i64 0] 49)) (by simp) hbp))
        have HS5s := Aside0.mk (HS4.out.kept (below_set (g := wc.heap.size) (j := 1) (v := .int .i64 4) (below_then (below_alloc (Below.refl _ _) (.cells #[.int .i64 bk.f0, .int .i64 1, .int .i64 (-1), .int .i64 0] 49)) (by simp) hbp) (Nat.le_refl _)))
        have HLB := Aside0.mk (blk_below (new1 wc (.cells #[.int .i64 bk.f0, .int .i64 1, .int .i64 (-1), .int .i64 0] 49)) hbp)
        obtain ⟨Bn, hBn⟩ : ∃ B, B = wc.heap.size := ⟨_, rfl⟩
        rw [← hBn] at HLB gL HS5s ⊢
        clear hBn hbp HS4 HBX4 HG4 HGx4 hp0 hpf0 hp1 hpf1 hp2 hpf2 hp3 hpf3 hp4 hpf4 hp5 hpf5 hp6 hpf6 hp7 hpf7 hp8 hpf8 hp9 hpf9 hp10 hpf10 hp11 hpf11 hp12 hpf12 hbx0 hbxf0 hbx1 hbxf1 hbx2 hbxf2 hbx3 hbxf3 hbx4 hbxf4 hbx5 hbxf5 hbx6 hbxf6 hl0 hlf0 gB gw
        obtain ⟨pb, hpb⟩ : ∃ b, b = passedB l0_9 bk a2 := ⟨_, rfl⟩
        rw [← hpb]
        have HPB := Aside0.mk hpb
        clear hpb
        go_upto_if 57 with (fail)
        go_cut [] (fun wd => Aside0 (ServeAt wd w w.heap.size Bl (w.heap.size + 2) (w.heap.size + 1) gl ls.length cap #[.int .i64 a0_0, .int .i64 a0_1, .int .i64 a0_2, .int .i64 a0_3, .slice A0_4 l0_4.length c0_4, .int .i64 a0_5, .int .i64 a0_6, .int .i64 a0_7, .int .i64 a0_8, .slice A0_9 l0_9.length c0_9, .slice A0_10 l0_10.length c0_10, .slice (some ad) l0_11.length c0_11, .slice A0_12 l0_12.length c0_12] (wfOf l0_9 a0_0 l1) ls ps') ∧ Aside0 (wd.heap[Bn]? = some (.cells #[.int .i64 bk.f0, .int .i64 (if pb then 4 else 1), .int .i64 (-1), .int .i64 0] 49 (0, 0))) ∧ Aside0 (Bl < Bn))
        case first =>
          --F<
          have hn0 : (Wp).cell? ⟨Bn, 0, none⟩ = some (.int .i64 bk.f0) := (blk_cell HLB.out 0).trans rfl
          have hnf0 := blk_frozen HLB.out 0
          have hn1 : (Wp).cell? ⟨Bn, 1, none⟩ = some (.int .i64 1) := (blk_cell HLB.out 1).trans rfl
          have hnf1 := blk_frozen HLB.out 1
          have hn2 : (Wp).cell? ⟨Bn, 2, none⟩ = some (.int .i64 (-1)) := (blk_cell HLB.out 2).trans rfl
          have hnf2 := blk_frozen HLB.out 2
          have hn3 : (Wp).cell? ⟨Bn, 3, none⟩ = some (.int .i64 0) := (blk_cell HLB.out 3).trans rfl
          have hnf3 := blk_frozen HLB.out 3
          cases pb with
          | true =>
            go_wp2_with fail
            go_meet
            case rel => exact ⟨HS5s, ⟨blk_put HLB.out 1 (.int .i64 4) rfl⟩, ⟨gL⟩⟩
          | false =>
            go_wp2_with fail
            go_meet
            case rel => exact ⟨HS5, HLB, ⟨gL⟩⟩
        case rest =>
          clear HS5 HLB gL HS5s
          obtain ⟨HS6, HLN, HGL⟩ := hcut
          have hn0 : (wc).cell? ⟨Bn, 0, none⟩ = some (.int .i64 bk.f0) := (blk_cell HLN.out 0).trans rfl
          have hnf0 := blk_frozen HLN.out 0
          have hn1 : (wc).cell? ⟨Bn, 1, none⟩ = some (.int .i64 (if pb then 4 else 1)) := (blk_cell HLN.out 1).trans rfl
          have hnf1 := blk_frozen HLN.out 1
          have hn2 : (wc).cell? ⟨Bn, 2, none⟩ = some (.int .i64 (-1)) := (blk_cell HLN.out 2).trans rfl
          have hnf2 := blk_frozen HLN.out 2
          have hn3 : (wc).cell? ⟨Bn, 3, none⟩ = some (.int .i64 0) := (blk_cell HLN.out 3).trans rfl
          have hnf3 := blk_frozen HLN.out 3
          have hl0 : (wc).cell? ⟨Bl, 0, none⟩ = some (.slice (some ⟨gl, 0, none⟩) ls.length cap) := (blk_cell HS6.out.lines_ 0).trans rfl
          have hlf0 := blk_frozen HS6.out.lines_ 0
          generalize hst : (if pb then (4 : Int) else 1) = st at *
          have HST := Aside0.mk hst
          clear hst
          have gB := HGL.out
          have gN := blk_lt HLN.out
          have gL := blk_lt HS6.out.lines_
          have gl0 : ls.length ≤ 1099511627776 := by
            have := HS6.out.keys
            have hh := HLS.out
            rw [hh, List.length_map, List.length_take]; omega
          have HRW := Aside0.mk HS6.out.row
          have HBW := Aside0.mk HS6.out.below.out
          have hns : w.heap.size ≤ Bl := by omega
          go_wp2_with (first | ((with_reducible refine gate_builtin (b := .append) (xs := #[.tmp 59, .tmp 61]) rfl ?_); at_builtin; refine Kd.R_append k49 (w0 := w) w.heap.size rfl (.tmp 59) (.tmp 61) 38 49 (.agg #[(.int .i64 0), (.int .i64 0), (.int .i64 0), (.int .i64 0)]) 32 rfl Try.underlying38 info49 rfl (by decide) (by omega) (.slice (some ⟨gl, 0, none⟩) ls.length cap) ls (⟨bk.f0, st, -1, 0⟩ : S49) [.int .i64 bk.f0, .int .i64 st, .int .i64 (-1), .int .i64 0] (fun _ => True) (fun _ => False) rfl rfl (k49_mkM _ _ _ _) (fun _ hk => hk.elim) (fun _ _ => trivial) HRW.out HBW.out HBW.out.size (by omega) ?_; intro v1 w9 ho hb hg hat; obtain ⟨gl2, cap2, ev, hl9, hS7⟩ := HS6.out.pushed _ v1 ho hb hg hns; subst ev; have HS7 := Aside0.mk hS7; have hc9 : w9.cell? ⟨Bl, 0, none⟩ = some (.slice (some ⟨gl, 0, none⟩) ls.length cap) := (blk_cell hl9 0).trans rfl; have hf9 := blk_frozen hl9 0; clear hS7 ho hb hg hat hl9 HS6 HRW HBW hn0 hnf0 hn1 hnf1 hn2 hnf2 hn3 hnf3 hl0 hlf0))
          go_roundg d
          case measure => omega
          case rel =>
            have hi : k.toNat < l0_11.length := by omega
            have hel : l0_11[k.toNat] = bk := by
              rw [← HBKE.out]
              simp [rd_T59, List.getD_eq_getElem?_getD, hi]
            have hkn : (k + 1).toNat = k.toNat + 1 := by omega
            refine ⟨k + 1, gl2, cap2, ls ++ [⟨bk.f0, st, -1, 0⟩], ps', rfl, ⟨by omega⟩, ⟨by omega⟩, ⟨by rw [List.length_append]; exact HS7.out⟩, ⟨?_⟩, ⟨?_⟩, ⟨?_⟩, ⟨blk_lt HS7.out.lines_⟩⟩
            · rw [hkn, List.take_succ_eq_append_getElem hi, List.map_append, ← HLS.out, hel]
              simp only [List.map_cons, List.map_nil, line0, ← HPB.out, HST.out]
            · rw [hkn, marks0_snoc _ _ _ hi, hel, ← HMK.out]; exact HMK4.out
            · intro b hb
              rw [hkn, List.take_succ_eq_append_getElem hi] at hb
              rcases List.mem_append.1 hb with hb | hb
              · exact HKY4.out _ (.inl (HKY.out b hb))
              · obtain rfl := List.mem_singleton.1 hb
                exact HKY4.out _ (.inr (by rw [hel]))

theorem billing_Invoice.calls (a0_0 : Int) (a0_1 : Int) (a0_2 : Int) (a0_3 : Int) (A0_4 : Option Addr) (c0_4 : Nat) (l0_4 : List (S96)) (a0_5 : Int) (a0_6 : Int) (a0_7 : Int) (a0_8 : Int) (A0_9 : Option Addr) (c0_9 : Nat) (l0_9 : List (S45)) (A0_10 : Option Addr) (c0_10 : Nat) (l0_10 : List (S78)) (A0_11 : Option Addr) (c0_11 : Nat) (l0_11 : List (S59)) (A0_12 : Option Addr) (c0_12 : Nat) (l0_12 : List (S82)) (A1 : Option Addr) (c1 : Nat) (l1 : List (S43)) (a2 : Int) (r : List (S49)) (w : World) (hr0_4 : Kd.C k96 w A0_4 l0_4.length l0_4) (hc0_4 : l0_4.length ≤ c0_4) (hr0_9 : Kd.C k45 w A0_9 l0_9.length l0_9) (hc0_9 : l0_9.length ≤ c0_9) (hr0_10 : Kd.C k78 w A0_10 l0_10.length l0_10) (hc0_10 : l0_10.length ≤ c0_10) (hr0_11 : Kd.C k59 w A0_11 l0_11.length l0_11) (hc0_11 : l0_11.length ≤ c0_11) (hr0_12 : Kd.C k82 w A0_12 l0_12.length l0_12) (hc0_12 : l0_12.length ≤ c0_12) (hr1 : Kd.C k43 w A1 l1.length l1) (hc1 : l1.length ≤ c1) (h : billing_Invoice.f a0_0 a0_1 a0_2 a0_3 l0_4 a0_5 a0_6 a0_7 a0_8 l0_9 l0_10 l0_11 l0_12 l1 a2 = some r) :
    Calls Try.prog 9 #[.agg #[.int .i64 a0_0, .int .i64 a0_1, .int .i64 a0_2, .int .i64 a0_3, .slice A0_4 l0_4.length c0_4, .int .i64 a0_5, .int .i64 a0_6, .int .i64 a0_7, .int .i64 a0_8, .slice A0_9 l0_9.length c0_9, .slice A0_10 l0_10.length c0_10, .slice A0_11 l0_11.length c0_11, .slice A0_12 l0_12.length c0_12], .slice A1 l1.length c1, .int .i64 a2] w fun e w' => ∃ v0_ : Value, e = .returned v0_ ∧ Kd.R k49 49 w' w.heap.size (fun _ => True) v0_ r ∧ Below w.heap.size w w' := by
  unfold billing_Invoice.f at h
  split at h
  · rename_i hl
    injection h with h
    subst h
    exact invoice_walk a0_0 a0_1 a0_2 a0_3 A0_4 c0_4 l0_4 a0_5 a0_6 a0_7 a0_8 A0_9 c0_9 l0_9 A0_10 c0_10 l0_10 A0_11 c0_11 l0_11 A0_12 c0_12 l0_12 A1 c1 l1 a2 w hr0_4 hc0_4 hr0_9 hc0_9 hr0_10 hc0_10 hr0_11 hc0_11 hr0_12 hc0_12 hr1 hc1 hl.1 hl.2
  · cases h
end Go.Proofs.Ytpdbhaoppdgmeaa.Pr
