/- The map from places to pools that billing.Invoice makes: what a lookup and a first store of a key do. -/
import Derived.Test.YtpdbhaoppdgmeaaHSup
import Derived.Test.YtpdbhaoppdgmeaaPr0
namespace Go.Proofs.Ytpdbhaoppdgmeaa.Pr
open Go.RowKit Go.Proofs.Ytpdbhaoppdgmeaa.Sup Go.Proofs.YtpdbhaoppdgmeaaW.PrintWords Go.Proofs.YtpdbhaoppdgmeaaW.PrintLast Go.Proofs.YtpdbhaoppdgmeaaW.PrintMore
set_option linter.unusedVariables false
set_option linter.unusedSimpArgs false

theorem eqA61 (d : Nat) (w : World) (x0 y0 : Int) (x1 y1 : Int) :
    (Op.equalIn (d + 2) 61 (.agg #[.int .i64 x0, .int .i64 x1]) (.agg #[.int .i64 y0, .int .i64 y1])).run Try.prog w = .ok (x0 == y0 && (x1 == y1)) w := by
  refine eqA_of Try.underlying61 (by kernel_rfl) ?_
  refine eqf_cons (by rfl) (by go_simp; rfl) (by go_simp; rfl) (by go_simp) ?_
  exact eqf_last (by rfl) (by go_simp; rfl) (by go_simp; rfl) (by go_simp)

def keyV (k : Int × Int) : Value := .agg #[.int .i64 k.1, .int .i64 k.2]
def ptrV (q : Nat) : Value := .pointer (some ⟨q, 0, none⟩)
def MapAt (W : World) (B : Nat) (ps : List ((Int × Int) × Nat)) : Prop :=
  ∃ es clock, W.heap[B]? = some (.map es clock) ∧ es.toList.map (fun e => (e.key, e.val)) = ps.map (fun p => (keyV p.1, ptrV p.2))
def lookV (ps : List ((Int × Int) × Nat)) (k : Int × Int) : Value := match ps.find? (fun p => p.1 == k) with | some p => ptrV p.2 | none => .pointer none

theorem checkKey_place (em : Bool) (a b : Int) (w : World) : (Instr.checkKey em 10000 61 (.agg #[.int .i64 a, .int .i64 b])).run Try.prog w = .ok () w := by kernel_rfl

theorem equal_place (k k' : Int × Int) (w : World) : (Op.equal 61 (keyV k) (keyV k')).run Try.prog w = .ok (k == k') w := by
  have h := eqA61 9998 w k.1 k'.1 k.2 k'.2
  have e : (k == k') = (k.1 == k'.1 && (k.2 == k'.2)) := by obtain ⟨a, b⟩ := k; obtain ⟨c, d⟩ := k'; rfl
  rw [e]; exact h

theorem findAsking_place (k : Int × Int) (w : World) : ∀ (es : List MapEntry) (ps : List ((Int × Int) × Nat)) (i : Nat), es.map (fun e => (e.key, e.val)) = ps.map (fun p => (keyV p.1, ptrV p.2)) →
    ∃ r, (Instr.findAsking 61 (keyV k) es i).run Try.prog w = .ok r w ∧ (match ps.find? (fun p => p.1 == k) with | some p => ∃ j, r = some (j, ptrV p.2) | none => r = none)
  | [], ps, i, h => by
    cases ps with
    | cons _ _ => simp at h
    | nil => exact ⟨none, by simp [Instr.findAsking, Sem.run_pure], by simp⟩
  | e :: es, ps, i, h => by
    cases ps with
    | nil => simp at h
    | cons p ps =>
      simp only [List.map_cons, List.cons.injEq, Prod.mk.injEq] at h
      obtain ⟨⟨h1, h2⟩, h3⟩ := h
      obtain ⟨r, hr, hm⟩ := findAsking_place k w es ps (i + 1) h3
      have heq := equal_place k p.1 w
      by_cases hk : p.1 = k
      · have hkb : (p.1 == k) = true := by simpa using hk
        have hkb' : (k == p.1) = true := by simpa using hk.symm
        rw [hkb'] at heq
        refine ⟨some (i, e.val), by simp [Instr.findAsking, Sem.run_bind, h1, heq, Result.andThen, Sem.run_pure], ?_⟩
        simp [List.find?_cons, hkb, h2]
      · have hkb : (p.1 == k) = false := by simpa using hk
        have hkb' : (k == p.1) = false := by simpa using fun e => hk e.symm
        rw [hkb'] at heq
        refine ⟨r, by simp [Instr.findAsking, Sem.run_bind, h1, heq, Result.andThen, hr], ?_⟩
        simp [List.find?_cons, hkb, hm]

theorem findKey_place (k : Int × Int) (w : World) (es : List MapEntry) (ps : List ((Int × Int) × Nat)) (h : es.map (fun e => (e.key, e.val)) = ps.map (fun p => (keyV p.1, ptrV p.2))) :
    ∃ r, (Instr.findKey 61 (keyV k) es).run Try.prog w = .ok r w ∧ (match ps.find? (fun p => p.1 == k) with | some p => ∃ j, r = some (j, ptrV p.2) | none => r = none) := by
  obtain ⟨r, hr, hm⟩ := findAsking_place k w es ps 0 h
  cases es with
  | nil =>
    cases ps with
    | cons _ _ => simp at h
    | nil => exact ⟨none, by simp [Instr.findKey, Sem.run_bind, run_underlying Try.underlying61, Result.andThen, Instr.findNow, Sem.run_pure], by simp⟩
  | cons e es =>
    refine ⟨r, ?_, hm⟩
    rw [← hr]
    simp [Instr.findKey, Sem.run_bind, run_underlying Try.underlying61, Result.andThen, Instr.findNow, Instr.sameNow]

theorem getObj_map {W : World} {B : Nat} {es : Array MapEntry} {clock : Nat} (h : W.heap[B]? = some (.map es clock)) : (getObj B).run Try.prog W = .ok (.map es clock) W := by simp [getObj, Sem.run, h]

theorem lookup_place {W : World} {B : Nat} {ps : List ((Int × Int) × Nat)} (h : MapAt W B ps) (k : Int × Int) : (Instr.lookup 57 (.map (some B)) (keyV k) false).run Try.prog W = .ok (lookV ps k) W := by
  obtain ⟨es, clock, hb, hm⟩ := h
  obtain ⟨r, hr, hf⟩ := findKey_place k W es.toList ps hm
  have hc := checkKey_place es.isEmpty k.1 k.2 W
  have hz : (zeroValue 62).run Try.prog W = .ok (.pointer none) W := by kernel_rfl
  unfold lookV
  cases hp : ps.find? (fun p => p.1 == k) with
  | none =>
    rw [hp] at hf
    subst hf
    simp [Instr.lookup, Sem.run_bind, run_underlying Try.underlying57, Result.andThen, getObj_map hb, keyV] at hc hr ⊢
    simp [hc, hr, hz, Result.andThen, Sem.run_bind, Sem.run_pure]
  | some p =>
    rw [hp] at hf
    obtain ⟨j, rfl⟩ := hf
    simp [Instr.lookup, Sem.run_bind, run_underlying Try.underlying57, Result.andThen, getObj_map hb, keyV] at hc hr ⊢
    simp [hc, hr, Result.andThen, Sem.run_bind, Sem.run_pure]

theorem update_place {W : World} {B : Nat} {ps : List ((Int × Int) × Nat)} (h : MapAt W B ps) (k : Int × Int) (q : Nat) (hno : ps.find? (fun p => p.1 == k) = none) :
    ∃ o, (Instr.mapUpdate 57 (.map (some B)) (keyV k) (ptrV q)).run Try.prog W = .ok () (W.putObj B o) ∧ MapAt (W.putObj B o) B (ps ++ [(k, q)]) := by
  obtain ⟨es, clock, hb, hm⟩ := h
  obtain ⟨r, hr, hf⟩ := findKey_place k W es.toList ps hm
  have hc := checkKey_place false k.1 k.2 W
  rw [hno] at hf
  subst hf
  have hset : (setObj B (.map (es.push { key := keyV k, val := ptrV q, born := clock }) (clock + 1))).run Try.prog W = .ok () (W.putObj B (.map (es.push { key := keyV k, val := ptrV q, born := clock }) (clock + 1))) := by simp [setObj, Sem.run, hb, World.putObj]
  refine ⟨.map (es.push { key := keyV k, val := ptrV q, born := clock }) (clock + 1), ?_, _, _, World.putObj_heap_same (blk_lt hb), by simp [hm]⟩
  simp [Instr.mapUpdate, Sem.run_bind, run_underlying Try.underlying57, Result.andThen, getObj_map hb, keyV] at hc hr hset ⊢
  simp [hc, hr, hset, Result.andThen, Sem.run_bind]
end Go.Proofs.Ytpdbhaoppdgmeaa.Pr
