/- The pools of billing.Invoice in memory: a map from places to pools, each pool's airings and marks; what keeps them, what take does to them. -/
import Derived.Test.YtpdbhaoppdgmeaaHMap
import Derived.Test.YtpdbhaoppdgmeaaHTake
namespace Go.Proofs.Ytpdbhaoppdgmeaa.Pr
open Go.RowKit Go.Proofs.Ytpdbhaoppdgmeaa.Sup Go.Proofs.YtpdbhaoppdgmeaaW.PrintWords Go.Proofs.YtpdbhaoppdgmeaaW.PrintLast Go.Proofs.YtpdbhaoppdgmeaaW.PrintMore
set_option linter.unusedVariables false

/-- All blocks whose object is of the kind stay as they are. -/
def Keeps (sel : Obj → Bool) (W W' : World) : Prop := W.heap.size ≤ W'.heap.size ∧ ∀ (b : Nat) (o : Obj), W.heap[b]? = some o → sel o = true → W'.heap[b]? = some o
theorem Keeps.refl (sel : Obj → Bool) (W : World) : Keeps sel W W := ⟨Nat.le_refl _, fun _ _ h _ => h⟩
theorem Keeps.trans {sel : Obj → Bool} {A B C : World} (h : Keeps sel A B) (k : Keeps sel B C) : Keeps sel A C := ⟨Nat.le_trans h.1 k.1, fun b o hb ho => k.2 b o (h.2 b o hb ho) ho⟩
theorem Keeps.below {sel : Obj → Bool} {A B C : World} (h : Keeps sel A B) (k : Below B.heap.size B C) : Keeps sel A C := h.trans ⟨k.size, fun b o hb _ => blk_below hb k⟩
theorem Keeps.alloc {sel : Obj → Bool} {A B : World} (h : Keeps sel A B) (o : Obj) : Keeps sel A (B.alloc o) := h.trans ⟨by simp, fun b _ hb _ => blk_alloc hb o⟩
theorem Keeps.grown {sel : Obj → Bool} {A B C : World} (h : Keeps sel A B) {row : Option Nat} (hg : B.grownBy C row) (hr : ∀ (k : Nat) (o : Obj), row = some k → B.heap[k]? = some o → sel o = false) : Keeps sel A C :=
  h.trans ⟨hg.size, fun b o hb ho => (hg.block b (blk_lt hb) (fun e => by have := hr b o e.symm hb; rw [this] at ho; cases ho)).trans hb⟩

def selPool : Obj → Bool
  | .map .. => true
  | .cells _ t _ => t == 65 || t == 3 || t == 4
  | _ => false
def selRest : Obj → Bool
  | .cells _ t _ => t != 4
  | _ => true

structure PE where
  key : Int × Int
  q : Nat
  gu : Nat
  v : Value
  used : List Bool

def PoolOk (W : World) (base : Nat) (wf : Int × Int → List Int) (p : PE) : Prop :=
  W.heap[p.q]? = some (.cells #[p.v, .slice (some ⟨p.gu, 0, none⟩) (wf p.key).length (wf p.key).length] 65 (0, 0)) ∧ W.ownsRow base 3 1 p.v (wf p.key).length (nums .i64 (wf p.key)) ∧
    W.heap[p.gu]? = some (.cells (boolCells p.used) 4 (0, 0)) ∧ p.used.length = (wf p.key).length ∧ base ≤ p.q ∧ base ≤ p.gu
theorem PoolOk.kept {W W' : World} {base : Nat} {wf : Int × Int → List Int} {p : PE} (h : PoolOk W base wf p) (k : Keeps selPool W W') : PoolOk W' base wf p :=
  ⟨k.2 _ _ h.1 (by simp [selPool]), own_move h.2.1 (fun j hj => by
    obtain ⟨cells, hc⟩ := own_typed h.2.1 j hj
    rw [hc]; exact k.2 _ _ hc (by simp [selPool])), k.2 _ _ h.2.2.1 (by simp [selPool]), h.2.2.2⟩

structure PoolsAt (W : World) (base mb : Nat) (wf : Int × Int → List Int) (ps : List PE) : Prop where
  map : MapAt W mb (ps.map fun p => (p.key, p.q))
  ok : ∀ p ∈ ps, PoolOk W base wf p
  apart : ps.Pairwise (fun a b => a.gu ≠ b.gu ∧ a.key ≠ b.key)
  base_ : base ≤ mb
theorem MapAt.kept {W W' : World} {mb : Nat} {l : List ((Int × Int) × Nat)} (h : MapAt W mb l) (k : Keeps selPool W W') : MapAt W' mb l := by
  obtain ⟨es, clock, hb, hm⟩ := h
  exact ⟨es, clock, k.2 _ _ hb rfl, hm⟩
theorem PoolsAt.kept {W W' : World} {base mb : Nat} {wf : Int × Int → List Int} {ps : List PE} (h : PoolsAt W base mb wf ps) (k : Keeps selPool W W') : PoolsAt W' base mb wf ps :=
  ⟨h.map.kept k, fun p hp => (h.ok p hp).kept k, h.apart, h.base_⟩

/-- What the pools are to the pure law: their keys and marks. -/
def marks (ps : List PE) : List ((Int × Int) × List Bool) := ps.map fun p => (p.key, p.used)
def setMark (us : List ((Int × Int) × List Bool)) (key : Int × Int) (u : List Bool) : List ((Int × Int) × List Bool) := us.map fun p => if p.1 = key then (p.1, u) else p
def setPE (ps : List PE) (key : Int × Int) (u : List Bool) : List PE := ps.map fun p => if p.key = key then { p with used := u } else p
theorem marks_set (ps : List PE) (key : Int × Int) (u : List Bool) : marks (setPE ps key u) = setMark (marks ps) key u := by
  unfold marks setPE setMark
  rw [List.map_map, List.map_map]
  refine List.map_congr_left (fun p _ => ?_)
  by_cases h : p.key = key <;> simp [h]

theorem find_marks (ps : List PE) (key : Int × Int) : (marks ps).find? (fun p => p.1 == key) = (ps.find? (fun p => p.key == key)).map (fun p => (p.key, p.used)) := by
  unfold marks; rw [List.find?_map]; rfl
theorem find_qs (ps : List PE) (key : Int × Int) : (ps.map fun p => (p.key, p.q)).find? (fun p => p.1 == key) = (ps.find? (fun p => p.key == key)).map (fun p => (p.key, p.q)) := by
  rw [List.find?_map]; rfl
theorem look_some (ps : List PE) (key : Int × Int) (p : PE) (h : ps.find? (fun p => p.key == key) = some p) : lookV (ps.map fun p => (p.key, p.q)) key = ptrV p.q := by
  unfold lookV; rw [find_qs, h]; rfl
theorem look_none (ps : List PE) (key : Int × Int) (h : ps.find? (fun p => p.key == key) = none) : lookV (ps.map fun p => (p.key, p.q)) key = .pointer none := by
  unfold lookV; rw [find_qs, h]; rfl

/-- One pool's marks turn: the others stay. -/
theorem PoolsAt.marked {W W' : World} {base mb : Nat} {wf : Int × Int → List Int} {ps : List PE} (h : PoolsAt W base mb wf ps) (p : PE) (hp : ps.find? (fun x => x.key == p.key) = some p) (u : List Bool) (hu : u.length = p.used.length)
    (hg : W.grownBy W' (some p.gu)) (hb : W'.heap[p.gu]? = some (.cells (boolCells u) 4 (0, 0))) : PoolsAt W' base mb wf (setPE ps p.key u) ∧ Keeps selRest W W' := by
  have hmem : p ∈ ps := List.mem_of_find?_eq_some hp
  have hpo := h.ok p hmem
  have hk : Keeps selRest W W' := (Keeps.refl _ W).grown hg (fun k o e ho => by cases e; rw [hpo.2.2.1] at ho; cases ho; simp [selRest])
  have other : ∀ x ∈ ps, x.key ≠ p.key → x.gu ≠ p.gu := by
    intro x hx hne
    obtain ⟨i, hi, rfl⟩ := List.getElem_of_mem hx
    obtain ⟨j, hj, e⟩ := List.getElem_of_mem hmem
    rw [← e] at hne ⊢
    rcases Nat.lt_trichotomy i j with hlt | heq | hgt
    · exact (List.pairwise_iff_getElem.1 h.apart i j hi hj hlt).1
    · subst heq; exact absurd rfl hne
    · exact fun e' => (List.pairwise_iff_getElem.1 h.apart j i hj hi hgt).1 e'.symm
  refine ⟨⟨?_, ?_, ?_, h.base_⟩, hk⟩
  · have : (setPE ps p.key u).map (fun p => (p.key, p.q)) = ps.map fun p => (p.key, p.q) := by
      unfold setPE; rw [List.map_map]
      refine List.map_congr_left (fun x _ => ?_)
      by_cases e : x.key = p.key <;> simp [e]
    rw [this]
    obtain ⟨es, clock, hb, hm⟩ := h.map
    exact ⟨es, clock, hk.2 _ _ hb rfl, hm⟩
  · intro x hx
    obtain ⟨y, hy, rfl⟩ := List.mem_map.1 hx
    have hyo := h.ok y hy
    have hq := hk.2 _ _ hyo.1 (by simp [selRest])
    have hv : W'.ownsRow base 3 1 y.v (wf y.key).length (nums .i64 (wf y.key)) := own_move hyo.2.1 (fun j hj => by
      obtain ⟨cells, hc⟩ := own_typed hyo.2.1 j hj
      rw [hc]; exact hk.2 _ _ hc (by simp [selRest]))
    by_cases e : y.key = p.key
    · have hyp : y = p := by
        rw [← Option.some_inj, ← hp]
        obtain ⟨i, hi, rfl⟩ := List.getElem_of_mem hy
        symm
        rw [List.find?_eq_some_iff_getElem]
        refine ⟨by simpa using e, i, hi, rfl, fun j hj => ?_⟩
        have := (List.pairwise_iff_getElem.1 h.apart j i (by omega) hi hj).2
        rw [e] at this
        simpa using this
      subst hyp
      simp only [if_true]
      exact ⟨hq, hv, hb, by rw [hu]; exact hyo.2.2.2.1, hyo.2.2.2.2⟩
    · rw [if_neg e]
      refine ⟨hq, hv, ?_, hyo.2.2.2⟩
      exact (hg.block y.gu (blk_lt hyo.2.2.1) (fun e' => other y hy e (Option.some.inj e'))).trans hyo.2.2.1
  · unfold setPE
    rw [List.pairwise_map]
    refine h.apart.imp (fun {a b} hab => ?_)
    by_cases e1 : a.key = p.key <;> by_cases e2 : b.key = p.key <;> simp [e1, e2] at hab ⊢ <;> exact hab
theorem PoolsAt.unique {W : World} {base mb : Nat} {wf : Int × Int → List Int} {ps : List PE} (h : PoolsAt W base mb wf ps) (p : PE) (hp : ps.find? (fun x => x.key == p.key) = some p) (x : PE) (hx : x ∈ ps) (e : x.key = p.key) : x = p := by
  rw [← Option.some_inj, ← hp]
  obtain ⟨i, hi, rfl⟩ := List.getElem_of_mem hx
  symm
  rw [List.find?_eq_some_iff_getElem]
  refine ⟨by simpa using e, i, hi, rfl, fun j hj => ?_⟩
  have := (List.pairwise_iff_getElem.1 h.apart j i (by omega) hi hj).2
  rw [e] at this
  simpa using this
theorem PoolsAt.still {W W' : World} {base mb : Nat} {wf : Int × Int → List Int} {ps : List PE} (h : PoolsAt W base mb wf ps) (p : PE) (hp : ps.find? (fun x => x.key == p.key) = some p)
    (hg : W.grownBy W' (some p.gu)) (hb : W'.heap[p.gu]? = some (.cells (boolCells p.used) 4 (0, 0))) : PoolsAt W' base mb wf ps ∧ Keeps selRest W W' := by
  have e : setPE ps p.key p.used = ps := by
    unfold setPE
    refine (List.map_congr_left (g := id) (fun x hx => ?_)).trans (List.map_id ps)
    by_cases hk : x.key = p.key
    · have := h.unique p hp x hx hk
      subst this
      simp
    · simp [hk]
  have := h.marked p hp p.used rfl hg hb
  rw [e] at this
  exact this
theorem find_setPE (ps : List PE) (key : Int × Int) (u : List Bool) (k2 : Int × Int) : (∃ p, ps.find? (fun p => p.key == k2) = some p) → ∃ p, (setPE ps key u).find? (fun p => p.key == k2) = some p := by
  rintro ⟨p, hp⟩
  have hmem := List.mem_of_find?_eq_some hp
  have hk := List.find?_some hp
  have : ((setPE ps key u).find? (fun p => p.key == k2)).isSome = true := by
    rw [List.find?_isSome]
    refine ⟨if p.key = key then { p with used := u } else p, List.mem_map.2 ⟨p, hmem, rfl⟩, ?_⟩
    by_cases e : p.key = key
    · rw [if_pos e]; exact hk
    · rw [if_neg e]; exact hk
  exact Option.isSome_iff_exists.1 this
end Go.Proofs.Ytpdbhaoppdgmeaa.Pr
