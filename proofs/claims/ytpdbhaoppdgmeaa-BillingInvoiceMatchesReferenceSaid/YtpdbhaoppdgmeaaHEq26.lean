/- billing.Invoice's closed word is the reference's. Plain Lean. -/
import Derived.Test.YtpdbhaoppdgmeaaHInvoice
import Derived.Test.YtpdbhaoppdgmeaaHRefT
namespace Go.Proofs.Ytpdbhaoppdgmeaa.Pr
open Go.RowKit Go.Proofs.Ytpdbhaoppdgmeaa.Sup Go.Proofs.YtpdbhaoppdgmeaaW.PrintWords Go.Proofs.YtpdbhaoppdgmeaaW.PrintLast Go.Proofs.YtpdbhaoppdgmeaaW.PrintMore
set_option linter.unusedVariables false
set_option linter.unusedSimpArgs false

/-! ### used -/
theorem usedA_congr (key : Int × Int) (a : Int) : ∀ (xs ys : List S49) (bs : List S59), xs.map (·.f2) = ys.map (·.f2) → usedA key a xs bs = usedA key a ys bs
  | [], [], _, _ => rfl
  | [], y :: ys, _, h => by simp at h
  | x :: xs, [], _, h => by simp at h
  | x :: xs, y :: ys, [], _ => rfl
  | x :: xs, y :: ys, b :: bs, h => by
    simp only [List.map_cons, List.cons.injEq] at h
    rw [usedA, usedA, h.1, usedA_congr key a xs ys bs h.2]
theorem usedA_none (key : Int × Int) (a : Int) (ha : 0 ≤ a) : ∀ (xs : List S49) (bs : List S59), (∀ x ∈ xs, x.f2 = -1) → usedA key a xs bs = false
  | [], _, _ => rfl
  | x :: xs, [], _ => rfl
  | x :: xs, b :: bs, h => by
    rw [usedA, usedA_none key a ha xs bs (fun y hy => h y (List.mem_cons_of_mem _ hy)), h x List.mem_cons_self]
    have : ((-1 : Int) == a) = false := by simp; omega
    rw [this]; rfl
theorem usedA_set (key : Int × Int) (a : Int) (ha : 0 ≤ a) (y : S49) : ∀ (xs : List S49) (bs : List S59) (i : Nat) (hi : i < xs.length) (hb : i < bs.length), xs[i].f2 = -1 →
    usedA key a (xs.set i y) bs = (usedA key a xs bs || (y.f2 == a && bs[i].f1 == key.1 && bs[i].f2 == key.2))
  | [], _, _, hi, _, _ => by simp at hi
  | x :: xs, [], _, _, hb, _ => by simp at hb
  | x :: xs, b :: bs, 0, _, _, h => by
    have hx : x.f2 = -1 := h
    have : ((-1 : Int) == a) = false := by simp; omega
    show usedA key a (y :: xs) (b :: bs) = (usedA key a (x :: xs) (b :: bs) || (y.f2 == a && b.f1 == key.1 && b.f2 == key.2))
    rw [usedA, usedA, hx, this]
    simp [Bool.or_comm]
  | x :: xs, b :: bs, i + 1, hi, hb, h => by
    have hb' : i < bs.length := by simpa using hb
    show usedA key a (x :: xs.set i y) (b :: bs) = (usedA key a (x :: xs) (b :: bs) || (y.f2 == a && bs[i].f1 == key.1 && bs[i].f2 == key.2))
    rw [usedA, usedA, usedA_set key a ha y xs bs i (by simpa using hi) (by simpa using hb) h, Bool.or_assoc]

/-! ### The marks say what is used -/
def MarksOk (wf : Int × Int → List Int) (bs : List S59) (ls : List S49) (us : List ((Int × Int) × List Bool)) : Prop :=
  (∀ p ∈ us, p.2.length = (wf p.1).length ∧ ∀ j, j < (wf p.1).length → p.2.getD j true = usedA p.1 ((wf p.1).getD j 0) ls bs) ∧ ∀ b ∈ bs, ∃ p, us.find? (fun p => p.1 == (b.f1, b.f2)) = some p
theorem takeR_eq (wk : List Int) (key : Int × Int) (used : List Bool) (ls : List S49) (bs : List S59) (lo hi : Int) (hu : ∀ j, j < wk.length → used.getD j true = usedA key (wk.getD j 0) ls bs) :
    takeR wk key ls bs lo hi = match takeIdx wk used lo hi with | some j => wk.getD j 0 | none => -1 := by
  unfold takeR takeIdx
  have h1 : wk = (List.range wk.length).map (fun j => wk.getD j 0) := by
    apply List.ext_getElem
    · simp
    · intro i h1 h2; simp [List.getD_eq_getElem?_getD, h1]
  have h2 : wk.find? (fun a => decide (lo ≤ a) && decide (a < hi) && !usedA key a ls bs) = ((List.range wk.length).find? (fun i => decide (lo ≤ wk.getD i 0) && decide (wk.getD i 0 < hi) && !(used.getD i true))).map (fun j => wk.getD j 0) := by
    conv => lhs; rw [h1]
    rw [List.find?_map]
    congr 1
    have : ∀ (l : List Nat), (∀ j ∈ l, j < wk.length) → l.find? ((fun a => decide (lo ≤ a) && decide (a < hi) && !usedA key a ls bs) ∘ fun j => wk.getD j 0) = l.find? (fun i => decide (lo ≤ wk.getD i 0) && decide (wk.getD i 0 < hi) && !(used.getD i true)) := by
      intro l
      induction l with
      | nil => intro _; rfl
      | cons x l ih =>
        intro hl
        have e : ((fun a => decide (lo ≤ a) && decide (a < hi) && !usedA key a ls bs) ∘ fun j => wk.getD j 0) x = (decide (lo ≤ wk.getD x 0) && decide (wk.getD x 0 < hi) && !(used.getD x true)) := by
          simp only [Function.comp]
          rw [hu x (hl x List.mem_cons_self)]
        rw [List.find?_cons, List.find?_cons, e, ih (fun j hj => hl j (List.mem_cons_of_mem _ hj))]
    exact this _ (fun j hj => by simpa using hj)
  rw [h2]
  cases (List.range wk.length).find? (fun i => decide (lo ≤ wk.getD i 0) && decide (wk.getD i 0 < hi) && !(used.getD i true)) <;> rfl
theorem takeIdx_lt (wk : List Int) (used : List Bool) (lo hi : Int) (j : Nat) (h : takeIdx wk used lo hi = some j) : j < wk.length := by
  unfold takeIdx at h
  have := List.mem_of_find?_eq_some h
  simpa using this
theorem setMark_find (us : List ((Int × Int) × List Bool)) (key : Int × Int) (u : List Bool) (k2 : Int × Int) (h : ∃ p, us.find? (fun p => p.1 == k2) = some p) : ∃ p, (setMark us key u).find? (fun p => p.1 == k2) = some p := by
  obtain ⟨p, hp⟩ := h
  unfold setMark
  rw [List.find?_map]
  have e : ((fun p : (Int × Int) × List Bool => p.1 == k2) ∘ fun p => if p.1 = key then (p.1, u) else p) = fun p => p.1 == k2 := by
    funext q; simp only [Function.comp]; split <;> rfl
  rw [e, hp]; exact ⟨_, rfl⟩
theorem MarksOk.put {wf : Int × Int → List Int} {bs : List S59} {ls : List S49} {us : List ((Int × Int) × List Bool)} (h : MarksOk wf bs ls us) (hwf : ∀ k, (wf k).Pairwise (· < ·)) (hw0 : ∀ k, ∀ a ∈ wf k, 0 ≤ a)
    (i : Nat) (hi : i < ls.length) (hb : i < bs.length) (hopen : ls[i].f2 = -1) (p : (Int × Int) × List Bool) (hp : us.find? (fun p => p.1 == (bs[i].f1, bs[i].f2)) = some p) (j : Nat) (hj : j < (wf (bs[i].f1, bs[i].f2)).length) (y : S49) (hy : y.f2 = (wf (bs[i].f1, bs[i].f2)).getD j 0) :
    MarksOk wf bs (ls.set i y) (setMark us (bs[i].f1, bs[i].f2) (p.2.set j true)) := by
  have hpk : p.1 = (bs[i].f1, bs[i].f2) := by have := List.find?_some hp; simpa using this
  have hpo := h.1 p (List.mem_of_find?_eq_some hp)
  refine ⟨fun q hq => ?_, fun b hb' => setMark_find _ _ _ _ (h.2 b hb')⟩
  unfold setMark at hq
  obtain ⟨q0, hq0, rfl⟩ := List.mem_map.1 hq
  have h0 := h.1 q0 hq0
  have val : ∀ m, m < (wf q0.1).length → 0 ≤ (wf q0.1).getD m 0 := fun m hm => hw0 q0.1 _ (by simp [List.getD_eq_getElem?_getD, hm])
  by_cases e : q0.1 = (bs[i].f1, bs[i].f2)
  · rw [if_pos e]
    rw [hpk] at hpo
    refine ⟨by simp only [List.length_set]; rw [e]; exact hpo.1, fun m hm => ?_⟩
    simp only at hm ⊢
    rw [usedA_set q0.1 _ (val m hm) y ls bs i hi hb hopen]
    rw [e] at hm ⊢
    have hu := hpo.2 m hm
    have hmp : m < p.2.length := by rw [hpo.1]; exact hm
    by_cases ejm : j = m
    · subst ejm
      simp [List.getD_eq_getElem?_getD, hmp, hy]
    · have hne : (wf (bs[i].f1, bs[i].f2)).getD j 0 ≠ (wf (bs[i].f1, bs[i].f2)).getD m 0 := by
        intro hc
        simp only [List.getD_eq_getElem?_getD, List.getElem?_eq_getElem hm, List.getElem?_eq_getElem hj, Option.getD_some] at hc
        rcases Nat.lt_or_gt_of_ne ejm with hlt | hgt
        · have := List.pairwise_iff_getElem.1 (hwf (bs[i].f1, bs[i].f2)) j m hj hm hlt; omega
        · have := List.pairwise_iff_getElem.1 (hwf (bs[i].f1, bs[i].f2)) m j hm hj hgt; omega
      have hb2 : (y.f2 == (wf (bs[i].f1, bs[i].f2)).getD m 0) = false := by rw [hy]; simpa using hne
      rw [hb2]
      simp only [List.getD_eq_getElem?_getD, List.getElem?_set_ne ejm] at hu ⊢
      rw [hu]; simp
  · rw [if_neg e]
    refine ⟨h0.1, fun m hm => ?_⟩
    rw [usedA_set q0.1 _ (val m hm) y ls bs i hi hb hopen, h0.2 m hm]
    have : (bs[i].f1 == q0.1.1 && bs[i].f2 == q0.1.2) = false := by
      rw [Bool.and_eq_false_iff]
      by_cases e1 : bs[i].f1 = q0.1.1
      · right
        simp only [beq_eq_false_iff_ne]
        intro e2
        exact e (by rw [e1, e2])
      · left; simpa using e1
    rw [Bool.and_assoc, this]; simp

/-! ### The first marks -/
theorem marks0_ok (wf : Int × Int → List Int) : ∀ (bs : List S59) (us : List ((Int × Int) × List Bool)), (∀ p ∈ us, p.2 = List.replicate (wf p.1).length false) →
    (∀ p ∈ bs.foldl (fun us b => addKey wf us (b.f1, b.f2)) us, p.2 = List.replicate (wf p.1).length false) ∧ (∀ k, (∃ p, us.find? (fun p => p.1 == k) = some p) → ∃ p, (bs.foldl (fun us b => addKey wf us (b.f1, b.f2)) us).find? (fun p => p.1 == k) = some p) ∧
    ∀ b ∈ bs, ∃ p, (bs.foldl (fun us b => addKey wf us (b.f1, b.f2)) us).find? (fun p => p.1 == (b.f1, b.f2)) = some p
  | [], us, h => ⟨h, fun k hk => hk, fun b hb => by simp at hb⟩
  | b :: r, us, h => by
    have h1 : ∀ p ∈ addKey wf us (b.f1, b.f2), p.2 = List.replicate (wf p.1).length false := by
      intro p hp
      unfold addKey at hp
      split at hp
      · exact h p hp
      · rcases List.mem_append.1 hp with hp | hp
        · exact h p hp
        · obtain rfl := List.mem_singleton.1 hp; rfl
    have hk : ∀ k, (∃ p, us.find? (fun p => p.1 == k) = some p) → ∃ p, (addKey wf us (b.f1, b.f2)).find? (fun p => p.1 == k) = some p := by
      rintro k ⟨p, hp⟩
      unfold addKey
      split
      · exact ⟨p, hp⟩
      · rw [List.find?_append, hp]; exact ⟨p, rfl⟩
    have hb : ∃ p, (addKey wf us (b.f1, b.f2)).find? (fun p => p.1 == (b.f1, b.f2)) = some p := by
      unfold addKey
      split
      · rename_i hs
        exact Option.isSome_iff_exists.1 hs
      · rename_i hs
        have : us.find? (fun p => p.1 == (b.f1, b.f2)) = none := Option.not_isSome_iff_eq_none.1 hs
        rw [List.find?_append, this]
        exact ⟨((b.f1, b.f2), List.replicate (wf (b.f1, b.f2)).length false), by simp⟩
    obtain ⟨i1, i2, i3⟩ := marks0_ok wf r _ h1
    refine ⟨i1, fun k hh => i2 k (hk k hh), fun c hc => ?_⟩
    rcases List.mem_cons.1 hc with rfl | hc
    · exact i2 _ hb
    · exact i3 c hc
theorem marks0_first (wf : Int × Int → List Int) (hw0 : ∀ k, ∀ a ∈ wf k, 0 ≤ a) (bs : List S59) (ls : List S49) (hl : ∀ x ∈ ls, x.f2 = -1) : MarksOk wf bs ls (marks0 wf bs) := by
  obtain ⟨h1, _, h3⟩ := marks0_ok wf bs [] (by simp)
  refine ⟨fun p hp => ?_, h3⟩
  rw [h1 p hp]
  refine ⟨by simp, fun j hj => ?_⟩
  rw [usedA_none p.1 _ (hw0 p.1 _ (by simp [List.getD_eq_getElem?_getD, hj])) ls bs hl]
  simp [List.getD_eq_getElem?_getD, hj]

/-! ### The passes -/
theorem passed_late (items : List S45) (b : S59) (now : Int) : passedB items b now = lateB items b now := by
  unfold passedB lateB
  have hn : ∀ x : Int, 0 ≤ IntKind.u64.wrap x := fun x => by rw [IntKind.wrap_u64]; omega
  by_cases h1 : (itemOf items b.f1).1.f2 ≤ 0
  · rw [if_pos h1]
    have : mx (itemOf items b.f1).1.f2 0 = 0 := by unfold mx; split <;> omega
    rw [this]
    by_cases h2 : now < b.f5
    · rw [if_pos h2]; simp; omega
    · rw [if_neg h2]
      have e0 : IntKind.u64.wrap 0 = 0 := by rw [IntKind.wrap_u64]; rfl
      rw [e0]
      have := hn (IntKind.u64.wrap now - IntKind.u64.wrap b.f5)
      simp; omega
  · rw [if_neg h1]
    have : mx (itemOf items b.f1).1.f2 0 = (itemOf items b.f1).1.f2 := by unfold mx; split <;> omega
    rw [this]
    by_cases h2 : now < b.f5
    · rw [if_pos h2, if_pos h2]; simp; omega
    · rw [if_neg h2, if_neg h2]
structure Rel (wf : Int × Int → List Int) (items : List S45) (now : Int) (bs : List S59) (two : Bool) (i : Nat) (ls : List S49) (us : List ((Int × Int) × List Bool)) (lr : List S49) : Prop where
  len1 : ls.length = bs.length
  len2 : lr.length = bs.length
  marks : MarksOk wf bs ls us
  same : ls.map (·.f2) = lr.map (·.f2)
  each : ∀ j (h : j < bs.length), (two = true ∧ j < i ∧ lr[j]? = ls[j]?) ∨ (lr[j]? = ls[j]? ∧ (∃ x, ls[j]? = some x ∧ x.f1 = 2) ∧ (two = true ∨ j < i)) ∨ ((two = false ∨ i ≤ j) ∧ lr[j]? = some (refLine bs[j]) ∧ ls[j]? = some (line0 items now bs[j]))
theorem line0_f1 (items : List S45) (now : Int) (b : S59) : (line0 items now b).f1 ≠ 2 := by unfold line0; simp only; split <;> decide
theorem rd_some (ls : List S49) (i : Nat) (x : S49) (h : ls[i]? = some x) : rd_T49 ls (i : Int) = x := by
  obtain ⟨hi, e⟩ := List.getElem?_eq_some_iff.1 h
  rw [rd_line ls i hi, e]
theorem set_same (ls lr : List S49) (i : Nat) (x y : S49) (h : ls.map (·.f2) = lr.map (·.f2)) (hxy : x.f2 = y.f2) : (ls.set i x).map (·.f2) = (lr.set i y).map (·.f2) := by
  rw [List.map_set, List.map_set, h, hxy]
section
variable {wf : Int × Int → List Int} {items : List S45} {now : Int} {bs : List S59}
/-- A pool's answer is the reference's. -/
theorem Rel.take {two : Bool} {i : Nat} {ls lr : List S49} {us : List ((Int × Int) × List Bool)} (h : Rel wf items now bs two i ls us lr) (hi : i < bs.length) (lo hi' : Int) :
    ∃ p, us.find? (fun p => p.1 == (bs[i].f1, bs[i].f2)) = some p ∧ takeR (wf (bs[i].f1, bs[i].f2)) (bs[i].f1, bs[i].f2) lr bs lo hi' = match takeIdx (wf (bs[i].f1, bs[i].f2)) p.2 lo hi' with | some j => (wf (bs[i].f1, bs[i].f2)).getD j 0 | none => -1 := by
  obtain ⟨p, hp⟩ := h.marks.2 bs[i] (List.getElem_mem hi)
  have hpk : p.1 = (bs[i].f1, bs[i].f2) := by have := List.find?_some hp; simpa using this
  have ho := h.marks.1 p (List.mem_of_find?_eq_some hp)
  rw [hpk] at ho
  refine ⟨p, hp, takeR_eq _ _ _ _ _ _ _ (fun j hj => ?_)⟩
  rw [ho.2 j hj]
  exact usedA_congr _ _ _ _ _ h.same
theorem step_one (hwf : ∀ k, (wf k).Pairwise (· < ·)) (hw0 : ∀ k, ∀ a ∈ wf k, 0 ≤ a) {i : Nat} {ls lr : List S49} {us : List ((Int × Int) × List Bool)} (h : Rel wf items now bs false i ls us lr) (hi : i < bs.length) :
    Rel wf items now bs false (i + 1) (serveStep wf 2 win1 (ls, us) i bs[i]).1 (serveStep wf 2 win1 (ls, us) i bs[i]).2 (refStep1 wf bs lr i bs[i]) := by
  rcases h.each i hi with ⟨e, _⟩ | ⟨_, _, e⟩ | ⟨_, e1, e2⟩
  · cases e
  · rcases e with e | e
    · cases e
    · omega
  have hopen := e2
  have hlt : i < ls.length := by rw [h.len1]; exact hi
  have hg : ls[i] = line0 items now bs[i] := by rw [List.getElem?_eq_getElem hlt] at e2; exact Option.some.inj e2
  obtain ⟨p, hp, ht⟩ := h.take hi bs[i].f3 bs[i].f4
  unfold serveStep refStep1
  simp only [rd_some ls i _ e2]
  rw [if_neg (line0_f1 _ _ _), hp]
  simp only [win1]
  rw [ht]
  cases hti : takeIdx (wf (bs[i].f1, bs[i].f2)) p.2 bs[i].f3 bs[i].f4 with
  | none =>
    simp only
    rw [if_neg (by decide)]
    exact ⟨h.len1, h.len2, h.marks, h.same, fun j hj => by
      rcases h.each j hj with ⟨e, _⟩ | ⟨a, b, c⟩ | c
      · cases e
      · exact .inr (.inl ⟨a, b, c.imp id (fun q => by omega)⟩)
      · exact .inr (.inr ⟨.inl rfl, c.2⟩)⟩
  | some j =>
    have hj := takeIdx_lt _ _ _ _ _ hti
    have hpos : 0 ≤ (wf (bs[i].f1, bs[i].f2)).getD j 0 := hw0 (bs[i].f1, bs[i].f2) _ (by simp [List.getD_eq_getElem?_getD, hj])
    simp only
    rw [if_pos hpos]
    refine ⟨by simp [h.len1], by simp [h.len2], h.marks.put hwf hw0 i hlt hi (by rw [hg]; rfl) p hp j hj _ rfl, set_same _ _ _ _ _ h.same rfl, fun j' hj' => ?_⟩
    by_cases e : i = j'
    · subst e
      refine .inr (.inl ⟨?_, ⟨_, List.getElem?_set_self hlt, rfl⟩, .inr (by omega)⟩)
      rw [List.getElem?_set_self hlt, List.getElem?_set_self (by rw [h.len2]; exact hi)]
    · rw [List.getElem?_set_ne e, List.getElem?_set_ne e]
      rcases h.each j' hj' with ⟨e, _⟩ | ⟨a, b, c⟩ | c
      · cases e
      · exact .inr (.inl ⟨a, b, c.imp id (fun q => by omega)⟩)
      · exact .inr (.inr ⟨.inl rfl, c.2⟩)
theorem step_two (hwf : ∀ k, (wf k).Pairwise (· < ·)) (hw0 : ∀ k, ∀ a ∈ wf k, 0 ≤ a) {i : Nat} {ls lr : List S49} {us : List ((Int × Int) × List Bool)} (h : Rel wf items now bs true i ls us lr) (hi : i < bs.length) :
    Rel wf items now bs true (i + 1) (serveStep wf 3 win2 (ls, us) i bs[i]).1 (serveStep wf 3 win2 (ls, us) i bs[i]).2 (refStep2 wf items now bs lr i bs[i]) := by
  have later : ∀ (ls' lr' : List S49), (∀ j', i ≠ j' → ls'[j']? = ls[j']?) → (∀ j', i ≠ j' → lr'[j']? = lr[j']?) → lr'[i]? = ls'[i]? →
      ∀ j (hj : j < bs.length), (true = true ∧ j < i + 1 ∧ lr'[j]? = ls'[j]?) ∨ (lr'[j]? = ls'[j]? ∧ (∃ x, ls'[j]? = some x ∧ x.f1 = 2) ∧ (true = true ∨ j < i + 1)) ∨ ((true = false ∨ i + 1 ≤ j) ∧ lr'[j]? = some (refLine bs[j]) ∧ ls'[j]? = some (line0 items now bs[j])) := by
    intro ls' lr' h1 h2 h3 j hj
    by_cases e : i = j
    · subst e; exact .inl ⟨rfl, by omega, h3⟩
    · rw [h1 j e, h2 j e]
      rcases h.each j hj with ⟨_, a, b⟩ | ⟨a, b, c⟩ | c
      · exact .inl ⟨rfl, by omega, b⟩
      · exact .inr (.inl ⟨a, b, .inl rfl⟩)
      · exact .inr (.inr ⟨.inr (by rcases c.1 with q | q; cases q; omega), c.2⟩)
  have hlt : i < ls.length := by rw [h.len1]; exact hi
  have hlr : i < lr.length := by rw [h.len2]; exact hi
  rcases h.each i hi with ⟨_, e, _⟩ | ⟨a, ⟨x, hx, hx1⟩, _⟩ | ⟨_, e1, e2⟩
  · omega
  · have hs1 : serveStep wf 3 win2 (ls, us) i bs[i] = (ls, us) := by
      unfold serveStep
      simp only [rd_some ls i _ hx]
      rw [if_pos hx1]
    have hs2 : refStep2 wf items now bs lr i bs[i] = lr := by
      unfold refStep2
      rw [rd_some lr i x (a.trans hx), if_pos hx1]
    rw [hs1, hs2]
    exact ⟨h.len1, h.len2, h.marks, h.same, later ls lr (fun _ _ => rfl) (fun _ _ => rfl) a⟩
  have hg : ls[i] = line0 items now bs[i] := by rw [List.getElem?_eq_getElem hlt] at e2; exact Option.some.inj e2
  obtain ⟨p, hp, ht⟩ := h.take hi bs[i].f4 bs[i].f5
  unfold serveStep refStep2
  simp only [rd_some ls i _ e2, rd_some lr i _ e1]
  rw [if_neg (line0_f1 _ _ _), hp, if_neg (show ¬ (refLine bs[i]).f1 = 2 by show ¬ (1 : Int) = 2; decide)]
  simp only [win2]
  rw [ht]
  cases hti : takeIdx (wf (bs[i].f1, bs[i].f2)) p.2 bs[i].f4 bs[i].f5 with
  | none =>
    simp only
    rw [if_neg (by decide), ← passed_late]
    by_cases hpb : passedB items bs[i] now = true
    · rw [if_pos hpb]
      have hl0 : line0 items now bs[i] = ⟨bs[i].f0, 4, -1, 0⟩ := by unfold line0; rw [if_pos hpb]
      refine ⟨h.len1, by simp [h.len2], h.marks, ?_, later _ _ (fun _ _ => rfl) (fun j' e => List.getElem?_set_ne e) ?_⟩
      · rw [h.same]
        have : lr = lr.set i (refLine bs[i]) := by
          apply List.ext_getElem?
          intro j
          by_cases e : i = j
          · subst e; rw [List.getElem?_set_self hlr]; exact e1
          · rw [List.getElem?_set_ne e]
        conv => lhs; rw [this]
        exact set_same _ _ _ _ _ rfl rfl
      · rw [List.getElem?_set_self hlr, e2, hl0]; rfl
    · rw [if_neg hpb]
      have hl0 : line0 items now bs[i] = ⟨bs[i].f0, 1, -1, 0⟩ := by unfold line0; rw [if_neg hpb]
      exact ⟨h.len1, h.len2, h.marks, h.same, later ls lr (fun _ _ => rfl) (fun _ _ => rfl) (by rw [e1, e2, hl0]; rfl)⟩
  | some j =>
    have hj := takeIdx_lt _ _ _ _ _ hti
    have hpos : 0 ≤ (wf (bs[i].f1, bs[i].f2)).getD j 0 := hw0 (bs[i].f1, bs[i].f2) _ (by simp [List.getD_eq_getElem?_getD, hj])
    simp only
    rw [if_pos hpos]
    refine ⟨by simp [h.len1], by simp [h.len2], h.marks.put hwf hw0 i hlt hi (by rw [hg]; rfl) p hp j hj _ rfl, set_same _ _ _ _ _ h.same rfl, later _ _ (fun j' e => List.getElem?_set_ne e) (fun j' e => List.getElem?_set_ne e) ?_⟩
    rw [List.getElem?_set_self hlt, List.getElem?_set_self hlr]
theorem pass_one (hwf : ∀ k, (wf k).Pairwise (· < ·)) (hw0 : ∀ k, ∀ a ∈ wf k, 0 ≤ a) : ∀ (m i : Nat) (ls lr : List S49) (us : List ((Int × Int) × List Bool)), bs.length - i = m → i ≤ bs.length → Rel wf items now bs false i ls us lr →
    Rel wf items now bs false bs.length (serveL wf 2 win1 (bs.drop i) i (ls, us)).1 (serveL wf 2 win1 (bs.drop i) i (ls, us)).2 (refL (refStep1 wf bs) (bs.drop i) i lr)
  | 0, i, ls, lr, us, hm, hi, h => by
    have e : i = bs.length := by omega
    subst e
    rw [List.drop_length]; exact h
  | m + 1, i, ls, lr, us, hm, hi, h => by
    have hlt : i < bs.length := by omega
    rw [List.drop_eq_getElem_cons hlt]
    exact pass_one hwf hw0 m (i + 1) _ _ _ (by omega) (by omega) (step_one hwf hw0 h hlt)
theorem pass_two (hwf : ∀ k, (wf k).Pairwise (· < ·)) (hw0 : ∀ k, ∀ a ∈ wf k, 0 ≤ a) : ∀ (m i : Nat) (ls lr : List S49) (us : List ((Int × Int) × List Bool)), bs.length - i = m → i ≤ bs.length → Rel wf items now bs true i ls us lr →
    Rel wf items now bs true bs.length (serveL wf 3 win2 (bs.drop i) i (ls, us)).1 (serveL wf 3 win2 (bs.drop i) i (ls, us)).2 (refL (refStep2 wf items now bs) (bs.drop i) i lr)
  | 0, i, ls, lr, us, hm, hi, h => by
    have e : i = bs.length := by omega
    subst e
    rw [List.drop_length]; exact h
  | m + 1, i, ls, lr, us, hm, hi, h => by
    have hlt : i < bs.length := by omega
    rw [List.drop_eq_getElem_cons hlt]
    exact pass_two hwf hw0 m (i + 1) _ _ _ (by omega) (by omega) (step_two hwf hw0 h hlt)
end
theorem serves_eq (wf : Int × Int → List Int) (items : List S45) (now : Int) (bs : List S59) (hwf : ∀ k, (wf k).Pairwise (· < ·)) (hw0 : ∀ k, ∀ a ∈ wf k, 0 ≤ a) :
    (serveL wf 3 win2 bs 0 (serveL wf 2 win1 bs 0 (bs.map (line0 items now), marks0 wf bs))).1 = refOf wf items now bs := by
  have h0 : Rel wf items now bs false 0 (bs.map (line0 items now)) (marks0 wf bs) (bs.map refLine) := by
    refine ⟨by simp, by simp, marks0_first wf hw0 bs _ (fun x hx => ?_), ?_, fun j hj => .inr (.inr ⟨.inl rfl, by simp [hj], by simp [hj]⟩)⟩
    · obtain ⟨b, _, rfl⟩ := List.mem_map.1 hx; rfl
    · rw [List.map_map, List.map_map]; rfl
  have h1 := pass_one hwf hw0 bs.length 0 _ _ _ rfl (Nat.zero_le _) h0
  rw [List.drop_zero] at h1
  have h1' : Rel wf items now bs true 0 _ _ _ := ⟨h1.len1, h1.len2, h1.marks, h1.same, fun j hj => by
    rcases h1.each j hj with ⟨e, _⟩ | ⟨a, b, c⟩ | c
    · cases e
    · exact .inr (.inl ⟨a, b, .inl rfl⟩)
    · exact .inr (.inr ⟨.inr (Nat.zero_le _), c.2⟩)⟩
  have h2 := pass_two hwf hw0 bs.length 0 _ _ _ rfl (Nat.zero_le _) h1'
  rw [List.drop_zero] at h2
  unfold refOf
  apply List.ext_getElem?
  intro j
  by_cases hj : j < bs.length
  · rcases h2.each j hj with ⟨_, _, a⟩ | ⟨a, _, _⟩ | ⟨a, _⟩
    · exact a.symm
    · exact a.symm
    · rcases a with a | a
      · cases a
      · omega
  · rw [List.getElem?_eq_none (by rw [h2.len1]; omega), List.getElem?_eq_none (by rw [h2.len2]; omega)]
theorem whole_pos (items : List S45) (ch : Int) (l : List S43) (k : Int × Int) : ∀ a ∈ wfOf items ch l k, 0 ≤ a := by
  unfold wfOf wholeOf
  split
  · intro a ha
    rw [sortU_mem] at ha
    unfold wholeRaw airs at ha
    obtain ⟨r, hr, rfl⟩ := List.mem_map.1 ha
    have := (List.mem_filter.1 (List.mem_filter.1 hr).1).2
    unfold isAir at this
    simp at this
    omega
  · simp
theorem invoice_ref (items : List S45) (ch : Int) (bs : List S59) (l : List S43) (now : Int) (hl : l.length ≤ 1099511627776) : invoiceOf items ch bs l now = refOf (fun key => wholeOf items ch l key.1 key.2) items now bs :=
  serves_eq (wfOf items ch l) items now bs (fun k => (wfOf_ok items ch l hl k).1) (whole_pos items ch l)
end Go.Proofs.Ytpdbhaoppdgmeaa.Pr
