/- What is aired later: plain Lean: lines that are not open stay. -/
import Derived.Test.YtpdbhaoppdgmeaaHInvoice
namespace Go.Proofs.Ytpdbhaoppdgmeaa.Pr
open Go.RowKit Go.Proofs.Ytpdbhaoppdgmeaa.Sup Go.Proofs.YtpdbhaoppdgmeaaW.PrintWords Go.Proofs.YtpdbhaoppdgmeaaW.PrintLast Go.Proofs.YtpdbhaoppdgmeaaW.PrintMore
set_option linter.unusedVariables false
set_option linter.unusedSimpArgs false

/-! ### Wholes grow at their end -/
theorem airs_app (ch item region : Int) (a b : List S43) : airs ch item region (a ++ b) = airs ch item region a ++ airs ch item region b := List.filter_append ..
theorem wholeRaw_app (fr : Int) (a b : List S43) : wholeRaw fr (a ++ b) = wholeRaw fr a ++ wholeRaw fr b := by unfold wholeRaw; rw [List.filter_append, List.map_append]
theorem sortU_app (a b : List Int) (h : ∀ x ∈ a, ∀ y ∈ b, x < y) : sortU (a ++ b) = sortU a ++ sortU b := by
  refine strict_ext _ _ (sortU_sorted _) ?_ (fun x => ?_)
  · rw [List.pairwise_append]
    exact ⟨sortU_sorted a, sortU_sorted b, fun x hx y hy => h x ((sortU_mem a x).1 hx) y ((sortU_mem b y).1 hy)⟩
  · rw [sortU_mem, List.mem_append, List.mem_append, sortU_mem, sortU_mem]
/-- What the later records add to the whole airings of a place. -/
def exOf (items : List S45) (ch : Int) (ms : List S43) (k : Int × Int) : List Int := wholeOf items ch ms k.1 k.2
theorem whole_app (items : List S45) (ch : Int) (l ms : List S43) (k : Int × Int) (h : ∀ r ∈ ms, ∀ x ∈ l, x.f4 = r.f4 → x.f2 ≤ 100000000 → (itemOf items r.f4).2 = true → 1 ≤ (itemOf items r.f4).1.f2 → x.f2 < r.f2) :
    wfOf items ch (l ++ ms) k = wfOf items ch l k ++ exOf items ch ms k := by
  unfold wfOf exOf wholeOf
  split
  · rename_i hk
    rw [airs_app, wholeRaw_app]
    refine sortU_app _ _ (fun x hx y hy => ?_)
    unfold wholeRaw airs at hx hy
    obtain ⟨rx, h1, rfl⟩ := List.mem_map.1 hx
    obtain ⟨ry, h2, rfl⟩ := List.mem_map.1 hy
    have a1 := List.mem_filter.1 (List.mem_filter.1 h1).1
    have a2 := List.mem_filter.1 (List.mem_filter.1 h2).1
    have b1 := a1.2
    have b2 := a2.2
    unfold isAir at b1 b2
    simp at b1 b2 hk
    exact h ry a2.1 rx a1.1 (by rw [b1.1.2, b2.1.2]) b1.1.1.2 (by rw [b2.1.2]; exact hk.1) (by rw [b2.1.2]; exact hk.2)
  · rfl
theorem ex_mem (items : List S45) (ch : Int) (ms : List S43) (k : Int × Int) (e : Int) (he : e ∈ exOf items ch ms k) : ∃ r ∈ ms, r.f4 = k.1 ∧ r.f2 = e ∧ (itemOf items k.1).2 = true ∧ 1 ≤ (itemOf items k.1).1.f2 := by
  unfold exOf wholeOf at he
  split at he
  · rename_i hk
    rw [sortU_mem] at he
    unfold wholeRaw airs at he
    obtain ⟨r, h1, rfl⟩ := List.mem_map.1 he
    have a1 := List.mem_filter.1 (List.mem_filter.1 h1).1
    have b1 := a1.2
    unfold isAir at b1
    simp at b1 hk
    exact ⟨r, a1.1, b1.1.2, rfl, hk.1, hk.2⟩
  · simp at he

/-! ### Marks -/
theorem setMark_at (us : List ((Int × Int) × List Bool)) (key : Int × Int) (u : List Bool) (k : Int × Int) : (setMark us key u).find? (fun p => p.1 == k) = (us.find? (fun p => p.1 == k)).map (fun p => if p.1 = key then (p.1, u) else p) := by
  unfold setMark
  rw [List.find?_map]
  have e : ((fun p : (Int × Int) × List Bool => p.1 == k) ∘ fun p => if p.1 = key then (p.1, u) else p) = fun p => p.1 == k := by
    funext q; simp only [Function.comp]; split <;> rfl
  rw [e]
/-- B's marks are A's, and more. -/
def MR (wf ex : Int × Int → List Int) (ua ub : List ((Int × Int) × List Bool)) : Prop :=
  ∀ k, (ua.find? (fun p => p.1 == k) = none ∧ ub.find? (fun p => p.1 == k) = none) ∨ ∃ a b q, ua.find? (fun p => p.1 == k) = some (k, a) ∧ ub.find? (fun p => p.1 == k) = some (k, b) ∧ b = a ++ q ∧ a.length = (wf k).length ∧ q.length = (ex k).length
theorem MR.both {wf ex : Int × Int → List Int} {ua ub : List ((Int × Int) × List Bool)} (h : MR wf ex ua ub) (key : Int × Int) (a b q : List Bool) (ha : ua.find? (fun p => p.1 == key) = some (key, a)) (hb : b = a ++ q) (hl : a.length = (wf key).length) (hq : q.length = (ex key).length) (j : Nat) (hj : j < a.length) :
    MR wf ex (setMark ua key (a.set j true)) (setMark ub key (b.set j true)) := by
  intro k
  rw [setMark_at, setMark_at]
  rcases h k with ⟨h1, h2⟩ | ⟨a', b', q', h1, h2, h3, h4, h5⟩
  · rw [h1, h2]; exact .inl ⟨rfl, rfl⟩
  · rw [h1, h2]
    right
    by_cases e : k = key
    · subst e
      simp only [Option.map_some, if_true]
      exact ⟨a.set j true, b.set j true, q, rfl, rfl, by rw [hb, List.set_append_left _ _ hj], by rw [List.length_set]; exact hl, hq⟩
    · simp only [Option.map_some, if_neg e]
      exact ⟨a', b', q', rfl, rfl, h3, h4, h5⟩
theorem MR.more {wf ex : Int × Int → List Int} {ua ub : List ((Int × Int) × List Bool)} (h : MR wf ex ua ub) (key : Int × Int) (a b q : List Bool) (ha : ua.find? (fun p => p.1 == key) = some (key, a)) (hb : b = a ++ q) (hl : a.length = (wf key).length) (hq : q.length = (ex key).length) (j : Nat) (hj : a.length ≤ j) :
    MR wf ex ua (setMark ub key (b.set j true)) := by
  intro k
  rw [setMark_at]
  rcases h k with ⟨h1, h2⟩ | ⟨a', b', q', h1, h2, h3, h4, h5⟩
  · rw [h1, h2]; exact .inl ⟨rfl, rfl⟩
  · rw [h1, h2]
    right
    by_cases e : k = key
    · subst e
      rw [ha] at h1
      cases h1
      simp only [Option.map_some, if_true]
      exact ⟨a, b.set j true, q.set (j - a.length) true, rfl, rfl, by rw [hb, List.set_append_right _ _ hj], hl, by rw [List.length_set]; exact hq⟩
    · simp only [Option.map_some, if_neg e]
      exact ⟨a', b', q', rfl, rfl, h3, h4, h5⟩
theorem range_add' (n m : Nat) : List.range (n + m) = List.range n ++ (List.range m).map (n + ·) := List.range_add
theorem find_congr' {p q : Nat → Bool} : ∀ l : List Nat, (∀ x ∈ l, p x = q x) → l.find? p = l.find? q
  | [], _ => rfl
  | x :: l, h => by rw [List.find?_cons, List.find?_cons, h x List.mem_cons_self, find_congr' l (fun y hy => h y (List.mem_cons_of_mem _ hy))]
theorem getD_left {α : Type} (a b : List α) (d : α) (j : Nat) (h : j < a.length) : (a ++ b).getD j d = a.getD j d := by simp [List.getD_eq_getElem?_getD, List.getElem?_append_left h]
theorem getD_right {α : Type} (a b : List α) (d : α) (j : Nat) : (a ++ b).getD (a.length + j) d = b.getD j d := by simp [List.getD_eq_getElem?_getD, List.getElem?_append_right]
theorem takeIdx_app (w ex : List Int) (a q : List Bool) (lo hi : Int) (hl : a.length = w.length) : takeIdx (w ++ ex) (a ++ q) lo hi = match takeIdx w a lo hi with
    | some j => some j
    | none => (takeIdx ex q lo hi).map (w.length + ·) := by
  unfold takeIdx
  rw [List.length_append, range_add', List.find?_append, List.find?_map]
  have e1 : (List.range w.length).find? (fun i => decide (lo ≤ (w ++ ex).getD i 0) && decide ((w ++ ex).getD i 0 < hi) && !((a ++ q).getD i true)) = (List.range w.length).find? (fun i => decide (lo ≤ w.getD i 0) && decide (w.getD i 0 < hi) && !(a.getD i true)) := by
    apply find_congr'
    intro x hx
    have hx' : x < w.length := by simpa using hx
    rw [getD_left w ex 0 x hx', getD_left a q true x (by omega)]
  have e2 : (List.range ex.length).find? ((fun i => decide (lo ≤ (w ++ ex).getD i 0) && decide ((w ++ ex).getD i 0 < hi) && !((a ++ q).getD i true)) ∘ fun x => w.length + x) = (List.range ex.length).find? (fun i => decide (lo ≤ ex.getD i 0) && decide (ex.getD i 0 < hi) && !(q.getD i true)) := by
    apply find_congr'
    intro x hx
    simp only [Function.comp]
    rw [getD_right w ex 0 x]
    have := getD_right a q true x
    rw [hl] at this
    rw [this]
  rw [e1, e2]
  cases (List.range w.length).find? (fun i => decide (lo ≤ w.getD i 0) && decide (w.getD i 0 < hi) && !(a.getD i true)) <;> rfl
theorem takeIdx_in (w : List Int) (used : List Bool) (lo hi : Int) (j : Nat) (h : takeIdx w used lo hi = some j) : j < w.length ∧ lo ≤ w.getD j 0 ∧ w.getD j 0 < hi ∧ w.getD j 0 ∈ w := by
  unfold takeIdx at h
  have h1 := List.find?_some h
  have h2 : j < w.length := by simpa using List.mem_of_find?_eq_some h
  simp at h1
  refine ⟨h2, h1.1.1, h1.1.2, ?_⟩
  simp [List.getD_eq_getElem?_getD, h2]
theorem MR_first (wf ex : Int × Int → List Int) : ∀ (bs : List S59) (ua ub : List ((Int × Int) × List Bool)), MR wf ex ua ub → MR wf ex (bs.foldl (fun us b => addKey wf us (b.f1, b.f2)) ua) (bs.foldl (fun us b => addKey (fun k => wf k ++ ex k) us (b.f1, b.f2)) ub)
  | [], ua, ub, h => h
  | b :: r, ua, ub, h => by
    refine MR_first wf ex r _ _ ?_
    intro k
    unfold addKey
    dsimp only
    rcases h (b.f1, b.f2) with ⟨h1, h2⟩ | ⟨a', b', q', h1, h2, _⟩
    · rw [h1, h2]
      simp only [Option.isSome_none, Bool.false_eq_true, if_false]
      rw [List.find?_append, List.find?_append]
      rcases h k with ⟨g1, g2⟩ | ⟨a', b', q', g1, g2, g3⟩
      · rw [g1, g2]
        by_cases e : (b.f1, b.f2) = k
        · right
          subst e
          refine ⟨List.replicate (wf (b.f1, b.f2)).length false, List.replicate (wf (b.f1, b.f2) ++ ex (b.f1, b.f2)).length false, List.replicate (ex (b.f1, b.f2)).length false, by simp, by simp, ?_, by simp, by simp⟩
          rw [List.length_append, List.replicate_append_replicate]
        · left
          have : ((b.f1, b.f2) == k) = false := by simpa using e
          simp [List.find?_cons, this]
      · rw [g1, g2]; exact .inr ⟨a', b', q', rfl, rfl, g3⟩
    · rw [h1, h2]
      simp only [Option.isSome_some, if_true]
      exact h k

/-! ### The passes -/
theorem line0_ne2 (items : List S45) (now : Int) (b : S59) : (line0 items now b).f1 ≠ 2 := by unfold line0; simp only; split <;> decide
theorem rd_at (ls : List S49) (i : Nat) (x : S49) (h : ls[i]? = some x) : rd_T49 ls (i : Int) = x := by
  obtain ⟨hi, e⟩ := List.getElem?_eq_some_iff.1 h
  simp [rd_T49, List.getD_eq_getElem?_getD, hi, e]
section
variable {wf ex : Int × Int → List Int} {items : List S45} {now now' : Int} {bs : List S59}
structure F1 (wf ex : Int × Int → List Int) (items : List S45) (now now' : Int) (bs : List S59) (i : Nat) (la : List S49) (ua : List ((Int × Int) × List Bool)) (lb : List S49) (ub : List ((Int × Int) × List Bool)) : Prop where
  len1 : la.length = bs.length
  len2 : lb.length = bs.length
  mr : MR wf ex ua ub
  keys : ∀ b ∈ bs, ∃ p, ua.find? (fun p => p.1 == (b.f1, b.f2)) = some p
  each : ∀ j (h : j < bs.length), (i ≤ j ∧ la[j]? = some (line0 items now bs[j]) ∧ lb[j]? = some (line0 items now' bs[j])) ∨
    (j < i ∧ ∃ x, la[j]? = some x ∧ lb[j]? = some x ∧ x.f1 = 2) ∨
    (j < i ∧ la[j]? = some (line0 items now bs[j]) ∧ (lb[j]? = some (line0 items now' bs[j]) ∨ ∃ x, lb[j]? = some x ∧ x.f1 = 2 ∧ ∃ e ∈ ex (bs[j].f1, bs[j].f2), e < bs[j].f4))
structure F2 (wf ex : Int × Int → List Int) (items : List S45) (now now' : Int) (bs : List S59) (i : Nat) (la : List S49) (ua : List ((Int × Int) × List Bool)) (lb : List S49) (ub : List ((Int × Int) × List Bool)) : Prop where
  len1 : la.length = bs.length
  len2 : lb.length = bs.length
  mr : MR wf ex ua ub
  keys : ∀ b ∈ bs, ∃ p, ua.find? (fun p => p.1 == (b.f1, b.f2)) = some p
  each : ∀ j (h : j < bs.length), (j < i ∧ ∃ x, la[j]? = some x ∧ (x.f1 = 1 ∨ lb[j]? = some x)) ∨
    (i ≤ j ∧ ∃ x, la[j]? = some x ∧ lb[j]? = some x ∧ x.f1 = 2) ∨
    (i ≤ j ∧ la[j]? = some (line0 items now bs[j]) ∧ (lb[j]? = some (line0 items now' bs[j]) ∨ ∃ x, lb[j]? = some x ∧ x.f1 = 2 ∧ ∃ e ∈ ex (bs[j].f1, bs[j].f2), e < bs[j].f4))
theorem find_setMark (us : List ((Int × Int) × List Bool)) (key : Int × Int) (u : List Bool) (k2 : Int × Int) (h : ∃ p, us.find? (fun p => p.1 == k2) = some p) : ∃ p, (setMark us key u).find? (fun p => p.1 == k2) = some p := by
  obtain ⟨p, hp⟩ := h
  rw [setMark_at, hp]; exact ⟨_, rfl⟩
theorem final_one {i : Nat} {la lb : List S49} {ua ub : List ((Int × Int) × List Bool)} (h : F1 wf ex items now now' bs i la ua lb ub) (hi : i < bs.length) :
    F1 wf ex items now now' bs (i + 1) (serveStep wf 2 win1 (la, ua) i bs[i]).1 (serveStep wf 2 win1 (la, ua) i bs[i]).2 (serveStep (fun k => wf k ++ ex k) 2 win1 (lb, ub) i bs[i]).1 (serveStep (fun k => wf k ++ ex k) 2 win1 (lb, ub) i bs[i]).2 := by
  rcases h.each i hi with ⟨_, e1, e2⟩ | ⟨e, _⟩ | ⟨e, _⟩
  rotate_left
  · omega
  · omega
  have hla : i < la.length := by rw [h.len1]; exact hi
  have hlb : i < lb.length := by rw [h.len2]; exact hi
  have keep : ∀ (la' lb' : List S49), (∀ j, i ≠ j → la'[j]? = la[j]?) → (∀ j, i ≠ j → lb'[j]? = lb[j]?) →
      ((∃ x, la'[i]? = some x ∧ lb'[i]? = some x ∧ x.f1 = 2) ∨ (la'[i]? = some (line0 items now bs[i]) ∧ (lb'[i]? = some (line0 items now' bs[i]) ∨ ∃ x, lb'[i]? = some x ∧ x.f1 = 2 ∧ ∃ e ∈ ex (bs[i].f1, bs[i].f2), e < bs[i].f4))) →
      ∀ j (h : j < bs.length), (i + 1 ≤ j ∧ la'[j]? = some (line0 items now bs[j]) ∧ lb'[j]? = some (line0 items now' bs[j])) ∨
        (j < i + 1 ∧ ∃ x, la'[j]? = some x ∧ lb'[j]? = some x ∧ x.f1 = 2) ∨
        (j < i + 1 ∧ la'[j]? = some (line0 items now bs[j]) ∧ (lb'[j]? = some (line0 items now' bs[j]) ∨ ∃ x, lb'[j]? = some x ∧ x.f1 = 2 ∧ ∃ e ∈ ex (bs[j].f1, bs[j].f2), e < bs[j].f4)) := by
    intro la' lb' h1 h2 h3 j hj
    by_cases e : i = j
    · subst e
      rcases h3 with h3 | h3
      · exact .inr (.inl ⟨by omega, h3⟩)
      · exact .inr (.inr ⟨by omega, h3⟩)
    · rw [h1 j e, h2 j e]
      rcases h.each j hj with ⟨a, b⟩ | ⟨a, b⟩ | ⟨a, b⟩
      · exact .inl ⟨by omega, b⟩
      · exact .inr (.inl ⟨by omega, b⟩)
      · exact .inr (.inr ⟨by omega, b⟩)
  obtain ⟨p, hp⟩ := h.keys bs[i] (List.getElem_mem hi)
  rcases h.mr (bs[i].f1, bs[i].f2) with ⟨n1, _⟩ | ⟨a, b, q, g1, g2, g3, g4, g5⟩
  · rw [n1] at hp; cases hp
  unfold serveStep
  simp only [rd_at la i _ e1, rd_at lb i _ e2]
  rw [if_neg (line0_ne2 _ _ _), if_neg (line0_ne2 _ _ _), g1, g2]
  simp only [win1]
  rw [g3, takeIdx_app _ _ _ _ _ _ g4]
  cases hta : takeIdx (wf (bs[i].f1, bs[i].f2)) a bs[i].f3 bs[i].f4 with
  | some j =>
    obtain ⟨j1, _, _, _⟩ := takeIdx_in _ _ _ _ _ hta
    simp only
    refine ⟨by simp [h.len1], by simp [h.len2], ?_, fun c hc => find_setMark _ _ _ _ (h.keys c hc), keep _ _ (fun j e => List.getElem?_set_ne e) (fun j e => List.getElem?_set_ne e) (.inl ?_)⟩
    · exact h.mr.both _ a (a ++ q) q g1 rfl g4 g5 j (by omega)
    · refine ⟨_, List.getElem?_set_self hla, ?_, rfl⟩
      rw [List.getElem?_set_self hlb, getD_left _ _ _ _ j1]
  | none =>
    cases htb : takeIdx (ex (bs[i].f1, bs[i].f2)) q bs[i].f3 bs[i].f4 with
    | none =>
      simp only [Option.map_none]
      exact ⟨h.len1, h.len2, h.mr, h.keys, keep _ _ (fun _ _ => rfl) (fun _ _ => rfl) (.inr ⟨e1, .inl e2⟩)⟩
    | some m =>
      obtain ⟨m1, m2, m3, m4⟩ := takeIdx_in _ _ _ _ _ htb
      simp only [Option.map_some]
      refine ⟨h.len1, by simp [h.len2], ?_, h.keys, keep _ _ (fun _ _ => rfl) (fun j e => List.getElem?_set_ne e) (.inr ⟨e1, .inr ⟨_, List.getElem?_set_self hlb, rfl, _, m4, m3⟩⟩)⟩
      exact h.mr.more _ a (a ++ q) q g1 rfl g4 g5 _ (by omega)
theorem final_two (HX : ∀ k, ∀ v ∈ wf k, ∀ e ∈ ex k, v < e) (HP : ∀ b ∈ bs, passedB items b now = true → ∀ e ∈ ex (b.f1, b.f2), b.f5 ≤ e) (HM : ∀ b ∈ bs, passedB items b now = true → passedB items b now' = true) (HT : ∀ b ∈ bs, b.f4 ≤ b.f5)
    {i : Nat} {la lb : List S49} {ua ub : List ((Int × Int) × List Bool)} (h : F2 wf ex items now now' bs i la ua lb ub) (hi : i < bs.length) :
    F2 wf ex items now now' bs (i + 1) (serveStep wf 3 win2 (la, ua) i bs[i]).1 (serveStep wf 3 win2 (la, ua) i bs[i]).2 (serveStep (fun k => wf k ++ ex k) 3 win2 (lb, ub) i bs[i]).1 (serveStep (fun k => wf k ++ ex k) 3 win2 (lb, ub) i bs[i]).2 := by
  have hla : i < la.length := by rw [h.len1]; exact hi
  have hlb : i < lb.length := by rw [h.len2]; exact hi
  have hmem := List.getElem_mem hi
  have keep : ∀ (la' lb' : List S49), (∀ j, i ≠ j → la'[j]? = la[j]?) → (∀ j, i ≠ j → lb'[j]? = lb[j]?) → (∃ x, la'[i]? = some x ∧ (x.f1 = 1 ∨ lb'[i]? = some x)) →
      ∀ j (h : j < bs.length), (j < i + 1 ∧ ∃ x, la'[j]? = some x ∧ (x.f1 = 1 ∨ lb'[j]? = some x)) ∨
        (i + 1 ≤ j ∧ ∃ x, la'[j]? = some x ∧ lb'[j]? = some x ∧ x.f1 = 2) ∨
        (i + 1 ≤ j ∧ la'[j]? = some (line0 items now bs[j]) ∧ (lb'[j]? = some (line0 items now' bs[j]) ∨ ∃ x, lb'[j]? = some x ∧ x.f1 = 2 ∧ ∃ e ∈ ex (bs[j].f1, bs[j].f2), e < bs[j].f4)) := by
    intro la' lb' h1 h2 h3 j hj
    by_cases e : i = j
    · subst e; exact .inl ⟨by omega, h3⟩
    · rw [h1 j e, h2 j e]
      rcases h.each j hj with ⟨a, b⟩ | ⟨a, b⟩ | ⟨a, b⟩
      · exact .inl ⟨by omega, b⟩
      · exact .inr (.inl ⟨by omega, b⟩)
      · exact .inr (.inr ⟨by omega, b⟩)
  have open1 : passedB items bs[i] now = false → (line0 items now bs[i]).f1 = 1 := fun hp => by unfold line0; rw [hp]; rfl
  obtain ⟨p, hp⟩ := h.keys bs[i] hmem
  rcases h.mr (bs[i].f1, bs[i].f2) with ⟨n1, _⟩ | ⟨a, b, q, g1, g2, g3, g4, g5⟩
  · rw [n1] at hp; cases hp
  rcases h.each i hi with ⟨e, _⟩ | ⟨_, x, e1, e2, e3⟩ | ⟨_, e1, e2 | ⟨x, e2, e3, e, he, hlt⟩⟩
  · omega
  · have s1 : serveStep wf 3 win2 (la, ua) i bs[i] = (la, ua) := by
      unfold serveStep; simp only [rd_at la i _ e1]; rw [if_pos e3]
    have s2 : serveStep (fun k => wf k ++ ex k) 3 win2 (lb, ub) i bs[i] = (lb, ub) := by
      unfold serveStep; simp only [rd_at lb i _ e2]; rw [if_pos e3]
    rw [s1, s2]
    exact ⟨h.len1, h.len2, h.mr, h.keys, keep _ _ (fun _ _ => rfl) (fun _ _ => rfl) ⟨x, e1, .inr e2⟩⟩
  · unfold serveStep
    simp only [rd_at la i _ e1, rd_at lb i _ e2]
    rw [if_neg (line0_ne2 _ _ _), if_neg (line0_ne2 _ _ _), g1, g2]
    simp only [win2]
    rw [g3, takeIdx_app _ _ _ _ _ _ g4]
    cases hta : takeIdx (wf (bs[i].f1, bs[i].f2)) a bs[i].f4 bs[i].f5 with
    | some j =>
      obtain ⟨j1, _, _, _⟩ := takeIdx_in _ _ _ _ _ hta
      simp only
      refine ⟨by simp [h.len1], by simp [h.len2], ?_, fun c hc => find_setMark _ _ _ _ (h.keys c hc), keep _ _ (fun j e => List.getElem?_set_ne e) (fun j e => List.getElem?_set_ne e) ⟨_, List.getElem?_set_self hla, .inr ?_⟩⟩
      · exact h.mr.both _ a (a ++ q) q g1 rfl g4 g5 j (by omega)
      · rw [List.getElem?_set_self hlb, getD_left _ _ _ _ j1]
    | none =>
      cases htb : takeIdx (ex (bs[i].f1, bs[i].f2)) q bs[i].f4 bs[i].f5 with
      | none =>
        simp only [Option.map_none]
        refine ⟨h.len1, h.len2, h.mr, h.keys, keep _ _ (fun _ _ => rfl) (fun _ _ => rfl) ⟨_, e1, ?_⟩⟩
        cases hpb : passedB items bs[i] now with
        | false => exact .inl (open1 hpb)
        | true =>
          right
          rw [e2]
          have := HM _ hmem hpb
          unfold line0
          rw [hpb, this]
      | some m =>
        obtain ⟨m1, m2, m3, m4⟩ := takeIdx_in _ _ _ _ _ htb
        simp only [Option.map_some]
        refine ⟨h.len1, by simp [h.len2], ?_, h.keys, keep _ _ (fun _ _ => rfl) (fun j e => List.getElem?_set_ne e) ⟨_, e1, .inl (open1 ?_)⟩⟩
        · exact h.mr.more _ a (a ++ q) q g1 rfl g4 g5 _ (by omega)
        · cases hpb : passedB items bs[i] now with
          | false => rfl
          | true => have := HP _ hmem hpb _ m4; omega
  · have s2 : serveStep (fun k => wf k ++ ex k) 3 win2 (lb, ub) i bs[i] = (lb, ub) := by
      unfold serveStep; simp only [rd_at lb i _ e2]; rw [if_pos e3]
    rw [s2]
    unfold serveStep
    simp only [rd_at la i _ e1]
    rw [if_neg (line0_ne2 _ _ _), g1]
    simp only [win2]
    cases hta : takeIdx (wf (bs[i].f1, bs[i].f2)) a bs[i].f4 bs[i].f5 with
    | some j =>
      obtain ⟨_, j2, _, j4⟩ := takeIdx_in _ _ _ _ _ hta
      have := HX _ _ j4 e he
      omega
    | none =>
      simp only
      refine ⟨h.len1, h.len2, h.mr, h.keys, keep _ _ (fun _ _ => rfl) (fun _ _ => rfl) ⟨_, e1, .inl (open1 ?_)⟩⟩
      cases hpb : passedB items bs[i] now with
      | false => rfl
      | true => have := HP _ hmem hpb _ he; have := HT _ hmem; omega
theorem finals_one : ∀ (m i : Nat) (la lb : List S49) (ua ub : List ((Int × Int) × List Bool)), bs.length - i = m → i ≤ bs.length → F1 wf ex items now now' bs i la ua lb ub →
    F1 wf ex items now now' bs bs.length (serveL wf 2 win1 (bs.drop i) i (la, ua)).1 (serveL wf 2 win1 (bs.drop i) i (la, ua)).2 (serveL (fun k => wf k ++ ex k) 2 win1 (bs.drop i) i (lb, ub)).1 (serveL (fun k => wf k ++ ex k) 2 win1 (bs.drop i) i (lb, ub)).2
  | 0, i, la, lb, ua, ub, hm, hi, h => by
    have e : i = bs.length := by omega
    subst e
    rw [List.drop_length]; exact h
  | m + 1, i, la, lb, ua, ub, hm, hi, h => by
    have hlt : i < bs.length := by omega
    rw [List.drop_eq_getElem_cons hlt]
    exact finals_one m (i + 1) _ _ _ _ (by omega) (by omega) (final_one h hlt)
theorem finals_two (HX : ∀ k, ∀ v ∈ wf k, ∀ e ∈ ex k, v < e) (HP : ∀ b ∈ bs, passedB items b now = true → ∀ e ∈ ex (b.f1, b.f2), b.f5 ≤ e) (HM : ∀ b ∈ bs, passedB items b now = true → passedB items b now' = true) (HT : ∀ b ∈ bs, b.f4 ≤ b.f5) :
    ∀ (m i : Nat) (la lb : List S49) (ua ub : List ((Int × Int) × List Bool)), bs.length - i = m → i ≤ bs.length → F2 wf ex items now now' bs i la ua lb ub →
    F2 wf ex items now now' bs bs.length (serveL wf 3 win2 (bs.drop i) i (la, ua)).1 (serveL wf 3 win2 (bs.drop i) i (la, ua)).2 (serveL (fun k => wf k ++ ex k) 3 win2 (bs.drop i) i (lb, ub)).1 (serveL (fun k => wf k ++ ex k) 3 win2 (bs.drop i) i (lb, ub)).2
  | 0, i, la, lb, ua, ub, hm, hi, h => by
    have e : i = bs.length := by omega
    subst e
    rw [List.drop_length]; exact h
  | m + 1, i, la, lb, ua, ub, hm, hi, h => by
    have hlt : i < bs.length := by omega
    rw [List.drop_eq_getElem_cons hlt]
    exact finals_two HX HP HM HT m (i + 1) _ _ _ _ (by omega) (by omega) (final_two HX HP HM HT h hlt)
end
theorem serveL_len (wf : Int × Int → List Int) (st : Int) (win : S59 → Int × Int) : ∀ (bs : List S59) (i : Nat) (s : List S49 × List ((Int × Int) × List Bool)), (serveL wf st win bs i s).1.length = s.1.length
  | [], _, _ => rfl
  | b :: r, i, s => by
    rw [serveL, serveL_len wf st win r]
    unfold serveStep
    split
    · rfl
    · split
      · rfl
      · split <;> simp
theorem invoice_len (items : List S45) (ch : Int) (bs : List S59) (l : List S43) (now : Int) : (invoiceOf items ch bs l now).length = bs.length := by
  unfold invoiceOf; rw [serveL_len, serveL_len]; simp
theorem passed_num (items : List S45) (b : S59) (now : Int) (hf : (itemOf items b.f1).1.f2 ≤ 100000000) (h5 : 0 ≤ b.f5) (hn : now ≤ 9223372036854775807) : passedB items b now = true ↔ b.f5 ≤ now ∧ mx (itemOf items b.f1).1.f2 0 ≤ now - b.f5 := by
  have hm : 0 ≤ mx (itemOf items b.f1).1.f2 0 ∧ mx (itemOf items b.f1).1.f2 0 ≤ 100000000 := by unfold mx; split <;> omega
  unfold passedB
  by_cases h : now < b.f5
  · rw [if_pos h]
    constructor
    · intro e; cases e
    · intro e; omega
  · rw [if_neg h]
    have e1 : IntKind.u64.wrap (IntKind.u64.wrap now - IntKind.u64.wrap b.f5) = now - b.f5 := by
      rw [IntKind.wrap_u64, IntKind.wrap_u64, IntKind.wrap_u64]; omega
    have e2 : IntKind.u64.wrap (mx (itemOf items b.f1).1.f2 0) = mx (itemOf items b.f1).1.f2 0 := by rw [IntKind.wrap_u64]; omega
    rw [e1, e2]
    simp
    omega
/-- What is aired later changes no line that is not open. -/
theorem final_pure (items : List S45) (ch : Int) (bs : List S59) (l ms : List S43) (now now' : Int) (h0 : now ≤ now') (h1 : now' ≤ 9223372036854775807)
    (hit : ∀ id, (itemOf items id).1.f2 ≤ 100000000) (hbk : ∀ b ∈ bs, 0 ≤ b.f5 ∧ b.f4 ≤ b.f5)
    (ha : ∀ r ∈ ms, (itemOf items r.f4).2 = true → 1 ≤ (itemOf items r.f4).1.f2 → (∀ x ∈ l, x.f4 = r.f4 → x.f2 ≤ 100000000 → x.f2 < r.f2) ∧ now + 1 - (itemOf items r.f4).1.f2 ≤ r.f2)
    (j : Nat) (x : S49) (hx : (invoiceOf items ch bs l now)[j]? = some x) : x.f1 = 1 ∨ (invoiceOf items ch bs (l ++ ms) now')[j]? = some x := by
  have hw : wfOf items ch (l ++ ms) = fun k => wfOf items ch l k ++ exOf items ch ms k := by
    funext k
    exact whole_app items ch l ms k (fun r hr x hxl e1 e2 e3 e4 => (ha r hr e3 e4).1 x hxl e1 e2)
  have hj : j < bs.length := by
    rw [← invoice_len items ch bs l now]
    exact (List.getElem?_eq_some_iff.1 hx).1
  have hfirst : MR (wfOf items ch l) (exOf items ch ms) (marks0 (wfOf items ch l) bs) (marks0 (fun k => wfOf items ch l k ++ exOf items ch ms k) bs) :=
    MR_first _ _ bs [] [] (fun k => .inl ⟨rfl, rfl⟩)
  have hkeys : ∀ (us : List ((Int × Int) × List Bool)) (cs : List S59), (∀ k, (∃ p, us.find? (fun p => p.1 == k) = some p) → ∃ p, (cs.foldl (fun us b => addKey (wfOf items ch l) us (b.f1, b.f2)) us).find? (fun p => p.1 == k) = some p) ∧
      ∀ b ∈ cs, ∃ p, (cs.foldl (fun us b => addKey (wfOf items ch l) us (b.f1, b.f2)) us).find? (fun p => p.1 == (b.f1, b.f2)) = some p := by
    intro us cs
    induction cs generalizing us with
    | nil => exact ⟨fun k hk => hk, fun b hb => by simp at hb⟩
    | cons b r ih =>
      obtain ⟨i1, i2⟩ := ih (addKey (wfOf items ch l) us (b.f1, b.f2))
      have hk : ∀ k, (∃ p, us.find? (fun p => p.1 == k) = some p) → ∃ p, (addKey (wfOf items ch l) us (b.f1, b.f2)).find? (fun p => p.1 == k) = some p := by
        rintro k ⟨p, hp⟩
        unfold addKey
        split
        · exact ⟨p, hp⟩
        · rw [List.find?_append, hp]; exact ⟨p, rfl⟩
      refine ⟨fun k h => i1 k (hk k h), fun c hc => ?_⟩
      rcases List.mem_cons.1 hc with rfl | hc
      · refine i1 _ ?_
        unfold addKey
        split
        · rename_i hs; exact Option.isSome_iff_exists.1 hs
        · rename_i hs
          rw [List.find?_append, Option.not_isSome_iff_eq_none.1 hs]
          exact ⟨((c.f1, c.f2), List.replicate (wfOf items ch l (c.f1, c.f2)).length false), by simp⟩
      · exact i2 c hc
  have s0 : F1 (wfOf items ch l) (exOf items ch ms) items now now' bs 0 (bs.map (line0 items now)) (marks0 (wfOf items ch l) bs) (bs.map (line0 items now')) (marks0 (fun k => wfOf items ch l k ++ exOf items ch ms k) bs) :=
    ⟨by simp, by simp, hfirst, (hkeys [] bs).2, fun j hj => .inl ⟨Nat.zero_le _, by simp [hj], by simp [hj]⟩⟩
  have s1 := finals_one bs.length 0 _ _ _ _ rfl (Nat.zero_le _) s0
  rw [List.drop_zero] at s1
  have s1' : F2 (wfOf items ch l) (exOf items ch ms) items now now' bs 0 _ _ _ _ := ⟨s1.len1, s1.len2, s1.mr, s1.keys, fun j hj => by
    rcases s1.each j hj with ⟨a, b⟩ | ⟨a, b⟩ | ⟨a, b⟩
    · omega
    · exact .inr (.inl ⟨Nat.zero_le _, b⟩)
    · exact .inr (.inr ⟨Nat.zero_le _, b⟩)⟩
  have HX : ∀ k, ∀ v ∈ wfOf items ch l k, ∀ e ∈ exOf items ch ms k, v < e := by
    intro k v hv e he
    obtain ⟨r, hr, q1, q2, q3, q4⟩ := ex_mem items ch ms k e he
    obtain ⟨y, hy, p1, p2, _, _⟩ := ex_mem items ch l k v hv
    have p3 : v ≤ 100000000 := by
      unfold wfOf wholeOf at hv
      split at hv
      · rw [sortU_mem] at hv
        unfold wholeRaw airs at hv
        obtain ⟨z, hz, rfl⟩ := List.mem_map.1 hv
        have := (List.mem_filter.1 (List.mem_filter.1 hz).1).2
        unfold isAir at this
        simp at this
        omega
      · simp at hv
    have := (ha r hr (by rw [q1]; exact q3) (by rw [q1]; exact q4)).1 y hy (by rw [p1, q1]) (by omega)
    omega
  have s2 := finals_two HX (fun b hb hp e he => ?_) (fun b hb hp => ?_) (fun b hb => (hbk b hb).2) bs.length 0 _ _ _ _ rfl (Nat.zero_le _) s1'
  rotate_left
  · obtain ⟨r, hr, q1, q2, q3, q4⟩ := ex_mem items ch ms _ e he
    have hn := (passed_num items b now (hit _) (hbk b hb).1 (by omega)).1 hp
    have := (ha r hr (by rw [q1]; exact q3) (by rw [q1]; exact q4)).2
    rw [q1] at this
    simp only at this q4
    have hm : mx (itemOf items b.f1).1.f2 0 = (itemOf items b.f1).1.f2 := by unfold mx; split <;> omega
    omega
  · have hn := (passed_num items b now (hit _) (hbk b hb).1 (by omega)).1 hp
    exact (passed_num items b now' (hit _) (hbk b hb).1 h1).2 (by omega)
  rw [List.drop_zero] at s2
  have hx' := hx
  unfold invoiceOf at hx' ⊢
  rw [hw]
  rcases s2.each j hj with ⟨_, y, b1, b2⟩ | ⟨a, _⟩ | ⟨a, _⟩
  · rw [hx'] at b1
    cases b1
    exact b2
  · omega
  · omega
end Go.Proofs.Ytpdbhaoppdgmeaa.Pr
