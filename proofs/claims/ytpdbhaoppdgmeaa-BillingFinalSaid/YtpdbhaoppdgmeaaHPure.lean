/- Plain laws on sorted lists of integers: no program in sight. -/
import Derived.Lib.SlicesCompact
namespace Go.Proofs.Ytpdbhaoppdgmeaa.Sup

def insU (n : Int) : List Int → List Int
  | [] => [n]
  | x :: t => if n < x then n :: x :: t else if n = x then x :: t else x :: insU n t
def sortU (l : List Int) : List Int := l.foldl (fun acc n => insU n acc) []

theorem insU_mem (n x : Int) : ∀ l : List Int, x ∈ insU n l ↔ x = n ∨ x ∈ l
  | [] => by simp [insU]
  | y :: t => by
    unfold insU
    split
    · simp
    · split
      · rename_i h; subst h; simp
      · simp only [List.mem_cons, insU_mem n x t]
        constructor <;> rintro (h | h | h) <;> simp [h]
theorem insU_sorted (n : Int) : ∀ l : List Int, l.Pairwise (· < ·) → (insU n l).Pairwise (· < ·)
  | [], _ => by simp [insU]
  | y :: t, h => by
    obtain ⟨h1, h2⟩ := List.pairwise_cons.1 h
    unfold insU
    split
    · rename_i hlt
      refine List.pairwise_cons.2 ⟨fun z hz => ?_, h⟩
      rcases List.mem_cons.1 hz with rfl | hz
      · exact hlt
      · have := h1 z hz; omega
    · split
      · exact h
      · refine List.pairwise_cons.2 ⟨fun z hz => ?_, insU_sorted n t h2⟩
        rcases (insU_mem n z t).1 hz with rfl | hz
        · omega
        · exact h1 z hz
theorem foldU (l : List Int) : ∀ acc : List Int, acc.Pairwise (· < ·) → (l.foldl (fun acc n => insU n acc) acc).Pairwise (· < ·) ∧ ∀ x, x ∈ l.foldl (fun acc n => insU n acc) acc ↔ x ∈ acc ∨ x ∈ l := by
  induction l with
  | nil => intro acc h; exact ⟨h, fun x => by simp⟩
  | cons a l ih =>
    intro acc h
    obtain ⟨h1, h2⟩ := ih (insU a acc) (insU_sorted a acc h)
    refine ⟨h1, fun x => ?_⟩
    rw [List.foldl_cons, h2 x, insU_mem]
    simp only [List.mem_cons]
    constructor
    · rintro ((h | h) | h)
      · exact .inr (.inl h)
      · exact .inl h
      · exact .inr (.inr h)
    · rintro (h | h | h)
      · exact .inl (.inr h)
      · exact .inl (.inl h)
      · exact .inr h
theorem sortU_sorted (l : List Int) : (sortU l).Pairwise (· < ·) := (foldU l [] List.Pairwise.nil).1
theorem sortU_mem (l : List Int) (x : Int) : x ∈ sortU l ↔ x ∈ l := by
  have := (foldU l [] List.Pairwise.nil).2 x
  simpa [sortU] using this

/-- Two strictly ascending lists with the same members are one. -/
theorem strict_ext : ∀ l1 l2 : List Int, l1.Pairwise (· < ·) → l2.Pairwise (· < ·) → (∀ x, x ∈ l1 ↔ x ∈ l2) → l1 = l2
  | [], [], _, _, _ => rfl
  | [], y :: t, _, _, h => by have := (h y).2 (by simp); simp at this
  | x :: s, [], _, _, h => by have := (h x).1 (by simp); simp at this
  | x :: s, y :: t, h1, h2, h => by
    obtain ⟨a1, a2⟩ := List.pairwise_cons.1 h1
    obtain ⟨b1, b2⟩ := List.pairwise_cons.1 h2
    have hxy : x = y := by
      have hx := (h x).1 (by simp)
      have hy := (h y).2 (by simp)
      rcases List.mem_cons.1 hx with e | e
      · exact e
      · rcases List.mem_cons.1 hy with e' | e'
        · exact e'.symm
        · have := b1 x e; have := a1 y e'; omega
    subst hxy
    congr 1
    refine strict_ext s t a2 b2 (fun z => ⟨fun hz => ?_, fun hz => ?_⟩)
    · rcases List.mem_cons.1 ((h z).1 (by simp [hz])) with e | e
      · have := a1 z hz; omega
      · exact e
    · rcases List.mem_cons.1 ((h z).2 (by simp [hz])) with e | e
      · have := b1 z hz; omega
      · exact e

theorem compact_inv (d : Array Int) (hs : ∀ i j, i ≤ j → j < d.size → d[i]! ≤ d[j]!) : ∀ m, m ≤ d.size → (Lib.compactUpTo d m).Pairwise (· < ·) ∧ ∀ x, x ∈ Lib.compactUpTo d m ↔ ∃ j, j < m ∧ d[j]! = x := by
  intro m
  induction m with
  | zero => intro _; exact ⟨by simp [Lib.compactUpTo], fun x => by simp [Lib.compactUpTo]⟩
  | succ m ih =>
    intro hm
    obtain ⟨h1, h2⟩ := ih (by omega)
    rw [Lib.compactUpTo_succ]
    by_cases hk : Lib.keeps d m = true
    · rw [if_pos hk]
      have hk' : m = 0 ∨ d[m]! ≠ d[m - 1]! := by simpa [Lib.keeps] using hk
      refine ⟨List.pairwise_append.2 ⟨h1, by simp, fun a ha b hb => ?_⟩, fun x => ?_⟩
      · rw [List.mem_singleton] at hb
        subst hb
        obtain ⟨j, hj, rfl⟩ := (h2 a).1 ha
        rcases hk' with e | e
        · omega
        · have q1 := hs j (m - 1) (by omega) (by omega)
          have q2 := hs (m - 1) m (by omega) (by omega)
          omega
      · rw [List.mem_append, List.mem_singleton, h2]
        constructor
        · rintro (⟨j, hj, e⟩ | e)
          · exact ⟨j, by omega, e⟩
          · exact ⟨m, by omega, e.symm⟩
        · rintro ⟨j, hj, e⟩
          by_cases ej : j = m
          · subst ej; exact .inr e.symm
          · exact .inl ⟨j, by omega, e⟩
    · rw [if_neg hk, List.append_nil]
      have hk' : ¬ (m = 0 ∨ d[m]! ≠ d[m - 1]!) := by simpa [Lib.keeps] using hk
      have hm0 : m ≠ 0 := fun e => hk' (.inl e)
      have he : d[m]! = d[m - 1]! := by
        by_cases e : d[m]! = d[m - 1]!
        · exact e
        · exact absurd (.inr e) hk'
      refine ⟨h1, fun x => ?_⟩
      rw [h2]
      constructor
      · rintro ⟨j, hj, e⟩; exact ⟨j, by omega, e⟩
      · rintro ⟨j, hj, e⟩
        by_cases ej : j = m
        · subst ej; exact ⟨j - 1, by omega, by rw [← he]; exact e⟩
        · exact ⟨j, by omega, e⟩

theorem compact_sort (zs : List Int) : Lib.compact (zs.mergeSort fun x y => decide (x ≤ y)) = sortU zs := by
  have hp : (zs.mergeSort fun x y => decide (x ≤ y)).Perm zs := List.mergeSort_perm _ _
  have hsrt : (zs.mergeSort fun x y => decide (x ≤ y)).Pairwise (fun a b => decide (a ≤ b) = true) :=
    List.pairwise_mergeSort (fun a b c h1 h2 => by simp at *; omega) (fun a b => by simp; omega) zs
  generalize zs.mergeSort (fun x y => decide (x ≤ y)) = s at *
  have hs : ∀ i j, i ≤ j → j < s.toArray.size → s.toArray[i]! ≤ s.toArray[j]! := by
    intro i j hij hj
    have hj' : j < s.length := by simpa using hj
    have hi' : i < s.length := by omega
    have e1 : s.toArray[i]! = s[i] := by simp [hi']
    have e2 : s.toArray[j]! = s[j] := by simp [hj']
    rw [e1, e2]
    by_cases e : i = j
    · subst e; exact Int.le_refl _
    · have := List.pairwise_iff_getElem.1 hsrt i j hi' hj' (by omega)
      simpa using this
  obtain ⟨h1, h2⟩ := compact_inv s.toArray hs s.length (by simp)
  refine strict_ext _ _ h1 (sortU_sorted zs) (fun x => ?_)
  rw [show Lib.compact s = Lib.compactUpTo s.toArray s.length from rfl, h2, sortU_mem, ← hp.mem_iff]
  constructor
  · rintro ⟨j, hj, e⟩
    have e1 : s.toArray[j]! = s[j] := by simp [hj]
    rw [← e, e1]; exact List.getElem_mem hj
  · intro hx
    obtain ⟨j, hj, e⟩ := List.getElem_of_mem hx
    exact ⟨j, hj, by rw [← e]; simp [hj]⟩
theorem insU_len (n : Int) : ∀ l : List Int, (insU n l).length ≤ l.length + 1
  | [] => by simp [insU]
  | x :: t => by
    unfold insU
    have := insU_len n t
    split
    · simp
    · split <;> simp <;> omega
theorem foldU_len (l : List Int) : ∀ acc : List Int, (l.foldl (fun acc n => insU n acc) acc).length ≤ acc.length + l.length := by
  induction l with
  | nil => intro acc; simp
  | cons a l ih =>
    intro acc
    have h1 := ih (insU a acc)
    have h2 := insU_len a acc
    simp only [List.foldl_cons, List.length_cons]
    omega
theorem sortU_len (l : List Int) : (sortU l).length ≤ l.length := by
  have := foldU_len l []
  simpa [sortU] using this
end Go.Proofs.Ytpdbhaoppdgmeaa.Sup
