/- Plain facts on leap years: how many of a rising list lie up to a number. No program here. -/
import Derived.Test.YtlfammlboncmeaaL
namespace Go.Proofs.Ytlfammlboncmeaa.Q
open Go.RowKit Go.Proofs.YtlfammlboncmeaaW.PrintWords Go.Proofs.Ytlfammlboncmeaa.M Go.Proofs.Ytlfammlboncmeaa.L
set_option linter.unusedVariables false
/-- How many are at most n. -/
def cntLe (l : List Int) (n : Int) : Int := (l.countP fun y => decide (y ≤ n) : Nat)
theorem cnt_nonneg (l : List Int) (n : Int) : 0 ≤ cntLe l n := by unfold cntLe; omega
theorem cnt_le_len (l : List Int) (n : Int) : cntLe l n ≤ l.length := by
  unfold cntLe; have := List.countP_le_length (p := fun y : Int => decide (y ≤ n)) (l := l); omega
theorem cnt_zero {l : List Int} {n : Int} (h : ∀ y ∈ l, n < y) : cntLe l n = 0 := by
  unfold cntLe
  have : (l.countP fun y => decide (y ≤ n)) = 0 := by
    rw [List.countP_eq_zero]
    intro y hy
    have := h y hy
    simp; omega
  omega
theorem cnt_all {l : List Int} {c : Int} (h : ∀ y ∈ l, y ≤ c) : cntLe l c = l.length := by
  unfold cntLe
  have : (l.countP fun y => decide (y ≤ c)) = l.length := by
    rw [List.countP_eq_length]
    intro y hy
    exact decide_eq_true (h y hy)
  omega
theorem cnt_succ : ∀ {l : List Int} (n : Int), l.Pairwise (· < ·) → cntLe l (n + 1) = cntLe l n + if n + 1 ∈ l then 1 else 0
  | [], n, _ => by simp [cntLe]
  | x :: t, n, h => by
    have ih := cnt_succ n (List.pairwise_cons.1 h).2
    have hx := (List.pairwise_cons.1 h).1
    unfold cntLe at *
    rw [List.countP_cons, List.countP_cons]
    by_cases c1 : x ≤ n
    · rw [if_pos (decide_eq_true (show x ≤ n + 1 by omega)), if_pos (decide_eq_true c1)]
      by_cases c2 : n + 1 ∈ t
      · rw [if_pos c2] at ih; rw [if_pos (List.mem_cons_of_mem _ c2)]; omega
      · rw [if_neg c2] at ih
        rw [if_neg (fun hm => by rcases List.mem_cons.1 hm with h | h; · omega
                                 · exact c2 h)]; omega
    · rw [if_neg (show ¬ decide (x ≤ n) = true by simpa using c1)]
      by_cases c2 : x = n + 1
      · have c3 : n + 1 ∉ t := fun hm => by have := hx _ hm; omega
        rw [if_neg c3] at ih
        rw [if_pos (decide_eq_true (by omega)), if_pos (by rw [c2]; exact List.mem_cons_self)]; omega
      · rw [if_neg (show ¬ decide (x ≤ n + 1) = true by simp; omega)]
        have c3 : n + 1 ∉ t := fun hm => by have := hx _ hm; omega
        rw [if_neg c3] at ih
        rw [if_neg (fun hm => by rcases List.mem_cons.1 hm with h | h; · omega
                                 · exact c3 h)]; omega
theorem cnt_le_self {l : List Int} (hp : l.Pairwise (· < ·)) (h1 : ∀ y ∈ l, 1 ≤ y) : ∀ n : Nat, cntLe l n ≤ n
  | 0 => by rw [cnt_zero (fun y hy => by have := h1 y hy; omega)]; omega
  | n + 1 => by
    have ih := cnt_le_self hp h1 n
    rw [show ((n + 1 : Nat) : Int) = (n : Int) + 1 from by omega, cnt_succ _ hp]
    split <;> omega
/-- The days of the first n years of a cycle, a common year of s days and a leap year of b days. -/
def sumY (s b : Int) (l : List Int) : Nat → Int
  | 0 => 0
  | n + 1 => sumY s b l n + if ((n : Int) + 1) ∈ l then b else s
theorem sumY_eq (s b : Int) {l : List Int} (hp : l.Pairwise (· < ·)) (h1 : ∀ y ∈ l, 1 ≤ y) : ∀ n : Nat, sumY s b l n = s * (n - cntLe l n) + b * cntLe l n
  | 0 => by rw [cnt_zero (fun y hy => by have := h1 y hy; omega)]; simp [sumY]
  | n + 1 => by
    rw [sumY, sumY_eq s b hp h1 n, show ((n + 1 : Nat) : Int) = (n : Int) + 1 from by omega, cnt_succ _ hp]
    by_cases c : (n : Int) + 1 ∈ l
    · rw [if_pos c, if_pos c, show (n : Int) + 1 - (cntLe l n + 1) = n - cntLe l n from by omega, Int.mul_add b, Int.mul_one, Int.add_assoc]
    · rw [if_neg c, if_neg c, show (n : Int) + 1 - (cntLe l n + 0) = (n - cntLe l n) + 1 from by omega, Int.mul_add s, Int.mul_one, Int.add_zero]; omega
theorem sumY_bound {s b : Int} {l : List Int} (hs : 0 ≤ s) (hs' : s ≤ 8000) (hb : 0 ≤ b) (hb' : b ≤ 8000) : ∀ n : Nat, 0 ≤ sumY s b l n ∧ sumY s b l n ≤ 8000 * n
  | 0 => by simp [sumY]
  | n + 1 => by
    have := sumY_bound (l := l) hs hs' hb hb' n
    rw [sumY]
    split <;> omega
/-- A binary search's place: the first number above r; r + 1 stands there, if it is in the list. -/
theorem srch_at : ∀ {l : List Int} (r : Int), l.Pairwise (· < ·) → ((r + 1 ∈ l) ↔ ∃ h : (l.countP fun y => decide (y ≤ r)) < l.length, l[l.countP fun y => decide (y ≤ r)] = r + 1)
  | [], r, _ => by simp
  | x :: t, r, hp => by
    have ih := srch_at r (List.pairwise_cons.1 hp).2
    have hx := (List.pairwise_cons.1 hp).1
    by_cases c : x ≤ r
    · have e : ((x :: t).countP fun y => decide (y ≤ r)) = (t.countP fun y => decide (y ≤ r)) + 1 := by rw [List.countP_cons, if_pos (decide_eq_true c)]
      simp only [e, List.length_cons, List.getElem_cons_succ, List.mem_cons]
      constructor
      · rintro (h | h)
        · omega
        · obtain ⟨h1, h2⟩ := ih.1 h; exact ⟨by omega, h2⟩
      · rintro ⟨h1, h2⟩; exact .inr (ih.2 ⟨by omega, h2⟩)
    · have z : (t.countP fun y => decide (y ≤ r)) = 0 := by
        rw [List.countP_eq_zero]; intro y hy; have := hx y hy; simp; omega
      have e : ((x :: t).countP fun y => decide (y ≤ r)) = 0 := by rw [List.countP_cons, z, if_neg (by simpa using c)]
      simp only [e, List.length_cons, List.getElem_cons_zero, List.mem_cons]
      constructor
      · rintro (h | h)
        · exact ⟨by omega, h.symm⟩
        · have := hx _ h; omega
      · rintro ⟨_, h⟩; exact .inl h.symm
theorem count_fun (r : Int) : (fun y : Int => !decide (r + 1 ≤ y)) = fun y => decide (y ≤ r) := by
  funext y
  by_cases c : y ≤ r
  · rw [decide_eq_true c, decide_eq_false (show ¬ r + 1 ≤ y by omega)]; rfl
  · rw [decide_eq_false c, decide_eq_true (show r + 1 ≤ y by omega)]; rfl
end Go.Proofs.Ytlfammlboncmeaa.Q
