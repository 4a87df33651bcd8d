/- Plain facts on zones: offsets and labels. No program here. -/
import Derived.Test.YtblmcfebfdegbaaDoorM
import Derived.Test.YtblmcfebfdegbaaDoorT
import Derived.Lib.SlTrimSet
namespace Go.Proofs.YtblmcfebfdegbaaDoor.Z
open Go.RowKit Go.Proofs.YtblmcfebfdegbaaDoorW.PrintWords Go.Proofs.YtblmcfebfdegbaaDoor.M Go.Proofs.YtblmcfebfdegbaaDoor.T
set_option linter.unusedVariables false
/-- An offset that is allowed. -/
def okOff (x : Int) : Bool := decide (-64800000 ≤ x ∧ x ≤ 64800000 ∧ x % 1000 = 0)
/-- All bytes are capitals. -/
def caps (l : List UInt8) : Bool := l.all fun c => decide (65 ≤ (c.toNat : Int)) && decide ((c.toNat : Int) ≤ 90)
/-- A label that is allowed. -/
def isLabel (s : ByteArray) : Bool := decide (1 ≤ s.size ∧ s.size ≤ 6) && caps s.data.toList
def abc : List UInt8 := [65, 66, 67, 68, 69, 70, 71, 72, 73, 74, 75, 76, 77, 78, 79, 80, 81, 82, 83, 84, 85, 86, 87, 88, 89, 90]
theorem abc_all : ∀ c : UInt8, abc.contains c = (decide (65 ≤ (c.toNat : Int)) && decide ((c.toNat : Int) ≤ 90)) := by
  have h : ∀ n : Fin 256, abc.contains (UInt8.ofNat n.val) = (decide (65 ≤ ((UInt8.ofNat n.val).toNat : Int)) && decide (((UInt8.ofNat n.val).toNat : Int) ≤ 90)) := by decide +kernel
  intro c
  have := h ⟨c.toNat, c.toNat_lt⟩
  rwa [UInt8.ofNat_toNat] at this
theorem dropWhile_nil {α : Type} (p : α → Bool) : ∀ l : List α, l.dropWhile p = [] ↔ l.all p = true
  | [] => by simp
  | a :: l => by
    have ih := dropWhile_nil p l
    by_cases h : p a = true
    · simp [List.dropWhile, h, ih]
    · simp [List.dropWhile, h]
theorem trim_nil (l cs : List UInt8) : Go.Lib.trimS l cs = [] ↔ (l.all (cs.contains ·)) = true := by
  unfold Go.Lib.trimS Go.Lib.trimLeftS Go.Lib.trimRightS
  rw [dropWhile_nil]
  constructor
  · intro h
    rw [List.all_reverse] at h
    by_cases hl : l.all (cs.contains ·) = true
    · exact hl
    exfalso
    have hr : ¬ (l.reverse.all (cs.contains ·)) = true := by rw [List.all_reverse]; exact hl
    rw [← dropWhile_nil] at hr
    obtain ⟨a, t, e⟩ := List.exists_cons_of_ne_nil hr
    have hp : ¬ (cs.contains a) = true := by
      have := List.head?_dropWhile_not (fun x => cs.contains x) l.reverse
      rw [e] at this
      simpa using this
    rw [e, List.all_cons] at h
    simp only [Bool.and_eq_true] at h
    exact hp h.1
  · intro h
    have : l.reverse.dropWhile (cs.contains ·) = [] := (dropWhile_nil _ _).2 (by rw [List.all_reverse]; exact h)
    rw [this]; rfl
theorem trim_caps (l : List UInt8) : (Go.Lib.trimS l abc = []) ↔ caps l = true := by
  rw [trim_nil]
  unfold caps
  rw [show (fun x => abc.contains x) = (fun c : UInt8 => decide (65 ≤ (c.toNat : Int)) && decide ((c.toNat : Int) ≤ 90)) from funext abc_all]
theorem tmod_thousand (x : Int) : (Int.tmod x 1000 == 0) = decide (x % 1000 = 0) := by
  obtain ⟨h1, h2⟩ := tmod_emod x 1000 (by decide)
  by_cases c : x % 1000 = 0
  · rw [decide_eq_true c, beq_iff_eq]
    by_cases d : Int.tmod x 1000 < 0
    · have := h1 d
      have h3 : Int.tmod x 1000 > -1000 := Int.lt_tmod_of_pos x (by decide)
      omega
    · exact (h2 d).trans c
  · rw [decide_eq_false c, beq_eq_false_iff_ne]
    intro e
    exact c ((h2 (by omega)).symm.trans e)
end Go.Proofs.YtblmcfebfdegbaaDoor.Z
