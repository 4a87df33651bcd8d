/- Plain facts on strings: their bytes, and what a name is. No program here. -/
import Derived.Test.YtbcbghbmjgcbmaaDoorWMore
import Derived.Lib.Bytes
namespace Go.Proofs.YtbcbghbmjgcbmaaDoor.T
open Go.RowKit Go.Proofs.YtbcbghbmjgcbmaaDoorW.PrintWords
set_option linter.unusedVariables false
theorem toList_data (s : ByteArray) : s.toList = s.data.toList := Go.Lib.toList_data s
theorem toList_len (s : ByteArray) : s.toList.length = s.size := by rw [toList_data, Array.length_toList]; rfl
theorem toList_nil (s : ByteArray) : s.toList = [] ↔ s.size = 0 := by
  rw [← toList_len, List.length_eq_zero_iff]
theorem bt_get (s : ByteArray) (n : Nat) (h : n < s.data.toList.length) : bt s (n : Int) = ((s.data.toList[n]).toNat : Int) := by
  have hs : n < s.size := by rw [Array.length_toList] at h; exact h
  unfold bt
  rw [dif_pos (show (n : Int).toNat < s.size from by omega)]
  simp only [Int.toNat_natCast]
  rfl
/-- All bytes are letters. -/
def letters (l : List UInt8) : Bool := l.all fun c => decide (97 ≤ (c.toNat : Int)) && decide ((c.toNat : Int) ≤ 122)
/-- None of the four words of the language of rules. -/
def noWord (s : ByteArray) : Bool := s.toList != [121] && (s.toList != [97, 110, 100] && (s.toList != [111, 114] && s.toList != [110, 111, 116]))
def isName (s : ByteArray) : Bool := decide (1 ≤ s.size) && (decide (s.size ≤ 12) && (noWord s && letters s.data.toList))
theorem letters_cons (s : ByteArray) (n : Nat) (h : n < s.size) : letters (s.data.toList.drop n) = (decide (97 ≤ bt s n) && decide (bt s n ≤ 122) && letters (s.data.toList.drop (n + 1))) := by
  have hl : n < s.data.toList.length := by rw [Array.length_toList]; exact h
  rw [List.drop_eq_getElem_cons hl, bt_get s n hl]
  simp only [letters, List.all_cons]
theorem letters_end (s : ByteArray) : letters (s.data.toList.drop s.size) = true := by
  rw [List.drop_of_length_le (by rw [Array.length_toList]; exact Nat.le_refl _)]; rfl
end Go.Proofs.YtbcbghbmjgcbmaaDoor.T
