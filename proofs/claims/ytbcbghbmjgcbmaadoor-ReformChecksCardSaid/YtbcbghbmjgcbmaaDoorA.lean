/- Plain facts on strings as lists of bytes. No program here. -/
import Derived.Test.YtbcbghbmjgcbmaaDoorM
import Derived.Test.YtbcbghbmjgcbmaaDoorT
import Derived.Lib.IndexAny
namespace Go.Proofs.YtbcbghbmjgcbmaaDoor.A
open Go.RowKit Go.Proofs.YtbcbghbmjgcbmaaDoorW.PrintWords Go.Proofs.YtbcbghbmjgcbmaaDoor.M Go.Proofs.YtbcbghbmjgcbmaaDoor.T
set_option linter.unusedVariables false
set_option linter.unusedSimpArgs false
/-- A string of these bytes. -/
def bs (l : List UInt8) : ByteArray := ⟨l.toArray⟩
theorem bs_list (l : List UInt8) : (bs l).data.toList = l := rfl
theorem bs_toList (l : List UInt8) : (bs l).toList = l := by rw [toList_data]; rfl
theorem bs_size (l : List UInt8) : (bs l).size = l.length := rfl
theorem bs_of (s : ByteArray) : s = bs s.data.toList := by unfold bs; rw [Array.toArray_toList]
theorem bs_inj {a b : List UInt8} (h : bs a = bs b) : a = b := by have := congrArg (fun x : ByteArray => x.data.toList) h; simpa [bs_list] using this
theorem ba_ext {a b : ByteArray} (h : a.data.toList = b.data.toList) : a = b := by rw [bs_of a, bs_of b, h]
theorem bs_extract (l : List UInt8) (i j : Nat) : (bs l).extract i j = bs ((l.take j).drop i) := by
  apply ba_ext
  rw [ByteArray.data_extract, Array.toList_extract, List.extract_eq_take_drop, bs_list, bs_list, List.take_drop]
  by_cases h : i ≤ j
  · rw [show i + (j - i) = j from by omega]
  · rw [show j - i = 0 from by omega, Nat.add_zero, List.drop_of_length_le (by rw [List.length_take]; omega), List.drop_of_length_le (by rw [List.length_take]; omega)]
theorem bs_from (l : List UInt8) (i : Nat) : (bs l).extract i (bs l).size = bs (l.drop i) := by
  rw [bs_extract, bs_size, List.take_length]
theorem bs_app (a b : List UInt8) : bs a ++ bs b = bs (a ++ b) := by
  apply ba_ext
  rw [ByteArray.data_append, Array.toList_append]; rfl
theorem bs_bt (l : List UInt8) (i : Nat) (h : i < l.length) : bt (bs l) (i : Int) = (l[i].toNat : Int) := bt_get (bs l) i h
theorem bs_bt0 (c : UInt8) (r : List UInt8) : bt (bs (c :: r)) 0 = (c.toNat : Int) := bs_bt (c :: r) 0 (Nat.zero_lt_succ _)
theorem u8_back (c : UInt8) : ((c.toNat : Int).toNat).toUInt8 = c := by
  rw [Int.toNat_natCast]; exact UInt8.ofNat_toNat
theorem idx_no (c : UInt8) : ∀ l : List UInt8, c ∉ l → Go.Lib.indexByte l c = -1
  | [], _ => rfl
  | b :: l, h => by
    have h1 : (b == c) = false := beq_eq_false_iff_ne.2 fun e => h (by rw [e]; exact List.mem_cons_self)
    have h2 := idx_no c l (fun g => h (List.mem_cons_of_mem _ g))
    simp only [Go.Lib.indexByte, h1, h2]; rfl
theorem idx_yes (c : UInt8) (m : List UInt8) : ∀ l : List UInt8, c ∉ l → Go.Lib.indexByte (l ++ c :: m) c = (l.length : Int)
  | [], _ => by simp [Go.Lib.indexByte]
  | b :: l, h => by
    have h1 : (b == c) = false := beq_eq_false_iff_ne.2 fun e => h (by rw [e]; exact List.mem_cons_self)
    have h2 := idx_yes c m l (fun g => h (List.mem_cons_of_mem _ g))
    have h3 : ((l.length : Int) == -1) = false := beq_eq_false_iff_ne.2 (by omega)
    simp only [List.cons_append, Go.Lib.indexByte, h1, h2, h3, List.length_cons]
    simp
theorem any_no (cs : List UInt8) : ∀ l : List UInt8, (∀ b ∈ l, cs.contains b = false) → Go.Lib.indexAny l cs = -1
  | [], _ => rfl
  | b :: l, h => by
    have h1 := h b List.mem_cons_self
    have h2 := any_no cs l (fun x g => h x (List.mem_cons_of_mem _ g))
    simp only [Go.Lib.indexAny, h1, h2]; rfl
theorem any_yes (cs : List UInt8) (c : UInt8) (m : List UInt8) (hc : cs.contains c = true) : ∀ l : List UInt8, (∀ b ∈ l, cs.contains b = false) → Go.Lib.indexAny (l ++ c :: m) cs = (l.length : Int)
  | [], _ => by simp only [List.nil_append, Go.Lib.indexAny, hc]; rfl
  | b :: l, h => by
    have h1 := h b List.mem_cons_self
    have h2 := any_yes cs c m hc l (fun x g => h x (List.mem_cons_of_mem _ g))
    have h3 : ((l.length : Int) == -1) = false := beq_eq_false_iff_ne.2 (by omega)
    simp only [List.cons_append, Go.Lib.indexAny, h1, h2, h3, List.length_cons]
    simp
theorem w64s {a : Nat} (h : a ≤ 1000000000000) : wrap64 ((a : Int) + 1) = ((a + 1 : Nat) : Int) := by rw [w64_id (by omega) (by omega)]; omega
theorem w64a {a b : Nat} (h : a ≤ 1000000000000) (h1 : b ≤ 1000000000000) : wrap64 ((a : Int) + (b : Int)) = ((a + b : Nat) : Int) := by rw [w64_id (by omega) (by omega)]; omega
theorem w64p {a : Nat} (h : a ≤ 1000000000000) (h1 : 1 ≤ a) : wrap64 ((a : Int) - 1) = ((a - 1 : Nat) : Int) := by rw [w64_id (by omega) (by omega)]; omega
/-- A list parted ahead of its first byte with a property. -/
theorem parted (p : UInt8 → Bool) : ∀ l : List UInt8, ∃ u r, l = u ++ r ∧ (∀ b ∈ u, p b = false) ∧ (r = [] ∨ ∃ c s, r = c :: s ∧ p c = true)
  | [] => ⟨[], [], rfl, by simp, .inl rfl⟩
  | b :: l => by
    cases h : p b
    · obtain ⟨u, r, e, h1, h2⟩ := parted p l
      exact ⟨b :: u, r, by rw [e]; rfl, by intro x hx; rcases List.mem_cons.1 hx with g | g; · rw [g]; exact h
                                           · exact h1 x g, h2⟩
    · exact ⟨[], b :: l, rfl, by simp, .inr ⟨b, l, rfl, h⟩⟩
end Go.Proofs.YtbcbghbmjgcbmaaDoor.A
