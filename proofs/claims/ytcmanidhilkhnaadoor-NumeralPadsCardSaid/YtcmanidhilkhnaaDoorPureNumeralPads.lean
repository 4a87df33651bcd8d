/- The law NumeralPads over numbers and lists: what the law's functions tell, and that the law holds. -/
import Derived.Test.YtcmanidhilkhnaaDoorPNumeralPadsx3
import Derived.Test.YtcmanidhilkhnaaDoorM
import Derived.Test.YtcmanidhilkhnaaDoorO
import Derived.Test.YtcmanidhilkhnaaDoorE
import Derived.Test.YtcmanidhilkhnaaDoorT
import Derived.Test.YtcmanidhilkhnaaDoorA
import Derived.Test.YtcmanidhilkhnaaDoorI
import Derived.Lib.DecodeN
namespace Go.Proofs.YtcmanidhilkhnaaDoor.Pure
open Go.RowKit Go.Proofs.YtcmanidhilkhnaaDoor.PNumeralPads Go.Proofs.YtcmanidhilkhnaaDoorW.PrintWords Go.Proofs.YtcmanidhilkhnaaDoorW.PrintLast Go.Proofs.YtcmanidhilkhnaaDoor.M Go.Proofs.YtcmanidhilkhnaaDoor.O Go.Proofs.YtcmanidhilkhnaaDoor.E Go.Proofs.YtcmanidhilkhnaaDoor.T Go.Proofs.YtcmanidhilkhnaaDoor.A Go.Proofs.YtcmanidhilkhnaaDoor.I
set_option linter.unusedVariables false
set_option linter.unusedSimpArgs false
/-- The law over numbers and lists. -/
def ephemerislaw1_NumeralPads.Pure : Prop := ∀ (a0 : Int) (a1 : Int) (a2 : Int), (Lit.int .i64 a0).wf = true → (Lit.int .i64 a1).wf = true → (Lit.int .i64 a2).wf = true → ∃ k, ephemerislaw1_NumeralPads.f k a0 a1 a2 = some true

theorem ephemerisref1_In_f (x lo hi : Int) : ephemerisref1_In.f x lo hi = some (decide (lo ≤ x ∧ x ≤ hi)) := by
  unfold ephemerisref1_In.f
  by_cases h : x ≥ lo
  · rw [if_pos h]; congr 1; simp; omega
  · rw [if_neg h]; congr 1; simp; omega

theorem ephemerisref1_Num_f (x : Int) : ephemerisref1_Num.f x = some (decide (-2147483647 ≤ x ∧ x ≤ 2147483647)) := by
  unfold ephemerisref1_Num.f
  rw [ephemerisref1_In_f]; rfl

theorem itoa_ok (n : Int) (h0 : -9223372036854775808 ≤ n) (h1 : n ≤ 9223372036854775807) : strconv_Itoa.f n = some (bs (Go.Lib.itoa n)) ∧ (bs (Go.Lib.itoa n)).size ≤ 1000 ∧ ((bs (Go.Lib.itoa n)).data.toList.all fun c => decide (c = 45 ∨ (48 ≤ c.toNat ∧ c.toNat ≤ 57))) = true := by
  refine ⟨by unfold strconv_Itoa.f; rw [if_pos ⟨h0, h1⟩]; rfl, ?_, ?_⟩
  · have := Go.Lib.itoa_length_le n h0 h1
    rw [bs_size]; omega
  · rw [bs_list, List.all_eq_true]
    intro c hc
    rcases itoa_bytes n c hc with h | h
    · simp [h]
    · have := (isDig_iff c).1 h
      exact decide_eq_true (.inr this)
theorem In_f (a b c : Int) : ephemerisref1_In.f a b c = some (decide (b ≤ a ∧ a ≤ c)) := by
  unfold ephemerisref1_In.f
  by_cases h : b ≤ a
  · rw [if_pos h]; congr 1
    by_cases h2 : a ≤ c
    · rw [decide_eq_true h2, decide_eq_true ⟨h, h2⟩]
    · rw [decide_eq_false h2, decide_eq_false (fun g => h2 g.2)]
  · rw [if_neg h, decide_eq_false (fun g => h g.1)]

theorem get_bang (s : ByteArray) (i : Nat) (h : i < s.size) : s.get! i = s[i]'h := by
  simp [ByteArray.get!, getElem!_pos, h]
  rfl
theorem get_at (pre C rest : List UInt8) (j : Nat) (h : j < C.length) : ((bs (pre ++ (C ++ rest))).get! (pre.length + j)) = C[j] := by
  have hs : pre.length + j < (bs (pre ++ (C ++ rest))).size := by rw [bs_size]; simp; omega
  rw [get_bang _ _ hs]
  show (pre ++ (C ++ rest))[pre.length + j]'(by simp; omega) = C[j]
  rw [List.getElem_append_right (by omega)]
  simp only [Nat.add_sub_cancel_left]
  rw [List.getElem_append_left h]
/-- The shapes of a digit's bytes. -/
def dShape (C : List UInt8) : Bool :=
  match C with
  | [a] => decide (a.toNat < 128)
  | [a, b] => decide (a.toNat / 32 = 6 ∧ b.toNat / 64 = 2 ∧ a.toNat % 32 * 64 + b.toNat % 64 ≥ 128)
  | [a, b, c] => decide (a.toNat / 16 = 14 ∧ b.toNat / 64 = 2 ∧ c.toNat / 64 = 2 ∧ a.toNat % 16 * 4096 + b.toNat % 64 * 64 + c.toNat % 64 ≥ 2048 ∧ (a.toNat % 16 * 4096 + b.toNat % 64 * 64 + c.toNat % 64 < 55296 ∨ (57344 ≤ a.toNat % 16 * 4096 + b.toNat % 64 * 64 + c.toNat % 64 ∧ a.toNat % 16 * 4096 + b.toNat % 64 * 64 + c.toNat % 64 ≤ 1114111)))
  | _ => false
theorem width_of (pre C rest : List UInt8) (h : dShape C = true) : (Utf8.decode (bs (pre ++ (C ++ rest))) pre.length).2 = C.length := by
  rw [Go.Lib.decode_at]
  match C, h with
  | [a], h =>
    have h0 : a.toNat < 128 := by simpa [dShape] using h
    have g0 := get_at pre [a] rest 0 (by simp)
    rw [Nat.add_zero] at g0
    rw [g0]
    unfold Go.Lib.decodeN
    show (if a.toNat < 128 then (a.toNat, 1) else _).2 = 1
    rw [if_pos h0]
  | [a, b], h =>
    have h0 : a.toNat / 32 = 6 ∧ b.toNat / 64 = 2 ∧ a.toNat % 32 * 64 + b.toNat % 64 ≥ 128 := by simpa [dShape] using h
    have g0 := get_at pre [a, b] rest 0 (by simp)
    have g1 := get_at pre [a, b] rest 1 (by simp)
    rw [Nat.add_zero] at g0
    rw [g0, g1]
    have hz : (bs (pre ++ ([a, b] ++ rest))).size - pre.length = rest.length + 2 := by rw [bs_size, List.length_append, List.length_append]; simp only [List.length_cons, List.length_nil]; omega
    rw [hz]
    unfold Go.Lib.decodeN
    show (if a.toNat < 128 then _ else if a.toNat / 32 = 6 ∧ (1 < rest.length + 2 ∧ b.toNat / 64 = 2) then _ else _ : Nat × Nat).2 = 2
    rw [if_neg (by omega), if_pos ⟨h0.1, by omega, h0.2.1⟩]
    show (if a.toNat % 32 * 64 + b.toNat % 64 ≥ 128 then (a.toNat % 32 * 64 + b.toNat % 64, 2) else (65533, 1) : Nat × Nat).2 = 2
    rw [if_pos h0.2.2]
  | [a, b, c], h =>
    have h0 : a.toNat / 16 = 14 ∧ b.toNat / 64 = 2 ∧ c.toNat / 64 = 2 ∧ a.toNat % 16 * 4096 + b.toNat % 64 * 64 + c.toNat % 64 ≥ 2048 ∧ (a.toNat % 16 * 4096 + b.toNat % 64 * 64 + c.toNat % 64 < 55296 ∨ (57344 ≤ a.toNat % 16 * 4096 + b.toNat % 64 * 64 + c.toNat % 64 ∧ a.toNat % 16 * 4096 + b.toNat % 64 * 64 + c.toNat % 64 ≤ 1114111)) := by simpa [dShape] using h
    have g0 := get_at pre [a, b, c] rest 0 (by simp)
    have g1 := get_at pre [a, b, c] rest 1 (by simp)
    have g2 := get_at pre [a, b, c] rest 2 (by simp)
    rw [Nat.add_zero] at g0
    rw [g0, g1, g2]
    have hz : (bs (pre ++ ([a, b, c] ++ rest))).size - pre.length = rest.length + 3 := by rw [bs_size, List.length_append, List.length_append]; simp only [List.length_cons, List.length_nil]; omega
    rw [hz]
    unfold Go.Lib.decodeN
    show (if a.toNat < 128 then _ else if a.toNat / 32 = 6 ∧ (1 < rest.length + 3 ∧ b.toNat / 64 = 2) then _ else if a.toNat / 16 = 14 ∧ (1 < rest.length + 3 ∧ b.toNat / 64 = 2) ∧ (2 < rest.length + 3 ∧ c.toNat / 64 = 2) then _ else _ : Nat × Nat).2 = 3
    rw [if_neg (by omega), if_neg (by omega), if_pos ⟨h0.1, ⟨by omega, h0.2.1⟩, ⟨by omega, h0.2.2.1⟩⟩]
    show (if a.toNat % 16 * 4096 + b.toNat % 64 * 64 + c.toNat % 64 ≥ 2048 ∧ (a.toNat % 16 * 4096 + b.toNat % 64 * 64 + c.toNat % 64 < 55296 ∨ (57344 ≤ a.toNat % 16 * 4096 + b.toNat % 64 * 64 + c.toNat % 64 ∧ a.toNat % 16 * 4096 + b.toNat % 64 * 64 + c.toNat % 64 ≤ 1114111)) then (a.toNat % 16 * 4096 + b.toNat % 64 * 64 + c.toNat % 64, 3) else (65533, 1) : Nat × Nat).2 = 3
    rw [if_pos h0.2.2.2]
def isD (c : UInt8) : Prop := 48 ≤ c.toNat ∧ c.toNat ≤ 57
theorem one_facts (s : Int) (h0 : 0 ≤ s) (h9 : s < 9) (c : UInt8) (hc : isD c) : dShape (numeral_digits.one (numeral_digits.z s) c) = true ∧ (numeral_digits.one (numeral_digits.z s) c).head? ≠ some 45 ∧ numeral_digits.one (numeral_digits.z s) c ≠ [] := by
  have key : ∀ i : Fin 9, ∀ d : Fin 10, (dShape (numeral_digits.one (numeral_digits.z (i.1 : Int)) (UInt8.ofNat (48 + d.1))) = true ∧ (numeral_digits.one (numeral_digits.z (i.1 : Int)) (UInt8.ofNat (48 + d.1))).head? ≠ some 45 ∧ numeral_digits.one (numeral_digits.z (i.1 : Int)) (UInt8.ofNat (48 + d.1)) ≠ []) := by decide +kernel
  obtain ⟨n, rfl⟩ : ∃ n : Nat, s = n := ⟨s.toNat, by omega⟩
  obtain ⟨d, hd, rfl⟩ : ∃ d, d < 10 ∧ c = UInt8.ofNat (48 + d) := ⟨c.toNat - 48, by unfold isD at hc; omega, by rw [show 48 + (c.toNat - 48) = c.toNat by unfold isD at hc; omega, UInt8.ofNat_toNat]⟩
  exact key ⟨n, by omega⟩ ⟨d, hd⟩
theorem count_from (s : Int) (h0 : 0 ≤ s) (h9 : s < 9) : ∀ (l pre : List UInt8) (fuel : Nat), (∀ c ∈ l, isD c) → (numeral_digits.enc (numeral_digits.z s) l).length ≤ fuel → Go.Lib.runeCountFrom (bs (pre ++ numeral_digits.enc (numeral_digits.z s) l)) fuel pre.length = l.length
  | [], pre, fuel, _, _ => by
    apply Go.Lib.runeCountFrom_end
    rw [bs_size]
    show ¬ pre.length < (pre ++ []).length
    rw [List.append_nil]; omega
  | c :: l, pre, fuel, hd, hf => by
    obtain ⟨f1, f2, f3⟩ := one_facts s h0 h9 c (hd c List.mem_cons_self)
    have he : numeral_digits.enc (numeral_digits.z s) (c :: l) = numeral_digits.one (numeral_digits.z s) c ++ numeral_digits.enc (numeral_digits.z s) l := rfl
    have hl : 0 < (numeral_digits.one (numeral_digits.z s) c).length := List.length_pos_iff.2 f3
    rw [he, List.length_append] at hf
    obtain ⟨g, rfl⟩ : ∃ g, fuel = g + 1 := ⟨fuel - 1, by omega⟩
    have hw := width_of pre (numeral_digits.one (numeral_digits.z s) c) (numeral_digits.enc (numeral_digits.z s) l) f1
    have ih := count_from s h0 h9 l (pre ++ numeral_digits.one (numeral_digits.z s) c) g (fun x hx => hd x (List.mem_cons_of_mem _ hx)) (by omega)
    rw [List.length_append, List.append_assoc] at ih
    rw [he, Go.Lib.runeCountFrom, if_pos (by rw [bs_size, List.length_append, List.length_append]; omega), hw, ih, List.length_cons]
    omega
theorem encl (z : Int) : ∀ l : List UInt8, (numeral_digits.enc z l).length ≤ 4 * l.length
  | [] => Nat.le_refl _
  | c :: l => by
    have h := encl z l
    have h1 : (numeral_digits.one z c).length ≤ 4 := by
      unfold numeral_digits.one
      split
      · decide
      · have := Go.Lib.runeCells_le (z + (c.toNat : Int) - 48)
        rw [Go.Lib.runeCells_length] at this
        exact this.2
    show (numeral_digits.one z c ++ numeral_digits.enc z l).length ≤ _
    rw [List.length_append, List.length_cons]; omega
theorem count_f (s : Int) (h0 : 0 ≤ s) (h9 : s < 9) (l : List UInt8) (hd : ∀ c ∈ l, isD c) (hl : l.length ≤ 1000) : utf8_RuneCountInString.f (bs (numeral_digits.enc (numeral_digits.z s) l)) = some (l.length : Int) := by
  have h1 := encl (numeral_digits.z s) l
  have h2 := count_from s h0 h9 l [] (bs (numeral_digits.enc (numeral_digits.z s) l)).size hd (Nat.le_refl _)
  unfold utf8_RuneCountInString.f
  rw [if_pos (by rw [bs_size]; omega)]
  congr 2
theorem dig_f (s : Int) (h0 : 0 ≤ s) (h9 : s < 9) (l : List UInt8) (hd : ∀ c ∈ l, c = 45 ∨ isD c) (hl : l.length ≤ 1000) : numeral_digits.f s (bs l) = some (bs (numeral_digits.enc (numeral_digits.z s) l)) := by
  unfold numeral_digits.f
  rw [if_pos ⟨⟨h0, h9⟩, by rw [bs_size]; exact hl, by rw [bs_list, List.all_eq_true]; intro c hc; exact decide_eq_true (hd c hc)⟩]
  rfl
theorem pre45 (l : List UInt8) (hl : l.length ≤ 10000) : strings_HasPrefix.f (bs l) (⟨#[45]⟩ : ByteArray) = some (decide (l.head? = some 45)) := by
  have h1 : (⟨#[45]⟩ : ByteArray).size = 1 := rfl
  unfold strings_HasPrefix.f stringslite_HasPrefix.f
  rw [h1, bs_size]
  cases l with
  | nil => rfl
  | cons c r =>
    have hz : (c :: r).length = r.length + 1 := rfl
    rw [if_pos (by omega), if_pos (by omega), if_pos (by omega), Option.bind_some]
    have e1 : ((bs (c :: r)).extract 0 (((1 : Nat) : Int)).toNat).toList = [c] := by
      rw [Int.toNat_natCast, bs_extract, bs_toList]
      simp
    have e2 : (⟨#[45]⟩ : ByteArray).toList = [45] := by rw [toList_data]
    rw [e1, e2]
    congr 1
    show ([c] == [45]) = decide (some c = some 45)
    by_cases hc : c = 45
    · subst hc; rfl
    · rw [decide_eq_false (by simpa using hc), beq_eq_false_iff_ne]
      intro e; exact hc (List.cons.inj e).1
theorem trim45 (l : List UInt8) (hl : l.length ≤ 10000) : strings_TrimPrefix.f (bs l) (⟨#[45]⟩ : ByteArray) = some (bs (if l.head? = some 45 then l.drop 1 else l)) := by
  have h1 : (⟨#[45]⟩ : ByteArray).size = 1 := rfl
  have hp := pre45 l hl
  unfold strings_HasPrefix.f at hp
  unfold strings_TrimPrefix.f stringslite_TrimPrefix.f
  have hq : stringslite_HasPrefix.f (bs l) (⟨#[45]⟩ : ByteArray) = some (decide (l.head? = some 45)) := by
    cases hx : stringslite_HasPrefix.f (bs l) (⟨#[45]⟩ : ByteArray) with
    | none => rw [hx] at hp; cases hp
    | some v => rw [hx] at hp; exact hp
  rw [hq, Option.bind_some, h1]
  by_cases c : l.head? = some 45
  · have hlen : 1 ≤ l.length := by cases l with
      | nil => cases c
      | cons a r => simp
    rw [decide_eq_true c, if_pos rfl, if_pos (by omega), if_pos (by rw [bs_size]; omega), if_pos c, Option.bind_some]
    show some ((bs l).extract 1 (bs l).size) = _
    rw [bs_from]
  · rw [decide_eq_false c, if_neg (by decide), if_neg c, Option.bind_some]
theorem enc_app (z : Int) (a b : List UInt8) : numeral_digits.enc z (a ++ b) = numeral_digits.enc z a ++ numeral_digits.enc z b := by
  unfold numeral_digits.enc; rw [List.flatMap_append]
theorem zero_f (s : Int) (h0 : 0 ≤ s) (h9 : s < 9) : ∃ Z, ephemerisref1_zero.f s = some Z := by
  obtain ⟨m, rfl⟩ : ∃ m : Nat, s = m := ⟨s.toNat, by omega⟩
  rcases (show m = 0 ∨ m = 1 ∨ m = 2 ∨ m = 3 ∨ m = 4 ∨ m = 5 ∨ m = 6 ∨ m = 7 ∨ m = 8 by omega) with rfl | rfl | rfl | rfl | rfl | rfl | rfl | rfl | rfl <;> exact ⟨_, rfl⟩
/-- The reference's loop: leading zeros. -/
theorem pad_loop (s : Int) (h0 : 0 ≤ s) (h9 : s < 9) (wd : Nat) (hw : wd ≤ 12) (b : Bool) : ∀ (m : Nat) (l : List UInt8) (k : Nat), (∀ c ∈ l, isD c) → l.length ≤ 100 → wd - l.length = m → m + 1 ≤ k →
    ephemerisref1_NumeralPad.l0 k s (wd : Int) (bs (numeral_digits.enc (numeral_digits.z s) l)) b = some (if b = true then bs (45 :: numeral_digits.enc (numeral_digits.z s) (List.replicate m 48 ++ l)) else bs (numeral_digits.enc (numeral_digits.z s) (List.replicate m 48 ++ l)))
  | 0, l, k + 1, hd, hl, hm, _ => by
    have he := encl (numeral_digits.z s) l
    unfold ephemerisref1_NumeralPad.l0
    rw [count_f s h0 h9 l hd (by omega), Option.bind_some, if_neg (by omega)]
    show (if b = true then _ else _) = some (if b = true then bs (45 :: numeral_digits.enc (numeral_digits.z s) l) else bs (numeral_digits.enc (numeral_digits.z s) l))
    cases b
    · rfl
    · rw [if_pos rfl, if_pos rfl, if_pos (by rw [bs_size]; omega)]
      show some (bs [45] ++ bs _) = _
      rw [bs_app]; rfl
  | m + 1, l, k + 1, hd, hl, hm, hk => by
    have he := encl (numeral_digits.z s) l
    obtain ⟨Z, hZ⟩ := zero_f s h0 h9
    have h48 : ∀ c ∈ [(48 : UInt8)], isD c := by intro c hc; rw [List.mem_singleton.1 hc]; exact ⟨by decide, by decide⟩
    have e1 : numeral_digits.f s (⟨#[48]⟩ : ByteArray) = some (bs (numeral_digits.enc (numeral_digits.z s) [48])) := dig_f s h0 h9 [48] (fun c hc => .inr (h48 c hc)) (by decide)
    have el := encl (numeral_digits.z s) [48]
    simp only [List.length_cons, List.length_nil] at el
    have ih := pad_loop s h0 h9 wd hw b m (48 :: l) k (by intro c hc; rcases List.mem_cons.1 hc with h | h; · exact h48 c (by rw [h]; exact List.mem_singleton.2 rfl)
                                                          · exact hd c h) (by rw [List.length_cons]; omega) (by rw [List.length_cons]; omega) (by omega)
    have e2 : List.replicate (m + 1) (48 : UInt8) ++ l = List.replicate m 48 ++ 48 :: l := by rw [List.replicate_succ', List.append_assoc]; rfl
    unfold ephemerisref1_NumeralPad.l0
    rw [count_f s h0 h9 l hd (by omega), Option.bind_some, if_pos (by omega), hZ, Option.bind_some, e1, Option.bind_some, if_pos (by rw [bs_size, bs_size]; omega), bs_app, ← enc_app]
    rw [e2]
    exact ih
theorem itoa_pos (m : Nat) : Go.Lib.itoa (m : Int) = Go.Lib.decDigits m ∧ (∀ c ∈ Go.Lib.decDigits m, isD c) ∧ Go.Lib.decDigits m ≠ [] := by
  obtain ⟨d1, d2, _, _⟩ := dec_facts m
  refine ⟨?_, ?_, d1⟩
  · unfold Go.Lib.itoa; rfl
  · intro c hc
    exact (isDig_iff c).1 (List.all_eq_true.1 d2 c hc)
theorem itoa_neg (m : Nat) (h : 0 < m) : Go.Lib.itoa (-(m : Int)) = 45 :: Go.Lib.decDigits m := by
  unfold Go.Lib.itoa
  rw [if_pos (by omega), Int.natAbs_neg, Int.natAbs_natCast]
theorem rep_f (c : Nat) (h : c ≤ 12) : strings_Repeat.f (⟨#[48]⟩ : ByteArray) (c : Int) = some (bs (List.replicate c 48)) := by
  have e : ∀ c, Go.Lib.repeatL [48] c = List.replicate c (48 : UInt8) := by
    intro c
    induction c with
    | zero => rfl
    | succ c ih => rw [Go.Lib.repeatL, ih]; rfl
  unfold strings_Repeat.f
  rw [if_pos ⟨by omega, by decide⟩, Int.toNat_natCast]
  show some (bs (Go.Lib.repeatL [48] c)) = _
  rw [e]
/-- What is written. -/
def padded (s : Int) (sign : List UInt8) (m wd : Nat) : List UInt8 := sign ++ numeral_digits.enc (numeral_digits.z s) (List.replicate (wd - (Go.Lib.decDigits m).length) 48 ++ Go.Lib.decDigits m)
theorem dec_len (m : Nat) (h : m ≤ 2147483647) : (Go.Lib.decDigits m).length ≤ 21 := by
  have := Go.Lib.itoa_length_le (m : Int) (by omega) (by omega)
  rwa [(itoa_pos m).1] at this
theorem isD_rep (m c : Nat) : ∀ x ∈ List.replicate c 48 ++ Go.Lib.decDigits m, isD x := by
  intro x hx
  rcases List.mem_append.1 hx with h | h
  · rw [(List.mem_replicate.1 h).2]; exact ⟨by decide, by decide⟩
  · exact (itoa_pos m).2.1 x h
theorem j2_f (s : Int) (h0 : 0 ≤ s) (h9 : s < 9) (m wd : Nat) (hm : m ≤ 2147483647) (hw : wd ≤ 12) (sign : List UInt8) (hs : sign = [] ∨ sign = [45]) (k : Nat) (hk : 1 ≤ k) : numeral_Pad.j2 k s (m : Int) (wd : Int) (bs sign) = some (bs (padded s sign m wd), 0) := by
  obtain ⟨k, rfl⟩ : ∃ q, k = q + 1 := ⟨k - 1, by omega⟩
  have hl := dec_len m hm
  have hi := itoa_ok (m : Int) (by omega) (by omega)
  rw [(itoa_pos m).1] at hi
  have hsl : sign.length ≤ 1 := by rcases hs with rfl | rfl <;> decide
  have hsd : ∀ c ∈ sign, c = 45 := by rcases hs with rfl | rfl <;> simp
  have hse : numeral_digits.enc (numeral_digits.z s) sign = sign := by rcases hs with rfl | rfl <;> rfl
  rw [numeral_Pad.j2, hi.1, Option.bind_some, bs_size]
  unfold padded
  obtain ⟨L, hL⟩ : ∃ L, (Go.Lib.decDigits m).length = L := ⟨_, rfl⟩
  rw [hL] at hl ⊢
  have hA : ∀ m2, ∀ x ∈ sign ++ (List.replicate m2 48 ++ Go.Lib.decDigits m), x = 45 ∨ isD x := by
    intro m2 x hx
    rcases List.mem_append.1 hx with h | h
    · exact .inl (hsd x h)
    · exact .inr (isD_rep m _ x h)
  have hB : ∀ x ∈ sign ++ Go.Lib.decDigits m, x = 45 ∨ isD x := hA 0
  by_cases c : L < wd
  · have w : Aside0 (wrap64 ((wd : Int) - (L : Int)) = ((wd - L : Nat) : Int)) := ⟨by rw [w64_id (by omega) (by omega)]; omega⟩
    rw [if_pos (by omega), w.out, rep_f _ (by omega), Option.bind_some, if_pos (by rw [bs_size, List.length_replicate]; omega), bs_app, if_pos (by rw [bs_size, bs_size, List.length_append, List.length_replicate, hL]; omega), bs_app,
      dig_f s h0 h9 _ (hA _) (by rw [List.length_append, List.length_append, List.length_replicate, hL]; omega), Option.bind_some, enc_app, hse]
  · rw [if_neg (by omega), if_pos (by rw [bs_size]; omega), bs_app, dig_f s h0 h9 _ hB (by rw [List.length_append, hL]; omega), Option.bind_some, enc_app, hse, show wd - L = 0 by omega]
    rfl
theorem Pad_ok (s n : Int) (wd : Nat) (h0 : 0 ≤ s) (h9 : s < 9) (hw : wd ≤ 12) (h1 : -2147483647 ≤ n) (h2 : n ≤ 2147483647) (k : Nat) (hk : 5 ≤ k) : numeral_Pad.f k s n (wd : Int) = some (bs (padded s (if n < 0 then [45] else []) n.natAbs wd), 0) := by
  obtain ⟨k, rfl⟩ : ∃ q, k = q + 2 := ⟨k - 2, by omega⟩
  unfold numeral_Pad.f
  rw [if_neg (by omega), if_neg (by omega), if_neg (by omega), decide_eq_false (by omega), numeral_Pad.j0, if_neg (by decide), if_neg (by omega), decide_eq_false (by omega), numeral_Pad.j1, if_neg (by decide)]
  by_cases c : n < 0
  · have w : Aside0 (wrap64 (-n) = (n.natAbs : Int)) := ⟨by rw [w64_id (by omega) (by omega)]; omega⟩
    rw [if_pos c, if_pos c, w.out]
    exact j2_f s h0 h9 n.natAbs wd (by omega) hw [45] (.inr rfl) k (by omega)
  · rw [if_neg c, if_neg c]
    have := j2_f s h0 h9 n.natAbs wd (by omega) hw [] (.inl rfl) k (by omega)
    rw [show (n.natAbs : Int) = n by omega] at this
    exact this
theorem Ref_ok (s n : Int) (wd : Nat) (h0 : 0 ≤ s) (h9 : s < 9) (hw : wd ≤ 12) (h1 : -2147483647 ≤ n) (h2 : n ≤ 2147483647) (k : Nat) (hk : 20 ≤ k) : ephemerisref1_NumeralPad.f k s n (wd : Int) = some (bs (padded s (if n < 0 then [45] else []) n.natAbs wd)) := by
  have hi := itoa_ok n (by omega) (by omega)
  obtain ⟨Z, hZ⟩ := zero_f s h0 h9
  have hp := itoa_pos n.natAbs
  have hl := dec_len n.natAbs (by omega)
  have he : numeral_digits.enc (numeral_digits.z s) (Go.Lib.itoa n) = (if n < 0 then [45] else []) ++ numeral_digits.enc (numeral_digits.z s) (Go.Lib.decDigits n.natAbs) := by
    by_cases c : n < 0
    · have := itoa_neg n.natAbs (by omega)
      rw [show -(n.natAbs : Int) = n by omega] at this
      rw [this, if_pos c]; rfl
    · have := hp.1
      rw [show (n.natAbs : Int) = n by omega] at this
      rw [this, if_neg c]; rfl
  have hd : numeral_digits.f s (bs (Go.Lib.itoa n)) = some (bs (numeral_digits.enc (numeral_digits.z s) (Go.Lib.itoa n))) := by
    unfold numeral_digits.f; rw [if_pos ⟨⟨h0, h9⟩, hi.2.1, hi.2.2⟩]; rfl
  have hlen := encl (numeral_digits.z s) (Go.Lib.itoa n)
  have hil := hi.2.1
  rw [bs_size] at hil
  unfold ephemerisref1_NumeralPad.f ephemerisref1_NumeralText.f
  rw [if_pos h9, hi.1, Option.bind_some, hZ, Option.bind_some, hd, Option.bind_some, Option.bind_some, pre45 _ (by omega), Option.bind_some, trim45 _ (by omega), Option.bind_some, he]
  unfold padded
  by_cases c : n < 0
  · rw [if_pos c]
    have hh : (([45] : List UInt8) ++ numeral_digits.enc (numeral_digits.z s) (Go.Lib.decDigits n.natAbs)).head? = some 45 := rfl
    rw [if_pos hh, decide_eq_true hh, show (([45] : List UInt8) ++ numeral_digits.enc (numeral_digits.z s) (Go.Lib.decDigits n.natAbs)).drop 1 = numeral_digits.enc (numeral_digits.z s) (Go.Lib.decDigits n.natAbs) from rfl, pad_loop s h0 h9 wd hw true (wd - (Go.Lib.decDigits n.natAbs).length) (Go.Lib.decDigits n.natAbs) k hp.2.1 (by omega) rfl (by omega)]
    rfl
  · rw [if_neg c]
    have hh : ¬ (([] : List UInt8) ++ numeral_digits.enc (numeral_digits.z s) (Go.Lib.decDigits n.natAbs)).head? = some 45 := by
      rw [List.nil_append]
      obtain ⟨x, r, hx⟩ := List.exists_cons_of_ne_nil hp.2.2
      obtain ⟨f1, f2, f3⟩ := one_facts s h0 h9 x (hp.2.1 x (by rw [hx]; exact List.mem_cons_self))
      rw [hx]
      show ¬ (numeral_digits.one (numeral_digits.z s) x ++ numeral_digits.enc (numeral_digits.z s) r).head? = some 45
      obtain ⟨y, q, hy⟩ := List.exists_cons_of_ne_nil f3
      rw [hy] at f2 ⊢
      exact f2
    rw [if_neg hh, decide_eq_false hh, List.nil_append, pad_loop s h0 h9 wd hw false (wd - (Go.Lib.decDigits n.natAbs).length) (Go.Lib.decDigits n.natAbs) k hp.2.1 (by omega) rfl (by omega)]
    rfl
theorem Pad_arg (s n wd : Int) (h : s < 0 ∨ 8 < s ∨ wd < 0 ∨ 12 < wd) (k : Nat) (hk : 1 ≤ k) : numeral_Pad.f k s n wd = some (bs [], 1) := by
  obtain ⟨k, rfl⟩ : ∃ q, k = q + 1 := ⟨k - 1, by omega⟩
  have e : numeral_Pad.j0 (k + 1) s n wd true = some (bs [], 1) := by rw [numeral_Pad.j0, if_pos rfl]; rfl
  unfold numeral_Pad.f
  by_cases c1 : s < 0
  · rw [if_pos c1, e]
  · rw [if_neg c1]
    by_cases c2 : s > 8
    · rw [if_pos c2, e]
    · rw [if_neg c2]
      by_cases c3 : wd < 0
      · rw [if_pos c3, e]
      · rw [if_neg c3, decide_eq_true (by omega), e]
theorem Pad_rng (s n wd : Int) (h0 : 0 ≤ s) (h9 : s < 9) (hw : 0 ≤ wd) (hw2 : wd ≤ 12) (h : n < -2147483647 ∨ 2147483647 < n) (k : Nat) (hk : 2 ≤ k) : numeral_Pad.f k s n wd = some (bs [], 3) := by
  obtain ⟨k, rfl⟩ : ∃ q, k = q + 2 := ⟨k - 2, by omega⟩
  have e : numeral_Pad.j1 (k + 1) s n wd true = some (bs [], 3) := by rw [numeral_Pad.j1, if_pos rfl]; rfl
  unfold numeral_Pad.f
  rw [if_neg (by omega), if_neg (by omega), if_neg (by omega), decide_eq_false (by omega), numeral_Pad.j0, if_neg (by decide)]
  by_cases c : n < -2147483647
  · rw [if_pos c, e]
  · rw [if_neg c, decide_eq_true (by omega), e]

theorem NumeralPads : ephemerislaw1_NumeralPads.Pure := by
  intro s n wd hs hn hw
  obtain ⟨k, hk⟩ : ∃ k : Nat, 200 ≤ k := ⟨_, Nat.le_refl _⟩
  refine ⟨k + 2, ?_⟩
  have e : numeral_Pad.f (k + 2) 0 (-5) 3 = some (bs [45, 48, 48, 53], 0) := (Pad_ok 0 (-5) 3 (by decide) (by decide) (by decide) (by decide) (by decide) (k + 2) (by omega)).trans (by
    congr 1
    decide +kernel)
  unfold ephemerislaw1_NumeralPads.f
  rw [e, Option.bind_some, if_pos (by rw [bs_toList])]
  show ephemerislaw1_NumeralPads.j0 (k + 1 + 1) s n wd false = some true
  rw [ephemerislaw1_NumeralPads.j0, if_neg (by decide)]
  by_cases c1 : 0 ≤ s ∧ s ≤ 8
  · by_cases c2 : 0 ≤ wd ∧ wd ≤ 12
    · obtain ⟨W, rfl⟩ : ∃ W : Nat, wd = W := ⟨wd.toNat, by omega⟩
      by_cases c3 : -2147483647 ≤ n ∧ n ≤ 2147483647
      · rw [Pad_ok s n W c1.1 (by omega) (by omega) c3.1 c3.2 (k + 1) (by omega), Option.bind_some, In_f, Option.bind_some, decide_eq_true c1, if_pos rfl, In_f, Option.bind_some, decide_eq_true c2]
        show ephemerislaw1_NumeralPads.j1 (k + 1) s n (W : Int) _ 0 false = some true
        rw [ephemerislaw1_NumeralPads.j1, if_neg (by decide)]
        unfold ephemerisref1_Num.f
        rw [In_f, Option.bind_some, Option.bind_some, decide_eq_true c3, if_pos rfl, if_pos rfl, Ref_ok s n W c1.1 (by omega) (by omega) c3.1 c3.2 k (by omega), Option.bind_some]
        simp
      · rw [Pad_rng s n W c1.1 (by omega) c2.1 c2.2 (by omega) (k + 1) (by omega), Option.bind_some, In_f, Option.bind_some, decide_eq_true c1, if_pos rfl, In_f, Option.bind_some, decide_eq_true c2]
        show ephemerislaw1_NumeralPads.j1 (k + 1) s n (W : Int) (bs []) 3 false = some true
        rw [ephemerislaw1_NumeralPads.j1, if_neg (by decide)]
        unfold ephemerisref1_Num.f
        rw [In_f, Option.bind_some, Option.bind_some, decide_eq_false c3, if_neg (by decide), if_pos (by rw [bs_toList])]
        rfl
    · rw [Pad_arg s n wd (by omega) (k + 1) (by omega), Option.bind_some, In_f, Option.bind_some, decide_eq_true c1, if_pos rfl, In_f, Option.bind_some, decide_eq_false c2]
      show ephemerislaw1_NumeralPads.j1 (k + 1) s n wd (bs []) 1 true = some true
      rw [ephemerislaw1_NumeralPads.j1, if_pos rfl, if_pos (by rw [bs_toList])]
      rfl
  · rw [Pad_arg s n wd (by omega) (k + 1) (by omega), Option.bind_some, In_f, Option.bind_some, decide_eq_false c1, if_neg (by decide)]
    show ephemerislaw1_NumeralPads.j1 (k + 1) s n wd (bs []) 1 true = some true
    rw [ephemerislaw1_NumeralPads.j1, if_pos rfl, if_pos (by rw [bs_toList])]
    rfl
end Go.Proofs.YtcmanidhilkhnaaDoor.Pure
