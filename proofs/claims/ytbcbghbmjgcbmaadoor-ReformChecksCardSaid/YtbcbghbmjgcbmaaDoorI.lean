/- Plain facts on decimal numerals. No program here. -/
import Derived.Test.YtbcbghbmjgcbmaaDoorM
import Derived.Test.YtbcbghbmjgcbmaaDoorT
import Derived.Lib.AtoiTie
import Derived.Lib.ItoaMem
import Derived.Lib.ItoaLen
namespace Go.Proofs.YtbcbghbmjgcbmaaDoor.I
open Go.RowKit Go.Proofs.YtbcbghbmjgcbmaaDoorW.PrintWords Go.Proofs.YtbcbghbmjgcbmaaDoor.M Go.Proofs.YtbcbghbmjgcbmaaDoor.T
open Go.Lib (itoa decDigits decFrom decNat atoiAll nDigits)
set_option linter.unusedVariables false
set_option linter.unusedSimpArgs false
def isDig (c : UInt8) : Bool := decide (48 ≤ c.toNat) && decide (c.toNat ≤ 57)
theorem isDig_iff (c : UInt8) : isDig c = true ↔ 48 ≤ c.toNat ∧ c.toNat ≤ 57 := by unfold isDig; simp
/-- The value of a row of digits. -/
def dVal (acc : Nat) (l : List UInt8) : Nat := l.foldl (fun a c => a * 10 + (c.toNat - 48)) acc
theorem dVal_nil (acc : Nat) : dVal acc [] = acc := by unfold dVal; rw [List.foldl_nil]
theorem dVal_cons (acc : Nat) (c : UInt8) (r : List UInt8) : dVal acc (c :: r) = dVal (acc * 10 + (c.toNat - 48)) r := by unfold dVal; rw [List.foldl_cons]
theorem dVal_append (l m : List UInt8) (acc : Nat) : dVal acc (l ++ m) = dVal (dVal acc l) m := by
  unfold dVal; rw [List.foldl_append]
theorem dVal_ge : ∀ (l : List UInt8) (acc : Nat), acc ≤ dVal acc l
  | [], acc => by rw [dVal_nil]; exact Nat.le_refl acc
  | c :: r, acc => by
    have := dVal_ge r (acc * 10 + (c.toNat - 48))
    rw [dVal_cons]
    omega
theorem dVal_lt : ∀ (l : List UInt8) (acc : Nat), l.all isDig = true → dVal acc l < (acc + 1) * 10 ^ l.length
  | [], acc, _ => by rw [dVal_nil]; simp
  | c :: r, acc, h => by
    rw [List.all_cons, Bool.and_eq_true] at h
    have hc := (isDig_iff c).1 h.1
    have := dVal_lt r (acc * 10 + (c.toNat - 48)) h.2
    rw [dVal_cons]
    refine Nat.lt_of_lt_of_le this ?_
    rw [List.length_cons, Nat.pow_succ, Nat.mul_comm (10 ^ r.length) 10, ← Nat.mul_assoc]
    exact Nat.mul_le_mul_right _ (by omega)
theorem dVal_decFrom : ∀ (l : List UInt8) (acc : Nat), l.all isDig = true → decFrom acc l = some (dVal acc l)
  | [], acc, _ => by rw [dVal_nil]; rfl
  | c :: r, acc, h => by
    rw [List.all_cons, Bool.and_eq_true] at h
    have hc := (isDig_iff c).1 h.1
    unfold Go.Lib.decFrom Go.Lib.digitVal
    rw [if_pos hc, dVal_cons]
    exact dVal_decFrom r _ h.2
theorem dig_nat {u : Nat} (h : u < 10) : (UInt8.ofNat (48 + u)).toNat = 48 + u := by
  rw [UInt8.toNat_ofNat']; omega
theorem dec_big {u : Nat} (h : ¬ u < 10) : decDigits u = decDigits (u / 10) ++ [UInt8.ofNat (48 + u % 10)] := by
  rw [decDigits, dif_neg h]
theorem dec_facts (u : Nat) : decDigits u ≠ [] ∧ (decDigits u).all isDig = true ∧ dVal 0 (decDigits u) = u ∧ (0 < u → (decDigits u).head? ≠ some 48) := by
  induction u using Nat.strongRecOn with
  | _ u ih =>
    by_cases h : u < 10
    · rw [Go.Lib.decDigits_one h]
      have e := dig_nat h
      refine ⟨by simp, ?_, ?_, ?_⟩
      · rw [List.all_cons, List.all_nil, Bool.and_true, isDig_iff, e]; omega
      · rw [dVal_cons, dVal_nil, e]; omega
      · intro hu he
        simp only [List.head?_cons, Option.some.injEq] at he
        have : (UInt8.ofNat (48 + u)).toNat = 48 := by rw [he]; rfl
        omega
    · obtain ⟨h1, h2, h3, h4⟩ := ih (u / 10) (by omega)
      have e := dig_nat (show u % 10 < 10 by omega)
      rw [dec_big h]
      refine ⟨by simp, ?_, ?_, ?_⟩
      · rw [List.all_append, h2, List.all_cons, List.all_nil, Bool.and_true, Bool.true_and, isDig_iff, e]; omega
      · rw [dVal_append, h3, dVal_cons, dVal_nil, e]; omega
      · intro _
        cases hd : decDigits (u / 10) with
        | nil => exact absurd hd h1
        | cons b r =>
          have h5 := h4 (by omega)
          rw [hd] at h5
          exact h5
/-- A number without leading zeros. -/
def dOK (l : List UInt8) : Bool := !l.isEmpty && (decide (l.length ≤ 1) || decide (l.head? ≠ some 48)) && l.all isDig
theorem dOK_iff (l : List UInt8) : dOK l = true ↔ l ≠ [] ∧ (l.length ≤ 1 ∨ l.head? ≠ some 48) ∧ l.all isDig = true := by
  unfold dOK
  cases l with
  | nil => simp
  | cons c r => simp [and_assoc]
theorem dec_of : ∀ (n : Nat) (l : List UInt8), l.length = n → l ≠ [] → (l.length ≤ 1 ∨ l.head? ≠ some 48) → l.all isDig = true → decDigits (dVal 0 l) = l
  | 0, l, hn, h0, _, _ => absurd (List.length_eq_zero_iff.1 hn) h0
  | n + 1, l, hn, h0, h1, h2 => by
    obtain ⟨m, c, rfl⟩ : ∃ m c, l = m ++ [c] := ⟨l.dropLast, l.getLast h0, (List.dropLast_concat_getLast h0).symm⟩
    rw [List.all_append, Bool.and_eq_true, List.all_cons, List.all_nil, Bool.and_true] at h2
    have hc := (isDig_iff c).1 h2.2
    have hu : UInt8.ofNat (48 + (c.toNat - 48)) = c := by rw [show 48 + (c.toNat - 48) = c.toNat from by omega, UInt8.ofNat_toNat]
    cases m with
    | nil =>
      rw [List.nil_append, dVal_cons, dVal_nil, Go.Lib.decDigits_one (by omega), show 0 * 10 + (c.toNat - 48) = c.toNat - 48 from by omega, hu]
    | cons d m =>
      have hh : (d :: m).head? ≠ some 48 := by
        rcases h1 with h1 | h1
        · simp at h1
        · exact h1
      have ih := dec_of n (d :: m) (by simpa using hn) (by simp) (.inr hh) h2.1
      have hv : dVal 0 ((d :: m) ++ [c]) = dVal 0 (d :: m) * 10 + (c.toNat - 48) := by rw [dVal_append, dVal_cons, dVal_nil]
      have hd1 : 1 ≤ dVal 0 (d :: m) := by
        have h3 := h2.1
        rw [List.all_cons, Bool.and_eq_true] at h3
        have hd := (isDig_iff d).1 h3.1
        have hne : d.toNat ≠ 48 := fun e => hh (by
          rw [List.head?_cons]
          congr 1
          exact UInt8.toNat_inj.1 (by rw [e]; rfl))
        have := dVal_ge m (0 * 10 + (d.toNat - 48))
        rw [dVal_cons]
        omega
      rw [hv, dec_big (by omega), show (dVal 0 (d :: m) * 10 + (c.toNat - 48)) / 10 = dVal 0 (d :: m) from by omega, show (dVal 0 (d :: m) * 10 + (c.toNat - 48)) % 10 = c.toNat - 48 from by omega, ih, hu]
theorem dOK_dec (u : Nat) : dOK (decDigits u) = true := by
  obtain ⟨h1, h2, h3, h4⟩ := dec_facts u
  refine (dOK_iff _).2 ⟨h1, ?_, h2⟩
  by_cases hu : u < 10
  · left; rw [Go.Lib.decDigits_one hu]; simp
  · right; exact h4 (by omega)
theorem dec_dOK {l : List UInt8} (h : dOK l = true) : decDigits (dVal 0 l) = l := by
  obtain ⟨h1, h2, h3⟩ := (dOK_iff l).1 h
  exact dec_of _ l rfl h1 h2 h3
theorem dec_length {u k : Nat} (h : u < 10 ^ k) (hk : 1 ≤ k) : (decDigits u).length ≤ k := by
  induction k generalizing u with
  | zero => omega
  | succ k ih =>
    by_cases hu : u < 10
    · rw [Go.Lib.decDigits_one hu]; simp
    · rw [dec_big hu, List.length_append]
      have hp : 10 ^ (k + 1) = 10 * 10 ^ k := by rw [Nat.pow_succ, Nat.mul_comm]
      rw [hp] at h
      have hk1 : 1 ≤ k := by
        rcases Nat.eq_zero_or_pos k with rfl | h0
        · simp at h; omega
        · exact h0
      have := ih (u := u / 10) (by omega) hk1
      simp only [List.length_singleton]; omega
/-- A number as it is written, with at most 17 digits. -/
def trim1 : List UInt8 → List UInt8
  | [] => []
  | c :: r => if c = 45 then r else c :: r
def pOK (l : List UInt8) : Bool := dOK (trim1 l) && decide ((trim1 l).length ≤ 17) && decide (l ≠ [45, 48])
def pVal (l : List UInt8) : Int := if l.head? = some 45 then -(dVal 0 (trim1 l) : Int) else (dVal 0 (trim1 l) : Int)
theorem pOK_iff (l : List UInt8) : pOK l = true ↔ dOK (trim1 l) = true ∧ (trim1 l).length ≤ 17 ∧ l ≠ [45, 48] := by
  unfold pOK; simp [and_assoc]
theorem dOK_head {l : List UInt8} (h : dOK l = true) : l.head? ≠ some 45 := by
  obtain ⟨h1, h2, h3⟩ := (dOK_iff l).1 h
  cases l with
  | nil => exact absurd rfl h1
  | cons c r =>
    rw [List.all_cons, Bool.and_eq_true] at h3
    have hc := (isDig_iff c).1 h3.1
    intro he
    simp only [List.head?_cons, Option.some.injEq] at he
    rw [he] at hc
    exact absurd hc.1 (by decide)
theorem trim1_other {l : List UInt8} (h : l.head? ≠ some 45) : trim1 l = l := by
  cases l with
  | nil => rfl
  | cons c r =>
    have hc : ¬ c = 45 := fun e => h (by rw [e]; rfl)
    show (if c = 45 then r else c :: r) = c :: r
    rw [if_neg hc]
theorem pOK_itoa {l : List UInt8} (h : pOK l = true) : l = itoa (pVal l) := by
  obtain ⟨h1, h2, h3⟩ := (pOK_iff l).1 h
  unfold pVal
  by_cases c : l.head? = some 45
  · rw [if_pos c]
    cases l with
    | nil => simp at c
    | cons b r =>
      simp only [List.head?_cons, Option.some.injEq] at c
      subst c
      have e : trim1 (45 :: r) = r := rfl
      rw [e] at h1 h2 ⊢
      have hd := dec_dOK h1
      have hpos : 1 ≤ dVal 0 r := by
        rcases Nat.eq_zero_or_pos (dVal 0 r) with h0 | h0
        · rw [h0, Go.Lib.decDigits_one (by decide)] at hd
          exact absurd (by rw [← hd]; rfl) h3
        · exact h0
      rw [Go.Lib.itoa_neg _ hpos, hd]
  · rw [if_neg c, trim1_other c, Go.Lib.itoa_nonneg]
    rw [trim1_other c] at h1
    exact (dec_dOK h1).symm
theorem itoa_pOK {n : Int} (h0 : -100000000000000000 < n) (h1 : n < 100000000000000000) : pOK (itoa n) = true ∧ pVal (itoa n) = n := by
  have e17 : (10 : Nat) ^ 17 = 100000000000000000 := by decide
  by_cases c : n < 0
  · obtain ⟨u, rfl, hu⟩ : ∃ u : Nat, n = -(u : Int) ∧ 1 ≤ u := ⟨n.natAbs, by omega, by omega⟩
    rw [Go.Lib.itoa_neg u hu]
    have e : trim1 (45 :: decDigits u) = decDigits u := rfl
    constructor
    · refine (pOK_iff _).2 ⟨by rw [e]; exact dOK_dec u, by rw [e]; exact dec_length (by omega) (by decide), ?_⟩
      intro he
      have h2 := (dec_facts u).2.2.1
      rw [(List.cons.inj he).2] at h2
      have h3 : dVal 0 [48] = 0 := by rw [dVal_cons, dVal_nil]; rfl
      omega
    · unfold pVal
      rw [if_pos (show (45 :: decDigits u).head? = some 45 from rfl), e, (dec_facts u).2.2.1]
  · obtain ⟨u, rfl⟩ : ∃ u : Nat, n = (u : Int) := ⟨n.toNat, by omega⟩
    rw [Go.Lib.itoa_nonneg]
    have hh := dOK_head (dOK_dec u)
    constructor
    · refine (pOK_iff _).2 ⟨by rw [trim1_other hh]; exact dOK_dec u, by rw [trim1_other hh]; exact dec_length (by omega) (by decide), ?_⟩
      intro he
      exact hh (by rw [he]; rfl)
    · unfold pVal
      rw [if_neg hh, trim1_other hh, (dec_facts u).2.2.1]
theorem atoi_itoa {n : Int} (h0 : -100000000000000000 < n) (h1 : n < 100000000000000000) : atoiAll (itoa n) = .ok n := by
  have e17 : (10 : Nat) ^ 17 = 100000000000000000 := by decide
  have hN : ∀ u : Nat, decNat (decDigits u) = some u := fun u => by
    obtain ⟨g1, g2, g3, _⟩ := dec_facts u
    unfold Go.Lib.decNat
    rw [if_neg (by simpa using g1), dVal_decFrom _ _ g2, g3]
  by_cases c : n < 0
  · obtain ⟨u, rfl, hu⟩ : ∃ u : Nat, n = -(u : Int) ∧ 1 ≤ u := ⟨n.natAbs, by omega, by omega⟩
    have hl : (decDigits u).length ≤ 17 := dec_length (by omega) (by decide)
    rw [Go.Lib.itoa_neg u hu, Go.Lib.atoiAll_minus, Go.Lib.signed_short (by omega), hN]
    rfl
  · obtain ⟨u, rfl⟩ : ∃ u : Nat, n = (u : Int) := ⟨n.toNat, by omega⟩
    have hl : (decDigits u).length ≤ 17 := dec_length (by omega) (by decide)
    rw [Go.Lib.itoa_nonneg]
    have hD := hN u
    obtain ⟨g1, g2, _, _⟩ := dec_facts u
    cases hd : decDigits u with
    | nil => exact absurd hd g1
    | cons b r =>
      rw [hd] at hD hl g2
      rw [List.all_cons, Bool.and_eq_true] at g2
      have hb := (isDig_iff b).1 g2.1
      rw [Go.Lib.atoiAll_plain b r (by omega) (by omega), Go.Lib.signless_short (by omega), hD]
      rfl
/-- The bytes of a numeral. -/
theorem itoa_bytes (n : Int) : ∀ c ∈ itoa n, c = 45 ∨ isDig c = true := by
  intro c hc
  unfold Go.Lib.itoa at hc
  split at hc
  · rcases List.mem_cons.1 hc with h | h
    · exact .inl h
    · exact .inr (List.all_eq_true.1 (dec_facts _).2.1 c h)
  · exact .inr (List.all_eq_true.1 (dec_facts _).2.1 c hc)
theorem itoa_ne {n : Int} {b : UInt8} (h1 : b ≠ 45) (h2 : isDig b = false) : b ∉ itoa n := by
  intro h
  rcases itoa_bytes n b h with e | e
  · exact h1 e
  · rw [h2] at e; cases e
theorem itoa_inj {m n : Int} (h0 : -100000000000000000 < m) (h1 : m < 100000000000000000) (h2 : -100000000000000000 < n) (h3 : n < 100000000000000000) (h : itoa m = itoa n) : m = n := by
  rw [← (itoa_pOK h0 h1).2, h, (itoa_pOK h2 h3).2]
theorem itoa_nil (n : Int) : itoa n ≠ [] := by
  unfold Go.Lib.itoa
  split
  · simp
  · exact (dec_facts _).1
end Go.Proofs.YtbcbghbmjgcbmaaDoor.I
