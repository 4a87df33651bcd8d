/- Plain facts on the Gregorian calendar. No program here. -/
import Derived.Test.YtolhlaadhfilnaaDoorM
namespace Go.Proofs.YtolhlaadhfilnaaDoor.G
open Go.Proofs.YtolhlaadhfilnaaDoor.M
set_option linter.unusedVariables false

/-- The year of an era out of its day: centuries, fours and single years. -/
theorem era_split (n : Int) (h0 : 0 ≤ n) (h1 : n ≤ 146096) : ∃ d q y3 s : Int, (0 ≤ d ∧ d ≤ 3) ∧ (0 ≤ q ∧ q ≤ 24) ∧ (0 ≤ y3 ∧ y3 ≤ 3) ∧ n = 36524 * d + 1461 * q + 365 * y3 + s ∧ 0 ≤ s ∧ s ≤ 365 ∧ (s = 365 → y3 = 3 ∧ (q = 24 → d = 3)) ∧
    (n - n / 1460 + n / 36524 - n / 146096) / 365 = 100 * d + 4 * q + y3 := by
  by_cases hl : n = 146096
  · exact ⟨3, 24, 3, 365, by omega, by omega, by omega, by omega, by omega, by omega, by omega, by subst hl; rfl⟩
  have e0 : n / 146096 = 0 := by omega
  obtain ⟨d, hd⟩ : ∃ d, d = n / 36524 := ⟨_, rfl⟩
  obtain ⟨q, hq⟩ : ∃ q, q = (n - 36524 * d) / 1461 := ⟨_, rfl⟩
  obtain ⟨s, hs⟩ : ∃ s, s = n - 36524 * d - 1461 * q := ⟨_, rfl⟩
  obtain ⟨t, ht⟩ : ∃ t, t = (24 * d + q + s) / 1460 := ⟨_, rfl⟩
  have b1 : 0 ≤ d ∧ d ≤ 3 := by omega
  have b2 : 0 ≤ q ∧ q ≤ 24 := by omega
  have b3 : 0 ≤ s ∧ s ≤ 1460 := by omega
  have b4 : q = 24 → s ≤ 1459 := by omega
  have hn : n = 36524 * d + 1461 * q + s := by omega
  have e1 : n / 1460 = 25 * d + q + t := by omega
  have b5 : 0 ≤ t ∧ t ≤ 1 := by omega
  have b6 : t = 1 → 1364 ≤ s := by omega
  have b7 : s = 1460 → t = 1 := by omega
  rw [e0, e1, ← hd]
  clear hd hq ht e0 e1
  by_cases c3 : 1095 ≤ s
  · exact ⟨d, q, 3, s - 1095, b1, b2, by omega, by omega, by omega, by omega, by omega, by omega⟩
  by_cases c2 : 730 ≤ s
  · exact ⟨d, q, 2, s - 730, b1, b2, by omega, by omega, by omega, by omega, by omega, by omega⟩
  by_cases c1 : 365 ≤ s
  · exact ⟨d, q, 1, s - 365, b1, b2, by omega, by omega, by omega, by omega, by omega, by omega⟩
  · exact ⟨d, q, 0, s, b1, b2, by omega, by omega, by omega, by omega, by omega, by omega⟩
/-- leap years, lengths, years' begins -/
def leapY (y : Int) : Bool := decide (y % 4 = 0 ∧ (¬ y % 100 = 0 ∨ y % 400 = 0))
def beg (y : Int) : Int := 365 * (y - 1) + (y - 1) / 4 - (y - 1) / 100 + (y - 1) / 400
def lenM (y m : Int) : Int := if m = 2 then (if leapY y = true then 29 else 28) else if m = 4 ∨ m = 6 ∨ m = 9 ∨ m = 11 then 30 else 31
/-- days of a year ahead of a month -/
def cumM (y m : Int) : Int := if m ≤ 1 then 0 else if m = 2 then 31 else (if leapY y = true then 60 else 59) + (153 * (m - 3) + 2) / 5
theorem beg_succ (y : Int) : beg (y + 1) = beg y + (if leapY y = true then 366 else 365) := by
  unfold beg leapY
  simp only [decide_eq_true_eq]
  by_cases c4 : y % 4 = 0 ∧ (¬ y % 100 = 0 ∨ y % 400 = 0)
  · rw [if_pos c4]; omega
  · rw [if_neg c4]; omega
theorem cum_succ (y m : Int) (h1 : 1 ≤ m) (h2 : m ≤ 11) : cumM y (m + 1) = cumM y m + lenM y m := by
  have : m = 1 ∨ m = 2 ∨ m = 3 ∨ m = 4 ∨ m = 5 ∨ m = 6 ∨ m = 7 ∨ m = 8 ∨ m = 9 ∨ m = 10 ∨ m = 11 := by omega
  unfold cumM lenM
  cases c : leapY y <;> simp only [if_true, Bool.false_eq_true, if_false] <;> rcases this with rfl | rfl | rfl | rfl | rfl | rfl | rfl | rfl | rfl | rfl | rfl <;> decide
theorem cum_end (y : Int) : cumM y 12 + lenM y 12 = if leapY y = true then 366 else 365 := by
  unfold cumM lenM
  cases c : leapY y <;> simp only [if_true, Bool.false_eq_true, if_false] <;> decide
/-- A date of the Gregorian calendar and its day. -/
def okDate (y m d : Int) : Prop := (1 ≤ m ∧ m ≤ 12) ∧ (1 ≤ d ∧ d ≤ lenM y m)
def dayOf (y m d : Int) : Int := beg y + cumM y m + d
theorem len_pos (y m : Int) : 28 ≤ lenM y m ∧ lenM y m ≤ 31 := by
  unfold lenM; split
  · split <;> omega
  · split <;> omega
theorem cum_le (y m : Int) (h1 : 1 ≤ m) (h2 : m ≤ 12) : 0 ≤ cumM y m ∧ cumM y m + lenM y m ≤ (if leapY y = true then 366 else 365) := by
  have : m = 1 ∨ m = 2 ∨ m = 3 ∨ m = 4 ∨ m = 5 ∨ m = 6 ∨ m = 7 ∨ m = 8 ∨ m = 9 ∨ m = 10 ∨ m = 11 ∨ m = 12 := by omega
  unfold cumM lenM
  cases c : leapY y <;> simp only [if_true, Bool.false_eq_true, if_false] <;> rcases this with rfl | rfl | rfl | rfl | rfl | rfl | rfl | rfl | rfl | rfl | rfl | rfl <;> decide
theorem beg_mono (a b : Int) (h : a ≤ b) : beg a ≤ beg b := by unfold beg; omega
/-- Each day has one date. -/
theorem date_uniq {y m d y' m' d' : Int} (h : okDate y m d) (h' : okDate y' m' d') (e : dayOf y m d = dayOf y' m' d') : y = y' ∧ m = m' ∧ d = d' := by
  obtain ⟨⟨m0, m1⟩, d0, d1⟩ := h
  obtain ⟨⟨m0', m1'⟩, d0', d1'⟩ := h'
  unfold dayOf at e
  have c := cum_le y m m0 m1
  have c' := cum_le y' m' m0' m1'
  have s := beg_succ y
  have s' := beg_succ y'
  have hy : y = y' := by
    rcases Int.lt_trichotomy y y' with h | h | h
    · have := beg_mono (y + 1) y' (by omega); omega
    · exact h
    · have := beg_mono (y' + 1) y (by omega); omega
  subst hy
  have mono : ∀ a b : Int, 1 ≤ a → a < b → b ≤ 12 → cumM y a + lenM y a ≤ cumM y b := by
    intro a b h1 h2 h3
    have : ∀ n : Nat, a + 1 + n ≤ 12 → cumM y (a + 1) ≤ cumM y (a + 1 + n) := by
      intro n
      induction n with
      | zero => intro _; rw [show a + 1 + ((0 : Nat) : Int) = a + 1 from by omega]; exact Int.le_refl _
      | succ n ih =>
        intro hn
        have i1 := ih (by omega)
        have i2 := cum_succ y (a + 1 + n) (by omega) (by omega)
        have i3 := len_pos y (a + 1 + n)
        rw [show a + 1 + ((n + 1 : Nat) : Int) = a + 1 + n + 1 from by omega]
        omega
    have := this (b - a - 1).toNat (by omega)
    rw [show a + 1 + ((b - a - 1).toNat : Int) = b from by omega, cum_succ y a h1 (by omega)] at this
    exact this
  have hm : m = m' := by
    rcases Int.lt_trichotomy m m' with h | h | h
    · have := mono m m' m0 h m1'; omega
    · exact h
    · have := mono m' m m0' h m1; omega
  subst hm
  exact ⟨rfl, rfl, by omega⟩
/-- The date that the reference computes: years that begin in March. -/
def greg (day : Int) : Int × Int × Int :=
  let z := day + 305
  let n := z % 146097
  let y := (n - n / 1460 + n / 36524 - n / 146096) / 365
  let r := n - (365 * y + y / 4 - y / 100)
  let m := (5 * r + 2) / 153
  if m + 3 > 12 then (y + 400 * (z / 146097) + 1, m + 3 - 12, r - (153 * m + 2) / 5 + 1) else (y + 400 * (z / 146097), m + 3, r - (153 * m + 2) / 5 + 1)
theorem march_beg (d q y3 e : Int) (b1 : 0 ≤ d ∧ d ≤ 3) (b2 : 0 ≤ q ∧ q ≤ 24) (b3 : 0 ≤ y3 ∧ y3 ≤ 3) : beg (100 * d + 4 * q + y3 + 400 * e + 1) = 146097 * e + 36524 * d + 1461 * q + 365 * y3 := by unfold beg; omega
theorem march_leap (d q y3 e : Int) (b1 : 0 ≤ d ∧ d ≤ 3) (b2 : 0 ≤ q ∧ q ≤ 24) (b3 : 0 ≤ y3 ∧ y3 ≤ 3) : leapY (100 * d + 4 * q + y3 + 400 * e + 1) = decide (y3 = 3 ∧ (q = 24 → d = 3)) := by
  unfold leapY
  congr 1
  apply propext
  have e4 : (100 * d + 4 * q + y3 + 400 * e + 1) % 4 = (y3 + 1) % 4 := by omega
  have e100 : (100 * d + 4 * q + y3 + 400 * e + 1) % 100 = (4 * q + y3 + 1) % 100 := by omega
  have e400 : (100 * d + 4 * q + y3 + 400 * e + 1) % 400 = (100 * d + 4 * q + y3 + 1) % 400 := by omega
  rw [e4, e100, e400]
  constructor
  · rintro ⟨h1, h2⟩
    have : y3 = 3 := by omega
    subst this
    refine ⟨rfl, fun hq => ?_⟩
    subst hq
    rcases h2 with h2 | h2 <;> omega
  · rintro ⟨h1, h2⟩
    subst h1
    refine ⟨by omega, ?_⟩
    by_cases hq : q = 24
    · have := h2 hq; subst hq; subst this; exact .inr (by omega)
    · exact .inl (by omega)
theorem march_end (d q y3 e : Int) (b1 : 0 ≤ d ∧ d ≤ 3) (b2 : 0 ≤ q ∧ q ≤ 24) (b3 : 0 ≤ y3 ∧ y3 ≤ 3) : beg (100 * d + 4 * q + y3 + 400 * e) + (if leapY (100 * d + 4 * q + y3 + 400 * e) = true then 60 else 59) = 146097 * e + 36524 * d + 1461 * q + 365 * y3 - 306 := by
  have hl : leapY (100 * d + 4 * q + y3 + 400 * e) = decide (y3 = 0 ∧ (q = 0 → d = 0)) := by
    unfold leapY
    congr 1
    apply propext
    have e4 : (100 * d + 4 * q + y3 + 400 * e) % 4 = y3 % 4 := by omega
    have e100 : (100 * d + 4 * q + y3 + 400 * e) % 100 = (4 * q + y3) % 100 := by omega
    have e400 : (100 * d + 4 * q + y3 + 400 * e) % 400 = (100 * d + 4 * q + y3) % 400 := by omega
    rw [e4, e100, e400]
    constructor
    · rintro ⟨h1, h2⟩
      have : y3 = 0 := by omega
      subst this
      refine ⟨rfl, fun hq => ?_⟩
      subst hq
      rcases h2 with h2 | h2 <;> omega
    · rintro ⟨h1, h2⟩
      subst h1
      refine ⟨by omega, ?_⟩
      by_cases hq : q = 0
      · have := h2 hq; subst hq; subst this; exact .inr (by omega)
      · exact .inl (by omega)
  rw [hl]
  simp only [decide_eq_true_eq]
  have hs : beg (100 * d + 4 * q + y3 + 400 * e + 1) = 146097 * e + 36524 * d + 1461 * q + 365 * y3 := by unfold beg; omega
  by_cases h0 : y3 = 0
  · subst h0
    by_cases hq : q = 0
    · subst hq
      by_cases hd : d = 0
      · subst hd; rw [if_pos ⟨rfl, fun _ => rfl⟩]; unfold beg; omega
      · rw [if_neg (fun h => hd (h.2 rfl))]; unfold beg; omega
    · rw [if_pos ⟨rfl, fun h => absurd h hq⟩]; unfold beg; omega
  · rw [if_neg (fun h => h0 h.1)]; unfold beg; omega
theorem march_rest (n d q y3 s : Int) (b1 : 0 ≤ d ∧ d ≤ 3) (b2 : 0 ≤ q ∧ q ≤ 24) (b3 : 0 ≤ y3 ∧ y3 ≤ 3) (h1 : n = 36524 * d + 1461 * q + 365 * y3 + s) : n - (365 * (100 * d + 4 * q + y3) + (100 * d + 4 * q + y3) / 4 - (100 * d + 4 * q + y3) / 100) = s := by
  have f4 : (100 * d + 4 * q + y3) / 4 = 25 * d + q := by omega
  have f100 : (100 * d + 4 * q + y3) / 100 = d := by omega
  rw [f4, f100]; omega
theorem march_month (s m : Int) (h2 : 0 ≤ s) (h3 : s ≤ 365) (hm : m = (5 * s + 2) / 153) : (0 ≤ m ∧ m ≤ 11) ∧ 153 * m ≤ 5 * s + 2 ∧ 5 * s + 2 < 153 * m + 153 := by omega
theorem greg_ok (day : Int) : okDate (greg day).1 (greg day).2.1 (greg day).2.2 ∧ dayOf (greg day).1 (greg day).2.1 (greg day).2.2 = day := by
  obtain ⟨e, he⟩ : ∃ e, e = (day + 305) / 146097 := ⟨_, rfl⟩
  obtain ⟨n, hn⟩ : ∃ n, n = (day + 305) % 146097 := ⟨_, rfl⟩
  have hday : day = 146097 * e + n - 305 := by omega
  have hn0 : 0 ≤ n ∧ n ≤ 146096 := by omega
  obtain ⟨d, q, y3, s, b1, b2, b3, h1, h2, h3, h4, hy⟩ := era_split n hn0.1 hn0.2
  unfold greg
  simp only [← he, ← hn, hy]
  have hr := march_rest n d q y3 s b1 b2 b3 h1
  rw [hr]
  clear he hn hy hr hn0
  obtain ⟨m, hm⟩ : ∃ m, m = (5 * s + 2) / 153 := ⟨_, rfl⟩
  rw [← hm]
  obtain ⟨hm0, hms⟩ := march_month s m h2 h3 hm
  clear hm
  have hb := march_beg d q y3 e b1 b2 b3
  have hl := march_leap d q y3 e b1 b2 b3
  have hb2 := march_end d q y3 e b1 b2 b3
  generalize hY : 100 * d + 4 * q + y3 + 400 * e = Y at *
  by_cases c : m + 3 > 12
  · rw [if_pos c]
    simp only
    have hmm : m = 10 ∨ m = 11 := by omega
    unfold okDate dayOf
    rw [hb]
    clear hb hb2 hY
    rcases hmm with rfl | rfl
    · have e1 : cumM (Y + 1) (10 + 3 - 12) = 0 := by unfold cumM; rw [if_pos (by omega)]
      have e2 : lenM (Y + 1) (10 + 3 - 12) = 31 := by unfold lenM; rw [if_neg (by omega), if_neg (by omega)]
      rw [e1, e2]
      omega
    · have e1 : cumM (Y + 1) (11 + 3 - 12) = 31 := by unfold cumM; rw [if_neg (by omega), if_pos (by omega)]
      have e2 : lenM (Y + 1) (11 + 3 - 12) = if y3 = 3 ∧ (q = 24 → d = 3) then 29 else 28 := by
        unfold lenM; rw [if_pos (by omega), hl]; simp only [decide_eq_true_eq]
      rw [e1, e2]
      by_cases c9 : y3 = 3 ∧ (q = 24 → d = 3)
      · rw [if_pos c9]; clear h4 c9; omega
      · rw [if_neg c9]
        have : s ≤ 364 := by
          rcases Int.lt_or_le s 365 with h | h
          · omega
          · exact absurd (h4 (by omega)) c9
        clear h4 c9; omega
  · rw [if_neg c]
    simp only
    clear hb hl hY h4
    have e1 : cumM Y (m + 3) = (if leapY Y = true then 60 else 59) + (153 * m + 2) / 5 := by
      unfold cumM; rw [if_neg (by omega), if_neg (by omega), show m + 3 - 3 = m from by omega]
    have e2 : lenM Y (m + 3) = (153 * (m + 1) + 2) / 5 - (153 * m + 2) / 5 := by
      have : m = 0 ∨ m = 1 ∨ m = 2 ∨ m = 3 ∨ m = 4 ∨ m = 5 ∨ m = 6 ∨ m = 7 ∨ m = 8 ∨ m = 9 := by omega
      unfold lenM
      rw [if_neg (by omega)]
      rcases this with rfl | rfl | rfl | rfl | rfl | rfl | rfl | rfl | rfl | rfl <;> decide
    unfold okDate dayOf
    rw [e1, e2]
    generalize (if leapY Y = true then (60 : Int) else 59) = u at *
    generalize beg Y = w at *
    clear e1 e2
    omega
theorem dayOf_greg {y m d : Int} (h : okDate y m d) : greg (dayOf y m d) = (y, m, d) := by
  have h2 := greg_ok (dayOf y m d)
  have := date_uniq h2.1 h h2.2
  exact Prod.ext this.1 (Prod.ext this.2.1 this.2.2)
end Go.Proofs.YtolhlaadhfilnaaDoor.G
