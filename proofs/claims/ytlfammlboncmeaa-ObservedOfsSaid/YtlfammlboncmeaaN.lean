/- Plain facts on years of twelve or thirteen months. No program here. -/
import Derived.Test.YtlfammlboncmeaaP
import Derived.Test.YtlfammlboncmeaaQ
namespace Go.Proofs.Ytlfammlboncmeaa.N
open Go.RowKit Go.Proofs.YtlfammlboncmeaaW.PrintWords Go.Proofs.Ytlfammlboncmeaa.M Go.Proofs.Ytlfammlboncmeaa.L Go.Proofs.Ytlfammlboncmeaa.F Go.Proofs.Ytlfammlboncmeaa.P Go.Proofs.Ytlfammlboncmeaa.Q
set_option linter.unusedVariables false
/-- Is it a year of thirteen months? -/
def isLeapM (c : Int) (l : List Int) (y : Int) : Bool := decide ((y - 1) % c + 1 ∈ l)
def mMonths (c : Int) (l : List Int) (y : Int) : Int := if isLeapM c l y = true then 13 else 12
/-- The months before a year, counted from month 1 of year 1. -/
def mB (c : Int) (l : List Int) (y : Int) : Int := 12 * (y - 1) + (y - 1) / c * l.length + cntLe l ((y - 1) % c)
/-- What is known of the leap years of a cycle. -/
structure OkLp (c : Int) (l : List Int) : Prop where
  cy : 1 ≤ c ∧ c ≤ 100
  lo : ∀ y ∈ l, 1 ≤ y
  hi : ∀ y ∈ l, y ≤ c
  up : l.Pairwise (· < ·)
theorem OkLp.llen {c : Int} {l : List Int} (h : OkLp c l) : (l.length : Int) ≤ c := by
  have h1 := cnt_le_self h.up h.lo c.toNat
  have hc := h.cy
  rw [show ((c.toNat : Nat) : Int) = c from by omega, cnt_all h.hi] at h1
  exact h1
theorem mMonths_bound (c : Int) (l : List Int) (y : Int) : 12 ≤ mMonths c l y ∧ mMonths c l y ≤ 13 := by unfold mMonths; split <;> omega
theorem mB_succ {c : Int} {l : List Int} (ok : OkLp c l) (y : Int) : mB c l (y + 1) = mB c l y + mMonths c l y := by
  have hc := ok.cy
  unfold mB mMonths isLeapM
  obtain ⟨q, r, h0, h1, hy⟩ : ∃ q r : Int, 0 ≤ r ∧ r < c ∧ y - 1 = c * q + r := ⟨(y - 1) / c, (y - 1) % c, Int.emod_nonneg _ (by omega), Int.emod_lt_of_pos _ (by omega), (Int.mul_ediv_add_emod _ _).symm⟩
  obtain ⟨e1, e2⟩ := ed_uniq (a := y - 1) (b := c) (q := q) (r := r) (by omega) hy h0 h1
  have hd : (if decide (r + 1 ∈ l) = true then (13 : Int) else 12) = 12 + if r + 1 ∈ l then 1 else 0 := by by_cases h : r + 1 ∈ l <;> simp [h]
  have hs := cnt_succ (l := l) r ok.up
  rw [e1, e2, hd]
  by_cases hr : r + 1 < c
  · obtain ⟨e3, e4⟩ := ed_uniq (a := y + 1 - 1) (b := c) (q := q) (r := r + 1) (by omega) (by omega) (by omega) hr
    rw [e3, e4, hs]; omega
  · obtain ⟨e3, e4⟩ := ed_uniq (a := y + 1 - 1) (b := c) (q := q + 1) (r := 0) (by omega) (by rw [Int.mul_add]; omega) (by omega) (by omega)
    rw [e3, e4, cnt_zero (fun y hy => by have := ok.lo y hy; omega), Int.add_mul, Int.one_mul]
    rw [show r + 1 = c from by omega, cnt_all ok.hi] at hs
    rw [show r + 1 = c from by omega]
    omega
theorem mB_one {c : Int} {l : List Int} (ok : OkLp c l) : mB c l 1 = 0 := by
  unfold mB
  rw [show (1 : Int) - 1 = 0 from rfl, Int.zero_ediv, Int.zero_emod, cnt_zero (fun y hy => by have := ok.lo y hy; omega)]; omega
theorem mB_bound {c : Int} {l : List Int} (ok : OkLp c l) {y : Int} (hy : -30000 ≤ y ∧ y ≤ 30000) : (-30001 ≤ (y - 1) / c ∧ (y - 1) / c ≤ 30001) ∧ (0 ≤ (y - 1) % c ∧ (y - 1) % c < c) ∧ (-3000100 ≤ (y - 1) / c * l.length ∧ (y - 1) / c * l.length ≤ 3000100) ∧ (0 ≤ cntLe l ((y - 1) % c) ∧ cntLe l ((y - 1) % c) ≤ 100) ∧ (-3400000 ≤ mB c l y ∧ mB c l y ≤ 3400000) := by
  have hc := ok.cy; have hll := ok.llen
  have q1 : -30001 ≤ (y - 1) / c := by rw [Int.le_ediv_iff_mul_le (by omega)]; omega
  have q2 : (y - 1) / c ≤ 30001 := by
    have : (y - 1) / c < 30002 := by rw [Int.ediv_lt_iff_lt_mul (by omega)]; omega
    omega
  have r1 := Int.emod_nonneg (y - 1) (b := c) (by omega)
  have r2 := Int.emod_lt_of_pos (y - 1) (b := c) (by omega)
  have n1 := cnt_nonneg l ((y - 1) % c)
  have n2 := cnt_le_len l ((y - 1) % c)
  have p1 : -30001 * (l.length : Int) ≤ (y - 1) / c * l.length := Int.mul_le_mul_of_nonneg_right q1 (by omega)
  have p2 : (y - 1) / c * l.length ≤ 30001 * l.length := Int.mul_le_mul_of_nonneg_right q2 (by omega)
  refine ⟨⟨q1, q2⟩, ⟨r1, r2⟩, by omega, by omega, ?_⟩
  unfold mB; omega
/-- The same, as the reference asks it. -/
theorem leap_dvd {c : Int} {l : List Int} (ok : OkLp c l) (y : Int) : isLeapM c l y = true ↔ ∃ z ∈ l, (y - z) % c = 0 := by
  have hc := ok.cy
  unfold isLeapM
  rw [decide_eq_true_eq]
  have hdm := Int.mul_ediv_add_emod (y - 1) c
  have r1 := Int.emod_nonneg (y - 1) (b := c) (by omega)
  have r2 := Int.emod_lt_of_pos (y - 1) (b := c) (by omega)
  constructor
  · intro h
    refine ⟨_, h, ?_⟩
    rw [show y - ((y - 1) % c + 1) = c * ((y - 1) / c) from by omega]
    exact Int.mul_emod_right ..
  · rintro ⟨z, hz, h0⟩
    have z1 := ok.lo z hz; have z2 := ok.hi z hz
    have hzz := Int.mul_ediv_add_emod (y - z) c
    rw [h0, Int.add_zero] at hzz
    obtain ⟨_, e2⟩ := ed_uniq (a := y - 1) (b := c) (q := (y - z) / c) (r := z - 1) (by omega) (by omega) (by omega) (by omega)
    rw [e2, show z - 1 + 1 = z from by omega]; exact hz
/-- At most three weekdays are avoided: within three days there is one that is not. -/
theorem skip_ex (av : List Int) (h : av.length ≤ 3) (d : Int) : ∃ j : Nat, j ≤ 3 ∧ (d + j - 1) % 7 ∉ av ∧ ∀ i : Nat, i < j → (d + i - 1) % 7 ∈ av := by
  have hn : (d - 1) % 7 ∉ av ∨ d % 7 ∉ av ∨ (d + 1) % 7 ∉ av ∨ (d + 2) % 7 ∉ av := by
    rcases av with _ | ⟨a, _ | ⟨b, _ | ⟨c, _ | ⟨e, t⟩⟩⟩⟩
    · left; simp
    · simp only [List.mem_cons, List.not_mem_nil, or_false]; omega
    · simp only [List.mem_cons, List.not_mem_nil, or_false]; omega
    · simp only [List.mem_cons, List.not_mem_nil, or_false]; omega
    · simp only [List.length_cons] at h; omega
  by_cases c0 : (d - 1) % 7 ∈ av
  rotate_left
  · exact ⟨0, by omega, by simpa using c0, fun i hi => by omega⟩
  by_cases c1 : d % 7 ∈ av
  rotate_left
  · exact ⟨1, by omega, by rw [show d + ((1 : Nat) : Int) - 1 = d from by omega]; exact c1, fun i hi => by rw [show d + (i : Int) - 1 = d - 1 from by omega]; exact c0⟩
  by_cases c2 : (d + 1) % 7 ∈ av
  rotate_left
  · refine ⟨2, by omega, by rw [show d + ((2 : Nat) : Int) - 1 = d + 1 from by omega]; exact c2, fun i hi => ?_⟩
    by_cases hi0 : i = 0
    · subst hi0; simpa using c0
    · rw [show d + (i : Int) - 1 = d from by omega]; exact c1
  refine ⟨3, by omega, ?_, fun i hi => ?_⟩
  · rw [show d + ((3 : Nat) : Int) - 1 = d + 2 from by omega]
    rcases hn with h | h | h | h
    · exact absurd c0 h
    · exact absurd c1 h
    · exact absurd c2 h
    · exact h
  · by_cases hi0 : i = 0
    · subst hi0; simpa using c0
    · by_cases hi1 : i = 1
      · subst hi1; rw [show d + ((1 : Nat) : Int) - 1 = d from by omega]; exact c1
      · rw [show d + (i : Int) - 1 = d + 1 from by omega]; exact c2
/-- The first day from d on whose weekday is not avoided. -/
def skipD (av : List Int) : Nat → Int → Int
  | 0, d => d
  | f + 1, d => if (d - 1) % 7 ∈ av then skipD av f (d + 1) else d
theorem skipD_at (av : List Int) : ∀ (j f : Nat) (d : Int), j < f → (d + j - 1) % 7 ∉ av → (∀ i : Nat, i < j → (d + i - 1) % 7 ∈ av) → skipD av f d = d + j
  | 0, 0, d, h, _, _ => by omega
  | 0, f + 1, d, _, h, _ => by rw [skipD, if_neg (by simpa using h)]; omega
  | j + 1, 0, d, h, _, _ => by omega
  | j + 1, f + 1, d, hj, h, hi => by
    rw [skipD, if_pos (by have := hi 0 (by omega); simpa using this), skipD_at av j f (d + 1) (by omega) (by rw [show d + 1 + (j : Int) - 1 = d + ((j + 1 : Nat) : Int) - 1 from by omega]; exact h)
      (fun i hij => by rw [show d + 1 + (i : Int) - 1 = d + ((i + 1 : Nat) : Int) - 1 from by omega]; exact hi (i + 1) (by omega))]
    omega
theorem skipD_bound (av : List Int) (h : av.length ≤ 3) (d : Int) : d ≤ skipD av 7 d ∧ skipD av 7 d ≤ d + 3 := by
  obtain ⟨j, h1, h2, h3⟩ := skip_ex av h d
  rw [skipD_at av j 7 d (by omega) h2 h3]; omega
/-- The day on which month number k (from the first one on) begins, before it is put off. -/
def mDay (n ep sn sd mn' md ln ld k : Int) : Int := ep + (sn * (n / sd) + k * (mn' * (n / md)) + n - ln * (n / ld)) / n
def mStart (n ep sn sd mn' md ln ld c : Int) (l av : List Int) (y m : Int) : Int :=
  if m = 1 then skipD av 7 (mDay n ep sn sd mn' md ln ld (mB c l y + m - 1)) else mDay n ep sn sd mn' md ln ld (mB c l y + m - 1)
/-- What is known of a valid rule's fractions. -/
structure OkFr (n ep sn sd mn' md ln ld : Int) : Prop where
  hep : -4000000 ≤ ep ∧ ep ≤ 4000000
  hn : 1 ≤ n ∧ n ≤ 1000000
  hsd : (1 ≤ sd ∧ sd ≤ n) ∧ sd ∣ n
  hmd : (1 ≤ md ∧ md ≤ n) ∧ md ∣ n
  hld : (1 ≤ ld ∧ ld ≤ n) ∧ ld ∣ n
  hsn : 0 ≤ sn ∧ sn < sd
  hmn : 29 * md ≤ mn' ∧ mn' ≤ 30 * md
  hln : 1 ≤ ln ∧ ln ≤ ld
theorem quo_dvd {n d : Int} (hd : 1 ≤ d) (h : d ∣ n) : n / d * d = n := Int.ediv_mul_cancel h
theorem OkFr.facts {n ep sn sd mn' md ln ld : Int} (ok : OkFr n ep sn sd mn' md ln ld) : (1 ≤ n / sd ∧ n / sd ≤ n) ∧ (1 ≤ n / md ∧ n / md ≤ n) ∧ (1 ≤ n / ld ∧ n / ld ≤ n) ∧ (0 ≤ sn * (n / sd) ∧ sn * (n / sd) < n) ∧ (29 * n ≤ mn' * (n / md) ∧ mn' * (n / md) ≤ 30 * n) ∧ (1 ≤ ln * (n / ld) ∧ ln * (n / ld) ≤ n) := by
  have h1 := ok.hn; have h2 := ok.hsd; have h3 := ok.hmd; have h4 := ok.hld; have h5 := ok.hsn; have h6 := ok.hmn; have h7 := ok.hln
  have q : ∀ d, 1 ≤ d → d ∣ n → d ≤ n → 1 ≤ n / d ∧ n / d ≤ n ∧ n / d * d = n := by
    intro d a b c
    have e := quo_dvd a b
    have p : 1 ≤ n / d := by rw [Int.le_ediv_iff_mul_le (by omega)]; omega
    have := Int.ediv_le_self (a := n) d (by omega)
    exact ⟨p, this, e⟩
  obtain ⟨a1, a2, a3⟩ := q sd h2.1.1 h2.2 h2.1.2
  obtain ⟨b1, b2, b3⟩ := q md h3.1.1 h3.2 h3.1.2
  obtain ⟨c1, c2, c3⟩ := q ld h4.1.1 h4.2 h4.1.2
  have p0 := Int.mul_nonneg h5.1 (show 0 ≤ n / sd by omega)
  have p1 : (sn + 1) * (n / sd) ≤ sd * (n / sd) := Int.mul_le_mul_of_nonneg_right (by omega) (by omega)
  rw [Int.add_mul, Int.one_mul, Int.mul_comm sd, a3] at p1
  have p2 : 29 * md * (n / md) ≤ mn' * (n / md) := Int.mul_le_mul_of_nonneg_right h6.1 (by omega)
  have p3 : mn' * (n / md) ≤ 30 * md * (n / md) := Int.mul_le_mul_of_nonneg_right h6.2 (by omega)
  rw [Int.mul_assoc, Int.mul_comm md, b3] at p2
  rw [Int.mul_assoc 30, Int.mul_comm md, b3] at p3
  have p4 : 1 * (n / ld) ≤ ln * (n / ld) := Int.mul_le_mul_of_nonneg_right h7.1 (by omega)
  have p5 : ln * (n / ld) ≤ ld * (n / ld) := Int.mul_le_mul_of_nonneg_right h7.2 (by omega)
  rw [Int.mul_comm ld, c3] at p5
  exact ⟨⟨a1, a2⟩, ⟨b1, b2⟩, ⟨c1, c2⟩, ⟨p0, by omega⟩, ⟨p2, p3⟩, ⟨by omega, p5⟩⟩
theorem mDay_bound {n ep sn sd mn' md ln ld : Int} (ok : OkFr n ep sn sd mn' md ln ld) {k : Int} (hk : -4000000 ≤ k ∧ k ≤ 4000000) :
    (-120000000000000 ≤ k * (mn' * (n / md)) ∧ k * (mn' * (n / md)) ≤ 120000000000000) ∧ (-130000000 ≤ mDay n ep sn sd mn' md ln ld k ∧ mDay n ep sn sd mn' md ln ld k ≤ 130000000) := by
  have h1 := ok.hn; have he := ok.hep
  obtain ⟨f1, f2, f3, f4, f5, f6⟩ := ok.facts
  unfold mDay
  generalize mn' * (n / md) = M at *
  generalize sn * (n / sd) = S at *
  generalize ln * (n / ld) = L at *
  have hkM : -4000000 * M ≤ k * M ∧ k * M ≤ 4000000 * M := ⟨Int.mul_le_mul_of_nonneg_right hk.1 (by omega), Int.mul_le_mul_of_nonneg_right hk.2 (by omega)⟩
  have q1 : -120000001 ≤ (S + k * M + n - L) / n := by rw [Int.le_ediv_iff_mul_le (by omega)]; omega
  have q2 : (S + k * M + n - L) / n < 120000003 := by rw [Int.ediv_lt_iff_lt_mul (by omega)]; omega
  omega
end Go.Proofs.Ytlfammlboncmeaa.N
