/- The law ZonetextPrints over numbers and lists: what the law's functions tell, and that the law holds. -/
import Derived.Test.YtmiieommlhbbdaaDoorPZonetextPrintsx5
import Derived.Test.YtmiieommlhbbdaaDoorM
import Derived.Test.YtmiieommlhbbdaaDoorT
import Derived.Test.YtmiieommlhbbdaaDoorZ
import Derived.Test.YtmiieommlhbbdaaDoorO
import Derived.Lib.ItoaLen
namespace Go.Proofs.YtmiieommlhbbdaaDoor.Pure
open Go.RowKit Go.Proofs.YtmiieommlhbbdaaDoor.PZonetextPrints Go.Proofs.YtmiieommlhbbdaaDoorW.PrintWords Go.Proofs.YtmiieommlhbbdaaDoorW.PrintLast Go.Proofs.YtmiieommlhbbdaaDoor.M Go.Proofs.YtmiieommlhbbdaaDoor.T Go.Proofs.YtmiieommlhbbdaaDoor.Z Go.Proofs.YtmiieommlhbbdaaDoor.O
set_option linter.unusedVariables false
set_option linter.unusedSimpArgs false
/-- The law over numbers and lists. -/
def ephemerislaw1_ZonetextPrints.Pure : Prop := ∀ (a0_0 : ByteArray) (a0_1 : Int) (l0_2 : List (S50)), a0_0.size ≤ 140737488351232 → (Lit.int .i64 a0_1).wf = true → (l0_2.length * 32 ≤ 140737488351232 ∧ l0_2.length ≤ 9223372036854775807 ∧ ∀ v ∈ l0_2, ((Lit.int .i64 v.f0).wf = true ∧ (Lit.int .i64 v.f1).wf = true ∧ v.f2.size ≤ 140737488351232)) → ∃ k, ephemerislaw1_ZonetextPrints.f k a0_0 a0_1 l0_2 = some true

theorem whole_Div_f {a b : Int} (k : Nat) (hk : 1 ≤ k) (ha : -9223372036854775808 ≤ a) (ha1 : a ≤ 9223372036854775807) (hb : -9223372036854775808 ≤ b) (hb1 : b ≤ 9223372036854775807) : whole_Div.f k a b = some (divs a b) := by
  obtain ⟨k, rfl⟩ : ∃ m, k = m + 1 := ⟨k - 1, by omega⟩
  unfold whole_Div.f divs
  by_cases c : b = 0
  · rw [if_pos c, if_pos c]
  rw [if_neg c, if_neg c]
  by_cases d : a = -9223372036854775808 ∧ b = -1
  · rw [if_pos d.1, if_pos d, d.2]; simp [whole_Div.j0]
  have e : (if a = (-9223372036854775808) then (whole_Div.j0 (k + 1) a b (b == (-1))) else (whole_Div.j0 (k + 1) a b false)) = whole_Div.j0 (k + 1) a b false := by
    by_cases c1 : a = -9223372036854775808
    · rw [if_pos c1, show (b == -1) = false from beq_eq_false_iff_ne.2 (fun h => d ⟨c1, h⟩)]
    · rw [if_neg c1]
  rw [e, if_neg d]
  simp only [whole_Div.j0, Bool.false_eq_true, if_false]
  rw [if_neg c]
  obtain ⟨b1, b2⟩ := tdiv_bound a b c ha ha1 d
  obtain ⟨g1, g2, g3⟩ := fd_of_t a b c
  obtain ⟨t0, t1, t2, t3, t4⟩ := tdm a b c
  rw [w64_id b1 b2]
  by_cases hz : Int.tmod a b = 0
  · rw [if_pos hz, (g1 hz).1, (g1 hz).2, hz]
  · rw [if_neg hz]
    cases hs : (decide (Int.tmod a b < 0) != decide (b < 0)) with
    | true =>
      have hq : fd a b = Int.tdiv a b - 1 := (g2 hz hs).1
      have hfs := fd_spec a b c
      have hlow : -9223372036854775808 ≤ Int.tdiv a b - 1 := by
        by_cases hm : Int.tdiv a b = -9223372036854775808
        · exfalso
          have h9 : (Int.tdiv a b).natAbs = a.natAbs / b.natAbs := Int.natAbs_tdiv a b
          rw [hm] at h9
          have h10 : a.natAbs / b.natAbs ≤ a.natAbs := Nat.div_le_self _ _
          by_cases hb2 : b.natAbs = 1
          · have : b = 1 ∨ b = -1 := by omega
            rcases this with rfl | rfl
            · exact hz (by rw [Int.tmod_one])
            · exact hz (by rw [Int.tmod_neg, Int.tmod_one])
          · have : a.natAbs / b.natAbs ≤ a.natAbs / 2 := Nat.div_le_div_left (by omega) (by omega)
            omega
        · omega
      have hss : (Int.tmod a b < 0 ∧ 0 < b) ∨ (0 < Int.tmod a b ∧ b < 0) := by
        by_cases hx : Int.tmod a b < 0 <;> by_cases hy : b < 0 <;> simp [hx, hy] at hs
        · exact .inl ⟨hx, by omega⟩
        · exact .inr ⟨by omega, hy⟩
      simp only [if_true]
      rw [(g2 hz hs).1, (g2 hz hs).2, w64_id hlow (by omega), w64_id (n := Int.tmod a b + b) (by omega) (by omega)]
    | false =>
      simp only [Bool.false_eq_true, if_false]
      rw [(g3 hz hs).1, (g3 hz hs).2]

theorem line_Check_f (x : Int) : line_Check.f x = some (if -4000000 ≤ x ∧ x ≤ 4000000 then 0 else 3) := by
  unfold line_Check.f
  by_cases h : x < -4000000
  · rw [if_pos h, if_neg (by omega)]
  · rw [if_neg h]
    by_cases h2 : x > 4000000
    · rw [if_pos h2, if_neg (by omega)]
    · rw [if_neg h2, if_pos (by omega)]

theorem line_Split_f {t : Int} (k : Nat) (hk : 1 ≤ k) (h0 : -9223372036854775808 ≤ t) (h1 : t ≤ 9223372036854775807) : line_Split.f k t = some (if -4000000 ≤ t / 86400000 ∧ t / 86400000 ≤ 4000000 then (t / 86400000, t % 86400000, 0) else (0, 0, 3)) := by
  unfold line_Split.f
  rw [whole_Div_f k hk h0 h1 (by omega) (by omega), divs_pos (by omega)]
  simp only [Option.bind_some]
  rw [line_Check_f]
  simp only [Option.bind_some]
  by_cases h : -4000000 ≤ t / 86400000 ∧ t / 86400000 ≤ 4000000
  · rw [if_pos h, if_pos h, if_pos rfl]
  · rw [if_neg h, if_neg h, if_neg (by omega)]

theorem rule_Name_f (s : ByteArray) : rule_Name.f s = some (isName s) := by
  have e : rule_Name.all s.data.toList = letters s.data.toList := rfl
  unfold rule_Name.f isName noWord
  rw [e]
  congr 1
  by_cases h1 : (s.size : Int) < 1
  · rw [if_pos h1, decide_eq_false (show ¬ 1 ≤ s.size by omega)]; rfl
  rw [if_neg h1, decide_eq_true (show 1 ≤ s.size by omega)]
  by_cases h2 : (s.size : Int) > 12
  · rw [if_pos h2, decide_eq_false (show ¬ s.size ≤ 12 by omega)]; rfl
  rw [if_neg h2, decide_eq_true (show s.size ≤ 12 by omega)]
  by_cases c1 : s.toList = [121]
  · rw [if_pos c1]; simp [c1]
  rw [if_neg c1, bne_iff_ne.2 c1]
  by_cases c2 : s.toList = [97, 110, 100]
  · rw [if_pos c2]; simp [c2]
  rw [if_neg c2, bne_iff_ne.2 c2]
  by_cases c3 : s.toList = [111, 114]
  · rw [if_pos c3]; simp [c3]
  rw [if_neg c3, bne_iff_ne.2 c3]
  by_cases c4 : s.toList = [110, 111, 116]
  · rw [if_pos c4]; simp [c4]
  rw [if_neg c4, bne_iff_ne.2 c4]
  rfl

theorem zone_IsOffset_f (x : Int) : zone_IsOffset.f x = some (okOff x) := by
  unfold zone_IsOffset.f okOff
  rw [tmod_thousand]
  by_cases h1 : x ≥ (-64800000)
  · rw [if_pos h1]
    by_cases h2 : x ≤ 64800000
    · rw [if_pos h2]; congr 1
      by_cases c : x % 1000 = 0
      · rw [decide_eq_true c, decide_eq_true ⟨by omega, h2, c⟩]
      · rw [decide_eq_false c, decide_eq_false (fun h => c h.2.2)]
    · rw [if_neg h2, decide_eq_false (fun h => h2 h.2.1)]
  · rw [if_neg h1, decide_eq_false (fun h => h1 (by omega))]

theorem zone_IsLabel_f (s : ByteArray) : zone_IsLabel.f s = some (isLabel s) := by
  have e : zone_IsLabel.all s.data.toList = caps s.data.toList := rfl
  unfold zone_IsLabel.f isLabel
  rw [e]
  congr 1
  by_cases h1 : (s.size : Int) < 1
  · rw [if_pos h1, decide_eq_false (show ¬ (1 ≤ s.size ∧ s.size ≤ 6) by omega)]; rfl
  rw [if_neg h1]
  by_cases h2 : (s.size : Int) > 6
  · rw [if_pos h2, decide_eq_false (show ¬ (1 ≤ s.size ∧ s.size ≤ 6) by omega)]; rfl
  rw [if_neg h2, decide_eq_true (show 1 ≤ s.size ∧ s.size ≤ 6 by omega)]
  rfl

/-- A change whose instant or offset is out of range. -/
def znBad (c : S50) : Bool := !(decide (-4000000 ≤ c.f0 / 86400000 ∧ c.f0 / 86400000 ≤ 4000000) && okOff c.f1)
/-- The first fault of the changes from the i-th on (d of them). -/
def znErr (l : List S50) : Nat → Nat → Int
  | 0, _ => 0
  | d + 1, i => if znBad (l.getD i z50) = true then 3 else if isLabel (l.getD i z50).f2 = true then (if 0 < i ∧ (l.getD i z50).f0 ≤ (l.getD (i - 1) z50).f0 then 9 else znErr l d (i + 1)) else 8
/-- What both checks of a zone tell. -/
def znAll (s : ByteArray) (o : Int) (l : List S50) : Int := if isName s = true then (if okOff o = true then (if l.length ≤ 200 then znErr l l.length 0 else 2) else 3) else 5
/-- The instants are numbers that an int holds. -/
def znWf (l : List S50) : Prop := ∀ c ∈ l, -9223372036854775808 ≤ c.f0 ∧ c.f0 ≤ 9223372036854775807
theorem znWf_get {l : List S50} (h : znWf l) {i : Nat} (hi : i < l.length) : -9223372036854775808 ≤ (l.getD i z50).f0 ∧ (l.getD i z50).f0 ≤ 9223372036854775807 := by
  rw [List.getD_eq_getElem?_getD, List.getElem?_eq_getElem hi]
  exact h _ (List.getElem_mem hi)
theorem zn_split (b x : Bool) {α : Type} (u : α) (e : Int) (y : Int) (v : Option Int) (p : Prop) [Decidable p] (h : v = some y) :
    (if b = true then some (3 : Int) else if x = true then (if p then some 9 else v) else some 8) = some (if b = true then 3 else if x = true then (if p then 9 else y) else 8) := by
  subst h
  split
  · rfl
  · split
    · split
      · rfl
      · rfl
    · rfl

theorem zone_Check_j1 (l : List S50) (s : ByteArray) (o : Int) (hl : l.length ≤ 200) (i : Nat) (hi : i < l.length) (k : Nat) (t : Bool) (y : Int) (hy : zone_Check.l0 k l (l.length : Int) ((i + 1 : Nat) : Int) s o l = some y) :
    zone_Check.j1 (k + 1) (i : Int) l (l.length : Int) (i : Int) t s o l (l.getD i z50).f0 (l.getD i z50).f1 (l.getD i z50).f2
      = some (if t = true then 3 else if isLabel (l.getD i z50).f2 = true then (if 0 < i ∧ (l.getD i z50).f0 ≤ (l.getD (i - 1) z50).f0 then 9 else y) else 8) := by
  simp only [zone_Check.j1]
  by_cases h : t = true
  · rw [if_pos h, if_pos h]
  rw [if_neg h, if_neg h, zone_IsLabel_f, Option.bind_some]
  by_cases h2 : isLabel (l.getD i z50).f2 = true
  · rw [if_pos h2, if_pos h2, w64_id (n := (i : Int) + 1) (by omega) (by omega), show ((i : Int) + 1) = ((i + 1 : Nat) : Int) from by omega, hy]
    by_cases h3 : 0 < i
    · rw [if_pos (by omega), w64_id (n := (i : Int) - 1) (by omega) (by omega), if_pos (by omega), if_pos (by omega)]
      rw [show rd_T50 l ((i : Int) - 1) = l.getD (i - 1) z50 from by unfold rd_T50; rw [show ((i : Int) - 1).toNat = i - 1 by omega]]
      by_cases h4 : (l.getD i z50).f0 ≤ (l.getD (i - 1) z50).f0
      · rw [if_pos h4, if_pos ⟨h3, h4⟩]
      · rw [if_neg h4, if_neg (fun g => h4 g.2)]
    · rw [if_neg (by omega), if_neg (fun g => h3 g.1)]
  · rw [if_neg h2, if_neg h2]
theorem zone_Check_l0 (l : List S50) (s : ByteArray) (o : Int) (hl : l.length ≤ 200) (hw : znWf l) : ∀ (d i k : Nat), i + d = l.length → 2 * d + 5 < k → zone_Check.l0 k l (l.length : Int) (i : Int) s o l = some (znErr l d i) := by
  intro d
  induction d with
  | zero =>
    intro i k hi hk
    obtain ⟨k, rfl⟩ : ∃ m, k = m + 1 := ⟨k - 1, by omega⟩
    simp only [zone_Check.l0]
    rw [if_neg (by omega)]; rfl
  | succ d ih =>
    intro i k hi hk
    obtain ⟨k, rfl⟩ : ∃ m, k = m + 2 := ⟨k - 2, by omega⟩
    rw [show k + 2 = (k + 1) + 1 from rfl]
    simp only [zone_Check.l0]
    rw [if_pos (by omega), if_pos (by omega), if_pos (by omega), show rd_T50 l (i : Int) = l.getD i z50 from rfl]
    have hg := znWf_get hw (i := i) (by omega)
    have hj := fun t => zone_Check_j1 l s o hl i (by omega) k t _ (ih (i + 1) k (by omega) (by omega))
    unfold znErr
    rw [line_Split_f (k + 1) (by omega) hg.1 hg.2, Option.bind_some]
    by_cases c : -4000000 ≤ (l.getD i z50).f0 / 86400000 ∧ (l.getD i z50).f0 / 86400000 ≤ 4000000
    · rw [if_pos c, if_pos rfl, zone_IsOffset_f, Option.bind_some, hj]
      rw [show (!(okOff (l.getD i z50).f1)) = znBad (l.getD i z50) from by unfold znBad; rw [decide_eq_true c, Bool.true_and]]
    · rw [if_neg c, if_neg (by decide), hj]
      rw [show true = znBad (l.getD i z50) from by unfold znBad; rw [decide_eq_false c]; rfl]
theorem zone_Check_f (s : ByteArray) (o : Int) (l : List S50) (hw : znWf l) (k : Nat) (hk : 600 ≤ k) : zone_Check.f k s o l = some (znAll s o l) := by
  unfold zone_Check.f znAll
  rw [rule_Name_f, Option.bind_some]
  by_cases h1 : isName s = true
  · rw [if_pos h1, if_pos h1, zone_IsOffset_f, Option.bind_some]
    by_cases h2 : okOff o = true
    · rw [if_pos h2, if_pos h2]
      by_cases h3 : l.length ≤ 200
      · rw [if_neg (by omega), if_pos h3]
        exact zone_Check_l0 l s o h3 hw l.length 0 k (by omega) (by omega)
      · rw [if_pos (by omega), if_neg h3]
    · rw [if_neg h2, if_neg h2]
  · rw [if_neg h1, if_neg h1]

theorem ephemerisref1_Name_l0 (s : ByteArray) (hs : s.size ≤ 12) : ∀ (d i k : Nat), i + d = s.size → d < k →
    ephemerisref1_Name.l0 k s (s.size : Int) (i : Int) = some (noWord s && letters (s.data.toList.drop i)) := by
  intro d
  induction d with
  | zero =>
    intro i k hi hk
    obtain ⟨k, rfl⟩ : ∃ m, k = m + 1 := ⟨k - 1, by omega⟩
    obtain rfl : i = s.size := by omega
    simp only [ephemerisref1_Name.l0]
    rw [if_neg (by omega), letters_end, Bool.and_true]
    unfold noWord
    by_cases c1 : s.toList = [121]
    · rw [if_pos c1]; simp [c1]
    rw [if_neg c1, bne_iff_ne.2 c1]
    by_cases c2 : s.toList = [97, 110, 100]
    · rw [if_pos c2]; simp [c2]
    rw [if_neg c2, bne_iff_ne.2 c2]
    by_cases c3 : s.toList = [111, 114]
    · rw [if_pos c3]; simp [c3]
    rw [if_neg c3, bne_iff_ne.2 c3]
    rfl
  | succ d ih =>
    intro i k hi hk
    obtain ⟨k, rfl⟩ : ∃ m, k = m + 1 := ⟨k - 1, by omega⟩
    simp only [ephemerisref1_Name.l0]
    rw [if_pos (by omega), if_pos (by omega), if_pos (by omega), letters_cons s i (by omega)]
    by_cases c1 : bt s i < 97
    · rw [if_pos c1, decide_eq_false (show ¬ 97 ≤ bt s i by omega)]; simp
    rw [if_neg c1, decide_eq_true (show 97 ≤ bt s i by omega)]
    by_cases c2 : bt s i > 122
    · rw [if_pos c2, decide_eq_false (show ¬ bt s i ≤ 122 by omega)]; simp
    rw [if_neg c2, decide_eq_true (show bt s i ≤ 122 by omega), w64_id (by omega) (by omega)]
    have := ih (i + 1) k (by omega) (by omega)
    rw [show ((i + 1 : Nat) : Int) = (i : Int) + 1 from by omega] at this
    rw [this]; simp
theorem ephemerisref1_Name_f (s : ByteArray) (k : Nat) (hk : 20 ≤ k) : ephemerisref1_Name.f k s = some (isName s) := by
  obtain ⟨k, rfl⟩ : ∃ m, k = m + 1 := ⟨k - 1, by omega⟩
  unfold ephemerisref1_Name.f isName
  by_cases h1 : s.toList = []
  · rw [if_pos h1, decide_eq_false (show ¬ 1 ≤ s.size by have := (toList_nil s).1 h1; omega)]
    simp [ephemerisref1_Name.j0]
  have h1' : ¬ s.size = 0 := fun h => h1 ((toList_nil s).2 h)
  rw [if_neg h1, decide_eq_true (show 1 ≤ s.size by omega)]
  simp only [ephemerisref1_Name.j0, decide_eq_true_eq]
  by_cases h2 : (s.size : Int) > 12
  · rw [if_pos h2, decide_eq_false (show ¬ s.size ≤ 12 by omega)]; rfl
  rw [if_neg h2, decide_eq_true (show s.size ≤ 12 by omega)]
  exact ephemerisref1_Name_l0 s (by omega) s.size 0 k (by omega) (by omega)

theorem ephemerisref1_In_f (x lo hi : Int) : ephemerisref1_In.f x lo hi = some (decide (lo ≤ x ∧ x ≤ hi)) := by
  unfold ephemerisref1_In.f
  by_cases h : x ≥ lo
  · rw [if_pos h]; congr 1; simp; omega
  · rw [if_neg h]; congr 1; simp; omega

theorem ephemerisref1_Size_f {a : Int} (h0 : -9223372036854775808 ≤ a) (h1 : a ≤ 9223372036854775807) : ephemerisref1_Size.f a = some (ab a) := by
  unfold ephemerisref1_Size.f ab
  by_cases c : a < 0
  · rw [if_pos c, if_pos c, w64_id (n := a + 1) (by omega) (by omega), w64_id (n := -(a + 1)) (by omega) (by omega), u64_id (n := -(a + 1)) (by omega) (by omega), u64_id (by omega) (by omega)]
    congr 1; omega
  · rw [if_neg c, if_neg c, u64_id (by omega) (by omega)]

theorem ephemerisref1_Div_l0 (X Y : Int) (hX : 0 ≤ X) (hX1 : X < 18446744073709551616) (hY : 0 < Y) (hY1 : Y ≤ 9223372036854775808) :
    ∀ (n k : Nat), n ≤ 64 → n < k → ephemerisref1_Div.l0 k X Y (X / 2 ^ n / Y * 2 ^ n) (X / 2 ^ n % Y) ((n : Int) - 1) = some (X / Y, X % Y) := by
  intro n
  induction n with
  | zero =>
    intro k _ hk
    obtain ⟨k, rfl⟩ : ∃ m, k = m + 1 := ⟨k - 1, by omega⟩
    simp only [ephemerisref1_Div.l0]
    rw [if_neg (by omega)]
    simp
  | succ n ih =>
    intro k hn hk
    obtain ⟨k, rfl⟩ : ∃ m, k = m + 1 := ⟨k - 1, by omega⟩
    have ih := ih k (by omega) (by omega)
    have hhp := half_pow X n
    have hpow : (2 : Int) ^ (n + 1) = 2 * 2 ^ n := by rw [Int.pow_succ, Int.mul_comm]
    have hpp := pow_pos' n
    have hp63 := pow_le_63 n (by omega)
    have hd1 := div_pow_le X Y (n + 1) hX hY
    have hd0 := div_pow_le X Y n hX hY
    have hz : 0 ≤ X / 2 ^ n := Int.ediv_nonneg hX (by omega)
    obtain ⟨s1, s2⟩ := long_step (X / 2 ^ n) Y hz hY
    rw [← hhp] at s1 s2
    have r0 := Int.emod_nonneg (X / 2 ^ (n + 1)) (b := Y) (by omega)
    have r1 := Int.emod_lt_of_pos (X / 2 ^ (n + 1)) hY
    have hshr : shr .u64 X ((n : Int) + 1 - 1) = X / 2 ^ n := by
      rw [show (n : Int) + 1 - 1 = n from by omega]; exact shr_pow X n (by omega)
    have hshl : shl .u64 1 ((n : Int) + 1 - 1) = 2 ^ n := by
      rw [show (n : Int) + 1 - 1 = n from by omega]; exact shl_one n (by omega)
    have hzx : X / 2 ^ n ≤ X := Int.ediv_le_self _ hX
    have hmod : (X / 2 ^ (n + 1) / Y * 2 ^ (n + 1)) % 2 ^ (n + 1) = 0 := Int.mul_emod_left _ _
    have hor : Go.bits .or .u64 (X / 2 ^ (n + 1) / Y * 2 ^ (n + 1)) (2 ^ n) = X / 2 ^ (n + 1) / Y * 2 ^ (n + 1) + 2 ^ n :=
      or_join (n + 1) _ _ hd1.1 (by omega) hmod (by omega) (by omega) (by omega)
    have q2 : X / 2 ^ (n + 1) / Y * 2 ^ (n + 1) = 2 * (X / 2 ^ (n + 1) / Y) * 2 ^ n := by
      rw [hpow, Int.mul_comm 2 (X / (2 * 2 ^ n) / Y), Int.mul_assoc]
    generalize hR : X / 2 ^ (n + 1) % Y = R at *
    generalize hQ : X / 2 ^ (n + 1) / Y * 2 ^ (n + 1) = Q at *
    simp only [ephemerisref1_Div.l0]
    rw [show (((n + 1 : Nat) : Int) - 1) = (n : Int) + 1 - 1 from by omega]
    rw [if_pos (by omega), hshr, hshl, hor, w64_id (n := (n : Int) + 1 - 1 - 1) (by omega) (by omega), show (n : Int) + 1 - 1 - 1 = (n : Int) - 1 from by omega]
    rw [Go.Proofs.YtmiieommlhbbdaaDoor.M.and_one _ hz (by omega), u64_id (n := R * 2) (by omega) (by omega)]
    have hbit := Int.emod_nonneg (X / 2 ^ n) (b := 2) (by omega)
    have hbit1 := Int.emod_lt_of_pos (X / 2 ^ n) (b := 2) (by omega)
    rw [or_join 1 (R * 2) _ (by omega) (by omega) (by simp only [Int.reducePow]; omega) hbit (by simp only [Int.reducePow]; omega) (by omega)]
    rw [if_neg (by omega)]
    rw [show R * 2 + X / 2 ^ n % 2 = 2 * R + X / 2 ^ n % 2 from by omega]
    by_cases c : Y ≤ 2 * R + X / 2 ^ n % 2
    · rw [if_pos c, u64_id (by omega) (by omega)]
      have e := s1 c
      rw [e.1, e.2, Int.add_mul, Int.one_mul, ← q2] at ih
      exact ih
    · rw [if_neg c]
      have e := s2 c
      rw [e.1, e.2, ← q2] at ih
      exact ih
theorem ephemerisref1_Div_f {a b : Int} (k : Nat) (hk : 65 ≤ k) (ha : -9223372036854775808 ≤ a) (ha1 : a ≤ 9223372036854775807) (hb : -9223372036854775808 ≤ b) (hb1 : b ≤ 9223372036854775807) : ephemerisref1_Div.f k a b = some (divs a b) := by
  unfold ephemerisref1_Div.f
  by_cases c : b = 0
  · rw [if_pos c]; unfold divs; rw [if_pos c]
  rw [if_neg c, ephemerisref1_Size_f ha ha1, ephemerisref1_Size_f hb hb1]
  simp only [Option.bind_some]
  have hX := ab_nonneg a
  have hX1 := ab_le ha ha1
  have hY1 := ab_le hb hb1
  have hY : 0 < ab b := by unfold ab; split <;> omega
  have h64 := ephemerisref1_Div_l0 (ab a) (ab b) hX (by omega) hY hY1 64 k (by omega) (by omega)
  have hz : ab a / 2 ^ 64 = 0 := Int.ediv_eq_zero_of_lt hX (by simp only [Int.reducePow]; omega)
  rw [hz] at h64
  simp only [Int.zero_ediv, Int.zero_mul, Int.zero_emod] at h64
  rw [show (((64 : Nat) : Int) - 1) = 63 from by omega] at h64
  rw [h64]
  simp only [Option.bind_some, Option.some.injEq]
  have h1 := Int.mul_ediv_add_emod (ab a) (ab b)
  have h2 := Int.emod_nonneg (ab a) (b := ab b) (by omega)
  have h3 := Int.emod_lt_of_pos (ab a) hY
  have h4 : ab a / ab b ≤ ab a := Int.ediv_le_self _ hX
  have h5 : 0 ≤ ab a / ab b := Int.ediv_nonneg hX (by omega)
  have h6 : 2 ≤ ab b → ab a / ab b ≤ 4611686018427387904 := fun h => by
    have : ab a / ab b ≤ ab a / 2 := by
      have := Int.ediv_le_ediv (c := 2) (by omega) (a := ab a / ab b * 2) (b := ab a) (by
        have : ab a / ab b * 2 ≤ ab a / ab b * ab b := Int.mul_le_mul_of_nonneg_left h h5
        rw [Int.mul_comm (ab b)] at h1
        omega)
      omega
    omega
  have h7 : ab b = 1 → ab a / ab b = ab a ∧ ab a % ab b = 0 := fun h => by rw [h]; omega
  have uniq : ∀ {q r : Int}, a = b * q + r → (0 < b → 0 ≤ r ∧ r < b) → (b < 0 → b < r ∧ r ≤ 0) → ¬ (a = -9223372036854775808 ∧ b = -1) → divs a b = (q, r, 0) := by
    intro q r e1 e2 e3 e4
    have := fd_uniq e1 e2 e3 c
    unfold divs
    rw [if_neg c, if_neg e4, this.1, this.2]
  generalize hq : ab a / ab b = q at *
  generalize hr : ab a % ab b = r at *
  clear h64 hz
  have eY : ∀ s : Int, (-(ab b)) * s = -(ab b * s) := fun s => by rw [Int.neg_mul]
  by_cases sa : a < 0 <;> by_cases sb : b < 0
  · have xa : a = -(ab a) := by unfold ab; rw [if_pos sa]; omega
    have xb : b = -(ab b) := by unfold ab; rw [if_pos sb]; omega
    simp only [ephemerisref1_Div.e0, ephemerisref1_Div.e1, sa, sb, decide_true, bne_self_eq_false, Bool.false_eq_true, false_and, if_false, true_and, if_true]
    by_cases c2 : q > 9223372036854775807
    · rw [if_pos c2]
      unfold divs
      have : ab b = 1 := by
        by_cases h : 2 ≤ ab b
        · have := h6 h; omega
        · omega
      rw [if_neg c, if_pos (by omega)]
    · rw [if_neg c2, w64_id (by omega) (by omega), u64_def, w64_def]
      rw [uniq (q := q) (r := -r) (by rw [xb, eY]; omega) (by omega) (by omega) (fun h => by have := h7 (by omega); omega)]
      congr 2; omega
  · have xa : a = -(ab a) := by unfold ab; rw [if_pos sa]; omega
    have xb : b = ab b := by unfold ab; rw [if_neg sb]
    simp only [ephemerisref1_Div.e0, ephemerisref1_Div.e1, sa, sb, decide_true, decide_false, Bool.bne_false, Bool.false_eq_true, true_and, if_true, Bool.true_eq_false, false_and, if_false]
    by_cases c2 : r = 0
    · rw [if_neg (fun h => h c2), u64_def, w64_def, w64_id (by omega) (by omega)]
      rw [uniq (q := -q) (r := 0) (by rw [xb, Int.mul_neg]; omega) (by omega) (by omega) (by omega)]
      rw [c2]
      congr 1; omega
    · rw [if_pos c2, u64_id (n := q + 1) (by omega) (by omega), u64_id (n := ab b - r) (by omega) (by omega), u64_def, w64_def, w64_id (by omega) (by omega)]
      have : q ≤ 9223372036854775807 := by
        by_cases h : 2 ≤ ab b
        · have := h6 h; omega
        · have := h7 (by omega); omega
      have eb : b * q = ab b * q := by rw [← xb]
      rw [uniq (q := -(q + 1)) (r := ab b - r) (by rw [Int.mul_neg, Int.mul_add, Int.mul_one, eb]; omega) (by omega) (by omega) (by omega)]
      congr 1; omega
  · have xa : a = ab a := by unfold ab; rw [if_neg sa]
    have xb : b = -(ab b) := by unfold ab; rw [if_pos sb]; omega
    simp only [ephemerisref1_Div.e0, ephemerisref1_Div.e1, sa, sb, decide_true, decide_false, Bool.bne_true, Bool.not_false, Bool.false_eq_true, true_and, if_true, Bool.true_eq_false, false_and, if_false]
    by_cases c2 : r = 0
    · rw [if_neg (fun h => h c2), u64_def, w64_def, u64_def, w64_def]
      rw [uniq (q := -q) (r := 0) (by rw [xb, eY, Int.mul_neg]; omega) (by omega) (by omega) (by omega)]
      rw [c2]
      congr 1
      omega
    · rw [if_pos c2, u64_id (n := q + 1) (by omega) (by omega), u64_id (n := ab b - r) (by omega) (by omega), u64_def, w64_def, u64_def, w64_def]
      have eb := eY q
      rw [← xb] at eb
      rw [uniq (q := -(q + 1)) (r := -(ab b - r)) (by rw [Int.mul_neg, Int.mul_add, Int.mul_one, eb]; omega) (by omega) (by omega) (by omega)]
      congr 1
      · omega
      · congr 1; omega
  · have xa : a = ab a := by unfold ab; rw [if_neg sa]
    have xb : b = ab b := by unfold ab; rw [if_neg sb]
    simp only [ephemerisref1_Div.e0, ephemerisref1_Div.e1, sa, sb, decide_false, bne_self_eq_false, Bool.false_eq_true, false_and, if_false, true_and]
    rw [if_neg (by omega), w64_id (by omega) (by omega), w64_id (by omega) (by omega)]
    rw [uniq (q := q) (r := r) (by rw [xb]; omega) (by omega) (by omega) (by omega)]

theorem ephemerisref1_Mod_f {a b : Int} (k : Nat) (hk : 65 ≤ k) (ha : -9223372036854775808 ≤ a) (ha1 : a ≤ 9223372036854775807) (hb : 0 < b) (hb1 : b ≤ 9223372036854775807) : ephemerisref1_Mod.f k a b = some (a % b) := by
  unfold ephemerisref1_Mod.f
  rw [ephemerisref1_Div_f k hk ha ha1 (by omega) hb1, divs_pos hb]
  rfl

theorem ephemerisref1_Offset_f (x : Int) (k : Nat) (hk : 65 ≤ k) : ephemerisref1_Offset.f k x = some (okOff x) := by
  unfold ephemerisref1_Offset.f okOff
  rw [ephemerisref1_In_f, Option.bind_some]
  by_cases h : -64800000 ≤ x ∧ x ≤ 64800000
  · rw [decide_eq_true h, if_pos rfl, ephemerisref1_Mod_f k hk (by omega) (by omega) (by omega) (by omega), Option.bind_some]
    congr 1
    by_cases c : x % 1000 = 0
    · rw [decide_eq_true ⟨h.1, h.2, c⟩, c]; rfl
    · rw [decide_eq_false (fun g => c g.2.2)]; simpa using c
  · rw [decide_eq_false h, if_neg (by decide), decide_eq_false (fun g => h ⟨g.1, g.2.1⟩)]

theorem ephemerisref1_Floor_f {a b : Int} (k : Nat) (hk : 65 ≤ k) (ha : -9223372036854775808 ≤ a) (ha1 : a ≤ 9223372036854775807) (hb : 0 < b) (hb1 : b ≤ 9223372036854775807) : ephemerisref1_Floor.f k a b = some (a / b) := by
  unfold ephemerisref1_Floor.f
  rw [ephemerisref1_Div_f k hk ha ha1 (by omega) hb1, divs_pos hb]
  rfl

theorem ephemerisref1_Day_f (x : Int) : ephemerisref1_Day.f x = some (decide (-4000000 ≤ x ∧ x ≤ 4000000)) := by
  unfold ephemerisref1_Day.f
  rw [ephemerisref1_In_f]; rfl

theorem ephemerisref1_Instant_f {t : Int} (k : Nat) (hk : 65 ≤ k) (h0 : -9223372036854775808 ≤ t) (h1 : t ≤ 9223372036854775807) : ephemerisref1_Instant.f k t = some (decide (-4000000 ≤ t / 86400000 ∧ t / 86400000 ≤ 4000000)) := by
  unfold ephemerisref1_Instant.f
  rw [ephemerisref1_Floor_f k hk h0 h1 (by omega) (by omega)]
  simp only [Option.bind_some]
  rw [ephemerisref1_Day_f]; rfl

theorem ephemerisref1_Label_f (s : ByteArray) : ephemerisref1_Label.f s = some (isLabel s) := by
  unfold ephemerisref1_Label.f isLabel
  rw [ephemerisref1_In_f, Option.bind_some]
  by_cases h : 1 ≤ s.size ∧ s.size ≤ 6
  · rw [decide_eq_true (show (1 : Int) ≤ (s.size : Int) ∧ (s.size : Int) ≤ 6 by omega), if_pos rfl, decide_eq_true h]
    unfold strings_Trim.f
    rw [if_pos ⟨by omega, by decide, by decide⟩, Option.bind_some]
    congr 1
    rw [Bool.true_and, toList_data]
    show (Go.Lib.trimS s.data.toList abc == []) = caps s.data.toList
    by_cases c : caps s.data.toList = true
    · rw [c, (trim_caps _).2 c]; rfl
    · rw [Bool.not_eq_true] at c
      rw [c, beq_eq_false_iff_ne]
      intro e
      rw [(trim_caps _).1 e] at c
      cases c
  · rw [decide_eq_false (show ¬ ((1 : Int) ≤ (s.size : Int) ∧ (s.size : Int) ≤ 6) by omega), if_neg (by decide), decide_eq_false h]; rfl

theorem ephemerisref1_ZoneError_j1 (l : List S50) (s : ByteArray) (o : Int) (hl : l.length ≤ 200) (i : Nat) (hi : i < l.length) (k : Nat) (t : Bool) (y : Int) (hy : ephemerisref1_ZoneError.l0 k l (l.length : Int) ((i + 1 : Nat) : Int) s o l = some y) :
    ephemerisref1_ZoneError.j1 (k + 1) (i : Int) l (l.length : Int) (i : Int) t s o l (l.getD i z50).f0 (l.getD i z50).f1 (l.getD i z50).f2
      = some (if t = true then 3 else if isLabel (l.getD i z50).f2 = true then (if 0 < i ∧ (l.getD i z50).f0 ≤ (l.getD (i - 1) z50).f0 then 9 else y) else 8) := by
  simp only [ephemerisref1_ZoneError.j1]
  by_cases h : t = true
  · rw [if_pos h, if_pos h]
  rw [if_neg h, if_neg h, ephemerisref1_Label_f, Option.bind_some]
  by_cases h2 : isLabel (l.getD i z50).f2 = true
  · rw [if_pos h2, if_pos h2, w64_id (n := (i : Int) + 1) (by omega) (by omega), show ((i : Int) + 1) = ((i + 1 : Nat) : Int) from by omega, hy]
    by_cases h3 : 0 < i
    · rw [if_pos (by omega), w64_id (n := (i : Int) - 1) (by omega) (by omega), if_pos (by omega), if_pos (by omega)]
      rw [show rd_T50 l ((i : Int) - 1) = l.getD (i - 1) z50 from by unfold rd_T50; rw [show ((i : Int) - 1).toNat = i - 1 by omega]]
      by_cases h4 : (l.getD i z50).f0 ≤ (l.getD (i - 1) z50).f0
      · rw [if_pos (show _ ≥ _ from h4), if_pos ⟨h3, h4⟩]
      · rw [if_neg (show ¬ _ ≥ _ from h4), if_neg (fun g => h4 g.2)]
    · rw [if_neg (by omega), if_neg (fun g => h3 g.1)]
  · rw [if_neg h2, if_neg h2]
theorem ephemerisref1_ZoneError_l0 (l : List S50) (s : ByteArray) (o : Int) (hl : l.length ≤ 200) (hw : znWf l) : ∀ (d i k : Nat), i + d = l.length → 2 * d + 70 < k → ephemerisref1_ZoneError.l0 k l (l.length : Int) (i : Int) s o l = some (znErr l d i) := by
  intro d
  induction d with
  | zero =>
    intro i k hi hk
    obtain ⟨k, rfl⟩ : ∃ m, k = m + 1 := ⟨k - 1, by omega⟩
    simp only [ephemerisref1_ZoneError.l0]
    rw [if_neg (by omega)]; rfl
  | succ d ih =>
    intro i k hi hk
    obtain ⟨k, rfl⟩ : ∃ m, k = m + 2 := ⟨k - 2, by omega⟩
    rw [show k + 2 = (k + 1) + 1 from rfl]
    simp only [ephemerisref1_ZoneError.l0]
    rw [if_pos (by omega), if_pos (by omega), if_pos (by omega), show rd_T50 l (i : Int) = l.getD i z50 from rfl]
    have hg := znWf_get hw (i := i) (by omega)
    have hj := fun t => ephemerisref1_ZoneError_j1 l s o hl i (by omega) k t _ (ih (i + 1) k (by omega) (by omega))
    unfold znErr
    rw [ephemerisref1_Instant_f (k + 1) (by omega) hg.1 hg.2, Option.bind_some]
    by_cases c : -4000000 ≤ (l.getD i z50).f0 / 86400000 ∧ (l.getD i z50).f0 / 86400000 ≤ 4000000
    · rw [decide_eq_true c, if_pos rfl, ephemerisref1_Offset_f _ (k + 1) (by omega), Option.bind_some, hj]
      rw [show (!(okOff (l.getD i z50).f1)) = znBad (l.getD i z50) from by unfold znBad; rw [decide_eq_true c, Bool.true_and]]
    · rw [decide_eq_false c, if_neg (by decide), hj]
      rw [show (true : Bool) = znBad (l.getD i z50) from by unfold znBad; rw [decide_eq_false c]; rfl]
theorem ephemerisref1_ZoneError_f (s : ByteArray) (o : Int) (l : List S50) (hw : znWf l) (k : Nat) (hk : 600 ≤ k) : ephemerisref1_ZoneError.f k s o l = some (znAll s o l) := by
  unfold ephemerisref1_ZoneError.f znAll
  rw [ephemerisref1_Name_f _ k (by omega), Option.bind_some]
  by_cases h1 : isName s = true
  · rw [if_pos h1, if_pos h1, ephemerisref1_Offset_f _ k (by omega), Option.bind_some]
    by_cases h2 : okOff o = true
    · rw [if_pos h2, if_pos h2]
      by_cases h3 : l.length ≤ 200
      · rw [if_neg (by omega), if_pos h3]
        exact ephemerisref1_ZoneError_l0 l s o h3 hw l.length 0 k (by omega) (by omega)
      · rw [if_pos (by omega), if_neg h3]
    · rw [if_neg h2, if_neg h2]
  · rw [if_neg h1, if_neg h1]

/-- Where an instant stands among the changes. -/
def IsPos (l : List S50) (t : Int) (r : Nat) : Prop := r ≤ l.length ∧ (∀ j, j < r → (l.getD j z50).f0 ≤ t) ∧ ∀ j, r ≤ j → j < l.length → t < (l.getD j z50).f0
/-- The changes are of a valid zone. -/
def ZnOk (l : List S50) : Prop := l.length ≤ 200 ∧ ∀ j, j < l.length → znBad (l.getD j z50) = false ∧ isLabel (l.getD j z50).f2 = true ∧ (0 < j → (l.getD (j - 1) z50).f0 < (l.getD j z50).f0)
theorem znErr_ok (l : List S50) : ∀ (d i : Nat), i + d = l.length → znErr l d i = 0 → ∀ j, i ≤ j → j < l.length → znBad (l.getD j z50) = false ∧ isLabel (l.getD j z50).f2 = true ∧ (0 < j → (l.getD (j - 1) z50).f0 < (l.getD j z50).f0)
  | 0, i, hi, _, j, h1, h2 => absurd h2 (by omega)
  | d + 1, i, hi, h, j, h1, h2 => by
    unfold znErr at h
    by_cases c1 : znBad (l.getD i z50) = true
    · rw [if_pos c1] at h; cases h
    rw [if_neg c1] at h
    by_cases c2 : isLabel (l.getD i z50).f2 = true
    · rw [if_pos c2] at h
      by_cases c3 : 0 < i ∧ (l.getD i z50).f0 ≤ (l.getD (i - 1) z50).f0
      · rw [if_pos c3] at h; cases h
      rw [if_neg c3] at h
      by_cases e : j = i
      · subst e
        exact ⟨by simpa using c1, c2, fun g => by omega⟩
      · exact znErr_ok l d (i + 1) (by omega) h j (by omega) h2
    · rw [if_neg c2] at h; cases h
theorem znAll_ok {s : ByteArray} {o : Int} {l : List S50} (h : znAll s o l = 0) : isName s = true ∧ okOff o = true ∧ ZnOk l := by
  unfold znAll at h
  by_cases h1 : isName s = true
  · rw [if_pos h1] at h
    by_cases h2 : okOff o = true
    · rw [if_pos h2] at h
      by_cases h3 : l.length ≤ 200
      · rw [if_pos h3] at h
        exact ⟨h1, h2, h3, fun j hj => znErr_ok l l.length 0 (by omega) h j (by omega) hj⟩
      · rw [if_neg h3] at h; cases h
    · rw [if_neg h2] at h; cases h
  · rw [if_neg h1] at h; cases h
theorem okOff_le {x : Int} (h : okOff x = true) : -64800000 ≤ x ∧ x ≤ 64800000 := by
  unfold okOff at h
  have := of_decide_eq_true h
  exact ⟨this.1, this.2.1⟩
theorem zn_rise {l : List S50} (h : ZnOk l) : ∀ (d i : Nat), i + d < l.length → (l.getD i z50).f0 ≤ (l.getD (i + d) z50).f0
  | 0, i, _ => Int.le_refl _
  | d + 1, i, hi => by
    have h1 := zn_rise h d i (by omega)
    have h2 := (h.2 (i + (d + 1)) hi).2.2 (by omega)
    rw [show i + (d + 1) - 1 = i + d from by omega] at h2
    omega
theorem zn_off {l : List S50} (h : ZnOk l) {j : Nat} (hj : j < l.length) : (-4000000 ≤ (l.getD j z50).f0 / 86400000 ∧ (l.getD j z50).f0 / 86400000 ≤ 4000000) ∧ -64800000 ≤ (l.getD j z50).f1 ∧ (l.getD j z50).f1 ≤ 64800000 := by
  have := (h.2 j hj).1
  unfold znBad at this
  rw [Bool.not_eq_false', Bool.and_eq_true] at this
  exact ⟨of_decide_eq_true this.1, okOff_le this.2⟩
/-- What is in force at the r-th place. -/
def atPos (o : Int) (l : List S50) (r : Nat) : Int × ByteArray := if 0 < r then ((l.getD (r - 1) z50).f1, (l.getD (r - 1) z50).f2) else (o, ⟨#[]⟩)
theorem atPos_le {o : Int} {l : List S50} {r : Nat} (ho : okOff o = true) (h : ZnOk l) (hr : r ≤ l.length) : -64800000 ≤ (atPos o l r).1 ∧ (atPos o l r).1 ≤ 64800000 := by
  unfold atPos
  split
  · exact (zn_off h (by omega)).2
  · exact okOff_le ho
/-- The error of an instant in a zone. -/
def znBegin (s : ByteArray) (o : Int) (l : List S50) (t : Int) : Int := if znAll s o l = 0 then (if -4000000 ≤ t / 86400000 ∧ t / 86400000 ≤ 4000000 then 0 else 3) else znAll s o l
theorem base_wf : znWf [(⟨0, 7200000, (⟨#[83, 85, 77]⟩ : ByteArray)⟩ : S50)] := by
  intro c hc
  rw [List.mem_singleton] at hc
  subst hc
  decide

theorem one_58 : (⟨#[58]⟩ : ByteArray).size = 1 := rfl
theorem one_32 : (⟨#[32]⟩ : ByteArray).size = 1 := rfl
theorem one_10 : (⟨#[10]⟩ : ByteArray).size = 1 := rfl
theorem three_at : (⟨#[97, 116, 32]⟩ : ByteArray).size = 3 := rfl
theorem five_zone : (⟨#[122, 111, 110, 101, 32]⟩ : ByteArray).size = 5 := rfl
/-- The decimal numeral. -/
def bNum (n : Int) : ByteArray := ⟨(Go.Lib.itoa n).toArray⟩
theorem strconv_Itoa_f {n : Int} (h : -9223372036854775808 ≤ n ∧ n ≤ 9223372036854775807) : strconv_Itoa.f n = some (bNum n) := by
  unfold strconv_Itoa.f; rw [if_pos h]; rfl
theorem bNum_size {n : Int} (h : -9223372036854775808 ≤ n ∧ n ≤ 9223372036854775807) : (bNum n).size ≤ 21 := by
  show (Go.Lib.itoa n).toArray.size ≤ 21
  rw [List.size_toArray]
  exact Go.Lib.itoa_length_le n h.1 h.2
/-- Two digits. -/
def two (n : Int) : ByteArray := strOfNums [(wrap64 (48 + (wrap64 (Int.tdiv n 10)))) % 256, (wrap64 (48 + (Int.tmod n 10))) % 256]
theorem two_size (n : Int) : (two n).size = 2 := rfl
theorem pad2_two : ∀ n : Nat, n < 100 → ephemerisref1_pad2.f (n : Int) = some (two n) := by decide +kernel
theorem off_chain (sg p q r : ByteArray) (gA gB gC : Option ByteArray) (hA : gA = some p) (hB : gB = some q) (hC : gC = some r) (h0 : sg.size = 1) (h1 : p.size = 2) (h2 : q.size = 2) (h3 : r.size = 2) :
    ((gA).bind fun t => (if 1 + t.size ≤ 9223372036854775807 then (if (sg ++ t).size + 1 ≤ 9223372036854775807 then ((gB).bind fun u => (if ((sg ++ t) ++ (⟨#[58]⟩ : ByteArray)).size + u.size ≤ 9223372036854775807 then (if (((sg ++ t) ++ (⟨#[58]⟩ : ByteArray)) ++ u).size + 1 ≤ 9223372036854775807 then ((gC).bind fun v => (if ((((sg ++ t) ++ (⟨#[58]⟩ : ByteArray)) ++ u) ++ (⟨#[58]⟩ : ByteArray)).size + v.size ≤ 9223372036854775807 then (some (((((sg ++ t) ++ (⟨#[58]⟩ : ByteArray)) ++ u) ++ (⟨#[58]⟩ : ByteArray)) ++ v)) else (none))) else (none)) else (none))) else (none)) else (none))) = some (((((sg ++ p) ++ (⟨#[58]⟩ : ByteArray)) ++ q) ++ (⟨#[58]⟩ : ByteArray)) ++ r) := by
  subst hA hB hC
  rw [Option.bind_some, if_pos (by omega), if_pos (by rw [ByteArray.size_append]; omega), Option.bind_some, if_pos (by simp only [ByteArray.size_append, one_58]; omega), if_pos (by simp only [ByteArray.size_append, one_58]; omega), Option.bind_some, if_pos (by simp only [ByteArray.size_append, one_58]; omega)]
/-- The text of an offset whose size in seconds is a. -/
def offA (sg : ByteArray) (a : Int) : ByteArray := ((((sg ++ two (a / 3600)) ++ (⟨#[58]⟩ : ByteArray)) ++ two (a / 60 % 60)) ++ (⟨#[58]⟩ : ByteArray)) ++ two (a % 60)
/-- The text of an offset. -/
def offT (x : Int) : ByteArray := if x < 0 then offA (⟨#[45]⟩ : ByteArray) (-x / 1000) else offA (⟨#[43]⟩ : ByteArray) (x / 1000)
theorem offA_size (sg : ByteArray) (a : Int) (h : sg.size = 1) : (offA sg a).size = 9 := by
  unfold offA
  simp only [ByteArray.size_append, one_58, two_size]; omega
theorem offT_size (x : Int) : (offT x).size = 9 := by
  unfold offT
  split
  · exact offA_size _ _ rfl
  · exact offA_size _ _ rfl
theorem offset_step (a : Int) (h0 : 0 ≤ a) (h1 : a ≤ 64800) (sg : ByteArray) (hs : sg.size = 1) (gA gB gC : Option ByteArray) (hA : gA = zonetext_offset_1.f (wrap64 (Int.tdiv a 3600)) ∨ gA = ephemerisref1_pad2.f (wrap64 (Int.tdiv a 3600))) (hB : gB = zonetext_offset_1.f (Int.tmod (wrap64 (Int.tdiv a 60)) 60) ∨ gB = ephemerisref1_pad2.f (wrap64 (Int.tdiv (Int.tmod a 3600) 60))) (hC : gC = zonetext_offset_1.f (Int.tmod a 60) ∨ gC = ephemerisref1_pad2.f (Int.tmod a 60)) :
    ((gA).bind fun t => (if 1 + t.size ≤ 9223372036854775807 then (if (sg ++ t).size + 1 ≤ 9223372036854775807 then ((gB).bind fun u => (if ((sg ++ t) ++ (⟨#[58]⟩ : ByteArray)).size + u.size ≤ 9223372036854775807 then (if (((sg ++ t) ++ (⟨#[58]⟩ : ByteArray)) ++ u).size + 1 ≤ 9223372036854775807 then ((gC).bind fun v => (if ((((sg ++ t) ++ (⟨#[58]⟩ : ByteArray)) ++ u) ++ (⟨#[58]⟩ : ByteArray)).size + v.size ≤ 9223372036854775807 then (some (((((sg ++ t) ++ (⟨#[58]⟩ : ByteArray)) ++ u) ++ (⟨#[58]⟩ : ByteArray)) ++ v)) else (none))) else (none)) else (none))) else (none)) else (none))) = some (offA sg a) := by
  have hp : ∀ n : Int, 0 ≤ n → n < 100 → ephemerisref1_pad2.f n = some (two n) := by
    intro n hn hn1
    have := pad2_two n.toNat (by omega)
    rwa [show ((n.toNat : Nat) : Int) = n from by omega] at this
  have hz : ∀ n : Int, zonetext_offset_1.f n = some (two n) := fun n => rfl
  have e1 : wrap64 (Int.tdiv a 3600) = a / 3600 := by rw [Int.tdiv_eq_ediv_of_nonneg h0]; exact w64_id (by omega) (by omega)
  have e2 : Int.tmod (wrap64 (Int.tdiv a 60)) 60 = a / 60 % 60 := by rw [Int.tdiv_eq_ediv_of_nonneg h0, w64_id (by omega) (by omega), Int.tmod_eq_emod_of_nonneg (by omega)]
  have e3 : wrap64 (Int.tdiv (Int.tmod a 3600) 60) = a / 60 % 60 := by rw [Int.tmod_eq_emod_of_nonneg h0, Int.tdiv_eq_ediv_of_nonneg (by omega), w64_id (by omega) (by omega)]; omega
  have e4 : Int.tmod a 60 = a % 60 := Int.tmod_eq_emod_of_nonneg h0
  rw [e1] at hA
  rw [e2, e3] at hB
  rw [e4] at hC
  refine off_chain sg (two (a / 3600)) (two (a / 60 % 60)) (two (a % 60)) gA gB gC ?_ ?_ ?_ hs rfl rfl rfl
  · rcases hA with h | h
    · rw [h, hz]
    · rw [h, hp _ (by omega) (by omega)]
  · rcases hB with h | h
    · rw [h, hz]
    · rw [h, hp _ (by omega) (by omega)]
  · rcases hC with h | h
    · rw [h, hz]
    · rw [h, hp _ (by omega) (by omega)]
theorem zonetext_offset_f (x : Int) (h : okOff x = true) : zonetext_offset.f x = some (offT x) := by
  obtain ⟨h0, h1, _⟩ := of_decide_eq_true h
  unfold zonetext_offset.f offT
  by_cases c : x < 0
  · rw [if_pos c, if_pos c, w64_id (n := -x) (by omega) (by omega), Int.tdiv_eq_ediv_of_nonneg (show 0 ≤ -x by omega), w64_id (n := -x / 1000) (by omega) (by omega)]
    exact offset_step (-x / 1000) (by omega) (by omega) (⟨#[45]⟩ : ByteArray) rfl _ _ _ (.inl rfl) (.inl rfl) (.inl rfl)
  · rw [if_neg c, if_neg c, Int.tdiv_eq_ediv_of_nonneg (show 0 ≤ x by omega), w64_id (n := x / 1000) (by omega) (by omega)]
    exact offset_step (x / 1000) (by omega) (by omega) (⟨#[43]⟩ : ByteArray) rfl _ _ _ (.inl rfl) (.inl rfl) (.inl rfl)
theorem ephemerisref1_OffsetText_f (x : Int) (h : okOff x = true) : ephemerisref1_OffsetText.f x = some (offT x) := by
  obtain ⟨h0, h1, _⟩ := of_decide_eq_true h
  unfold ephemerisref1_OffsetText.f offT
  by_cases c : x < 0
  · rw [if_pos c, if_pos c, w64_id (n := -x) (by omega) (by omega), Int.tdiv_eq_ediv_of_nonneg (show 0 ≤ -x by omega), w64_id (n := -x / 1000) (by omega) (by omega)]
    exact offset_step (-x / 1000) (by omega) (by omega) (⟨#[45]⟩ : ByteArray) rfl _ _ _ (.inr rfl) (.inr rfl) (.inr rfl)
  · rw [if_neg c, if_neg c, Int.tdiv_eq_ediv_of_nonneg (show 0 ≤ x by omega), w64_id (n := x / 1000) (by omega) (by omega)]
    exact offset_step (x / 1000) (by omega) (by omega) (⟨#[43]⟩ : ByteArray) rfl _ _ _ (.inr rfl) (.inr rfl) (.inr rfl)
/-- The line of a change. -/
def ztRow (c : S50) : ByteArray := (((((((((⟨#[97, 116, 32]⟩ : ByteArray) ++ bNum (c.f0 / 86400000)) ++ (⟨#[32]⟩ : ByteArray)) ++ bNum (c.f0 % 86400000)) ++ (⟨#[32]⟩ : ByteArray)) ++ offT c.f1) ++ (⟨#[32]⟩ : ByteArray)) ++ c.f2) ++ (⟨#[10]⟩ : ByteArray))
theorem ztRow_size (c : S50) (h0 : -9223372036854775808 ≤ c.f0 ∧ c.f0 ≤ 9223372036854775807) (h4 : c.f2.size ≤ 6) : (ztRow c).size ≤ 70 := by
  have := bNum_size (n := c.f0 / 86400000) (by omega)
  have := bNum_size (n := c.f0 % 86400000) (by omega)
  have := offT_size c.f1
  unfold ztRow
  simp only [ByteArray.size_append, three_at, one_32, one_10]
  omega
/-- The text s with the lines of the changes from the i-th on (d of them) behind it. -/
def ztTxt (l : List S50) : Nat → Nat → ByteArray → ByteArray
  | 0, _, s => s
  | d + 1, i, s => ztTxt l d (i + 1) (s ++ ztRow (l.getD i z50))
/-- What a valid change is for its line. -/
def ztOk (l : List S50) : Prop := ∀ j, j < l.length → (-4000000 ≤ (l.getD j z50).f0 / 86400000 ∧ (l.getD j z50).f0 / 86400000 ≤ 4000000) ∧ okOff (l.getD j z50).f1 = true ∧ (l.getD j z50).f2.size ≤ 6
theorem zonetext_Print_l0 (l : List S50) (hl : l.length ≤ 200) (hz : ztOk l) : ∀ (d i k : Nat) (s : ByteArray), i + d = l.length → d + 5 < k → s.size + 70 * d ≤ 100000 → zonetext_Print.l0 k s l (l.length : Int) (i : Int) = some (ztTxt l d i s, 0) := by
  intro d
  induction d with
  | zero =>
    intro i k s hi hk hs
    obtain ⟨k, rfl⟩ : ∃ q, k = q + 1 := ⟨k - 1, by omega⟩
    simp only [zonetext_Print.l0]
    rw [if_neg (by omega)]
    rfl
  | succ d ih =>
    intro i k s hi hk hs
    obtain ⟨k, rfl⟩ : ∃ q, k = q + 1 := ⟨k - 1, by omega⟩
    rw [show ztTxt l (d + 1) i s = ztTxt l d (i + 1) (s ++ ztRow (l.getD i z50)) from rfl]
    obtain ⟨hd, ho, hlb⟩ := hz i (by omega)
    have hsz := ztRow_size (l.getD i z50) (by omega) hlb
    simp only [zonetext_Print.l0]
    rw [if_pos (by omega), if_pos (by omega), if_pos (by omega), show rd_T50 l (i : Int) = l.getD i z50 from rfl]
    have hih := ih (i + 1) k (s ++ ztRow (l.getD i z50)) (by omega) (by omega) (by rw [ByteArray.size_append]; omega)
    generalize l.getD i z50 = c at hd ho hlb hsz hih ⊢
    rw [line_Split_f k (by omega) (by omega) (by omega), if_pos hd, Option.bind_some]
    have q1 := bNum_size (n := c.f0 / 86400000) (by omega)
    have q2 := bNum_size (n := c.f0 % 86400000) (by omega)
    have q3 := offT_size c.f1
    try simp only
    rw [strconv_Itoa_f (n := c.f0 / 86400000) (by omega), Option.bind_some, if_pos (by omega), if_pos (by simp only [ByteArray.size_append, three_at, one_32]; omega), strconv_Itoa_f (n := c.f0 % 86400000) (by omega), Option.bind_some, if_pos (by simp only [ByteArray.size_append, three_at, one_32]; omega), if_pos (by simp only [ByteArray.size_append, three_at, one_32]; omega), zonetext_offset_f c.f1 ho, Option.bind_some, if_pos (by simp only [ByteArray.size_append, three_at, one_32]; omega), if_pos (by simp only [ByteArray.size_append, three_at, one_32]; omega), if_pos (by simp only [ByteArray.size_append, three_at, one_32]; omega), if_pos (by simp only [ByteArray.size_append, three_at, one_32]; omega)]
    show (strings_Builder_WriteString.f s (ztRow c)).bind (fun t => zonetext_Print.l0 k t l (l.length : Int) (wrap64 ((i : Int) + 1))) = _
    unfold strings_Builder_WriteString.f
    rw [if_pos (by omega), Option.bind_some, w64_id (by omega) (by omega), show (i : Int) + 1 = ((i + 1 : Nat) : Int) from by omega]
    exact hih
theorem ephemerisref1_ZoneText_l0 (l : List S50) (hl : l.length ≤ 200) (hz : ztOk l) : ∀ (d i k : Nat) (s : ByteArray), i + d = l.length → d + 100 < k → s.size + 70 * d ≤ 100000 → ephemerisref1_ZoneText.l0 k s l (l.length : Int) (i : Int) = some (ztTxt l d i s) := by
  intro d
  induction d with
  | zero =>
    intro i k s hi hk hs
    obtain ⟨k, rfl⟩ : ∃ q, k = q + 1 := ⟨k - 1, by omega⟩
    simp only [ephemerisref1_ZoneText.l0]
    rw [if_neg (by omega)]
    rfl
  | succ d ih =>
    intro i k s hi hk hs
    obtain ⟨k, rfl⟩ : ∃ q, k = q + 1 := ⟨k - 1, by omega⟩
    rw [show ztTxt l (d + 1) i s = ztTxt l d (i + 1) (s ++ ztRow (l.getD i z50)) from rfl]
    obtain ⟨hd, ho, hlb⟩ := hz i (by omega)
    have hsz := ztRow_size (l.getD i z50) (by omega) hlb
    simp only [ephemerisref1_ZoneText.l0]
    rw [if_pos (by omega), if_pos (by omega), if_pos (by omega), show rd_T50 l (i : Int) = l.getD i z50 from rfl]
    have hih := ih (i + 1) k (s ++ ztRow (l.getD i z50)) (by omega) (by omega) (by rw [ByteArray.size_append]; omega)
    generalize l.getD i z50 = c at hd ho hlb hsz hih ⊢
    rw [ephemerisref1_Floor_f k (by omega) (by omega) (by omega) (by omega) (by omega), Option.bind_some, w64_id (n := c.f0 / 86400000 * 86400000) (by omega) (by omega), w64_id (n := c.f0 - c.f0 / 86400000 * 86400000) (by omega) (by omega), show c.f0 - c.f0 / 86400000 * 86400000 = c.f0 % 86400000 from by omega]
    have q1 := bNum_size (n := c.f0 / 86400000) (by omega)
    have q2 := bNum_size (n := c.f0 % 86400000) (by omega)
    have q3 := offT_size c.f1
    try simp only
    rw [strconv_Itoa_f (n := c.f0 / 86400000) (by omega), Option.bind_some, if_pos (by omega), if_pos (by simp only [ByteArray.size_append, three_at, one_32]; omega), strconv_Itoa_f (n := c.f0 % 86400000) (by omega), Option.bind_some, if_pos (by simp only [ByteArray.size_append, three_at, one_32]; omega), if_pos (by simp only [ByteArray.size_append, three_at, one_32]; omega), ephemerisref1_OffsetText_f c.f1 ho, Option.bind_some, if_pos (by simp only [ByteArray.size_append, three_at, one_32]; omega), if_pos (by simp only [ByteArray.size_append, three_at, one_32]; omega), if_pos (by simp only [ByteArray.size_append, three_at, one_32]; omega), if_pos (by simp only [ByteArray.size_append, three_at, one_32]; omega)]
    show (if s.size + (ztRow c).size ≤ 9223372036854775807 then ephemerisref1_ZoneText.l0 k (s ++ ztRow c) l (l.length : Int) (wrap64 ((i : Int) + 1)) else none) = _
    rw [if_pos (by omega), w64_id (by omega) (by omega), show (i : Int) + 1 = ((i + 1 : Nat) : Int) from by omega]
    exact hih
/-- The text of a zone. -/
def ztText (s : ByteArray) (o : Int) (l : List S50) : ByteArray := ztTxt l l.length 0 (((((⟨#[122, 111, 110, 101, 32]⟩ : ByteArray) ++ s) ++ (⟨#[32]⟩ : ByteArray)) ++ offT o) ++ (⟨#[10]⟩ : ByteArray))
theorem zone_texts (s : ByteArray) (o : Int) (l : List S50) (hw : znWf l) (h : znAll s o l = 0) : (∀ k, 2000 ≤ k → zonetext_Print.f k s o l = some (ztText s o l, 0)) ∧ ∀ k, 2000 ≤ k → ephemerisref1_ZoneText.f k s o l = some (ztText s o l) := by
  obtain ⟨hn, ho, hz⟩ := znAll_ok h
  have h200 := hz.1
  have hns : s.size ≤ 12 := by
    unfold isName at hn
    simp only [Bool.and_eq_true] at hn
    exact of_decide_eq_true hn.2.1
  have hok : ztOk l := by
    intro j hj
    obtain ⟨g1, g2, _⟩ := hz.2 j hj
    unfold znBad at g1
    rw [Bool.not_eq_false', Bool.and_eq_true] at g1
    unfold isLabel at g2
    rw [Bool.and_eq_true] at g2
    exact ⟨of_decide_eq_true g1.1, g1.2, (of_decide_eq_true g2.1).2⟩
  have hos := offT_size o
  have hsz : (((((⟨#[122, 111, 110, 101, 32]⟩ : ByteArray) ++ s) ++ (⟨#[32]⟩ : ByteArray)) ++ offT o) ++ (⟨#[10]⟩ : ByteArray)).size ≤ 100 := by
    simp only [ByteArray.size_append, five_zone, one_32, one_10]; omega
  constructor
  · intro k hk
    unfold zonetext_Print.f
    rw [zone_Check_f s o l hw k (by omega), Option.bind_some, if_pos h, if_pos (by omega), if_pos (by simp only [ByteArray.size_append, five_zone]; omega), zonetext_offset_f o ho, Option.bind_some, if_pos (by simp only [ByteArray.size_append, five_zone, one_32]; omega), if_pos (by simp only [ByteArray.size_append, five_zone, one_32]; omega)]
    unfold strings_Builder_WriteString.f
    rw [if_pos (by show 0 + _ ≤ _; omega), Option.bind_some, show (⟨#[]⟩ : ByteArray) ++ (((((⟨#[122, 111, 110, 101, 32]⟩ : ByteArray) ++ s) ++ (⟨#[32]⟩ : ByteArray)) ++ offT o) ++ (⟨#[10]⟩ : ByteArray)) = (((((⟨#[122, 111, 110, 101, 32]⟩ : ByteArray) ++ s) ++ (⟨#[32]⟩ : ByteArray)) ++ offT o) ++ (⟨#[10]⟩ : ByteArray)) from ByteArray.empty_append]
    exact zonetext_Print_l0 l h200 hok l.length 0 k _ (by omega) (by omega) (by omega)
  · intro k hk
    unfold ephemerisref1_ZoneText.f
    rw [if_pos (by omega), if_pos (by simp only [ByteArray.size_append, five_zone]; omega), ephemerisref1_OffsetText_f o ho, Option.bind_some, if_pos (by simp only [ByteArray.size_append, five_zone, one_32]; omega), if_pos (by simp only [ByteArray.size_append, five_zone, one_32]; omega)]
    exact ephemerisref1_ZoneText_l0 l h200 hok l.length 0 k _ (by omega) (by omega) (by omega)

theorem print_bad (s : ByteArray) (o : Int) (l : List S50) (hw : znWf l) (h : znAll s o l ≠ 0) (k : Nat) (hk : 600 ≤ k) : zonetext_Print.f k s o l = some (⟨#[]⟩, znAll s o l) := by
  unfold zonetext_Print.f
  rw [zone_Check_f s o l hw k hk, Option.bind_some, if_neg h]
theorem ZonetextPrints : ephemerislaw1_ZonetextPrints.Pure := by
  intro s o l hs ho hl
  have hw : znWf l := fun c hc => wf_i64 (hl.2.2 c hc).1
  obtain ⟨K, hK⟩ : ∃ K : Nat, 5000 ≤ K := ⟨_, Nat.le_refl _⟩
  refine ⟨K, ?_⟩
  unfold ephemerislaw1_ZonetextPrints.f ephemerislaw1_base.f
  rw [Option.bind_some]
  simp only
  have hz0 : znAll ⟨#[98, 97, 115, 101]⟩ 3600000 [(⟨0, 7200000, (⟨#[83, 85, 77]⟩ : ByteArray)⟩ : S50)] = 0 := by decide +kernel
  have ht0 : ztText ⟨#[98, 97, 115, 101]⟩ 3600000 [(⟨0, 7200000, (⟨#[83, 85, 77]⟩ : ByteArray)⟩ : S50)] = ⟨#[122, 111, 110, 101, 32, 98, 97, 115, 101, 32, 43, 48, 49, 58, 48, 48, 58, 48, 48, 10, 97, 116, 32, 48, 32, 48, 32, 43, 48, 50, 58, 48, 48, 58, 48, 48, 32, 83, 85, 77, 10]⟩ := by decide +kernel
  rw [(zone_texts _ _ _ base_wf hz0).1 K (by omega), ht0, Option.bind_some]
  rw [if_pos (by decide +kernel)]
  obtain ⟨k, rfl⟩ : ∃ m, K = m + 1 := ⟨K - 1, by omega⟩
  have e0 : ((0 : Int) != 0) = false := by decide
  simp only [e0, ephemerislaw1_ZonetextPrints.j0, Bool.false_eq_true, if_false]
  rw [ephemerisref1_ZoneError_f s o l hw k (by omega)]
  by_cases h : znAll s o l = 0
  · obtain ⟨h1, h2⟩ := zone_texts s o l hw h
    rw [h1 k (by omega), Option.bind_some, Option.bind_some, if_pos h]
    simp only
    rw [if_pos trivial, h2 k (by omega), Option.bind_some]
    simp
  · rw [print_bad s o l hw h k (by omega), Option.bind_some, Option.bind_some, if_neg h]
    simp only
    rw [if_pos ((toList_nil _).2 rfl)]
    simp
end Go.Proofs.YtmiieommlhbbdaaDoor.Pure
