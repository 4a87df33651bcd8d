/- The law ZoneInstants over numbers and lists: what the law's functions tell, and that the law holds. -/
import Derived.Test.YtolhlaadhfilnaaDoorPZoneInstantsx6
import Derived.Test.YtolhlaadhfilnaaDoorM
import Derived.Test.YtolhlaadhfilnaaDoorT
import Derived.Test.YtolhlaadhfilnaaDoorZ
import Derived.Test.YtolhlaadhfilnaaDoorL
import Derived.Test.YtolhlaadhfilnaaDoorO
namespace Go.Proofs.YtolhlaadhfilnaaDoor.Pure
open Go.RowKit Go.Proofs.YtolhlaadhfilnaaDoor.PZoneInstants Go.Proofs.YtolhlaadhfilnaaDoorW.PrintWords Go.Proofs.YtolhlaadhfilnaaDoorW.PrintLast Go.Proofs.YtolhlaadhfilnaaDoor.M Go.Proofs.YtolhlaadhfilnaaDoor.T Go.Proofs.YtolhlaadhfilnaaDoor.Z Go.Proofs.YtolhlaadhfilnaaDoor.L Go.Proofs.YtolhlaadhfilnaaDoor.O
set_option linter.unusedVariables false
set_option linter.unusedSimpArgs false
/-- The law over numbers and lists. -/
def ephemerislaw1_ZoneInstants.Pure : Prop := ∀ (a0_0 : ByteArray) (a0_1 : Int) (l0_2 : List (S43)) (a1 : Int) (a2 : Int), a0_0.size ≤ 140737488351232 → (Lit.int .i64 a0_1).wf = true → (l0_2.length * 32 ≤ 140737488351232 ∧ l0_2.length ≤ 9223372036854775807 ∧ ∀ v ∈ l0_2, ((Lit.int .i64 v.f0).wf = true ∧ (Lit.int .i64 v.f1).wf = true ∧ v.f2.size ≤ 140737488351232)) → (Lit.int .i64 a1).wf = true → (Lit.int .i64 a2).wf = true → ∃ k, ephemerislaw1_ZoneInstants.f k a0_0 a0_1 l0_2 a1 a2 = some true

theorem line_Check_f (x : Int) : line_Check.f x = some (if -4000000 ≤ x ∧ x ≤ 4000000 then 0 else 3) := by
  unfold line_Check.f
  by_cases h : x < -4000000
  · rw [if_pos h, if_neg (by omega)]
  · rw [if_neg h]
    by_cases h2 : x > 4000000
    · rw [if_pos h2, if_neg (by omega)]
    · rw [if_neg h2, if_pos (by omega)]

theorem whole_Div_f {a b : Int} (k : Nat) (hk : 1 ≤ k) (ha : -9223372036854775808 ≤ a) (ha1 : a ≤ 9223372036854775807) (hb : -9223372036854775808 ≤ b) (hb1 : b ≤ 9223372036854775807) : whole_Div.f k a b = some (divs a b) := by
  obtain ⟨k, rfl⟩ : ∃ m, k = m + 1 := ⟨k - 1, by omega⟩
  unfold whole_Div.f divs
  by_cases c : b = 0
  · rw [if_pos c, if_pos c]
  rw [if_neg c, if_neg c]
  by_cases d : a = -9223372036854775808 ∧ b = -1
  · rw [if_pos d.1, if_pos d, d.2]; simp [whole_Div.j0]
  have e : (if a = (-9223372036854775808) then (whole_Div.j0 (k + 1) a b (b == (-1))) else (whole_Div.j0 (k + 1) a b false)) = whole_Div.j0 (k + 1) a b false := by
    by_cases c1 : a = -9223372036854775808
    · rw [if_pos c1, show (b == -1) = false from beq_eq_false_iff_ne.2 (fun h => d ⟨c1, h⟩)]
    · rw [if_neg c1]
  rw [e, if_neg d]
  simp only [whole_Div.j0, Bool.false_eq_true, if_false]
  rw [if_neg c]
  obtain ⟨b1, b2⟩ := tdiv_bound a b c ha ha1 d
  obtain ⟨g1, g2, g3⟩ := fd_of_t a b c
  obtain ⟨t0, t1, t2, t3, t4⟩ := tdm a b c
  rw [w64_id b1 b2]
  by_cases hz : Int.tmod a b = 0
  · rw [if_pos hz, (g1 hz).1, (g1 hz).2, hz]
  · rw [if_neg hz]
    cases hs : (decide (Int.tmod a b < 0) != decide (b < 0)) with
    | true =>
      have hq : fd a b = Int.tdiv a b - 1 := (g2 hz hs).1
      have hfs := fd_spec a b c
      have hlow : -9223372036854775808 ≤ Int.tdiv a b - 1 := by
        by_cases hm : Int.tdiv a b = -9223372036854775808
        · exfalso
          have h9 : (Int.tdiv a b).natAbs = a.natAbs / b.natAbs := Int.natAbs_tdiv a b
          rw [hm] at h9
          have h10 : a.natAbs / b.natAbs ≤ a.natAbs := Nat.div_le_self _ _
          by_cases hb2 : b.natAbs = 1
          · have : b = 1 ∨ b = -1 := by omega
            rcases this with rfl | rfl
            · exact hz (by rw [Int.tmod_one])
            · exact hz (by rw [Int.tmod_neg, Int.tmod_one])
          · have : a.natAbs / b.natAbs ≤ a.natAbs / 2 := Nat.div_le_div_left (by omega) (by omega)
            omega
        · omega
      have hss : (Int.tmod a b < 0 ∧ 0 < b) ∨ (0 < Int.tmod a b ∧ b < 0) := by
        by_cases hx : Int.tmod a b < 0 <;> by_cases hy : b < 0 <;> simp [hx, hy] at hs
        · exact .inl ⟨hx, by omega⟩
        · exact .inr ⟨by omega, hy⟩
      simp only [if_true]
      rw [(g2 hz hs).1, (g2 hz hs).2, w64_id hlow (by omega), w64_id (n := Int.tmod a b + b) (by omega) (by omega)]
    | false =>
      simp only [Bool.false_eq_true, if_false]
      rw [(g3 hz hs).1, (g3 hz hs).2]

theorem line_Split_f {t : Int} (k : Nat) (hk : 1 ≤ k) (h0 : -9223372036854775808 ≤ t) (h1 : t ≤ 9223372036854775807) : line_Split.f k t = some (if -4000000 ≤ t / 86400000 ∧ t / 86400000 ≤ 4000000 then (t / 86400000, t % 86400000, 0) else (0, 0, 3)) := by
  unfold line_Split.f
  rw [whole_Div_f k hk h0 h1 (by omega) (by omega), divs_pos (by omega)]
  simp only [Option.bind_some]
  rw [line_Check_f]
  simp only [Option.bind_some]
  by_cases h : -4000000 ≤ t / 86400000 ∧ t / 86400000 ≤ 4000000
  · rw [if_pos h, if_pos h, if_pos rfl]
  · rw [if_neg h, if_neg h, if_neg (by omega)]

theorem rule_Name_f (s : ByteArray) : rule_Name.f s = some (isName s) := by
  have e : rule_Name.all s.data.toList = letters s.data.toList := rfl
  unfold rule_Name.f isName noWord
  rw [e]
  congr 1
  by_cases h1 : (s.size : Int) < 1
  · rw [if_pos h1, decide_eq_false (show ¬ 1 ≤ s.size by omega)]; rfl
  rw [if_neg h1, decide_eq_true (show 1 ≤ s.size by omega)]
  by_cases h2 : (s.size : Int) > 12
  · rw [if_pos h2, decide_eq_false (show ¬ s.size ≤ 12 by omega)]; rfl
  rw [if_neg h2, decide_eq_true (show s.size ≤ 12 by omega)]
  by_cases c1 : s.toList = [121]
  · rw [if_pos c1]; simp [c1]
  rw [if_neg c1, bne_iff_ne.2 c1]
  by_cases c2 : s.toList = [97, 110, 100]
  · rw [if_pos c2]; simp [c2]
  rw [if_neg c2, bne_iff_ne.2 c2]
  by_cases c3 : s.toList = [111, 114]
  · rw [if_pos c3]; simp [c3]
  rw [if_neg c3, bne_iff_ne.2 c3]
  by_cases c4 : s.toList = [110, 111, 116]
  · rw [if_pos c4]; simp [c4]
  rw [if_neg c4, bne_iff_ne.2 c4]
  rfl

theorem zone_IsOffset_f (x : Int) : zone_IsOffset.f x = some (okOff x) := by
  unfold zone_IsOffset.f okOff
  rw [tmod_thousand]
  by_cases h1 : x ≥ (-64800000)
  · rw [if_pos h1]
    by_cases h2 : x ≤ 64800000
    · rw [if_pos h2]; congr 1
      by_cases c : x % 1000 = 0
      · rw [decide_eq_true c, decide_eq_true ⟨by omega, h2, c⟩]
      · rw [decide_eq_false c, decide_eq_false (fun h => c h.2.2)]
    · rw [if_neg h2, decide_eq_false (fun h => h2 h.2.1)]
  · rw [if_neg h1, decide_eq_false (fun h => h1 (by omega))]

theorem zone_IsLabel_f (s : ByteArray) : zone_IsLabel.f s = some (isLabel s) := by
  have e : zone_IsLabel.all s.data.toList = caps s.data.toList := rfl
  unfold zone_IsLabel.f isLabel
  rw [e]
  congr 1
  by_cases h1 : (s.size : Int) < 1
  · rw [if_pos h1, decide_eq_false (show ¬ (1 ≤ s.size ∧ s.size ≤ 6) by omega)]; rfl
  rw [if_neg h1]
  by_cases h2 : (s.size : Int) > 6
  · rw [if_pos h2, decide_eq_false (show ¬ (1 ≤ s.size ∧ s.size ≤ 6) by omega)]; rfl
  rw [if_neg h2, decide_eq_true (show 1 ≤ s.size ∧ s.size ≤ 6 by omega)]
  rfl

/-- A change whose instant or offset is out of range. -/
def znBad (c : S43) : Bool := !(decide (-4000000 ≤ c.f0 / 86400000 ∧ c.f0 / 86400000 ≤ 4000000) && okOff c.f1)
/-- The first fault of the changes from the i-th on (d of them). -/
def znErr (l : List S43) : Nat → Nat → Int
  | 0, _ => 0
  | d + 1, i => if znBad (l.getD i z43) = true then 3 else if isLabel (l.getD i z43).f2 = true then (if 0 < i ∧ (l.getD i z43).f0 ≤ (l.getD (i - 1) z43).f0 then 9 else znErr l d (i + 1)) else 8
/-- What both checks of a zone tell. -/
def znAll (s : ByteArray) (o : Int) (l : List S43) : Int := if isName s = true then (if okOff o = true then (if l.length ≤ 200 then znErr l l.length 0 else 2) else 3) else 5
/-- The instants are numbers that an int holds. -/
def znWf (l : List S43) : Prop := ∀ c ∈ l, -9223372036854775808 ≤ c.f0 ∧ c.f0 ≤ 9223372036854775807
theorem znWf_get {l : List S43} (h : znWf l) {i : Nat} (hi : i < l.length) : -9223372036854775808 ≤ (l.getD i z43).f0 ∧ (l.getD i z43).f0 ≤ 9223372036854775807 := by
  rw [List.getD_eq_getElem?_getD, List.getElem?_eq_getElem hi]
  exact h _ (List.getElem_mem hi)
theorem zn_split (b x : Bool) {α : Type} (u : α) (e : Int) (y : Int) (v : Option Int) (p : Prop) [Decidable p] (h : v = some y) :
    (if b = true then some (3 : Int) else if x = true then (if p then some 9 else v) else some 8) = some (if b = true then 3 else if x = true then (if p then 9 else y) else 8) := by
  subst h
  split
  · rfl
  · split
    · split
      · rfl
      · rfl
    · rfl

theorem zone_Check_j1 (l : List S43) (s : ByteArray) (o : Int) (hl : l.length ≤ 200) (i : Nat) (hi : i < l.length) (k : Nat) (t : Bool) (y : Int) (hy : zone_Check.l0 k l (l.length : Int) ((i + 1 : Nat) : Int) s o l = some y) :
    zone_Check.j1 (k + 1) (i : Int) l (l.length : Int) (i : Int) t s o l (l.getD i z43).f0 (l.getD i z43).f1 (l.getD i z43).f2
      = some (if t = true then 3 else if isLabel (l.getD i z43).f2 = true then (if 0 < i ∧ (l.getD i z43).f0 ≤ (l.getD (i - 1) z43).f0 then 9 else y) else 8) := by
  simp only [zone_Check.j1]
  by_cases h : t = true
  · rw [if_pos h, if_pos h]
  rw [if_neg h, if_neg h, zone_IsLabel_f, Option.bind_some]
  by_cases h2 : isLabel (l.getD i z43).f2 = true
  · rw [if_pos h2, if_pos h2, w64_id (n := (i : Int) + 1) (by omega) (by omega), show ((i : Int) + 1) = ((i + 1 : Nat) : Int) from by omega, hy]
    by_cases h3 : 0 < i
    · rw [if_pos (by omega), w64_id (n := (i : Int) - 1) (by omega) (by omega), if_pos (by omega), if_pos (by omega)]
      rw [show rd_T43 l ((i : Int) - 1) = l.getD (i - 1) z43 from by unfold rd_T43; rw [show ((i : Int) - 1).toNat = i - 1 by omega]]
      by_cases h4 : (l.getD i z43).f0 ≤ (l.getD (i - 1) z43).f0
      · rw [if_pos h4, if_pos ⟨h3, h4⟩]
      · rw [if_neg h4, if_neg (fun g => h4 g.2)]
    · rw [if_neg (by omega), if_neg (fun g => h3 g.1)]
  · rw [if_neg h2, if_neg h2]
theorem zone_Check_l0 (l : List S43) (s : ByteArray) (o : Int) (hl : l.length ≤ 200) (hw : znWf l) : ∀ (d i k : Nat), i + d = l.length → 2 * d + 5 < k → zone_Check.l0 k l (l.length : Int) (i : Int) s o l = some (znErr l d i) := by
  intro d
  induction d with
  | zero =>
    intro i k hi hk
    obtain ⟨k, rfl⟩ : ∃ m, k = m + 1 := ⟨k - 1, by omega⟩
    simp only [zone_Check.l0]
    rw [if_neg (by omega)]; rfl
  | succ d ih =>
    intro i k hi hk
    obtain ⟨k, rfl⟩ : ∃ m, k = m + 2 := ⟨k - 2, by omega⟩
    rw [show k + 2 = (k + 1) + 1 from rfl]
    simp only [zone_Check.l0]
    rw [if_pos (by omega), if_pos (by omega), if_pos (by omega), show rd_T43 l (i : Int) = l.getD i z43 from rfl]
    have hg := znWf_get hw (i := i) (by omega)
    have hj := fun t => zone_Check_j1 l s o hl i (by omega) k t _ (ih (i + 1) k (by omega) (by omega))
    unfold znErr
    rw [line_Split_f (k + 1) (by omega) hg.1 hg.2, Option.bind_some]
    by_cases c : -4000000 ≤ (l.getD i z43).f0 / 86400000 ∧ (l.getD i z43).f0 / 86400000 ≤ 4000000
    · rw [if_pos c, if_pos rfl, zone_IsOffset_f, Option.bind_some, hj]
      rw [show (!(okOff (l.getD i z43).f1)) = znBad (l.getD i z43) from by unfold znBad; rw [decide_eq_true c, Bool.true_and]]
    · rw [if_neg c, if_neg (by decide), hj]
      rw [show true = znBad (l.getD i z43) from by unfold znBad; rw [decide_eq_false c]; rfl]
theorem zone_Check_f (s : ByteArray) (o : Int) (l : List S43) (hw : znWf l) (k : Nat) (hk : 600 ≤ k) : zone_Check.f k s o l = some (znAll s o l) := by
  unfold zone_Check.f znAll
  rw [rule_Name_f, Option.bind_some]
  by_cases h1 : isName s = true
  · rw [if_pos h1, if_pos h1, zone_IsOffset_f, Option.bind_some]
    by_cases h2 : okOff o = true
    · rw [if_pos h2, if_pos h2]
      by_cases h3 : l.length ≤ 200
      · rw [if_neg (by omega), if_pos h3]
        exact zone_Check_l0 l s o h3 hw l.length 0 k (by omega) (by omega)
      · rw [if_pos (by omega), if_neg h3]
    · rw [if_neg h2, if_neg h2]
  · rw [if_neg h1, if_neg h1]

theorem line_Instant_f {x m : Int} : line_Instant.f x m = some (if -4000000 ≤ x ∧ x ≤ 4000000 then (if 0 ≤ m ∧ m ≤ 86399999 then (x * 86400000 + m, 0) else (0, 1)) else (0, 3)) := by
  unfold line_Instant.f
  rw [line_Check_f]
  simp only [Option.bind_some]
  by_cases h : -4000000 ≤ x ∧ x ≤ 4000000
  · rw [if_pos h, if_pos h, if_pos rfl]
    by_cases h1 : m < 0
    · rw [if_pos h1, if_neg (by omega)]
    rw [if_neg h1]
    by_cases h2 : m ≥ 86400000
    · rw [if_pos h2, if_neg (by omega)]
    rw [if_neg h2, if_pos (by omega), w64_id (n := x * 86400000) (by omega) (by omega), w64_id (by omega) (by omega)]
  · rw [if_neg h, if_neg h, if_neg (by omega)]

/-- Where an instant stands among the changes. -/
def IsPos (l : List S43) (t : Int) (r : Nat) : Prop := r ≤ l.length ∧ (∀ j, j < r → (l.getD j z43).f0 ≤ t) ∧ ∀ j, r ≤ j → j < l.length → t < (l.getD j z43).f0
/-- The changes are of a valid zone. -/
def ZnOk (l : List S43) : Prop := l.length ≤ 200 ∧ ∀ j, j < l.length → znBad (l.getD j z43) = false ∧ isLabel (l.getD j z43).f2 = true ∧ (0 < j → (l.getD (j - 1) z43).f0 < (l.getD j z43).f0)
theorem znErr_ok (l : List S43) : ∀ (d i : Nat), i + d = l.length → znErr l d i = 0 → ∀ j, i ≤ j → j < l.length → znBad (l.getD j z43) = false ∧ isLabel (l.getD j z43).f2 = true ∧ (0 < j → (l.getD (j - 1) z43).f0 < (l.getD j z43).f0)
  | 0, i, hi, _, j, h1, h2 => absurd h2 (by omega)
  | d + 1, i, hi, h, j, h1, h2 => by
    unfold znErr at h
    by_cases c1 : znBad (l.getD i z43) = true
    · rw [if_pos c1] at h; cases h
    rw [if_neg c1] at h
    by_cases c2 : isLabel (l.getD i z43).f2 = true
    · rw [if_pos c2] at h
      by_cases c3 : 0 < i ∧ (l.getD i z43).f0 ≤ (l.getD (i - 1) z43).f0
      · rw [if_pos c3] at h; cases h
      rw [if_neg c3] at h
      by_cases e : j = i
      · subst e
        exact ⟨by simpa using c1, c2, fun g => by omega⟩
      · exact znErr_ok l d (i + 1) (by omega) h j (by omega) h2
    · rw [if_neg c2] at h; cases h
theorem znAll_ok {s : ByteArray} {o : Int} {l : List S43} (h : znAll s o l = 0) : isName s = true ∧ okOff o = true ∧ ZnOk l := by
  unfold znAll at h
  by_cases h1 : isName s = true
  · rw [if_pos h1] at h
    by_cases h2 : okOff o = true
    · rw [if_pos h2] at h
      by_cases h3 : l.length ≤ 200
      · rw [if_pos h3] at h
        exact ⟨h1, h2, h3, fun j hj => znErr_ok l l.length 0 (by omega) h j (by omega) hj⟩
      · rw [if_neg h3] at h; cases h
    · rw [if_neg h2] at h; cases h
  · rw [if_neg h1] at h; cases h
theorem okOff_le {x : Int} (h : okOff x = true) : -64800000 ≤ x ∧ x ≤ 64800000 := by
  unfold okOff at h
  have := of_decide_eq_true h
  exact ⟨this.1, this.2.1⟩
theorem zn_rise {l : List S43} (h : ZnOk l) : ∀ (d i : Nat), i + d < l.length → (l.getD i z43).f0 ≤ (l.getD (i + d) z43).f0
  | 0, i, _ => Int.le_refl _
  | d + 1, i, hi => by
    have h1 := zn_rise h d i (by omega)
    have h2 := (h.2 (i + (d + 1)) hi).2.2 (by omega)
    rw [show i + (d + 1) - 1 = i + d from by omega] at h2
    omega
theorem zn_off {l : List S43} (h : ZnOk l) {j : Nat} (hj : j < l.length) : (-4000000 ≤ (l.getD j z43).f0 / 86400000 ∧ (l.getD j z43).f0 / 86400000 ≤ 4000000) ∧ -64800000 ≤ (l.getD j z43).f1 ∧ (l.getD j z43).f1 ≤ 64800000 := by
  have := (h.2 j hj).1
  unfold znBad at this
  rw [Bool.not_eq_false', Bool.and_eq_true] at this
  exact ⟨of_decide_eq_true this.1, okOff_le this.2⟩
/-- What is in force at the r-th place. -/
def atPos (o : Int) (l : List S43) (r : Nat) : Int × ByteArray := if 0 < r then ((l.getD (r - 1) z43).f1, (l.getD (r - 1) z43).f2) else (o, ⟨#[]⟩)
theorem atPos_le {o : Int} {l : List S43} {r : Nat} (ho : okOff o = true) (h : ZnOk l) (hr : r ≤ l.length) : -64800000 ≤ (atPos o l r).1 ∧ (atPos o l r).1 ≤ 64800000 := by
  unfold atPos
  split
  · exact (zn_off h (by omega)).2
  · exact okOff_le ho
/-- The error of an instant in a zone. -/
def znBegin (s : ByteArray) (o : Int) (l : List S43) (t : Int) : Int := if znAll s o l = 0 then (if -4000000 ≤ t / 86400000 ∧ t / 86400000 ≤ 4000000 then 0 else 3) else znAll s o l
theorem base_wf : znWf [(⟨0, 7200000, (⟨#[83, 85, 77]⟩ : ByteArray)⟩ : S43)] := by
  intro c hc
  rw [List.mem_singleton] at hc
  subst hc
  decide

/-- A local time's instant by the k-th offset. -/
def zIn (o : Int) (l : List S43) (T : Int) (k : Nat) (x : Int) : Prop := x = T - (atPos o l k).1 ∧ (-4000000 ≤ x / 86400000 ∧ x / 86400000 ≤ 4000000) ∧ IsPos l x k
theorem IsPos_iff {l : List S43} (hz : ZnOk l) (x : Int) (k : Nat) (hk : k ≤ l.length) : IsPos l x k ↔ (0 < k → (l.getD (k - 1) z43).f0 ≤ x) ∧ (k < l.length → x < (l.getD k z43).f0) := by
  constructor
  · intro h
    exact ⟨fun g => h.2.1 (k - 1) (by omega), fun g => h.2.2 k (Nat.le_refl _) g⟩
  · intro h
    refine ⟨hk, fun j hj => ?_, fun j h1 h2 => ?_⟩
    · have h3 := h.1 (by omega)
      have h4 := zn_rise hz (k - 1 - j) j (by omega)
      rw [show j + (k - 1 - j) = k - 1 from by omega] at h4
      omega
    · have h3 := h.2 (by omega)
      have h4 := zn_rise hz (j - k) k (by omega)
      rw [show k + (j - k) = j from by omega] at h4
      omega
/-- Two strictly rising lists with the same members are one. -/
theorem rising_ext : ∀ (a b : List Int), a.Pairwise (· < ·) → b.Pairwise (· < ·) → (∀ x, x ∈ a ↔ x ∈ b) → a = b
  | [], [], _, _, _ => rfl
  | [], y :: b, _, _, h => absurd ((h y).2 (List.mem_cons_self ..)) (by simp)
  | x :: a, [], _, _, h => absurd ((h x).1 (List.mem_cons_self ..)) (by simp)
  | x :: a, y :: b, ha, hb, h => by
    rw [List.pairwise_cons] at ha hb
    have hx := (h x).1 (List.mem_cons_self ..)
    have hy := (h y).2 (List.mem_cons_self ..)
    rw [List.mem_cons] at hx hy
    have e : x = y := by
      rcases hx with hx | hx
      · exact hx
      · rcases hy with hy | hy
        · exact hy.symm
        · have h1 := hb.1 x hx
          have h2 := ha.1 y hy
          omega
    subst e
    congr 1
    refine rising_ext a b ha.2 hb.2 (fun z => ?_)
    have hz := h z
    rw [List.mem_cons, List.mem_cons] at hz
    constructor
    · intro g
      rcases hz.1 (.inr g) with q | q
      · subst q; exact absurd (ha.1 _ g) (by omega)
      · exact q
    · intro g
      rcases hz.2 (.inr g) with q | q
      · subst q; exact absurd (hb.1 _ g) (by omega)
      · exact q
theorem IsPos_ex {l : List S43} (hz : ZnOk l) (x : Int) : ∃ r, IsPos l x r := by
  have go : ∀ (d i : Nat), i + d = l.length → (∀ j, j < i → (l.getD j z43).f0 ≤ x) → ∃ r, IsPos l x r := by
    intro d
    induction d with
    | zero => intro i hi h; exact ⟨i, by omega, h, fun j h1 h2 => absurd h2 (by omega)⟩
    | succ d ih =>
      intro i hi h
      by_cases c : x < (l.getD i z43).f0
      · refine ⟨i, by omega, h, fun j h1 h2 => ?_⟩
        have h4 := zn_rise hz (j - i) i (by omega)
        rw [show i + (j - i) = j from by omega] at h4
        omega
      · refine ih (i + 1) (by omega) (fun j hj => ?_)
        by_cases e : j = i
        · subst e; omega
        · exact h j (by omega)
  exact go l.length 0 (by omega) (fun j hj => absurd hj (by omega))

theorem zone_Instants_l0 (s : ByteArray) (o : Int) (l : List S43) (T : Int) (ho : okOff o = true) (hz : ZnOk l) (hT : -400000000000000 ≤ T ∧ T ≤ 400000000000000) : ∀ (d k f : Nat) (acc : List Int), k + d = l.length + 1 → 3 * d + 20 < f → acc.length ≤ k → acc.Pairwise (· < ·) → (∀ x, x ∈ acc ↔ ∃ q, q < k ∧ zIn o l T q x) →
    ∃ Z : List Int, zone_Instants.l0 f T acc (k : Int) s o l = some (Z, 0) ∧ Z.length ≤ l.length + 1 ∧ Z.Pairwise (· < ·) ∧ ∀ x, x ∈ Z ↔ ∃ q, q < l.length + 1 ∧ zIn o l T q x := by
  have h200 := hz.1
  intro d
  induction d with
  | zero =>
    intro k f acc hk hf hl hp hm
    obtain ⟨f, rfl⟩ : ∃ m, f = m + 1 := ⟨f - 1, by omega⟩
    obtain rfl : k = l.length + 1 := by omega
    refine ⟨acc, ?_, hl, hp, hm⟩
    simp only [zone_Instants.l0]
    rw [if_neg (by omega)]
  | succ d ih =>
    intro k f acc hk hf hl hp hm
    obtain ⟨f, rfl⟩ : ∃ m, f = m + 3 := ⟨f - 3, by omega⟩
    have hkl : k ≤ l.length := by omega
    have hoff := atPos_le (r := k) ho hz hkl
    obtain ⟨x, hx⟩ : ∃ x, x = T - (atPos o l k).1 := ⟨_, rfl⟩
    have hpos := IsPos_iff hz x k hkl
    -- the last step: the instant is taken or left out
    have hj2 : ∀ t : Bool, (t = false ↔ IsPos l x k) → ∃ Z : List Int, zone_Instants.j2 (f + 1) T acc (k : Int) x t s o l = some (Z, 0) ∧ Z.length ≤ l.length + 1 ∧ Z.Pairwise (· < ·) ∧ ∀ y, y ∈ Z ↔ ∃ q, q < l.length + 1 ∧ zIn o l T q y := by
      intro t ht
      simp only [zone_Instants.j2]
      have skip : ¬ zIn o l T k x → ∃ Z : List Int, zone_Instants.l0 f T acc (wrap64 ((k : Int) + 1)) s o l = some (Z, 0) ∧ Z.length ≤ l.length + 1 ∧ Z.Pairwise (· < ·) ∧ ∀ y, y ∈ Z ↔ ∃ q, q < l.length + 1 ∧ zIn o l T q y := by
        intro hno
        rw [w64_id (by omega) (by omega), show (k : Int) + 1 = ((k + 1 : Nat) : Int) from by omega]
        refine ih (k + 1) f acc (by omega) (by omega) (by omega) hp (fun y => ?_)
        rw [hm y]
        constructor
        · rintro ⟨q, h1, h2⟩; exact ⟨q, by omega, h2⟩
        · rintro ⟨q, h1, h2⟩
          by_cases e : q = k
          · subst e
            exact absurd (by have := h2.1; rw [← hx] at this; rw [← this]; exact h2) hno
          · exact ⟨q, by omega, h2⟩
      cases t with
      | true => rw [if_pos rfl]; exact skip (fun g => absurd (ht.2 g.2.2) (by decide))
      | false =>
        have hip := ht.1 rfl
        rw [if_neg (by decide), line_Split_f f (by omega) (by omega) (by omega), Option.bind_some]
        by_cases c : -4000000 ≤ x / 86400000 ∧ x / 86400000 ≤ 4000000
        · rw [if_pos c, if_pos rfl, if_pos (by omega), w64_id (by omega) (by omega), show (k : Int) + 1 = ((k + 1 : Nat) : Int) from by omega]
          refine ih (k + 1) f _ (by omega) (by omega) (by rw [List.length_append]; simp; omega) ?_ (fun y => ?_)
          · rw [List.pairwise_append]
            refine ⟨hp, List.pairwise_singleton _ _, fun y hy z hz' => ?_⟩
            rw [List.mem_singleton] at hz'
            subst hz'
            obtain ⟨q, h1, h2⟩ := (hm y).1 hy
            have h3 := h2.2.2.2.2 q (Nat.le_refl _) (by omega)
            have h4 := hip.2.1 q h1
            omega
          · rw [List.mem_append, List.mem_singleton, hm y]
            constructor
            · rintro (⟨q, h1, h2⟩ | h)
              · exact ⟨q, by omega, h2⟩
              · subst h; exact ⟨k, by omega, hx, c, hip⟩
            · rintro ⟨q, h1, h2⟩
              by_cases e : q = k
              · subst e; right; rw [hx]; exact h2.1
              · exact .inl ⟨q, by omega, h2⟩
        · rw [if_neg c, if_neg (by decide)]
          exact skip (fun g => c g.2.1)
    have hj1 : ∃ Z : List Int, zone_Instants.j1 (f + 2) T acc (k : Int) (atPos o l k).1 s o l = some (Z, 0) ∧ Z.length ≤ l.length + 1 ∧ Z.Pairwise (· < ·) ∧ ∀ y, y ∈ Z ↔ ∃ q, q < l.length + 1 ∧ zIn o l T q y := by
      rw [show f + 2 = (f + 1) + 1 from rfl]
      simp only [zone_Instants.j1]
      rw [w64_id (n := T - (atPos o l k).1) (by omega) (by omega), ← hx]
      have tail : ∀ (hlow : 0 < k → (l.getD (k - 1) z43).f0 ≤ x), ∃ Z : List Int, (if (k : Int) < (l.length : Int) then (if 0 ≤ (k : Int) then (zone_Instants.j2 (f + 1) T acc (k : Int) x (decide (x ≥ (rd_T43 l (k : Int)).f0)) s o l) else none) else (zone_Instants.j2 (f + 1) T acc (k : Int) x false s o l)) = some (Z, 0) ∧ Z.length ≤ l.length + 1 ∧ Z.Pairwise (· < ·) ∧ ∀ y, y ∈ Z ↔ ∃ q, q < l.length + 1 ∧ zIn o l T q y := by
        intro hlow
        by_cases c : k < l.length
        · rw [if_pos (by omega), if_pos (by omega), show rd_T43 l (k : Int) = l.getD k z43 from rfl]
          refine hj2 _ ?_
          rw [hpos, decide_eq_false_iff_not]
          constructor
          · intro g; exact ⟨hlow, fun _ => by omega⟩
          · intro g; have := g.2 c; omega
        · rw [if_neg (by omega)]
          exact hj2 _ ⟨fun _ => hpos.2 ⟨hlow, fun g => absurd g c⟩, fun _ => rfl⟩
      by_cases c : 0 < k
      · rw [if_pos (by omega), w64_id (n := (k : Int) - 1) (by omega) (by omega), if_pos (by omega), if_pos (by omega), show rd_T43 l ((k : Int) - 1) = l.getD (k - 1) z43 from by unfold rd_T43; rw [show ((k : Int) - 1).toNat = k - 1 by omega]]
        by_cases c2 : x < (l.getD (k - 1) z43).f0
        · rw [if_pos c2]
          exact hj2 _ ⟨fun g => absurd g (by decide), fun g => absurd ((hpos.1 g).1 c) (by omega)⟩
        · rw [if_neg c2]
          exact tail (fun _ => by omega)
      · rw [if_neg (by omega)]
        exact tail (fun g => absurd g c)
    rw [show f + 3 = (f + 2) + 1 from rfl]
    simp only [zone_Instants.l0]
    rw [if_pos (by omega)]
    by_cases c : 0 < k
    · rw [if_pos (by omega), w64_id (n := (k : Int) - 1) (by omega) (by omega), if_pos (by omega), if_pos (by omega), show (rd_T43 l ((k : Int) - 1)).f1 = (atPos o l k).1 from by unfold atPos rd_T43; rw [if_pos c, show ((k : Int) - 1).toNat = k - 1 by omega]]
      exact hj1
    · rw [if_neg (by omega)]
      have : (atPos o l k).1 = o := by unfold atPos; rw [if_neg c]
      rw [this] at hj1
      exact hj1

theorem zone_One_of {Z : List Int} {k : Nat} {s : ByteArray} {o : Int} {l : List S43} {day ms : Int} (h : zone_Instants.f k s o l day ms = some (Z, 0)) : zone_One.f k s o l day ms = some (if Z.length = 0 then (0, 15) else if 1 < Z.length then (0, 16) else (rd Z 0, 0)) := by
  unfold zone_One.f
  rw [h, Option.bind_some, if_pos rfl]
  by_cases c : Z.length = 0
  · rw [if_pos (show (Z.length : Int) = 0 by omega), if_pos c]
  rw [if_neg (show ¬ (Z.length : Int) = 0 by omega), if_neg c]
  by_cases c1 : 1 < Z.length
  · rw [if_pos (show (Z.length : Int) > 1 by omega), if_pos c1]
  rw [if_neg (show ¬ (Z.length : Int) > 1 by omega), if_neg c1, if_pos (show 0 < (Z.length : Int) by omega)]
theorem zone_One_bad {Z : List Int} {e : Int} (he : e ≠ 0) {k : Nat} {s : ByteArray} {o : Int} {l : List S43} {day ms : Int} (h : zone_Instants.f k s o l day ms = some (Z, e)) : zone_One.f k s o l day ms = some (0, e) := by
  unfold zone_One.f
  rw [h, Option.bind_some, if_neg he]

theorem ephemerisref1_In_f (x lo hi : Int) : ephemerisref1_In.f x lo hi = some (decide (lo ≤ x ∧ x ≤ hi)) := by
  unfold ephemerisref1_In.f
  by_cases h : x ≥ lo
  · rw [if_pos h]; congr 1; simp; omega
  · rw [if_neg h]; congr 1; simp; omega

theorem ephemerisref1_Day_f (x : Int) : ephemerisref1_Day.f x = some (decide (-4000000 ≤ x ∧ x ≤ 4000000)) := by
  unfold ephemerisref1_Day.f
  rw [ephemerisref1_In_f]; rfl

theorem ephemerisref1_Size_f {a : Int} (h0 : -9223372036854775808 ≤ a) (h1 : a ≤ 9223372036854775807) : ephemerisref1_Size.f a = some (ab a) := by
  unfold ephemerisref1_Size.f ab
  by_cases c : a < 0
  · rw [if_pos c, if_pos c, w64_id (n := a + 1) (by omega) (by omega), w64_id (n := -(a + 1)) (by omega) (by omega), u64_id (n := -(a + 1)) (by omega) (by omega), u64_id (by omega) (by omega)]
    congr 1; omega
  · rw [if_neg c, if_neg c, u64_id (by omega) (by omega)]

theorem ephemerisref1_Div_l0 (X Y : Int) (hX : 0 ≤ X) (hX1 : X < 18446744073709551616) (hY : 0 < Y) (hY1 : Y ≤ 9223372036854775808) :
    ∀ (n k : Nat), n ≤ 64 → n < k → ephemerisref1_Div.l0 k X Y (X / 2 ^ n / Y * 2 ^ n) (X / 2 ^ n % Y) ((n : Int) - 1) = some (X / Y, X % Y) := by
  intro n
  induction n with
  | zero =>
    intro k _ hk
    obtain ⟨k, rfl⟩ : ∃ m, k = m + 1 := ⟨k - 1, by omega⟩
    simp only [ephemerisref1_Div.l0]
    rw [if_neg (by omega)]
    simp
  | succ n ih =>
    intro k hn hk
    obtain ⟨k, rfl⟩ : ∃ m, k = m + 1 := ⟨k - 1, by omega⟩
    have ih := ih k (by omega) (by omega)
    have hhp := half_pow X n
    have hpow : (2 : Int) ^ (n + 1) = 2 * 2 ^ n := by rw [Int.pow_succ, Int.mul_comm]
    have hpp := pow_pos' n
    have hp63 := pow_le_63 n (by omega)
    have hd1 := div_pow_le X Y (n + 1) hX hY
    have hd0 := div_pow_le X Y n hX hY
    have hz : 0 ≤ X / 2 ^ n := Int.ediv_nonneg hX (by omega)
    obtain ⟨s1, s2⟩ := long_step (X / 2 ^ n) Y hz hY
    rw [← hhp] at s1 s2
    have r0 := Int.emod_nonneg (X / 2 ^ (n + 1)) (b := Y) (by omega)
    have r1 := Int.emod_lt_of_pos (X / 2 ^ (n + 1)) hY
    have hshr : shr .u64 X ((n : Int) + 1 - 1) = X / 2 ^ n := by
      rw [show (n : Int) + 1 - 1 = n from by omega]; exact shr_pow X n (by omega)
    have hshl : shl .u64 1 ((n : Int) + 1 - 1) = 2 ^ n := by
      rw [show (n : Int) + 1 - 1 = n from by omega]; exact shl_one n (by omega)
    have hzx : X / 2 ^ n ≤ X := Int.ediv_le_self _ hX
    have hmod : (X / 2 ^ (n + 1) / Y * 2 ^ (n + 1)) % 2 ^ (n + 1) = 0 := Int.mul_emod_left _ _
    have hor : Go.bits .or .u64 (X / 2 ^ (n + 1) / Y * 2 ^ (n + 1)) (2 ^ n) = X / 2 ^ (n + 1) / Y * 2 ^ (n + 1) + 2 ^ n :=
      or_join (n + 1) _ _ hd1.1 (by omega) hmod (by omega) (by omega) (by omega)
    have q2 : X / 2 ^ (n + 1) / Y * 2 ^ (n + 1) = 2 * (X / 2 ^ (n + 1) / Y) * 2 ^ n := by
      rw [hpow, Int.mul_comm 2 (X / (2 * 2 ^ n) / Y), Int.mul_assoc]
    generalize hR : X / 2 ^ (n + 1) % Y = R at *
    generalize hQ : X / 2 ^ (n + 1) / Y * 2 ^ (n + 1) = Q at *
    simp only [ephemerisref1_Div.l0]
    rw [show (((n + 1 : Nat) : Int) - 1) = (n : Int) + 1 - 1 from by omega]
    rw [if_pos (by omega), hshr, hshl, hor, w64_id (n := (n : Int) + 1 - 1 - 1) (by omega) (by omega), show (n : Int) + 1 - 1 - 1 = (n : Int) - 1 from by omega]
    rw [Go.Proofs.YtolhlaadhfilnaaDoor.M.and_one _ hz (by omega), u64_id (n := R * 2) (by omega) (by omega)]
    have hbit := Int.emod_nonneg (X / 2 ^ n) (b := 2) (by omega)
    have hbit1 := Int.emod_lt_of_pos (X / 2 ^ n) (b := 2) (by omega)
    rw [or_join 1 (R * 2) _ (by omega) (by omega) (by simp only [Int.reducePow]; omega) hbit (by simp only [Int.reducePow]; omega) (by omega)]
    rw [if_neg (by omega)]
    rw [show R * 2 + X / 2 ^ n % 2 = 2 * R + X / 2 ^ n % 2 from by omega]
    by_cases c : Y ≤ 2 * R + X / 2 ^ n % 2
    · rw [if_pos c, u64_id (by omega) (by omega)]
      have e := s1 c
      rw [e.1, e.2, Int.add_mul, Int.one_mul, ← q2] at ih
      exact ih
    · rw [if_neg c]
      have e := s2 c
      rw [e.1, e.2, ← q2] at ih
      exact ih
theorem ephemerisref1_Div_f {a b : Int} (k : Nat) (hk : 65 ≤ k) (ha : -9223372036854775808 ≤ a) (ha1 : a ≤ 9223372036854775807) (hb : -9223372036854775808 ≤ b) (hb1 : b ≤ 9223372036854775807) : ephemerisref1_Div.f k a b = some (divs a b) := by
  unfold ephemerisref1_Div.f
  by_cases c : b = 0
  · rw [if_pos c]; unfold divs; rw [if_pos c]
  rw [if_neg c, ephemerisref1_Size_f ha ha1, ephemerisref1_Size_f hb hb1]
  simp only [Option.bind_some]
  have hX := ab_nonneg a
  have hX1 := ab_le ha ha1
  have hY1 := ab_le hb hb1
  have hY : 0 < ab b := by unfold ab; split <;> omega
  have h64 := ephemerisref1_Div_l0 (ab a) (ab b) hX (by omega) hY hY1 64 k (by omega) (by omega)
  have hz : ab a / 2 ^ 64 = 0 := Int.ediv_eq_zero_of_lt hX (by simp only [Int.reducePow]; omega)
  rw [hz] at h64
  simp only [Int.zero_ediv, Int.zero_mul, Int.zero_emod] at h64
  rw [show (((64 : Nat) : Int) - 1) = 63 from by omega] at h64
  rw [h64]
  simp only [Option.bind_some, Option.some.injEq]
  have h1 := Int.mul_ediv_add_emod (ab a) (ab b)
  have h2 := Int.emod_nonneg (ab a) (b := ab b) (by omega)
  have h3 := Int.emod_lt_of_pos (ab a) hY
  have h4 : ab a / ab b ≤ ab a := Int.ediv_le_self _ hX
  have h5 : 0 ≤ ab a / ab b := Int.ediv_nonneg hX (by omega)
  have h6 : 2 ≤ ab b → ab a / ab b ≤ 4611686018427387904 := fun h => by
    have : ab a / ab b ≤ ab a / 2 := by
      have := Int.ediv_le_ediv (c := 2) (by omega) (a := ab a / ab b * 2) (b := ab a) (by
        have : ab a / ab b * 2 ≤ ab a / ab b * ab b := Int.mul_le_mul_of_nonneg_left h h5
        rw [Int.mul_comm (ab b)] at h1
        omega)
      omega
    omega
  have h7 : ab b = 1 → ab a / ab b = ab a ∧ ab a % ab b = 0 := fun h => by rw [h]; omega
  have uniq : ∀ {q r : Int}, a = b * q + r → (0 < b → 0 ≤ r ∧ r < b) → (b < 0 → b < r ∧ r ≤ 0) → ¬ (a = -9223372036854775808 ∧ b = -1) → divs a b = (q, r, 0) := by
    intro q r e1 e2 e3 e4
    have := fd_uniq e1 e2 e3 c
    unfold divs
    rw [if_neg c, if_neg e4, this.1, this.2]
  generalize hq : ab a / ab b = q at *
  generalize hr : ab a % ab b = r at *
  clear h64 hz
  have eY : ∀ s : Int, (-(ab b)) * s = -(ab b * s) := fun s => by rw [Int.neg_mul]
  by_cases sa : a < 0 <;> by_cases sb : b < 0
  · have xa : a = -(ab a) := by unfold ab; rw [if_pos sa]; omega
    have xb : b = -(ab b) := by unfold ab; rw [if_pos sb]; omega
    simp only [ephemerisref1_Div.e0, ephemerisref1_Div.e1, sa, sb, decide_true, bne_self_eq_false, Bool.false_eq_true, false_and, if_false, true_and, if_true]
    by_cases c2 : q > 9223372036854775807
    · rw [if_pos c2]
      unfold divs
      have : ab b = 1 := by
        by_cases h : 2 ≤ ab b
        · have := h6 h; omega
        · omega
      rw [if_neg c, if_pos (by omega)]
    · rw [if_neg c2, w64_id (by omega) (by omega), u64_def, w64_def]
      rw [uniq (q := q) (r := -r) (by rw [xb, eY]; omega) (by omega) (by omega) (fun h => by have := h7 (by omega); omega)]
      congr 2; omega
  · have xa : a = -(ab a) := by unfold ab; rw [if_pos sa]; omega
    have xb : b = ab b := by unfold ab; rw [if_neg sb]
    simp only [ephemerisref1_Div.e0, ephemerisref1_Div.e1, sa, sb, decide_true, decide_false, Bool.bne_false, Bool.false_eq_true, true_and, if_true, Bool.true_eq_false, false_and, if_false]
    by_cases c2 : r = 0
    · rw [if_neg (fun h => h c2), u64_def, w64_def, w64_id (by omega) (by omega)]
      rw [uniq (q := -q) (r := 0) (by rw [xb, Int.mul_neg]; omega) (by omega) (by omega) (by omega)]
      rw [c2]
      congr 1; omega
    · rw [if_pos c2, u64_id (n := q + 1) (by omega) (by omega), u64_id (n := ab b - r) (by omega) (by omega), u64_def, w64_def, w64_id (by omega) (by omega)]
      have : q ≤ 9223372036854775807 := by
        by_cases h : 2 ≤ ab b
        · have := h6 h; omega
        · have := h7 (by omega); omega
      have eb : b * q = ab b * q := by rw [← xb]
      rw [uniq (q := -(q + 1)) (r := ab b - r) (by rw [Int.mul_neg, Int.mul_add, Int.mul_one, eb]; omega) (by omega) (by omega) (by omega)]
      congr 1; omega
  · have xa : a = ab a := by unfold ab; rw [if_neg sa]
    have xb : b = -(ab b) := by unfold ab; rw [if_pos sb]; omega
    simp only [ephemerisref1_Div.e0, ephemerisref1_Div.e1, sa, sb, decide_true, decide_false, Bool.bne_true, Bool.not_false, Bool.false_eq_true, true_and, if_true, Bool.true_eq_false, false_and, if_false]
    by_cases c2 : r = 0
    · rw [if_neg (fun h => h c2), u64_def, w64_def, u64_def, w64_def]
      rw [uniq (q := -q) (r := 0) (by rw [xb, eY, Int.mul_neg]; omega) (by omega) (by omega) (by omega)]
      rw [c2]
      congr 1
      omega
    · rw [if_pos c2, u64_id (n := q + 1) (by omega) (by omega), u64_id (n := ab b - r) (by omega) (by omega), u64_def, w64_def, u64_def, w64_def]
      have eb := eY q
      rw [← xb] at eb
      rw [uniq (q := -(q + 1)) (r := -(ab b - r)) (by rw [Int.mul_neg, Int.mul_add, Int.mul_one, eb]; omega) (by omega) (by omega) (by omega)]
      congr 1
      · omega
      · congr 1; omega
  · have xa : a = ab a := by unfold ab; rw [if_neg sa]
    have xb : b = ab b := by unfold ab; rw [if_neg sb]
    simp only [ephemerisref1_Div.e0, ephemerisref1_Div.e1, sa, sb, decide_false, bne_self_eq_false, Bool.false_eq_true, false_and, if_false, true_and]
    rw [if_neg (by omega), w64_id (by omega) (by omega), w64_id (by omega) (by omega)]
    rw [uniq (q := q) (r := r) (by rw [xb]; omega) (by omega) (by omega) (by omega)]

theorem ephemerisref1_Floor_f {a b : Int} (k : Nat) (hk : 65 ≤ k) (ha : -9223372036854775808 ≤ a) (ha1 : a ≤ 9223372036854775807) (hb : 0 < b) (hb1 : b ≤ 9223372036854775807) : ephemerisref1_Floor.f k a b = some (a / b) := by
  unfold ephemerisref1_Floor.f
  rw [ephemerisref1_Div_f k hk ha ha1 (by omega) hb1, divs_pos hb]
  rfl

theorem ephemerisref1_Instant_f {t : Int} (k : Nat) (hk : 65 ≤ k) (h0 : -9223372036854775808 ≤ t) (h1 : t ≤ 9223372036854775807) : ephemerisref1_Instant.f k t = some (decide (-4000000 ≤ t / 86400000 ∧ t / 86400000 ≤ 4000000)) := by
  unfold ephemerisref1_Instant.f
  rw [ephemerisref1_Floor_f k hk h0 h1 (by omega) (by omega)]
  simp only [Option.bind_some]
  rw [ephemerisref1_Day_f]; rfl

theorem ephemerisref1_Name_l0 (s : ByteArray) (hs : s.size ≤ 12) : ∀ (d i k : Nat), i + d = s.size → d < k →
    ephemerisref1_Name.l0 k s (s.size : Int) (i : Int) = some (noWord s && letters (s.data.toList.drop i)) := by
  intro d
  induction d with
  | zero =>
    intro i k hi hk
    obtain ⟨k, rfl⟩ : ∃ m, k = m + 1 := ⟨k - 1, by omega⟩
    obtain rfl : i = s.size := by omega
    simp only [ephemerisref1_Name.l0]
    rw [if_neg (by omega), letters_end, Bool.and_true]
    unfold noWord
    by_cases c1 : s.toList = [121]
    · rw [if_pos c1]; simp [c1]
    rw [if_neg c1, bne_iff_ne.2 c1]
    by_cases c2 : s.toList = [97, 110, 100]
    · rw [if_pos c2]; simp [c2]
    rw [if_neg c2, bne_iff_ne.2 c2]
    by_cases c3 : s.toList = [111, 114]
    · rw [if_pos c3]; simp [c3]
    rw [if_neg c3, bne_iff_ne.2 c3]
    rfl
  | succ d ih =>
    intro i k hi hk
    obtain ⟨k, rfl⟩ : ∃ m, k = m + 1 := ⟨k - 1, by omega⟩
    simp only [ephemerisref1_Name.l0]
    rw [if_pos (by omega), if_pos (by omega), if_pos (by omega), letters_cons s i (by omega)]
    by_cases c1 : bt s i < 97
    · rw [if_pos c1, decide_eq_false (show ¬ 97 ≤ bt s i by omega)]; simp
    rw [if_neg c1, decide_eq_true (show 97 ≤ bt s i by omega)]
    by_cases c2 : bt s i > 122
    · rw [if_pos c2, decide_eq_false (show ¬ bt s i ≤ 122 by omega)]; simp
    rw [if_neg c2, decide_eq_true (show bt s i ≤ 122 by omega), w64_id (by omega) (by omega)]
    have := ih (i + 1) k (by omega) (by omega)
    rw [show ((i + 1 : Nat) : Int) = (i : Int) + 1 from by omega] at this
    rw [this]; simp
theorem ephemerisref1_Name_f (s : ByteArray) (k : Nat) (hk : 20 ≤ k) : ephemerisref1_Name.f k s = some (isName s) := by
  obtain ⟨k, rfl⟩ : ∃ m, k = m + 1 := ⟨k - 1, by omega⟩
  unfold ephemerisref1_Name.f isName
  by_cases h1 : s.toList = []
  · rw [if_pos h1, decide_eq_false (show ¬ 1 ≤ s.size by have := (toList_nil s).1 h1; omega)]
    simp [ephemerisref1_Name.j0]
  have h1' : ¬ s.size = 0 := fun h => h1 ((toList_nil s).2 h)
  rw [if_neg h1, decide_eq_true (show 1 ≤ s.size by omega)]
  simp only [ephemerisref1_Name.j0, decide_eq_true_eq]
  by_cases h2 : (s.size : Int) > 12
  · rw [if_pos h2, decide_eq_false (show ¬ s.size ≤ 12 by omega)]; rfl
  rw [if_neg h2, decide_eq_true (show s.size ≤ 12 by omega)]
  exact ephemerisref1_Name_l0 s (by omega) s.size 0 k (by omega) (by omega)

theorem ephemerisref1_Mod_f {a b : Int} (k : Nat) (hk : 65 ≤ k) (ha : -9223372036854775808 ≤ a) (ha1 : a ≤ 9223372036854775807) (hb : 0 < b) (hb1 : b ≤ 9223372036854775807) : ephemerisref1_Mod.f k a b = some (a % b) := by
  unfold ephemerisref1_Mod.f
  rw [ephemerisref1_Div_f k hk ha ha1 (by omega) hb1, divs_pos hb]
  rfl

theorem ephemerisref1_Offset_f (x : Int) (k : Nat) (hk : 65 ≤ k) : ephemerisref1_Offset.f k x = some (okOff x) := by
  unfold ephemerisref1_Offset.f okOff
  rw [ephemerisref1_In_f, Option.bind_some]
  by_cases h : -64800000 ≤ x ∧ x ≤ 64800000
  · rw [decide_eq_true h, if_pos rfl, ephemerisref1_Mod_f k hk (by omega) (by omega) (by omega) (by omega), Option.bind_some]
    congr 1
    by_cases c : x % 1000 = 0
    · rw [decide_eq_true ⟨h.1, h.2, c⟩, c]; rfl
    · rw [decide_eq_false (fun g => c g.2.2)]; simpa using c
  · rw [decide_eq_false h, if_neg (by decide), decide_eq_false (fun g => h ⟨g.1, g.2.1⟩)]

theorem ephemerisref1_Label_f (s : ByteArray) : ephemerisref1_Label.f s = some (isLabel s) := by
  unfold ephemerisref1_Label.f isLabel
  rw [ephemerisref1_In_f, Option.bind_some]
  by_cases h : 1 ≤ s.size ∧ s.size ≤ 6
  · rw [decide_eq_true (show (1 : Int) ≤ (s.size : Int) ∧ (s.size : Int) ≤ 6 by omega), if_pos rfl, decide_eq_true h]
    unfold strings_Trim.f
    rw [if_pos ⟨by omega, by decide, by decide⟩, Option.bind_some]
    congr 1
    rw [Bool.true_and, toList_data]
    show (Go.Lib.trimS s.data.toList abc == []) = caps s.data.toList
    by_cases c : caps s.data.toList = true
    · rw [c, (trim_caps _).2 c]; rfl
    · rw [Bool.not_eq_true] at c
      rw [c, beq_eq_false_iff_ne]
      intro e
      rw [(trim_caps _).1 e] at c
      cases c
  · rw [decide_eq_false (show ¬ ((1 : Int) ≤ (s.size : Int) ∧ (s.size : Int) ≤ 6) by omega), if_neg (by decide), decide_eq_false h]; rfl

theorem ephemerisref1_ZoneError_j1 (l : List S43) (s : ByteArray) (o : Int) (hl : l.length ≤ 200) (i : Nat) (hi : i < l.length) (k : Nat) (t : Bool) (y : Int) (hy : ephemerisref1_ZoneError.l0 k l (l.length : Int) ((i + 1 : Nat) : Int) s o l = some y) :
    ephemerisref1_ZoneError.j1 (k + 1) (i : Int) l (l.length : Int) (i : Int) t s o l (l.getD i z43).f0 (l.getD i z43).f1 (l.getD i z43).f2
      = some (if t = true then 3 else if isLabel (l.getD i z43).f2 = true then (if 0 < i ∧ (l.getD i z43).f0 ≤ (l.getD (i - 1) z43).f0 then 9 else y) else 8) := by
  simp only [ephemerisref1_ZoneError.j1]
  by_cases h : t = true
  · rw [if_pos h, if_pos h]
  rw [if_neg h, if_neg h, ephemerisref1_Label_f, Option.bind_some]
  by_cases h2 : isLabel (l.getD i z43).f2 = true
  · rw [if_pos h2, if_pos h2, w64_id (n := (i : Int) + 1) (by omega) (by omega), show ((i : Int) + 1) = ((i + 1 : Nat) : Int) from by omega, hy]
    by_cases h3 : 0 < i
    · rw [if_pos (by omega), w64_id (n := (i : Int) - 1) (by omega) (by omega), if_pos (by omega), if_pos (by omega)]
      rw [show rd_T43 l ((i : Int) - 1) = l.getD (i - 1) z43 from by unfold rd_T43; rw [show ((i : Int) - 1).toNat = i - 1 by omega]]
      by_cases h4 : (l.getD i z43).f0 ≤ (l.getD (i - 1) z43).f0
      · rw [if_pos (show _ ≥ _ from h4), if_pos ⟨h3, h4⟩]
      · rw [if_neg (show ¬ _ ≥ _ from h4), if_neg (fun g => h4 g.2)]
    · rw [if_neg (by omega), if_neg (fun g => h3 g.1)]
  · rw [if_neg h2, if_neg h2]
theorem ephemerisref1_ZoneError_l0 (l : List S43) (s : ByteArray) (o : Int) (hl : l.length ≤ 200) (hw : znWf l) : ∀ (d i k : Nat), i + d = l.length → 2 * d + 70 < k → ephemerisref1_ZoneError.l0 k l (l.length : Int) (i : Int) s o l = some (znErr l d i) := by
  intro d
  induction d with
  | zero =>
    intro i k hi hk
    obtain ⟨k, rfl⟩ : ∃ m, k = m + 1 := ⟨k - 1, by omega⟩
    simp only [ephemerisref1_ZoneError.l0]
    rw [if_neg (by omega)]; rfl
  | succ d ih =>
    intro i k hi hk
    obtain ⟨k, rfl⟩ : ∃ m, k = m + 2 := ⟨k - 2, by omega⟩
    rw [show k + 2 = (k + 1) + 1 from rfl]
    simp only [ephemerisref1_ZoneError.l0]
    rw [if_pos (by omega), if_pos (by omega), if_pos (by omega), show rd_T43 l (i : Int) = l.getD i z43 from rfl]
    have hg := znWf_get hw (i := i) (by omega)
    have hj := fun t => ephemerisref1_ZoneError_j1 l s o hl i (by omega) k t _ (ih (i + 1) k (by omega) (by omega))
    unfold znErr
    rw [ephemerisref1_Instant_f (k + 1) (by omega) hg.1 hg.2, Option.bind_some]
    by_cases c : -4000000 ≤ (l.getD i z43).f0 / 86400000 ∧ (l.getD i z43).f0 / 86400000 ≤ 4000000
    · rw [decide_eq_true c, if_pos rfl, ephemerisref1_Offset_f _ (k + 1) (by omega), Option.bind_some, hj]
      rw [show (!(okOff (l.getD i z43).f1)) = znBad (l.getD i z43) from by unfold znBad; rw [decide_eq_true c, Bool.true_and]]
    · rw [decide_eq_false c, if_neg (by decide), hj]
      rw [show (true : Bool) = znBad (l.getD i z43) from by unfold znBad; rw [decide_eq_false c]; rfl]
theorem ephemerisref1_ZoneError_f (s : ByteArray) (o : Int) (l : List S43) (hw : znWf l) (k : Nat) (hk : 600 ≤ k) : ephemerisref1_ZoneError.f k s o l = some (znAll s o l) := by
  unfold ephemerisref1_ZoneError.f znAll
  rw [ephemerisref1_Name_f _ k (by omega), Option.bind_some]
  by_cases h1 : isName s = true
  · rw [if_pos h1, if_pos h1, ephemerisref1_Offset_f _ k (by omega), Option.bind_some]
    by_cases h2 : okOff o = true
    · rw [if_pos h2, if_pos h2]
      by_cases h3 : l.length ≤ 200
      · rw [if_neg (by omega), if_pos h3]
        exact ephemerisref1_ZoneError_l0 l s o h3 hw l.length 0 k (by omega) (by omega)
      · rw [if_pos (by omega), if_neg h3]
    · rw [if_neg h2, if_neg h2]
  · rw [if_neg h1, if_neg h1]

theorem ephemerisref1_OffsetAt_l0 (l : List S43) (t : Int) (r : Nat) (hl : l.length ≤ 200) (hr : IsPos l t r) : ∀ (d i k : Nat) (o : Int) (b : ByteArray), i + d = l.length → d < k →
    ephemerisref1_OffsetAt.l0 k t o b l (l.length : Int) (i : Int) = some (if i < r then ((l.getD (r - 1) z43).f1, (l.getD (r - 1) z43).f2) else (o, b)) := by
  obtain ⟨h1, h2, h3⟩ := hr
  intro d
  induction d with
  | zero =>
    intro i k o b hi hk
    obtain ⟨k, rfl⟩ : ∃ m, k = m + 1 := ⟨k - 1, by omega⟩
    simp only [ephemerisref1_OffsetAt.l0]
    rw [if_neg (by omega), if_neg (by omega)]
  | succ d ih =>
    intro i k o b hi hk
    obtain ⟨k, rfl⟩ : ∃ m, k = m + 1 := ⟨k - 1, by omega⟩
    simp only [ephemerisref1_OffsetAt.l0]
    rw [if_pos (by omega), if_pos (by omega), if_pos (by omega), show rd_T43 l (i : Int) = l.getD i z43 from rfl, w64_id (n := (i : Int) + 1) (by omega) (by omega), show (i : Int) + 1 = ((i + 1 : Nat) : Int) from by omega, ih (i + 1) k _ _ (by omega) (by omega), ih (i + 1) k _ _ (by omega) (by omega)]
    by_cases c : i < r
    · rw [if_pos (h2 i c), if_pos c]
      by_cases c2 : i + 1 < r
      · rw [if_pos c2]
      · rw [if_neg c2]
        obtain rfl : r = i + 1 := by omega
        rfl
    · have := h3 i (by omega) (by omega)
      rw [if_neg (by omega), if_neg c, if_neg (by omega)]
theorem ephemerisref1_OffsetAt_f (s : ByteArray) (o : Int) (l : List S43) (t : Int) (r : Nat) (hl : l.length ≤ 200) (hr : IsPos l t r) (k : Nat) (hk : 201 ≤ k) : ephemerisref1_OffsetAt.f k s o l t = some (atPos o l r) :=
  ephemerisref1_OffsetAt_l0 l t r hl hr l.length 0 k o _ (by omega) (by omega)

/-- The offsets: of the zone's beginning, then of each change. -/
def offsL (o : Int) (l : List S43) (n : Nat) : List Int := (List.range n).map fun j => (atPos o l j).1
theorem offsL_len (o : Int) (l : List S43) (n : Nat) : (offsL o l n).length = n := by unfold offsL; simp
theorem offsL_rd (o : Int) (l : List S43) (n j : Nat) (h : j < n) : rd (offsL o l n) (j : Int) = (atPos o l j).1 := by
  unfold rd offsL
  rw [List.getD_eq_getElem?_getD, Int.toNat_natCast, List.getElem?_map, List.getElem?_range h]
  rfl
theorem LocalInstants_l0 (s : ByteArray) (o : Int) (l : List S43) (T : Int) (hl : l.length ≤ 200) : ∀ (d i f : Nat), i + d = l.length →
    ephemerisref1_LocalInstants.l0 (f + d + 1) T (offsL o l (i + 1)) l (l.length : Int) (i : Int) s o l = ephemerisref1_LocalInstants.l1 f T [] (offsL o l (l.length + 1)) ((l.length + 1 : Nat) : Int) 0 s o l := by
  intro d
  induction d with
  | zero =>
    intro i f hi
    obtain rfl : i = l.length := by omega
    simp only [Nat.add_zero, ephemerisref1_LocalInstants.l0]
    rw [if_neg (by omega), offsL_len]
  | succ d ih =>
    intro i f hi
    rw [show f + (d + 1) + 1 = (f + d + 1) + 1 from by omega]
    simp only [ephemerisref1_LocalInstants.l0]
    rw [if_pos (by omega), if_pos (by omega), if_pos (by omega), if_pos (by rw [offsL_len]; omega), w64_id (by omega) (by omega), show (i : Int) + 1 = ((i + 1 : Nat) : Int) from by omega]
    rw [show offsL o l (i + 1) ++ [(rd_T43 l (i : Int)).f1] = offsL o l (i + 1 + 1) from by unfold offsL; rw [List.range_succ (n := i + 1), List.map_append]; rfl]
    exact ih (i + 1) f (by omega)
/-- The insertion: whatever holds of the rest's answer for the list with t put in holds of the whole. -/
theorem LocalInstants_l2 (s : ByteArray) (o : Int) (l : List S43) (T t : Int) (offs : List Int) (n j : Int) (out : List Int) (B : Nat) (hout : out.length ≤ 1000) (hs : out.Pairwise (· < ·)) (P : Option (List Int) → Prop)
    (hP : ∀ (f : Nat) (out' : List Int), B ≤ f → out'.length ≤ out.length + 1 → out'.Pairwise (· < ·) → (∀ x, x ∈ out' ↔ x ∈ out ∨ x = t) → P (ephemerisref1_LocalInstants.l1 f T out' offs n (wrap64 (j + 1)) s o l)) : ∀ (d i f : Nat), i + d = out.length → B + d < f → (∀ q, q < i → rd out (q : Int) < t) →
    P (ephemerisref1_LocalInstants.l2 f T out t (i : Int) offs n j s o l) := by
  have ins : ∀ (i f : Nat), i ≤ out.length → B ≤ f → (∀ q, q < i → rd out (q : Int) < t) → (i < out.length → t < rd out (i : Int)) →
      P (if out.length < 17592186044416 then ((runtime_errorString_RuntimeError.f (out ++ [0]) (i : Int)).bind fun t198 => (if (i : Int) < (t198.length : Int) then (ephemerisref1_LocalInstants.l1 f T (t198.set (i : Int).toNat t) offs n (wrap64 (j + 1)) s o l) else none)) else none) := by
    intro i f hi hf h1 h2
    have hL : (out ++ [0]).length = out.length + 1 := by simp
    rw [if_pos (by omega)]
    unfold runtime_errorString_RuntimeError.f
    rw [if_pos ⟨by omega, by rw [hL]; omega⟩, Option.bind_some, Int.toNat_natCast]
    have e1 : ((out ++ [0]).drop i).take ((out ++ [0]).length - (i + 1)) = out.drop i := by
      rw [hL, List.drop_append_of_le_length hi, List.take_append_of_le_length (by rw [List.length_drop]; omega), List.take_of_length_le (by rw [List.length_drop]; omega)]
    have e2 : ∃ y, (out ++ [0]).take (i + 1) = out.take i ++ [y] := by
      by_cases c : i < out.length
      · exact ⟨out[i], by rw [List.take_append_of_le_length (by omega), List.take_succ_eq_append_getElem c]⟩
      · obtain rfl : i = out.length := by omega
        exact ⟨0, by rw [List.take_of_length_le (by rw [hL]; omega), List.take_length]⟩
    obtain ⟨y, e2⟩ := e2
    rw [e1, e2, if_pos (by simp only [List.length_append, List.length_take, List.length_drop, List.length_cons, List.length_nil]; omega)]
    have e3 : (out.take i ++ [y] ++ out.drop i).set i t = out.take i ++ t :: out.drop i := by
      rw [List.append_assoc, List.set_append_right _ _ (by rw [List.length_take]; omega), List.length_take, Nat.min_eq_left hi, Nat.sub_self]
      rfl
    rw [e3]
    have low : ∀ x, x ∈ out.take i → x < t := by
      intro x hx
      obtain ⟨q, hq, he⟩ := List.mem_iff_getElem.1 hx
      rw [List.length_take] at hq
      have := h1 q (by omega)
      unfold rd at this
      rw [List.getD_eq_getElem?_getD, Int.toNat_natCast, List.getElem?_eq_getElem (by omega), Option.getD_some] at this
      rw [List.getElem_take] at he
      omega
    have high : ∀ x, x ∈ out.drop i → t < x := by
      intro x hx
      obtain ⟨q, hq, he⟩ := List.mem_iff_getElem.1 hx
      rw [List.length_drop] at hq
      have h3 := h2 (by omega)
      unfold rd at h3
      rw [List.getD_eq_getElem?_getD, Int.toNat_natCast, List.getElem?_eq_getElem (by omega), Option.getD_some] at h3
      rw [List.getElem_drop] at he
      rcases Nat.eq_zero_or_pos q with h0 | h0
      · subst h0; simp only [Nat.add_zero] at he; omega
      · have := List.pairwise_iff_getElem.1 hs i (i + q) (by omega) (by omega) (by omega)
        omega
    refine hP f _ hf ?_ ?_ ?_
    · simp only [List.length_append, List.length_take, List.length_drop, List.length_cons]; omega
    · rw [List.pairwise_append]
      refine ⟨hs.sublist (List.take_sublist ..), ?_, ?_⟩
      · rw [List.pairwise_cons]
        exact ⟨fun x hx => high x hx, hs.sublist (List.drop_sublist ..)⟩
      · intro x hx z hz
        rw [List.mem_cons] at hz
        rcases hz with rfl | hz
        · exact low x hx
        · have := low x hx; have := high z hz; omega
    · intro x
      rw [List.mem_append, List.mem_cons, show (x ∈ out ↔ x ∈ out.take i ∨ x ∈ out.drop i) from by rw [← List.mem_append, List.take_append_drop]]
      constructor
      · rintro (h | h | h)
        · exact .inl (.inl h)
        · exact .inr h
        · exact .inl (.inr h)
      · rintro ((h | h) | h)
        · exact .inl h
        · exact .inr (.inr h)
        · exact .inr (.inl h)
  intro d
  induction d with
  | zero =>
    intro i f hi hf h1
    obtain ⟨f, rfl⟩ : ∃ m, f = m + 1 := ⟨f - 1, by omega⟩
    have h := ins i f (by omega) (by omega) h1 (fun g => absurd g (by omega))
    simp only [ephemerisref1_LocalInstants.l2]
    rw [if_neg (by omega)]
    have e : ∀ (a : Option (List Int)), (if (0 : Int) ≤ (i : Int) then a else none) = a := fun a => if_pos (by omega)
    simp only [e]
    exact h
  | succ d ih =>
    intro i f hi hf h1
    obtain ⟨f, rfl⟩ : ∃ m, f = m + 1 := ⟨f - 1, by omega⟩
    simp only [ephemerisref1_LocalInstants.l2]
    rw [if_pos (by omega), if_pos (by omega)]
    by_cases c : rd out (i : Int) < t
    · rw [if_pos c, w64_id (by omega) (by omega), show (i : Int) + 1 = ((i + 1 : Nat) : Int) from by omega]
      refine ih (i + 1) f (by omega) (by omega) (fun q hq => ?_)
      by_cases e : q = i
      · subst e; exact c
      · exact h1 q (by omega)
    · rw [if_neg c]
      by_cases c2 : rd out (i : Int) = t
      · rw [if_pos c2]
        refine hP f out (by omega) (by omega) hs (fun x => ⟨fun g => .inl g, fun g => g.elim id (fun g => ?_)⟩)
        subst g
        unfold rd at c2
        rw [List.getD_eq_getElem?_getD, Int.toNat_natCast, List.getElem?_eq_getElem (by omega), Option.getD_some] at c2
        rw [← c2]
        exact List.getElem_mem (by omega)
      · rw [if_neg c2]
        exact ins i f (by omega) (by omega) h1 (fun _ => by omega)
/-- What the q-th offset gives. -/
def zOk (o : Int) (l : List S43) (T : Int) (q : Nat) (x : Int) : Prop := x = T - (atPos o l q).1 ∧ (-4000000 ≤ x / 86400000 ∧ x / 86400000 ≤ 4000000) ∧ ∃ r, IsPos l x r ∧ (atPos o l r).1 = (atPos o l q).1
theorem IsPos_one {l : List S43} {t : Int} {r q : Nat} (hr : IsPos l t r) (hq : IsPos l t q) : r = q := by
  rcases Nat.lt_trichotomy r q with c | c | c
  · have h1 := hq.2.1 r c
    have h2 := hr.2.2 r (Nat.le_refl _) (Nat.lt_of_lt_of_le c hq.1)
    omega
  · exact c
  · have h1 := hr.2.1 q c
    have h2 := hq.2.2 q (Nat.le_refl _) (Nat.lt_of_lt_of_le c hr.1)
    omega
theorem LocalInstants_l1 (s : ByteArray) (o : Int) (l : List S43) (T : Int) (ho : okOff o = true) (hz : ZnOk l) (hT : -400000000000000 ≤ T ∧ T ≤ 400000000000000) : ∀ (d j f : Nat) (out : List Int), j + d = l.length + 1 → 300 * d + 600 < f → out.length ≤ j → out.Pairwise (· < ·) → (∀ x, x ∈ out ↔ ∃ q, q < j ∧ zOk o l T q x) →
    ∃ W : List Int, ephemerisref1_LocalInstants.l1 f T out (offsL o l (l.length + 1)) ((l.length + 1 : Nat) : Int) (j : Int) s o l = some W ∧ W.Pairwise (· < ·) ∧ ∀ x, x ∈ W ↔ ∃ q, q < l.length + 1 ∧ zOk o l T q x := by
  have h200 := hz.1
  intro d
  induction d with
  | zero =>
    intro j f out hj hf hl hp hm
    obtain ⟨f, rfl⟩ : ∃ m, f = m + 1 := ⟨f - 1, by omega⟩
    obtain rfl : j = l.length + 1 := by omega
    refine ⟨out, ?_, hp, hm⟩
    simp only [ephemerisref1_LocalInstants.l1]
    rw [if_neg (by omega)]
  | succ d ih =>
    intro j f out hj hf hl hp hm
    obtain ⟨f, rfl⟩ : ∃ m, f = m + 1 := ⟨f - 1, by omega⟩
    have hoff := atPos_le (r := j) ho hz (by omega)
    obtain ⟨x, hx⟩ : ∃ x, x = T - (atPos o l j).1 := ⟨_, rfl⟩
    have skip : ∀ g, 300 * d + 600 < g → ¬ zOk o l T j x → ∃ W : List Int, ephemerisref1_LocalInstants.l1 g T out (offsL o l (l.length + 1)) ((l.length + 1 : Nat) : Int) (wrap64 ((j : Int) + 1)) s o l = some W ∧ W.Pairwise (· < ·) ∧ ∀ y, y ∈ W ↔ ∃ q, q < l.length + 1 ∧ zOk o l T q y := by
      intro g hg hno
      rw [w64_id (by omega) (by omega), show (j : Int) + 1 = ((j + 1 : Nat) : Int) from by omega]
      refine ih (j + 1) g out (by omega) hg (by omega) hp (fun y => ?_)
      rw [hm y]
      constructor
      · rintro ⟨q, h1, h2⟩; exact ⟨q, by omega, h2⟩
      · rintro ⟨q, h1, h2⟩
        by_cases e : q = j
        · subst e
          exact absurd (by have := h2.1; rw [← hx] at this; rw [← this]; exact h2) hno
        · exact ⟨q, by omega, h2⟩
    simp only [ephemerisref1_LocalInstants.l1]
    rw [if_pos (by omega), if_pos (by omega), if_pos (by rw [offsL_len]; omega), offsL_rd o l _ j (by omega), w64_id (n := T - (atPos o l j).1) (by omega) (by omega), ← hx, ephemerisref1_Instant_f f (by omega) (by omega) (by omega), Option.bind_some]
    by_cases c : -4000000 ≤ x / 86400000 ∧ x / 86400000 ≤ 4000000
    · obtain ⟨r, hr⟩ := IsPos_ex hz x
      rw [decide_eq_true c, if_pos rfl, ephemerisref1_OffsetAt_f s o l x r h200 hr f (by omega), Option.bind_some]
      by_cases c2 : (atPos o l r).1 = (atPos o l j).1
      · rw [if_pos c2]
        refine LocalInstants_l2 s o l T x _ _ (j : Int) out (300 * d + 601) (by omega) hp (fun z => ∃ W : List Int, z = some W ∧ W.Pairwise (· < ·) ∧ ∀ y, y ∈ W ↔ ∃ q, q < l.length + 1 ∧ zOk o l T q y) ?_ out.length 0 f (by omega) (by omega) (fun q hq => absurd hq (by omega))
        intro g out' hg hl' hp' hm'
        rw [w64_id (by omega) (by omega), show (j : Int) + 1 = ((j + 1 : Nat) : Int) from by omega]
        refine ih (j + 1) g out' (by omega) (by omega) (by omega) hp' (fun y => ?_)
        rw [hm' y, hm y]
        constructor
        · rintro (⟨q, h1, h2⟩ | h)
          · exact ⟨q, by omega, h2⟩
          · subst h; exact ⟨j, by omega, hx, c, r, hr, c2⟩
        · rintro ⟨q, h1, h2⟩
          by_cases e : q = j
          · subst e; right; rw [hx]; exact h2.1
          · exact .inl ⟨q, by omega, h2⟩
      · rw [if_neg c2]
        refine skip f (by omega) (fun g => ?_)
        obtain ⟨r', hr', he⟩ := g.2.2
        rw [IsPos_one hr' hr] at he
        exact c2 he
    · rw [decide_eq_false c, if_neg (by decide)]
      exact skip f (by omega) (fun g => c g.2.1)

theorem ephemerisref1_SameInts_l0 (a b : List Int) (hl : a.length = b.length) (hm : a.length ≤ 9223372036854775807) : ∀ (d i k : Nat), i + d = a.length → d < k →
    ephemerisref1_SameInts.l0 k a b (a.length : Int) (i : Int) = some (decide (a.drop i = b.drop i)) := by
  intro d
  induction d with
  | zero =>
    intro i k hi hk
    obtain ⟨k, rfl⟩ : ∃ m, k = m + 1 := ⟨k - 1, by omega⟩
    conv => lhs; unfold ephemerisref1_SameInts.l0
    rw [if_neg (by omega), List.drop_of_length_le (by omega), List.drop_of_length_le (by omega)]; rfl
  | succ d ih =>
    intro i k hi hk
    obtain ⟨k, rfl⟩ : ∃ m, k = m + 1 := ⟨k - 1, by omega⟩
    have h1 : i < a.length := by omega
    have h2 : i < b.length := by omega
    conv => lhs; unfold ephemerisref1_SameInts.l0
    rw [if_pos (by omega), if_pos (by omega), if_pos (by omega), if_pos (by omega), rd_get a i h1, rd_get b i h2, List.drop_eq_getElem_cons h1, List.drop_eq_getElem_cons h2]
    by_cases c : a[i] = b[i]
    · rw [if_pos c, w64_id (n := (i : Int) + 1) (by omega) (by omega)]
      have := ih (i + 1) k (by omega) (by omega)
      rw [show ((i + 1 : Nat) : Int) = (i : Int) + 1 from by omega] at this
      rw [this]
      congr 1
      apply decide_eq_decide.2
      constructor
      · intro h; rw [c, h]
      · intro h; exact (List.cons.inj h).2
    · rw [if_neg c]
      congr 1
      symm
      exact decide_eq_false (fun h => c (List.cons.inj h).1)
theorem ephemerisref1_SameInts_f (a b : List Int) (hm : a.length ≤ 9223372036854775807) (k : Nat) (hk : a.length < k) : ephemerisref1_SameInts.f k a b = some (decide (a = b)) := by
  unfold ephemerisref1_SameInts.f
  by_cases c : a.length = b.length
  · rw [if_pos (by omega)]
    exact ephemerisref1_SameInts_l0 a b c hm a.length 0 k (by omega) hk
  · rw [if_neg (by omega)]
    congr 1
    symm
    exact decide_eq_false (fun h => c (by rw [h]))

theorem zOk_zIn (o : Int) (l : List S43) (T x : Int) : (∃ q, q < l.length + 1 ∧ zOk o l T q x) ↔ ∃ k, k < l.length + 1 ∧ zIn o l T k x := by
  constructor
  · rintro ⟨q, h1, h2, h3, r, h4, h5⟩
    have := h4.1
    exact ⟨r, by omega, by rw [h5]; exact h2, h3, h4⟩
  · rintro ⟨k, h1, h2, h3, h4⟩
    exact ⟨k, h1, h2, h3, k, h4, rfl⟩
/-- Both lists of a valid zone are one. -/
theorem zone_lists (s : ByteArray) (o : Int) (l : List S43) (day ms : Int) (hw : znWf l) (h : znAll s o l = 0) (hd : -4000000 ≤ day ∧ day ≤ 4000000) (hm : 0 ≤ ms ∧ ms ≤ 86399999) : ∃ Z : List Int, Z.length ≤ 201 ∧ (∀ k, 2000 ≤ k → zone_Instants.f k s o l day ms = some (Z, 0)) ∧ ∀ k, 100000 ≤ k → ephemerisref1_LocalInstants.f k s o l day ms = some Z := by
  obtain ⟨hn, ho, hz⟩ := znAll_ok h
  have h200 := hz.1
  obtain ⟨T, hT⟩ : ∃ T, T = day * 86400000 + ms := ⟨_, rfl⟩
  have hTb : -400000000000000 ≤ T ∧ T ≤ 400000000000000 := by omega
  have hz0 : ∀ f, 1000 ≤ f → ∃ Z : List Int, zone_Instants.l0 f T [] ((0 : Nat) : Int) s o l = some (Z, 0) ∧ Z.length ≤ l.length + 1 ∧ Z.Pairwise (· < ·) ∧ ∀ x, x ∈ Z ↔ ∃ q, q < l.length + 1 ∧ zIn o l T q x := fun f hf =>
    zone_Instants_l0 s o l T ho hz hTb (l.length + 1) 0 f [] (by omega) (by omega) (by simp) List.Pairwise.nil (fun x => ⟨fun g => absurd g (by simp), fun ⟨q, g, _⟩ => absurd g (by omega)⟩)
  obtain ⟨Z, _, hZl, hZp, hZm⟩ := hz0 1000 (by omega)
  refine ⟨Z, by omega, fun k hk => ?_, fun k hk => ?_⟩
  · obtain ⟨Y, h1, _, h3, h4⟩ := hz0 k (by omega)
    have e : Y = Z := rising_ext Y Z h3 hZp (fun x => (h4 x).trans (hZm x).symm)
    subst e
    unfold zone_Instants.f
    rw [zone_Check_f s o l hw k (by omega), Option.bind_some, if_pos h, line_Instant_f, if_pos hd, if_pos hm, Option.bind_some, if_pos rfl, ← hT]
    exact h1
  · obtain ⟨f, rfl⟩ : ∃ f, k = f + l.length + 1 := ⟨k - l.length - 1, by omega⟩
    obtain ⟨W, h1, h2, h3⟩ := LocalInstants_l1 s o l T ho hz hTb (l.length + 1) 0 f [] (by omega) (by omega) (by simp) List.Pairwise.nil (fun x => ⟨fun g => absurd g (by simp), fun ⟨q, g, _⟩ => absurd g (by omega)⟩)
    have e : W = Z := rising_ext W Z h2 hZp (fun x => ((h3 x).trans (zOk_zIn o l T x)).trans (hZm x).symm)
    subst e
    have h0 := LocalInstants_l0 s o l T h200 l.length 0 f (by omega)
    unfold ephemerisref1_LocalInstants.f
    rw [w64_id (n := day * 86400000) (by omega) (by omega), w64_id (n := day * 86400000 + ms) (by omega) (by omega), ← hT]
    exact h0.trans h1

/-- The error of a local time in a zone. -/
def ziErr (s : ByteArray) (o : Int) (l : List S43) (day ms : Int) : Int := if znAll s o l = 0 then (if -4000000 ≤ day ∧ day ≤ 4000000 then (if 0 ≤ ms ∧ ms ≤ 86399999 then 0 else 1) else 3) else znAll s o l
theorem zone_Instants_bad (s : ByteArray) (o : Int) (l : List S43) (day ms : Int) (hw : znWf l) (k : Nat) (hk : 600 ≤ k) (he : ziErr s o l day ms ≠ 0) : zone_Instants.f k s o l day ms = some ([], ziErr s o l day ms) := by
  unfold ziErr at he ⊢
  unfold zone_Instants.f
  rw [zone_Check_f s o l hw k hk, Option.bind_some]
  by_cases h1 : znAll s o l = 0
  · rw [if_pos h1] at he
    rw [if_pos h1, if_pos h1, line_Instant_f]
    by_cases h2 : -4000000 ≤ day ∧ day ≤ 4000000
    · rw [if_pos h2] at he
      rw [if_pos h2, if_pos h2]
      by_cases h3 : 0 ≤ ms ∧ ms ≤ 86399999
      · rw [if_pos h3] at he; exact absurd rfl he
      · rw [if_neg h3, if_neg h3]; rfl
    · rw [if_neg h2, if_neg h2]; rfl
  · rw [if_neg h1, if_neg h1]
theorem insts_j0_bad (day ms e : Int) (he : e ≠ 0) (s : ByteArray) (o : Int) (l : List S43) (k : Nat) : ephemerislaw1_ZoneInstants.j0 (k + 1) day ms [] e 0 e e s o l = some true := by
  simp only [ephemerislaw1_ZoneInstants.j0]
  rw [if_neg he]
  simp
theorem ZoneInstants : ephemerislaw1_ZoneInstants.Pure := by
  intro s o l day ms hs ho hl hd hm
  have hw : znWf l := fun c hc => wf_i64 (hl.2.2 c hc).1
  obtain ⟨K, hK⟩ : ∃ K : Nat, 100010 ≤ K := ⟨_, Nat.le_refl _⟩
  refine ⟨K, ?_⟩
  unfold ephemerislaw1_ZoneInstants.f ephemerislaw1_base.f
  rw [Option.bind_some]
  simp only
  have hz0 : znAll ⟨#[98, 97, 115, 101]⟩ 3600000 [(⟨0, 7200000, (⟨#[83, 85, 77]⟩ : ByteArray)⟩ : S43)] = 0 := by decide +kernel
  obtain ⟨Z0, _, g1, _⟩ := zone_lists ⟨#[98, 97, 115, 101]⟩ 3600000 [(⟨0, 7200000, (⟨#[83, 85, 77]⟩ : ByteArray)⟩ : S43)] 0 5400000 base_wf hz0 (by omega) (by omega)
  have hZ0 : Z0 = [] := by
    have h2 : zone_Instants.f 2000 ⟨#[98, 97, 115, 101]⟩ 3600000 [(⟨0, 7200000, (⟨#[83, 85, 77]⟩ : ByteArray)⟩ : S43)] 0 5400000 = some ([], 0) := by decide +kernel
    rw [g1 2000 (by omega)] at h2
    exact (Prod.mk.inj (Option.some.inj h2)).1
  subst hZ0
  rw [zone_One_of (g1 K (by omega)), if_pos (show ([] : List Int).length = 0 from rfl), Option.bind_some, if_pos rfl]
  clear g1 hz0
  obtain ⟨k, rfl⟩ : ∃ m, K = m + 2 := ⟨K - 2, by omega⟩
  by_cases he : ziErr s o l day ms = 0
  · have h1 : znAll s o l = 0 := by
      unfold ziErr at he
      by_cases h : znAll s o l = 0
      · exact h
      · rw [if_neg h] at he; exact he
    unfold ziErr at he
    rw [if_pos h1] at he
    by_cases h2 : -4000000 ≤ day ∧ day ≤ 4000000
    · rw [if_pos h2] at he
      by_cases h3 : 0 ≤ ms ∧ ms ≤ 86399999
      · clear he
        obtain ⟨Z, hZ, hA, hB⟩ := zone_lists s o l day ms hw h1 h2 h3
        rw [hA (k + 2) (by omega), Option.bind_some, zone_One_of (hA (k + 2) (by omega)), Option.bind_some, ephemerisref1_ZoneError_f s o l hw (k + 2) (by omega), Option.bind_some, if_pos h1, ephemerisref1_Day_f, Option.bind_some, decide_eq_true h2, if_pos rfl, ephemerisref1_In_f, Option.bind_some, decide_eq_true h3, if_pos rfl]
        rw [show k + 2 = (k + 1) + 1 from rfl]
        simp only [ephemerislaw1_ZoneInstants.j0]
        rw [if_pos h1, hB (k + 1) (by omega), Option.bind_some, if_pos trivial, ephemerisref1_SameInts_f Z Z (by omega) (k + 1) (by omega), Option.bind_some]
        simp only [ephemerislaw1_ZoneInstants.j1, decide_true, Bool.not_true, Bool.false_eq_true, if_false]
        by_cases c : Z.length = 0
        · rw [if_pos c, if_pos (show (Z.length : Int) = 0 by omega)]; rfl
        rw [if_neg c, if_neg (show ¬ (Z.length : Int) = 0 by omega)]
        by_cases c1 : 1 < Z.length
        · rw [if_pos c1, if_neg (show ¬ (Z.length : Int) = 1 by omega)]; rfl
        · rw [if_neg c1, if_pos (show (Z.length : Int) = 1 by omega), if_pos (show 0 < (Z.length : Int) by omega), if_pos rfl]; rfl
      · rw [if_neg h3] at he; cases he
    · rw [if_neg h2] at he; cases he
  · have hA := zone_Instants_bad s o l day ms hw (k + 2) (by omega) he
    rw [hA, Option.bind_some, zone_One_bad he hA, Option.bind_some, ephemerisref1_ZoneError_f s o l hw (k + 2) (by omega), Option.bind_some]
    have hj := insts_j0_bad day ms (ziErr s o l day ms) he s o l (k + 1)
    by_cases h1 : znAll s o l = 0
    · rw [if_pos h1, ephemerisref1_Day_f, Option.bind_some]
      by_cases h2 : -4000000 ≤ day ∧ day ≤ 4000000
      · rw [decide_eq_true h2, if_pos rfl, ephemerisref1_In_f, Option.bind_some]
        by_cases h3 : 0 ≤ ms ∧ ms ≤ 86399999
        · exact absurd (by unfold ziErr; rw [if_pos h1, if_pos h2, if_pos h3]) he
        · rw [decide_eq_false h3, if_neg (by decide)]
          have e : ziErr s o l day ms = 1 := by unfold ziErr; rw [if_pos h1, if_pos h2, if_neg h3]
          rw [e] at hj ⊢; exact hj
      · rw [decide_eq_false h2, if_neg (by decide)]
        have e : ziErr s o l day ms = 3 := by unfold ziErr; rw [if_pos h1, if_neg h2]
        rw [e] at hj ⊢; exact hj
    · rw [if_neg h1]
      have e : ziErr s o l day ms = znAll s o l := by unfold ziErr; rw [if_neg h1]
      rw [e] at hj ⊢; exact hj
end Go.Proofs.YtolhlaadhfilnaaDoor.Pure
