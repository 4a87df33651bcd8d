/- The law NumeralWrites over numbers and lists: what the law's functions tell, and that the law holds. -/
import Derived.Test.YtcmanidhilkhnaaDoorPNumeralWritesx3
import Derived.Test.YtcmanidhilkhnaaDoorM
import Derived.Test.YtcmanidhilkhnaaDoorO
import Derived.Test.YtcmanidhilkhnaaDoorE
import Derived.Test.YtcmanidhilkhnaaDoorT
import Derived.Test.YtcmanidhilkhnaaDoorA
import Derived.Test.YtcmanidhilkhnaaDoorI
namespace Go.Proofs.YtcmanidhilkhnaaDoor.Pure
open Go.RowKit Go.Proofs.YtcmanidhilkhnaaDoor.PNumeralWrites Go.Proofs.YtcmanidhilkhnaaDoorW.PrintWords Go.Proofs.YtcmanidhilkhnaaDoorW.PrintLast Go.Proofs.YtcmanidhilkhnaaDoor.M Go.Proofs.YtcmanidhilkhnaaDoor.O Go.Proofs.YtcmanidhilkhnaaDoor.E Go.Proofs.YtcmanidhilkhnaaDoor.T Go.Proofs.YtcmanidhilkhnaaDoor.A Go.Proofs.YtcmanidhilkhnaaDoor.I
set_option linter.unusedVariables false
set_option linter.unusedSimpArgs false
/-- The law over numbers and lists. -/
def ephemerislaw1_NumeralWrites.Pure : Prop := ∀ (a0 : Int) (a1 : Int), (Lit.int .i64 a0).wf = true → (Lit.int .i64 a1).wf = true → ∃ k, ephemerislaw1_NumeralWrites.f k a0 a1 = some true

theorem ephemerisref1_In_f (x lo hi : Int) : ephemerisref1_In.f x lo hi = some (decide (lo ≤ x ∧ x ≤ hi)) := by
  unfold ephemerisref1_In.f
  by_cases h : x ≥ lo
  · rw [if_pos h]; congr 1; simp; omega
  · rw [if_neg h]; congr 1; simp; omega

theorem nbs (l : List UInt8) : numeral_Write.bs l = bs l := rfl
theorem dg_nat (n k : Nat) (hk : k < 4) : numeral_Write.dg (n : Int) k = ((n / 10 ^ k % 10 : Nat) : Int) := by
  unfold numeral_Write.dg
  rcases (show k = 0 ∨ k = 1 ∨ k = 2 ∨ k = 3 by omega) with rfl | rfl | rfl | rfl
  · rw [show (10 : Int) ^ 0 = 1 from rfl, show (10 : Nat) ^ 0 = 1 from rfl]; omega
  · rw [show (10 : Int) ^ 1 = 10 from rfl, show (10 : Nat) ^ 1 = 10 from rfl]; omega
  · rw [show (10 : Int) ^ 2 = 100 from rfl, show (10 : Nat) ^ 2 = 100 from rfl]; omega
  · rw [show (10 : Int) ^ 3 = 1000 from rfl, show (10 : Nat) ^ 3 = 1000 from rfl]; omega
def zhN (d : Nat → Nat) : Nat → List UInt8 → Bool → List UInt8
  | 0, out, _ => out
  | k + 1, out, gap => if d k = 0 then zhN d k out (out != []) else zhN d k ((if gap = true then out ++ numeral_Write.at_ numeral_Write.ten 0 else out) ++ (numeral_Write.at_ numeral_Write.ten (d k) ++ numeral_Write.at_ numeral_Write.places k)) false
def roN (d : Nat → Nat) : Nat → List UInt8 → List UInt8
  | 0, out => out
  | k + 1, out => if d k = 0 then roN d k out else roN d k (out ++ numeral_Write.at_ numeral_Write.roman (9 * k + (d k - 1)))
def leN (s : Nat) (d : Nat → Nat) : Nat → List UInt8 → List UInt8
  | 0, out => out
  | k + 1, out => if d k = 0 then leN s d k out else if s = 1 ∧ k = 1 ∧ d 1 = 1 ∧ (d 0 = 5 ∨ d 0 = 6) then out ++ (numeral_Write.at_ numeral_Write.letters 35 ++ numeral_Write.at_ numeral_Write.letters (27 + d 0)) else leN s d k (out ++ numeral_Write.at_ numeral_Write.letters (27 * s + 9 * k + (d k - 1)))
theorem zh_nat (D : Nat → Int) (d : Nat → Nat) (h : ∀ k, k < 4 → D k = (d k : Int)) : ∀ (k : Nat) (out : List UInt8) (gap : Bool), k ≤ 4 → numeral_Write.zh D k out gap = zhN d k out gap
  | 0, _, _, _ => rfl
  | k + 1, out, gap, hk => by
    rw [numeral_Write.zh, zhN, h k (by omega), Int.toNat_natCast]
    by_cases c : d k = 0
    · rw [if_pos c, if_pos (by omega)]; exact zh_nat D d h k _ _ (by omega)
    · rw [if_neg c, if_neg (by omega)]; exact zh_nat D d h k _ _ (by omega)
theorem ro_nat (D : Nat → Int) (d : Nat → Nat) (h : ∀ k, k < 4 → D k = (d k : Int)) : ∀ (k : Nat) (out : List UInt8), k ≤ 4 → numeral_Write.ro D k out = roN d k out
  | 0, _, _ => rfl
  | k + 1, out, hk => by
    rw [numeral_Write.ro, roN, h k (by omega)]
    by_cases c : d k = 0
    · rw [if_pos c, if_pos (by omega)]; exact ro_nat D d h k _ (by omega)
    · rw [if_neg c, if_neg (by omega), show ((d k : Int) - 1).toNat = d k - 1 by omega]; exact ro_nat D d h k _ (by omega)
theorem le_nat (s : Nat) (D : Nat → Int) (d : Nat → Nat) (h : ∀ k, k < 4 → D k = (d k : Int)) : ∀ (k : Nat) (out : List UInt8), k ≤ 4 → numeral_Write.le s D k out = leN s d k out
  | 0, _, _ => rfl
  | k + 1, out, hk => by
    rw [numeral_Write.le, leN, h k (by omega), h 0 (by omega), h 1 (by omega), Int.toNat_natCast]
    by_cases c : d k = 0
    · rw [if_pos c, if_pos (by omega)]; exact le_nat s D d h k _ (by omega)
    · rw [if_neg c, if_neg (by omega), show ((d k : Int) - 1).toNat = d k - 1 by omega]
      by_cases q : s = 1 ∧ k = 1 ∧ d 1 = 1 ∧ (d 0 = 5 ∨ d 0 = 6)
      · rw [if_pos q, if_pos (by omega)]
      · rw [if_neg q, if_neg (by omega)]; exact le_nat s D d h k _ (by omega)
def toN (x : Nat × List UInt8) : S113 := ⟨(x.1 : Int), bs x.2⟩
theorem toN_at (L : List (Nat × List UInt8)) (i : Nat) (h : i < L.length) : rd_T113 (L.map toN) (i : Int) = toN L[i] := by
  unfold rd_T113
  rw [Int.toNat_natCast, List.getD_eq_getElem?_getD, List.getElem?_map, List.getElem?_eq_getElem h]; rfl
theorem suf_f (a b : List UInt8) (ha : a.length ≤ 1000000) (hb : b.length ≤ 1000000) : strings_HasSuffix.f (bs a) (bs b) = some (decide (b.length ≤ a.length) && (a.drop (a.length - b.length) == b)) := by
  unfold strings_HasSuffix.f stringslite_HasSuffix.f
  rw [bs_size, bs_size]
  by_cases h : b.length ≤ a.length
  · have w : Aside0 (wrap64 ((a.length : Int) - (b.length : Int)) = ((a.length - b.length : Nat) : Int)) := ⟨by rw [w64_id (by omega) (by omega)]; omega⟩
    rw [if_pos (by omega), w.out, if_pos (by omega), if_pos (by omega), Option.bind_some, Int.toNat_natCast, bs_extract, List.take_length, bs_toList, bs_toList, decide_eq_true h, Bool.true_and]
  · rw [if_neg (by omega), Option.bind_some, decide_eq_false h, Bool.false_and]
/-- The digits of the script of places, as the reference writes them. -/
def rz (n : Nat) : List (Nat × List UInt8) → List UInt8 → List UInt8
  | [], out => out
  | (v, t) :: r, out =>
    if n / v % 10 = 0 then
      if out = [] then rz n r out else if n % v = 0 then rz n r out else if (decide (3 ≤ out.length) && (out.drop (out.length - 3) == [227, 128, 135])) = true then rz n r out else rz n r (out ++ [227, 128, 135])
    else rz n r (out ++ (numeral_Write.at_ numeral_Write.ten (n / v % 10) ++ t))
def rowsZ : List (Nat × List UInt8) := [(1000, [229, 141, 131]), (100, [231, 153, 190]), (10, [229, 141, 129]), (1, [])]
def tenB : List ByteArray := numeral_Write.ten.map bs
theorem tenB_at (d : Nat) (h : d < 10) : rdOf ByteArray.empty tenB (d : Int) = bs (numeral_Write.at_ numeral_Write.ten d) ∧ (numeral_Write.at_ numeral_Write.ten d).length ≤ 9 := by
  rcases (show d = 0 ∨ d = 1 ∨ d = 2 ∨ d = 3 ∨ d = 4 ∨ d = 5 ∨ d = 6 ∨ d = 7 ∨ d = 8 ∨ d = 9 by omega) with rfl | rfl | rfl | rfl | rfl | rfl | rfl | rfl | rfl | rfl <;> exact ⟨rfl, by decide⟩
set_option maxHeartbeats 4000000 in
theorem rz_loop (n : Nat) (hn : n ≤ 9999) (L : List (Nat × List UInt8)) (hL : L.length ≤ 10) (hv : ∀ x ∈ L, 1 ≤ x.1 ∧ x.1 ≤ 10000 ∧ x.2.length ≤ 9) : ∀ (m i k : Nat) (out : List UInt8), i + m = L.length → m + 1 ≤ k → out.length + 30 * m ≤ 1000 →
    ephemerisref1_NumeralText.l0 k (n : Int) tenB (bs out) (L.map toN) (L.length : Int) (i : Int) = some (bs (rz n (L.drop i) out))
  | 0, i, k + 1, out, hi, _, _ => by
    unfold ephemerisref1_NumeralText.l0
    rw [if_neg (by omega), List.drop_of_length_le (by omega)]; rfl
  | m + 1, i, k + 1, out, hi, hk, ho => by
    have hlt : i < L.length := by omega
    have hx := hv L[i] (List.getElem_mem hlt)
    have hr := toN_at L i hlt
    have hd : L.drop i = L[i] :: L.drop (i + 1) := List.drop_eq_getElem_cons hlt
    have hmap : (L.map toN).length = L.length := List.length_map ..
    rw [hd]
    generalize L[i] = x at hx hr
    obtain ⟨v, t⟩ := x
    simp only at hx
    have q0 : (rd_T113 (L.map toN) (i : Int)).f0 = (v : Int) := by rw [hr]; rfl
    have q1 : (rd_T113 (L.map toN) (i : Int)).f1 = bs t := by rw [hr]; rfl
    obtain ⟨q, hq⟩ : ∃ q, n / v = q := ⟨_, rfl⟩
    have hdiv : Int.tdiv (n : Int) (v : Int) = (q : Int) := by rw [← hq]; rfl
    have hmod : Int.tmod (n : Int) (v : Int) = ((n % v : Nat) : Int) := rfl
    have hle : q ≤ n := by rw [← hq]; exact Nat.div_le_self _ _
    have hw : Aside0 (wrap64 (q : Int) = (q : Int)) := ⟨w64_id (by omega) (by omega)⟩
    have hm10 : Int.tmod (q : Int) 10 = ((q % 10 : Nat) : Int) := rfl
    obtain ⟨d, hd10⟩ : ∃ d, q % 10 = d := ⟨_, rfl⟩
    have hd9 : d < 10 := by omega
    have ht := tenB_at d hd9
    have ht0 : rdOf ByteArray.empty tenB 0 = bs [227, 128, 135] := rfl
    have w1 : Aside0 (wrap64 ((i : Int) + 1) = ((i + 1 : Nat) : Int)) := ⟨w64s (by omega)⟩
    have hten : (0 : Int) < (tenB.length : Int) ∧ (tenB.length : Int) = 10 := by decide
    conv => lhs; unfold ephemerisref1_NumeralText.l0
    rw [if_pos (by omega), if_pos (by omega), if_pos (by rw [hmap]; omega), q0, q1, if_neg (by omega), hdiv, hw.out, hm10, hmod, w1.out, hd10, rz, hq, hd10, ht.1, ht0]
    have ih := fun (o : List UInt8) (h : o.length + 30 * m ≤ 1000) => rz_loop n hn L hL hv m (i + 1) k o (by omega) (by omega) h
    clear hr hd hw hm10 hdiv hmod w1
    by_cases c0 : d = 0
    · rw [if_pos (by omega), if_pos c0, bs_toList]
      by_cases c1 : out = []
      · rw [if_pos c1, if_pos c1]; exact ih out (by omega)
      · rw [if_neg c1, if_neg c1]
        by_cases c2 : n % v = 0
        · rw [if_pos (by omega), if_pos c2]; exact ih out (by omega)
        · rw [if_neg (by omega), if_neg c2, if_pos hten.1, suf_f out [227, 128, 135] (by omega) (by decide), Option.bind_some]
          show (if (decide (3 ≤ out.length) && (out.drop (out.length - 3) == [227, 128, 135])) = true then _ else _) = _
          by_cases c3 : (decide (3 ≤ out.length) && (out.drop (out.length - 3) == [227, 128, 135])) = true
          · rw [if_pos c3, if_pos c3]; exact ih out (by omega)
          · have hy : (bs [227, 128, 135]).size = 3 := rfl
            rw [if_neg c3, if_neg c3, if_pos (by rw [bs_size, hy]; omega), bs_app]
            exact ih _ (by rw [List.length_append]; simp only [List.length_cons, List.length_nil]; omega)
    · rw [if_neg (by omega), if_neg c0, if_pos (by omega), if_pos (by omega)]
      have ht2 := ht.2
      generalize numeral_Write.at_ numeral_Write.ten d = X at ht2
      rw [if_pos (by rw [bs_size, bs_size]; omega), bs_app, if_pos (by rw [bs_size, bs_size, List.length_append]; omega), bs_app]
      exact ih _ (by rw [List.length_append, List.length_append]; omega)
/-- Signs of the other scripts, as the reference lays them one behind the other; the number tells how many steps there are. -/
def rl (s : Bool) : Nat → Nat → List UInt8 → List (Nat × List UInt8) → Option (List UInt8)
  | _, _, out, [] => some out
  | 0, _, _, _ :: _ => none
  | f + 1, n, out, (v, t) :: r => if v ≤ n ∧ (s = false ∨ (v ≠ 15 ∧ v ≠ 16) ∨ n = v) then rl s f (n - v) (out ++ t) ((v, t) :: r) else rl s f n out r
set_option maxHeartbeats 4000000 in
theorem rl_loop (s : Int) (L : List (Nat × List UInt8)) (hL : L.length ≤ 30) (hv : ∀ x ∈ L, 1 ≤ x.1 ∧ x.1 ≤ 10000 ∧ x.2.length ≤ 9) : ∀ (F n i k : Nat) (v : Nat) (t out R : List UInt8), n ≤ 9999 → i < L.length → L[i]? = some (v, t) → 2 * F + 2 ≤ k → out.length + 10 * F ≤ 10000 →
    rl (decide (s = 11)) F n out ((v, t) :: L.drop (i + 1)) = some R → ephemerisref1_NumeralText.l2 k s (n : Int) (bs out) (L.map toN) (L.length : Int) (i : Int) (v : Int) (bs t) = some (bs R)
  | 0, n, i, k, v, t, out, R, _, _, _, _, _, h => by simp [rl] at h
  | F + 1, n, i, k, v, t, out, R, hn, hi, hg, hk, ho, h => by
    obtain ⟨k1, rfl⟩ : ∃ k1, k = k1 + 2 := ⟨k - 2, by omega⟩
    have hx : 1 ≤ v ∧ v ≤ 10000 ∧ t.length ≤ 9 := hv (v, t) (List.mem_of_getElem? hg)
    have hz : (bs out).size + (bs t).size ≤ 9223372036854775807 := by rw [bs_size, bs_size]; omega
    have next : rl (decide (s = 11)) F n out (L.drop (i + 1)) = some R → ephemerisref1_NumeralText.l1 (k1 + 1) s (n : Int) (bs out) (L.map toN) (L.length : Int) (wrap64 ((i : Int) + 1)) = some (bs R) := by
      intro h2
      rw [w64s (by omega)]
      unfold ephemerisref1_NumeralText.l1
      by_cases c : i + 1 < L.length
      · have hd : L.drop (i + 1) = L[i + 1] :: L.drop (i + 1 + 1) := List.drop_eq_getElem_cons c
        have hr := toN_at L (i + 1) c
        have hg2 : L[i + 1]? = some L[i + 1] := List.getElem?_eq_getElem c
        rw [hd] at h2
        rw [if_pos (by omega), if_pos (by omega), if_pos (by rw [List.length_map]; omega), hr]
        generalize L[i + 1] = y at hg2 h2
        obtain ⟨v2, t2⟩ := y
        exact rl_loop s L hL hv F n (i + 1) k1 v2 t2 out R hn c hg2 (by omega) (by omega) h2
      · rw [if_neg (by omega)]
        rw [List.drop_of_length_le (by omega)] at h2
        cases F <;> (simp only [rl] at h2; rw [Option.some.inj h2])
    have sub : v ≤ n → rl (decide (s = 11)) F (n - v) (out ++ t) ((v, t) :: L.drop (i + 1)) = some R → ephemerisref1_NumeralText.l2 (k1 + 1) s (wrap64 ((n : Int) - (v : Int))) (bs out ++ bs t) (L.map toN) (L.length : Int) (i : Int) (v : Int) (bs t) = some (bs R) := by
      intro hvn h2
      have w : Aside0 (wrap64 ((n : Int) - (v : Int)) = ((n - v : Nat) : Int)) := ⟨by rw [w64_id (by omega) (by omega)]; omega⟩
      rw [w.out, bs_app]
      exact rl_loop s L hL hv F (n - v) i (k1 + 1) v t (out ++ t) R (by omega) hi hg (by omega) (by rw [List.length_append]; omega) h2
    rw [rl] at h
    unfold ephemerisref1_NumeralText.l2
    by_cases c1 : v ≤ n
    · rw [if_pos (by omega)]
      by_cases c2 : s = 11
      · rw [if_pos c2]
        rw [decide_eq_true c2] at h next sub
        by_cases c3 : v = 15
        · rw [if_pos (by omega)]
          by_cases c4 : n = v
          · rw [if_pos (by omega), if_pos hz]
            rw [if_pos (by omega)] at h
            exact sub c1 h
          · rw [if_neg (by omega)]
            rw [if_neg (by simp; omega)] at h
            exact next h
        · rw [if_neg (by omega)]
          by_cases c5 : v = 16
          · rw [if_pos (by omega)]
            by_cases c4 : n = v
            · rw [if_pos (by omega), if_pos hz]
              rw [if_pos (by omega)] at h
              exact sub c1 h
            · rw [if_neg (by omega)]
              rw [if_neg (by simp; omega)] at h
              exact next h
          · rw [if_neg (by omega), if_pos hz]
            rw [if_pos (by omega)] at h
            exact sub c1 h
      · rw [if_neg c2, if_pos hz]
        rw [decide_eq_false c2] at h sub
        rw [if_pos ⟨c1, .inl rfl⟩] at h
        exact sub c1 h
    · rw [if_neg (by omega)]
      rw [if_neg (by omega)] at h
      exact next h
def rows9 : List (Nat × List UInt8) := [(1000, [77]), (900, [67, 77]), (500, [68]), (400, [67, 68]), (100, [67]), (90, [88, 67]), (50, [76]), (40, [88, 76]), (10, [88]), (9, [73, 88]), (5, [86]), (4, [73, 86]), (1, [73])]
def rows10 : List (Nat × List UInt8) := [(900, [207, 161]), (800, [207, 137]), (700, [207, 136]), (600, [207, 135]), (500, [207, 134]), (400, [207, 133]), (300, [207, 132]), (200, [207, 131]), (100, [207, 129]), (90, [207, 159]), (80, [207, 128]), (70, [206, 191]), (60, [206, 190]), (50, [206, 189]), (40, [206, 188]), (30, [206, 187]), (20, [206, 186]), (10, [206, 185]), (9, [206, 184]), (8, [206, 183]), (7, [206, 182]), (6, [207, 155]), (5, [206, 181]), (4, [206, 180]), (3, [206, 179]), (2, [206, 178]), (1, [206, 177])]
def rows11 : List (Nat × List UInt8) := [(400, [215, 170]), (300, [215, 169]), (200, [215, 168]), (100, [215, 167]), (90, [215, 166]), (80, [215, 164]), (70, [215, 162]), (60, [215, 161]), (50, [215, 160]), (40, [215, 158]), (30, [215, 156]), (20, [215, 155]), (16, [215, 152, 215, 150]), (15, [215, 152, 215, 149]), (10, [215, 153]), (9, [215, 152]), (8, [215, 151]), (7, [215, 150]), (6, [215, 149]), (5, [215, 148]), (4, [215, 147]), (3, [215, 146]), (2, [215, 145]), (1, [215, 144])]
/-- The digits of a number. -/
def dN (n k : Nat) : Nat := n / 10 ^ k % 10
theorem all9_0 : ∀ a : Fin 5, ∀ b : Fin 100, (100 * (0 + a.1) + b.1 = 0 ∨ rl false 60 (100 * (0 + a.1) + b.1) [] rows9 = some (roN (dN (100 * (0 + a.1) + b.1)) 4 [])) := by decide +kernel
theorem all9_1 : ∀ a : Fin 5, ∀ b : Fin 100, (100 * (5 + a.1) + b.1 = 0 ∨ rl false 60 (100 * (5 + a.1) + b.1) [] rows9 = some (roN (dN (100 * (5 + a.1) + b.1)) 4 [])) := by decide +kernel
theorem all9_2 : ∀ a : Fin 5, ∀ b : Fin 100, (100 * (10 + a.1) + b.1 = 0 ∨ rl false 60 (100 * (10 + a.1) + b.1) [] rows9 = some (roN (dN (100 * (10 + a.1) + b.1)) 4 [])) := by decide +kernel
theorem all9_3 : ∀ a : Fin 5, ∀ b : Fin 100, (100 * (15 + a.1) + b.1 = 0 ∨ rl false 60 (100 * (15 + a.1) + b.1) [] rows9 = some (roN (dN (100 * (15 + a.1) + b.1)) 4 [])) := by decide +kernel
theorem all9_4 : ∀ a : Fin 5, ∀ b : Fin 100, (100 * (20 + a.1) + b.1 = 0 ∨ rl false 60 (100 * (20 + a.1) + b.1) [] rows9 = some (roN (dN (100 * (20 + a.1) + b.1)) 4 [])) := by decide +kernel
theorem all9_5 : ∀ a : Fin 5, ∀ b : Fin 100, (100 * (25 + a.1) + b.1 = 0 ∨ rl false 60 (100 * (25 + a.1) + b.1) [] rows9 = some (roN (dN (100 * (25 + a.1) + b.1)) 4 [])) := by decide +kernel
theorem all9_6 : ∀ a : Fin 5, ∀ b : Fin 100, (100 * (30 + a.1) + b.1 = 0 ∨ rl false 60 (100 * (30 + a.1) + b.1) [] rows9 = some (roN (dN (100 * (30 + a.1) + b.1)) 4 [])) := by decide +kernel
theorem all9_7 : ∀ a : Fin 5, ∀ b : Fin 100, (100 * (35 + a.1) + b.1 = 0 ∨ rl false 60 (100 * (35 + a.1) + b.1) [] rows9 = some (roN (dN (100 * (35 + a.1) + b.1)) 4 [])) := by decide +kernel
theorem all9 : ∀ a : Fin 40, ∀ b : Fin 100, (100 * a.1 + b.1 = 0 ∨ rl false 60 (100 * a.1 + b.1) [] rows9 = some (roN (dN (100 * a.1 + b.1)) 4 [])) := by
  intro a b
  obtain ⟨c, r, e⟩ : ∃ (c : Fin 8) (r : Fin 5), a.1 = 5 * c.1 + r.1 := ⟨⟨a.1 / 5, by omega⟩, ⟨a.1 % 5, by omega⟩, by show a.1 = 5 * (a.1 / 5) + a.1 % 5; omega⟩
  rw [e]
  obtain ⟨c, hc⟩ := c
  rcases (show c = 0 ∨ c = 1 ∨ c = 2 ∨ c = 3 ∨ c = 4 ∨ c = 5 ∨ c = 6 ∨ c = 7 by omega) with rfl | rfl | rfl | rfl | rfl | rfl | rfl | rfl
  · exact all9_0 r b
  · exact all9_1 r b
  · exact all9_2 r b
  · exact all9_3 r b
  · exact all9_4 r b
  · exact all9_5 r b
  · exact all9_6 r b
  · exact all9_7 r b
theorem all10 : ∀ a : Fin 10, ∀ b : Fin 100, (100 * a.1 + b.1 = 0 ∨ rl false 60 (100 * a.1 + b.1) [] rows10 = some (leN 0 (dN (100 * a.1 + b.1)) 4 [])) := by decide +kernel
theorem all11 : ∀ a : Fin 10, ∀ b : Fin 100, (100 * a.1 + b.1 = 0 ∨ rl true 60 (100 * a.1 + b.1) [] rows11 = some (leN 1 (dN (100 * a.1 + b.1)) 4 [])) := by decide +kernel
theorem all12_0 : ∀ a : Fin 5, ∀ b : Fin 100, (100 * (0 + a.1) + b.1 = 0 ∨ rz (100 * (0 + a.1) + b.1) rowsZ [] = zhN (dN (100 * (0 + a.1) + b.1)) 4 [] false) := by decide +kernel
theorem all12_1 : ∀ a : Fin 5, ∀ b : Fin 100, (100 * (5 + a.1) + b.1 = 0 ∨ rz (100 * (5 + a.1) + b.1) rowsZ [] = zhN (dN (100 * (5 + a.1) + b.1)) 4 [] false) := by decide +kernel
theorem all12_2 : ∀ a : Fin 5, ∀ b : Fin 100, (100 * (10 + a.1) + b.1 = 0 ∨ rz (100 * (10 + a.1) + b.1) rowsZ [] = zhN (dN (100 * (10 + a.1) + b.1)) 4 [] false) := by decide +kernel
theorem all12_3 : ∀ a : Fin 5, ∀ b : Fin 100, (100 * (15 + a.1) + b.1 = 0 ∨ rz (100 * (15 + a.1) + b.1) rowsZ [] = zhN (dN (100 * (15 + a.1) + b.1)) 4 [] false) := by decide +kernel
theorem all12_4 : ∀ a : Fin 5, ∀ b : Fin 100, (100 * (20 + a.1) + b.1 = 0 ∨ rz (100 * (20 + a.1) + b.1) rowsZ [] = zhN (dN (100 * (20 + a.1) + b.1)) 4 [] false) := by decide +kernel
theorem all12_5 : ∀ a : Fin 5, ∀ b : Fin 100, (100 * (25 + a.1) + b.1 = 0 ∨ rz (100 * (25 + a.1) + b.1) rowsZ [] = zhN (dN (100 * (25 + a.1) + b.1)) 4 [] false) := by decide +kernel
theorem all12_6 : ∀ a : Fin 5, ∀ b : Fin 100, (100 * (30 + a.1) + b.1 = 0 ∨ rz (100 * (30 + a.1) + b.1) rowsZ [] = zhN (dN (100 * (30 + a.1) + b.1)) 4 [] false) := by decide +kernel
theorem all12_7 : ∀ a : Fin 5, ∀ b : Fin 100, (100 * (35 + a.1) + b.1 = 0 ∨ rz (100 * (35 + a.1) + b.1) rowsZ [] = zhN (dN (100 * (35 + a.1) + b.1)) 4 [] false) := by decide +kernel
theorem all12_8 : ∀ a : Fin 5, ∀ b : Fin 100, (100 * (40 + a.1) + b.1 = 0 ∨ rz (100 * (40 + a.1) + b.1) rowsZ [] = zhN (dN (100 * (40 + a.1) + b.1)) 4 [] false) := by decide +kernel
theorem all12_9 : ∀ a : Fin 5, ∀ b : Fin 100, (100 * (45 + a.1) + b.1 = 0 ∨ rz (100 * (45 + a.1) + b.1) rowsZ [] = zhN (dN (100 * (45 + a.1) + b.1)) 4 [] false) := by decide +kernel
theorem all12_10 : ∀ a : Fin 5, ∀ b : Fin 100, (100 * (50 + a.1) + b.1 = 0 ∨ rz (100 * (50 + a.1) + b.1) rowsZ [] = zhN (dN (100 * (50 + a.1) + b.1)) 4 [] false) := by decide +kernel
theorem all12_11 : ∀ a : Fin 5, ∀ b : Fin 100, (100 * (55 + a.1) + b.1 = 0 ∨ rz (100 * (55 + a.1) + b.1) rowsZ [] = zhN (dN (100 * (55 + a.1) + b.1)) 4 [] false) := by decide +kernel
theorem all12_12 : ∀ a : Fin 5, ∀ b : Fin 100, (100 * (60 + a.1) + b.1 = 0 ∨ rz (100 * (60 + a.1) + b.1) rowsZ [] = zhN (dN (100 * (60 + a.1) + b.1)) 4 [] false) := by decide +kernel
theorem all12_13 : ∀ a : Fin 5, ∀ b : Fin 100, (100 * (65 + a.1) + b.1 = 0 ∨ rz (100 * (65 + a.1) + b.1) rowsZ [] = zhN (dN (100 * (65 + a.1) + b.1)) 4 [] false) := by decide +kernel
theorem all12_14 : ∀ a : Fin 5, ∀ b : Fin 100, (100 * (70 + a.1) + b.1 = 0 ∨ rz (100 * (70 + a.1) + b.1) rowsZ [] = zhN (dN (100 * (70 + a.1) + b.1)) 4 [] false) := by decide +kernel
theorem all12_15 : ∀ a : Fin 5, ∀ b : Fin 100, (100 * (75 + a.1) + b.1 = 0 ∨ rz (100 * (75 + a.1) + b.1) rowsZ [] = zhN (dN (100 * (75 + a.1) + b.1)) 4 [] false) := by decide +kernel
theorem all12_16 : ∀ a : Fin 5, ∀ b : Fin 100, (100 * (80 + a.1) + b.1 = 0 ∨ rz (100 * (80 + a.1) + b.1) rowsZ [] = zhN (dN (100 * (80 + a.1) + b.1)) 4 [] false) := by decide +kernel
theorem all12_17 : ∀ a : Fin 5, ∀ b : Fin 100, (100 * (85 + a.1) + b.1 = 0 ∨ rz (100 * (85 + a.1) + b.1) rowsZ [] = zhN (dN (100 * (85 + a.1) + b.1)) 4 [] false) := by decide +kernel
theorem all12_18 : ∀ a : Fin 5, ∀ b : Fin 100, (100 * (90 + a.1) + b.1 = 0 ∨ rz (100 * (90 + a.1) + b.1) rowsZ [] = zhN (dN (100 * (90 + a.1) + b.1)) 4 [] false) := by decide +kernel
theorem all12_19 : ∀ a : Fin 5, ∀ b : Fin 100, (100 * (95 + a.1) + b.1 = 0 ∨ rz (100 * (95 + a.1) + b.1) rowsZ [] = zhN (dN (100 * (95 + a.1) + b.1)) 4 [] false) := by decide +kernel
theorem all12 : ∀ a : Fin 100, ∀ b : Fin 100, (100 * a.1 + b.1 = 0 ∨ rz (100 * a.1 + b.1) rowsZ [] = zhN (dN (100 * a.1 + b.1)) 4 [] false) := by
  intro a b
  obtain ⟨c, r, e⟩ : ∃ (c : Fin 20) (r : Fin 5), a.1 = 5 * c.1 + r.1 := ⟨⟨a.1 / 5, by omega⟩, ⟨a.1 % 5, by omega⟩, by show a.1 = 5 * (a.1 / 5) + a.1 % 5; omega⟩
  rw [e]
  obtain ⟨c, hc⟩ := c
  rcases (show c = 0 ∨ c = 1 ∨ c = 2 ∨ c = 3 ∨ c = 4 ∨ c = 5 ∨ c = 6 ∨ c = 7 ∨ c = 8 ∨ c = 9 ∨ c = 10 ∨ c = 11 ∨ c = 12 ∨ c = 13 ∨ c = 14 ∨ c = 15 ∨ c = 16 ∨ c = 17 ∨ c = 18 ∨ c = 19 by omega) with rfl | rfl | rfl | rfl | rfl | rfl | rfl | rfl | rfl | rfl | rfl | rfl | rfl | rfl | rfl | rfl | rfl | rfl | rfl | rfl
  · exact all12_0 r b
  · exact all12_1 r b
  · exact all12_2 r b
  · exact all12_3 r b
  · exact all12_4 r b
  · exact all12_5 r b
  · exact all12_6 r b
  · exact all12_7 r b
  · exact all12_8 r b
  · exact all12_9 r b
  · exact all12_10 r b
  · exact all12_11 r b
  · exact all12_12 r b
  · exact all12_13 r b
  · exact all12_14 r b
  · exact all12_15 r b
  · exact all12_16 r b
  · exact all12_17 r b
  · exact all12_18 r b
  · exact all12_19 r b
theorem rows_ok : (∀ x ∈ rows9, 1 ≤ x.1 ∧ x.1 ≤ 10000 ∧ x.2.length ≤ 9) ∧ (∀ x ∈ rows10, 1 ≤ x.1 ∧ x.1 ≤ 10000 ∧ x.2.length ≤ 9) ∧ (∀ x ∈ rows11, 1 ≤ x.1 ∧ x.1 ≤ 10000 ∧ x.2.length ≤ 9) ∧ (∀ x ∈ rowsZ, 1 ≤ x.1 ∧ x.1 ≤ 10000 ∧ x.2.length ≤ 9) := by decide
theorem lists : ephemerisref1_list.f 9 = some (rows9.map toN) ∧ ephemerisref1_list.f 10 = some (rows10.map toN) ∧ ephemerisref1_list.f 11 = some (rows11.map toN) := ⟨rfl, rfl, rfl⟩
theorem text_rl (s : Int) (L : List (Nat × List UInt8)) (hL : L.length ≤ 30) (h0 : 0 < L.length) (hv : ∀ x ∈ L, 1 ≤ x.1 ∧ x.1 ≤ 10000 ∧ x.2.length ≤ 9) (n k : Nat) (R : List UInt8) (hn : n ≤ 9999) (hk : 200 ≤ k) (h : rl (decide (s = 11)) 60 n [] L = some R) :
    ephemerisref1_NumeralText.l1 k s (n : Int) (bs []) (L.map toN) ((L.map toN).length : Int) 0 = some (bs R) := by
  obtain ⟨k1, rfl⟩ : ∃ k1, k = k1 + 1 := ⟨k - 1, by omega⟩
  have hd : L = L[0] :: L.drop (0 + 1) := by have := List.drop_eq_getElem_cons h0; rwa [List.drop_zero] at this
  have hr := toN_at L 0 h0
  have hg : L[0]? = some L[0] := List.getElem?_eq_getElem h0
  rw [hd] at h
  unfold ephemerisref1_NumeralText.l1
  rw [List.length_map, if_pos (by omega), if_pos (by omega), if_pos (by omega)]
  show ephemerisref1_NumeralText.l2 k1 s (n : Int) (bs []) (L.map toN) (L.length : Int) ((0 : Nat) : Int) (rd_T113 (L.map toN) ((0 : Nat) : Int)).f0 (rd_T113 (L.map toN) ((0 : Nat) : Int)).f1 = _
  rw [hr]
  generalize L[0] = y at hg h
  obtain ⟨v, t⟩ := y
  exact rl_loop s L hL hv 60 n 0 k1 v t [] R hn h0 hg (by omega) (by simp) h
theorem of_two {P : Nat → Prop} {m : Nat} (h : ∀ a : Fin m, ∀ b : Fin 100, P (100 * a.1 + b.1)) (n : Nat) (hn : n < 100 * m) : P n := by
  have := h ⟨n / 100, by omega⟩ ⟨n % 100, by omega⟩
  rwa [show 100 * (n / 100) + n % 100 = n by omega] at this
theorem big_f (s : Int) (n k : Nat) (hs : s = 9 ∨ s = 10 ∨ s = 11 ∨ s = 12) (h0 : numeral_Write.lo s ≤ (n : Int)) (h1 : (n : Int) ≤ numeral_Write.hi s) (hk : 200 ≤ k) : ephemerisref1_NumeralText.f k s (n : Int) = some (bs (numeral_Write.big s (n : Int))) := by
  have hdg : ∀ k, k < 4 → numeral_Write.dg (n : Int) k = (dN n k : Int) := fun k h => dg_nat n k h
  rcases hs with rfl | rfl | rfl | rfl
  · have l1 : numeral_Write.lo 9 = 1 := rfl
    have l2 : numeral_Write.hi 9 = 3999 := rfl
    have h := (of_two (P := fun n => n = 0 ∨ rl false 60 n [] rows9 = some (roN (dN n) 4 [])) all9 n (by omega)).resolve_left (by omega)
    unfold ephemerisref1_NumeralText.f
    rw [if_neg (by decide), if_neg (by decide), lists.1, Option.bind_some]
    have e : numeral_Write.big 9 (n : Int) = roN (dN n) 4 [] := by
      unfold numeral_Write.big
      rw [if_neg (by decide), if_pos rfl]
      exact ro_nat _ _ hdg 4 [] (Nat.le_refl _)
    rw [e]
    exact text_rl 9 rows9 (by decide) (by decide) rows_ok.1 n k _ (by omega) hk h
  · have l1 : numeral_Write.lo 10 = 1 := rfl
    have l2 : numeral_Write.hi 10 = 999 := rfl
    have h := (of_two (P := fun n => n = 0 ∨ rl false 60 n [] rows10 = some (leN 0 (dN n) 4 [])) all10 n (by omega)).resolve_left (by omega)
    unfold ephemerisref1_NumeralText.f
    rw [if_neg (by decide), if_neg (by decide), lists.2.1, Option.bind_some]
    have e : numeral_Write.big 10 (n : Int) = leN 0 (dN n) 4 [] := by
      unfold numeral_Write.big
      rw [if_neg (by decide), if_neg (by decide)]
      exact le_nat 0 _ _ hdg 4 [] (Nat.le_refl _)
    rw [e]
    exact text_rl 10 rows10 (by decide) (by decide) rows_ok.2.1 n k _ (by omega) hk h
  · have l1 : numeral_Write.lo 11 = 1 := rfl
    have l2 : numeral_Write.hi 11 = 999 := rfl
    have h := (of_two (P := fun n => n = 0 ∨ rl true 60 n [] rows11 = some (leN 1 (dN n) 4 [])) all11 n (by omega)).resolve_left (by omega)
    unfold ephemerisref1_NumeralText.f
    rw [if_neg (by decide), if_neg (by decide), lists.2.2, Option.bind_some]
    have e : numeral_Write.big 11 (n : Int) = leN 1 (dN n) 4 [] := by
      unfold numeral_Write.big
      rw [if_neg (by decide), if_neg (by decide)]
      exact le_nat 1 _ _ hdg 4 [] (Nat.le_refl _)
    rw [e]
    exact text_rl 11 rows11 (by decide) (by decide) rows_ok.2.2.1 n k _ (by omega) hk h
  · have l1 : numeral_Write.lo 12 = 0 := rfl
    have l2 : numeral_Write.hi 12 = 9999 := rfl
    unfold ephemerisref1_NumeralText.f
    rw [if_neg (by decide), if_pos rfl, Option.bind_some]
    unfold numeral_Write.big
    rw [if_pos rfl]
    by_cases c : n = 0
    · subst c; rfl
    · have h := (of_two (P := fun n => n = 0 ∨ rz n rowsZ [] = zhN (dN n) 4 [] false) all12 n (by omega)).resolve_left c
      rw [if_neg (by omega), Option.bind_some, if_neg (by omega), zh_nat _ _ hdg 4 [] false (Nat.le_refl _), ← h]
      exact rz_loop n (by omega) rowsZ (by decide) rows_ok.2.2.2 4 0 k [] rfl (by omega) (by simp)
theorem itoa_ok (n : Int) (h0 : -9223372036854775808 ≤ n) (h1 : n ≤ 9223372036854775807) : strconv_Itoa.f n = some (bs (Go.Lib.itoa n)) ∧ (bs (Go.Lib.itoa n)).size ≤ 1000 ∧ ((bs (Go.Lib.itoa n)).data.toList.all fun c => decide (c = 45 ∨ (48 ≤ c.toNat ∧ c.toNat ≤ 57))) = true := by
  refine ⟨by unfold strconv_Itoa.f; rw [if_pos ⟨h0, h1⟩]; rfl, ?_, ?_⟩
  · have := Go.Lib.itoa_length_le n h0 h1
    rw [bs_size]; omega
  · rw [bs_list, List.all_eq_true]
    intro c hc
    rcases itoa_bytes n c hc with h | h
    · simp [h]
    · have := (isDig_iff c).1 h
      exact decide_eq_true (.inr this)
theorem text_f (s n : Int) (k : Nat) (h0 : 0 ≤ s) (h1 : s < 13) (h2 : numeral_Write.lo s ≤ n) (h3 : n ≤ numeral_Write.hi s) (hk : 200 ≤ k) : ∃ T, numeral_Write.f s n = some (T, 0) ∧ ephemerisref1_NumeralText.f k s n = some T := by
  by_cases c : s < 9
  · have l1 : numeral_Write.lo s = -2147483647 := by unfold numeral_Write.lo; rw [if_pos c]
    have l2 : numeral_Write.hi s = 2147483647 := by unfold numeral_Write.hi; rw [if_pos c]
    obtain ⟨i1, i2, i3⟩ := itoa_ok n (by omega) (by omega)
    obtain ⟨D, hD⟩ : ∃ D, numeral_digits.f s (bs (Go.Lib.itoa n)) = some D := ⟨_, by unfold numeral_digits.f; rw [if_pos ⟨⟨h0, c⟩, i2, i3⟩]⟩
    obtain ⟨Z, hZ⟩ : ∃ Z, ephemerisref1_zero.f s = some Z := by
      obtain ⟨m, rfl⟩ : ∃ m : Nat, s = m := ⟨s.toNat, by omega⟩
      rcases (show m = 0 ∨ m = 1 ∨ m = 2 ∨ m = 3 ∨ m = 4 ∨ m = 5 ∨ m = 6 ∨ m = 7 ∨ m = 8 by omega) with rfl | rfl | rfl | rfl | rfl | rfl | rfl | rfl | rfl <;> exact ⟨_, rfl⟩
    refine ⟨D, ?_, ?_⟩
    · unfold numeral_Write.f
      rw [if_neg (by omega), if_neg (by omega), if_pos c, i1, Option.bind_some, hD, Option.bind_some]
    · unfold ephemerisref1_NumeralText.f
      rw [if_pos c, i1, Option.bind_some, hZ, Option.bind_some, hD, Option.bind_some]
  · have hs : s = 9 ∨ s = 10 ∨ s = 11 ∨ s = 12 := by omega
    have hl : 0 ≤ numeral_Write.lo s := by rcases hs with rfl | rfl | rfl | rfl <;> decide
    obtain ⟨m, rfl⟩ : ∃ m : Nat, n = m := ⟨n.toNat, by omega⟩
    refine ⟨_, ?_, big_f s m k hs h2 h3 hk⟩
    unfold numeral_Write.f
    rw [if_neg (by omega), if_neg (by omega), if_neg c]
    rfl
theorem In_f (a b c : Int) : ephemerisref1_In.f a b c = some (decide (b ≤ a ∧ a ≤ c)) := by
  unfold ephemerisref1_In.f
  by_cases h : b ≤ a
  · rw [if_pos h]; congr 1
    by_cases h2 : a ≤ c
    · rw [decide_eq_true h2, decide_eq_true ⟨h, h2⟩]
    · rw [decide_eq_false h2, decide_eq_false (fun g => h2 g.2)]
  · rw [if_neg h, decide_eq_false (fun g => h g.1)]
theorem range_f (s : Int) : ephemerisref1_NumeralRange.f s = some (numeral_Write.lo s, numeral_Write.hi s) := by
  unfold ephemerisref1_NumeralRange.f numeral_Write.lo numeral_Write.hi
  by_cases c : s < 9
  · rw [if_pos c, if_pos c, if_pos c]
  · rw [if_neg c, if_neg c, if_neg c]
    by_cases c9 : s = 9
    · subst c9; rfl
    · rw [if_neg c9, if_neg c9]
      by_cases c12 : s = 12
      · subst c12; rfl
      · rw [if_neg c12, if_neg c12, if_neg c12]

theorem NumeralWrites : ephemerislaw1_NumeralWrites.Pure := by
  intro s n hs hn
  obtain ⟨k, hk⟩ : ∃ k : Nat, 200 ≤ k := ⟨_, Nat.le_refl _⟩
  refine ⟨k + 1, ?_⟩
  have e : numeral_Write.f 9 1949 = some (bs [77, 67, 77, 88, 76, 73, 88], 0) := by
    unfold numeral_Write.f
    rw [if_neg (by decide), if_neg (by decide), if_neg (by decide)]
    congr 1
  unfold ephemerislaw1_NumeralWrites.f
  rw [e, Option.bind_some, if_pos (by rw [bs_toList]), if_pos rfl]
  show ephemerislaw1_NumeralWrites.j0 (k + 1) s n false = some true
  rw [ephemerislaw1_NumeralWrites.j0, if_neg (by decide)]
  by_cases c1 : s < 0 ∨ 13 ≤ s
  · have hw : numeral_Write.f s n = some (bs [], 1) := by unfold numeral_Write.f; rw [if_pos c1]; rfl
    rw [hw, Option.bind_some, In_f, Option.bind_some, if_neg (by rw [decide_eq_true_eq]; omega), if_pos (by rw [bs_toList])]; rfl
  · by_cases c2 : n < numeral_Write.lo s ∨ numeral_Write.hi s < n
    · have hw : numeral_Write.f s n = some (bs [], 3) := by unfold numeral_Write.f; rw [if_neg c1, if_pos c2]; rfl
      rw [hw, Option.bind_some, In_f, Option.bind_some, if_pos (by rw [decide_eq_true_eq]; omega), range_f, Option.bind_some, In_f, Option.bind_some, if_neg (by rw [decide_eq_true_eq]; omega), if_pos (by rw [bs_toList])]; rfl
    · obtain ⟨T, h1, h2⟩ := text_f s n k (by omega) (by omega) (by omega) (by omega) hk
      rw [h1, Option.bind_some, In_f, Option.bind_some, if_pos (by rw [decide_eq_true_eq]; omega), range_f, Option.bind_some, In_f, Option.bind_some, if_pos (by rw [decide_eq_true_eq]; omega), if_pos rfl, h2, Option.bind_some]
      simp
end Go.Proofs.YtcmanidhilkhnaaDoor.Pure
