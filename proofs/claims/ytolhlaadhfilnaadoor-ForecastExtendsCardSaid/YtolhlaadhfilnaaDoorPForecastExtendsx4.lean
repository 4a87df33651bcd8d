/- The walks of the functions of this part. The proof of strings_Trim, rule_Name is written by hand; the other ones are as the kit's print tells them. -/
-- The walks of the law's functions, told by a program.
import Derived.Shelf.Strings.SlTrimAscii
import Derived.Test.YtolhlaadhfilnaaDoorY
import Derived.Test.YtolhlaadhfilnaaDoorPForecastExtendsx0
import Derived.Test.YtolhlaadhfilnaaDoorPForecastExtendsx3
namespace Go.Proofs.YtolhlaadhfilnaaDoor.PForecastExtends
open Go.RowKit Go.Proofs.YtolhlaadhfilnaaDoorW.PrintWords Go.Proofs.YtolhlaadhfilnaaDoorW.PrintLast Go.Proofs.YtolhlaadhfilnaaDoorW.PrintMore Go.Proofs.YtolhlaadhfilnaaDoor.Y
attribute [local go_sem] max2_int min2_int max_two min_two max_three min_three max_four min_four   -- for this text's walks alone
set_option linter.unusedVariables false
set_option linter.unusedSimpArgs false

/-! ### ephemerisref1_Mod: function 75 -/
def ephemerisref1_Mod.f (k : Nat) (a0 : Int) (a1 : Int) : Option (Int) := (ephemerisref1_Div.f k a0 a1).bind fun bt109 => (some bt109.2.1)
theorem ephemerisref1_Mod.mono : ∀ a0 a1 k, LeO (ephemerisref1_Mod.f k a0 a1) (ephemerisref1_Mod.f (k + 1) a0 a1) := by
 intro a0 a1 k
 unfold ephemerisref1_Mod.f
 repeat' first
   | (with_reducible exact ephemerisref1_Div.mono _ _ _)
   | (with_reducible exact LeO.refl _)
   | (with_reducible exact LeO.none _)
   | (with_reducible refine LeO.ite ?_ ?_)
   | (with_reducible refine LeO.bind ?_ (fun _ => ?_))
   | exact ephemerisref1_Div.mono _ _ _
   | exact LeO.none _
   | refine LeO.ite ?_ ?_
   | refine LeO.bind ?_ (fun _ => ?_)
set_option maxHeartbeats 8000000 in
set_option maxRecDepth 100000 in
theorem ephemerisref1_Mod.calls (k : Nat) (a0 : Int) (a1 : Int) (r : Int) (w : World) (h : ephemerisref1_Mod.f k a0 a1 = some r) :
  Calls Tryd.prog 75 #[.int .i64 a0, .int .i64 a1] w fun e w' => e = .returned (.int .i64 r) ∧ Drawn0 w w' := by
 have H : ((ephemerisref1_Div.f k a0 a1).bind fun bt109 => (some bt109.2.1)) = some r := h
 clear h
 replace H := Option.bind_eq_some_iff.mp H
 obtain ⟨⟨t109, t110, t111⟩, A30, H⟩ := H
 replace H : (some t110) = some r := H
 have A3 := Aside0.mk A30
 clear A30
 obtain rfl := Option.some.inj H
 go_enter Tryd.func75, Tryd.ntmps75
 go_wp2_with (first | ((with_reducible refine gate_callee (f := 81) rfl ?_); refine goesL_ (some 11) rfl rfl Tryd.func81 kx rfl #[.int .i64 a0, .int .i64 a1] rfl aa ?_; (with_reducible refine (ephemerisref1_Div.calls k a0 a1 t109 t110 t111 _ A3.out).mono ?_); rintro e w' ⟨rfl, ⟨nd, rfl⟩⟩; refine ⟨_, rfl, ?_⟩))
 go_ret
 exact ⟨by first | rfl | (simp; done) | (simp [*]; done), by repeat (first | exact Drawn0.refl _ | apply Drawn0.step)⟩

/-! ### ephemerisref1_Offset: function 44 -/
def ephemerisref1_Offset.f (k : Nat) (a0 : Int) : Option (Bool) := (ephemerisref1_In.f a0 (-64800000) 64800000).bind fun t112 => (if t112 = true then ((ephemerisref1_Mod.f k a0 1000).bind fun t113 => (some (t113 == 0))) else (some false))
theorem ephemerisref1_Offset.mono : ∀ a0 k, LeO (ephemerisref1_Offset.f k a0) (ephemerisref1_Offset.f (k + 1) a0) := by
 intro a0 k
 unfold ephemerisref1_Offset.f
 repeat' first
   | (with_reducible exact ephemerisref1_Mod.mono _ _ _)
   | (with_reducible exact LeO.refl _)
   | (with_reducible exact LeO.none _)
   | (with_reducible refine LeO.ite ?_ ?_)
   | (with_reducible refine LeO.bind ?_ (fun _ => ?_))
   | exact ephemerisref1_Mod.mono _ _ _
   | exact LeO.none _
   | refine LeO.ite ?_ ?_
   | refine LeO.bind ?_ (fun _ => ?_)
set_option maxHeartbeats 8000000 in
set_option maxRecDepth 100000 in
theorem ephemerisref1_Offset.calls (k : Nat) (a0 : Int) (r : Bool) (w : World) (h : ephemerisref1_Offset.f k a0 = some r) :
  Calls Tryd.prog 44 #[.int .i64 a0] w fun e w' => e = .returned (.bool r) ∧ Drawn0 w w' := by
 have H : ((ephemerisref1_In.f a0 (-64800000) 64800000).bind fun t112 => (if t112 = true then ((ephemerisref1_Mod.f k a0 1000).bind fun t113 => (some (t113 == 0))) else (some false))) = some r := h
 clear h
 replace H := Option.bind_eq_some_iff.mp H
 obtain ⟨t112, A20, H⟩ := H
 replace H : (if t112 = true then ((ephemerisref1_Mod.f k a0 1000).bind fun t113 => (some (t113 == 0))) else (some false)) = some r := H
 have A2 := Aside0.mk A20
 clear A20
 by_cases c3 : t112 = true
 ·subst c3
  have H1 : ((ephemerisref1_Mod.f k a0 1000).bind fun t113 => (some (t113 == 0))) = some r := by rw [if_pos rfl] at H; exact H
  clear H
  have H := H1
  clear H1
  replace H := Option.bind_eq_some_iff.mp H
  obtain ⟨t113, A40, H⟩ := H
  replace H : (some (t113 == 0)) = some r := H
  have A4 := Aside0.mk A40
  clear A40
  obtain rfl := Option.some.inj H
  go_enter Tryd.func44, Tryd.ntmps44
  go_wp2_with (first | ((with_reducible refine gate_callee (f := 15) rfl ?_); refine goesL_ (some 4) rfl rfl Tryd.func15 kx rfl #[.int .i64 a0, .int .i64 (-64800000), .int .i64 64800000] rfl aa ?_; (with_reducible refine (ephemerisref1_In.calls a0 (-64800000) 64800000 true _ A2.out).mono ?_); rintro e w' ⟨rfl, ⟨nd, rfl⟩⟩; refine ⟨_, rfl, ?_⟩) | (go_at_call 75; (with_reducible refine (ephemerisref1_Mod.calls k a0 1000 t113 _ A4.out).mono ?_); rintro e w' ⟨rfl, ⟨nd, rfl⟩⟩))
  go_ret
  exact ⟨by first | rfl | (simp; done) | (simp [*]; done), by repeat (first | exact Drawn0.refl _ | apply Drawn0.step)⟩
 ·replace c3 := Bool.eq_false_iff.mpr c3
  subst c3
  have H1 : (some false) = some r := by rw [if_neg (show ¬ (false = true) by decide)] at H; exact H
  clear H
  have H := H1
  clear H1
  obtain rfl := Option.some.inj H
  go_enter Tryd.func44, Tryd.ntmps44
  go_wp2_with (first | ((with_reducible refine gate_callee (f := 15) rfl ?_); refine goesL_ (some 4) rfl rfl Tryd.func15 kx rfl #[.int .i64 a0, .int .i64 (-64800000), .int .i64 64800000] rfl aa ?_; (with_reducible refine (ephemerisref1_In.calls a0 (-64800000) 64800000 false _ A2.out).mono ?_); rintro e w' ⟨rfl, ⟨nd, rfl⟩⟩; refine ⟨_, rfl, ?_⟩))
  go_ret
  exact ⟨by first | rfl | (simp; done) | (simp [*]; done), by repeat (first | exact Drawn0.refl _ | apply Drawn0.step)⟩

/-! ### strings_Trim: function 76 -/
/-- The bytes of a set of ASCII bytes are cut off from both ends. -/
def strings_Trim.f (a0 : ByteArray) (a1 : ByteArray) : Option (ByteArray) := if a0.size ≤ 9223372036854775807 ∧ a1.data.toList.all (fun b => decide (b.toNat < 128)) = true ∧ a1.size < 4294967281 then some ⟨(Go.Lib.trimS a0.data.toList a1.data.toList).toArray⟩ else none
def strings_Trim.ren : Go.Shelf.Ren := ⟨fun | 119 => 130 | 120 => 136 | 137 => 57 | 151 => 120 | 152 => 112 | 160 => 76 | 197 => 119 | 217 => 85 | 224 => 131 | 225 => 132 | 227 => 99 | 228 => 114 | 231 => 97 | 232 => 98 | 233 => 100 | 234 => 101 | 235 => 102 | 236 => 103 | 260 => 135 | 266 => 115 | 271 => 121 | n => n, fun | 0 => 0 | 3 => 3 | 4 => 4 | 5 => 5 | 9 => 9 | 21 => 21 | 46 => 173 | 105 => 184 | 116 => 163 | 117 => 164 | 119 => 195 | 124 => 167 | 138 => 197 | 139 => 198 | n => n, fun | 3 => 11 | 4 => 12 | n => n⟩
theorem strings_Trim.lays : Go.Proofs.Lays.n160 Tryd.prog strings_Trim.ren := {
 mixed := by kernel_rfl
 f119 := Tryd.func130.trans (congrArg some kx)
 f120 := Tryd.func136.trans (congrArg some kx)
 f137 := Tryd.func57.trans (congrArg some kx)
 f151 := Tryd.func120.trans (congrArg some kx)
 f152 := Tryd.func112.trans (congrArg some kx)
 f160 := Tryd.func76.trans (congrArg some kx)
 f197 := Tryd.func119.trans (congrArg some kx)
 f217 := Tryd.func85.trans (congrArg some kx)
 f224 := Tryd.func131.trans (congrArg some kx)
 f225 := Tryd.func132.trans (congrArg some kx)
 f227 := Tryd.func99.trans (congrArg some kx)
 f228 := Tryd.func114.trans (congrArg some kx)
 f231 := Tryd.func97.trans (congrArg some kx)
 f232 := Tryd.func98.trans (congrArg some kx)
 f233 := Tryd.func100.trans (congrArg some kx)
 f234 := Tryd.func101.trans (congrArg some kx)
 f235 := Tryd.func102.trans (congrArg some kx)
 f236 := Tryd.func103.trans (congrArg some kx)
 f260 := Tryd.func135.trans (congrArg some kx)
 f266 := Tryd.func115.trans (congrArg some kx)
 f271 := Tryd.func121.trans (congrArg some kx)
 t0 := Tryd.underlying0
 a0 := Tryd.isAgg0
 z0 := Tryd.sizeOf0
 v0 := Tryd.zeroValue0
 t3 := Tryd.underlying3
 a3 := Tryd.isAgg3
 z3 := Tryd.sizeOf3
 v3 := Tryd.zeroValue3
 t4 := Tryd.underlying4
 a4 := Tryd.isAgg4
 z4 := Tryd.sizeOf4
 v4 := Tryd.zeroValue4
 t5 := Tryd.underlying5
 a5 := Tryd.isAgg5
 z5 := Tryd.sizeOf5
 v5 := Tryd.zeroValue5
 t9 := Tryd.underlying9
 a9 := Tryd.isAgg9
 z9 := Tryd.sizeOf9
 v9 := Tryd.zeroValue9
 t21 := Tryd.underlying21
 a21 := Tryd.isAgg21
 z21 := Tryd.sizeOf21
 v21 := Tryd.zeroValue21
 t46 := Tryd.underlying173
 a46 := Tryd.isAgg173
 z46 := Tryd.sizeOf173
 v46 := Tryd.zeroValue173
 t105 := Tryd.underlying184
 a105 := Tryd.isAgg184
 z105 := Tryd.sizeOf184
 v105 := Tryd.zeroValue184
 t116 := Tryd.underlying163
 a116 := Tryd.isAgg163
 z116 := Tryd.sizeOf163
 t117 := Tryd.underlying164
 a117 := Tryd.isAgg164
 z117 := Tryd.sizeOf164
 v117 := Tryd.zeroValue164
 t119 := Tryd.underlying195
 a119 := Tryd.isAgg195
 z119 := Tryd.sizeOf195
 t124 := Tryd.underlying167
 a124 := Tryd.isAgg167
 z124 := Tryd.sizeOf167
 v124 := Tryd.zeroValue167
 t138 := Tryd.underlying197
 a138 := Tryd.isAgg197
 z138 := Tryd.sizeOf197
 v138 := Tryd.zeroValue197
 t139 := Tryd.underlying198
 a139 := Tryd.isAgg198
 z139 := Tryd.sizeOf198
 v139 := Tryd.zeroValue198
 g3 := by kernel_rfl
 g4 := by kernel_rfl }
theorem strings_Trim.calls (a0 : ByteArray) (a1 : ByteArray) (r : ByteArray) (w : World) (h : strings_Trim.f a0 a1 = some r) :
  Calls Tryd.prog 76 #[.string a0, .string a1] w fun e w' => e = .returned (.string r) ∧ Below w.heap.size w w' := by
 unfold strings_Trim.f at h
 by_cases c : a0.size ≤ 9223372036854775807 ∧ a1.data.toList.all (fun b => decide (b.toNat < 128)) = true ∧ a1.size < 4294967281
 ·rw [if_pos c] at h
  obtain rfl := Option.some.inj h
  exact Go.Proofs.Any.strings_Trim_laid strings_Trim.lays kx a0 a1 w c.1 c.2.2 (Go.Proofs.ascii_of_all c.2.1)
 ·rw [if_neg c] at h; cases h

/-! ### ephemerisref1_Label: function 45 -/
def ephemerisref1_Label.f (a0 : ByteArray) : Option (Bool) := (ephemerisref1_In.f (a0.size : Int) 1 6).bind fun t117 => (if t117 = true then ((strings_Trim.f a0 (⟨#[65, 66, 67, 68, 69, 70, 71, 72, 73, 74, 75, 76, 77, 78, 79, 80, 81, 82, 83, 84, 85, 86, 87, 88, 89, 90]⟩ : ByteArray)).bind fun t118 => (some (t118.toList == ([] : List UInt8)))) else (some false))
set_option maxHeartbeats 8000000 in
set_option maxRecDepth 100000 in
theorem ephemerisref1_Label.calls (a0 : ByteArray) (r : Bool) (w : World) (h : ephemerisref1_Label.f a0 = some r) :
  Calls Tryd.prog 45 #[.string a0] w fun e w' => e = .returned (.bool r) ∧ Below w.heap.size w w' := by
 have HB := Aside0.mk (Below.refl w.heap.size w)
 have H : ((ephemerisref1_In.f (a0.size : Int) 1 6).bind fun t117 => (if t117 = true then ((strings_Trim.f a0 (⟨#[65, 66, 67, 68, 69, 70, 71, 72, 73, 74, 75, 76, 77, 78, 79, 80, 81, 82, 83, 84, 85, 86, 87, 88, 89, 90]⟩ : ByteArray)).bind fun t118 => (some (t118.toList == ([] : List UInt8)))) else (some false))) = some r := h
 clear h
 replace H := Option.bind_eq_some_iff.mp H
 obtain ⟨t117, A20, H⟩ := H
 replace H : (if t117 = true then ((strings_Trim.f a0 (⟨#[65, 66, 67, 68, 69, 70, 71, 72, 73, 74, 75, 76, 77, 78, 79, 80, 81, 82, 83, 84, 85, 86, 87, 88, 89, 90]⟩ : ByteArray)).bind fun t118 => (some (t118.toList == ([] : List UInt8)))) else (some false)) = some r := H
 have A2 := Aside0.mk A20
 clear A20
 by_cases c3 : t117 = true
 ·subst c3
  have H1 : ((strings_Trim.f a0 (⟨#[65, 66, 67, 68, 69, 70, 71, 72, 73, 74, 75, 76, 77, 78, 79, 80, 81, 82, 83, 84, 85, 86, 87, 88, 89, 90]⟩ : ByteArray)).bind fun t118 => (some (t118.toList == ([] : List UInt8)))) = some r := by rw [if_pos rfl] at H; exact H
  clear H
  have H := H1
  clear H1
  replace H := Option.bind_eq_some_iff.mp H
  obtain ⟨t118, A40, H⟩ := H
  replace H : (some (t118.toList == ([] : List UInt8))) = some r := H
  have A4 := Aside0.mk A40
  clear A40
  obtain rfl := Option.some.inj H
  go_enter Tryd.func45, Tryd.ntmps45
  go_wp2_with (first | ((with_reducible refine gate_callee (f := 15) rfl ?_); refine goesL_ (some 5) rfl rfl Tryd.func15 kx rfl #[.int .i64 (a0.size : Int), .int .i64 1, .int .i64 6] rfl aa ?_; (with_reducible refine (ephemerisref1_In.calls (a0.size : Int) 1 6 true _ A2.out).mono ?_); rintro e w' ⟨rfl, ⟨nd, rfl⟩⟩; refine ⟨_, rfl, ?_⟩) | (go_at_call 76; (with_reducible refine (strings_Trim.calls a0 (⟨#[65, 66, 67, 68, 69, 70, 71, 72, 73, 74, 75, 76, 77, 78, 79, 80, 81, 82, 83, 84, 85, 86, 87, 88, 89, 90]⟩ : ByteArray) t118 _ A4.out).mono ?_); rintro e w5 ⟨rfl, hb⟩; have n0_ := Aside0.mk (below_step be hb); clear HB; have HB := n0_; clear n0_; (try clear hb); (try clear hb2); (try clear hk); (try clear hi)))
  go_ret
  exact ⟨by first | rfl | (simp [errW_none, errW_some] <;> rfl) | (simp [*, errW_none, errW_some] <;> rfl), be⟩
 ·replace c3 := Bool.eq_false_iff.mpr c3
  subst c3
  have H1 : (some false) = some r := by rw [if_neg (show ¬ (false = true) by decide)] at H; exact H
  clear H
  have H := H1
  clear H1
  obtain rfl := Option.some.inj H
  go_enter Tryd.func45, Tryd.ntmps45
  go_wp2_with (first | ((with_reducible refine gate_callee (f := 15) rfl ?_); refine goesL_ (some 5) rfl rfl Tryd.func15 kx rfl #[.int .i64 (a0.size : Int), .int .i64 1, .int .i64 6] rfl aa ?_; (with_reducible refine (ephemerisref1_In.calls (a0.size : Int) 1 6 false _ A2.out).mono ?_); rintro e w' ⟨rfl, ⟨nd, rfl⟩⟩; refine ⟨_, rfl, ?_⟩))
  go_ret
  exact ⟨by first | rfl | (simp [errW_none, errW_some] <;> rfl) | (simp [*, errW_none, errW_some] <;> rfl), be⟩

/-! ### ephemerisref1_ZoneError: function 13 -/
mutual
def ephemerisref1_ZoneError.l0 : Nat → List (S43) → Int → Int → ByteArray → Int → List (S43) → Option (Int)
 | 0, _, _, _, _, _, _ => none
 | k + 1, x18, x19, x20, x120000, x120001, x120002 => if x20 < x19 then (if 0 ≤ x20 then (if x20 < (x18.length : Int) then ((ephemerisref1_Instant.f k ((rd_T43 x18 x20).f0)).bind fun t124 => (if t124 = true then ((ephemerisref1_Offset.f k ((rd_T43 x18 x20).f1)).bind fun t125 => (ephemerisref1_ZoneError.j1 k x20 x18 x19 x20 (!t125) x120000 x120001 x120002 ((rd_T43 x18 x20).f0) ((rd_T43 x18 x20).f1) ((rd_T43 x18 x20).f2))) else (ephemerisref1_ZoneError.j1 k x20 x18 x19 x20 true x120000 x120001 x120002 ((rd_T43 x18 x20).f0) ((rd_T43 x18 x20).f1) ((rd_T43 x18 x20).f2)))) else (none)) else (none)) else (some 0)
def ephemerisref1_ZoneError.j1 : Nat → Int → List (S43) → Int → Int → Bool → ByteArray → Int → List (S43) → Int → Int → ByteArray → Option (Int)
 | 0, _, _, _, _, _, _, _, _, _, _, _ => none
 | k + 1, x3, x18, x19, x20, x34, x120000, x120001, x120002, x124000, x124001, x124002 => if x34 = true then (some 3) else ((ephemerisref1_Label.f x124002).bind fun t126 => (if t126 = true then (if x3 > 0 then (if 0 ≤ (wrap64 (x3 - 1)) then (if (wrap64 (x3 - 1)) < (x120002.length : Int) then (if ((rd_T43 x120002 (wrap64 (x3 - 1))).f0) ≥ x124000 then (some 9) else (ephemerisref1_ZoneError.l0 k x18 x19 (wrap64 (x20 + 1)) x120000 x120001 x120002)) else (none)) else (none)) else (ephemerisref1_ZoneError.l0 k x18 x19 (wrap64 (x20 + 1)) x120000 x120001 x120002)) else (some 8)))
end
def ephemerisref1_ZoneError.f (k : Nat) (a0_0 : ByteArray) (a0_1 : Int) (l0_2 : List (S43)) : Option (Int) := (ephemerisref1_Name.f k a0_0).bind fun t120 => (if t120 = true then ((ephemerisref1_Offset.f k a0_1).bind fun t121 => (if t121 = true then (if (l0_2.length : Int) > 200 then (some 2) else (ephemerisref1_ZoneError.l0 k l0_2 (l0_2.length : Int) 0 a0_0 a0_1 l0_2)) else (some 3))) else (some 5))
theorem ephemerisref1_ZoneError.mono_l : ∀ k, (∀ y0 y1 y2 y3 y4 y5, LeO (ephemerisref1_ZoneError.l0 k y0 y1 y2 y3 y4 y5) (ephemerisref1_ZoneError.l0 (k + 1) y0 y1 y2 y3 y4 y5)) ∧ (∀ y0 y1 y2 y3 y4 y5 y6 y7 y8 y9 y10, LeO (ephemerisref1_ZoneError.j1 k y0 y1 y2 y3 y4 y5 y6 y7 y8 y9 y10) (ephemerisref1_ZoneError.j1 (k + 1) y0 y1 y2 y3 y4 y5 y6 y7 y8 y9 y10))
 | 0 => ⟨fun _ _ _ _ _ _ r h => by simp [ephemerisref1_ZoneError.l0] at h, fun _ _ _ _ _ _ _ _ _ _ _ r h => by simp [ephemerisref1_ZoneError.j1] at h⟩
 | k + 1 => by
  obtain ⟨ih0, ih1⟩ := ephemerisref1_ZoneError.mono_l k
  refine ⟨?_, ?_⟩
  ·intro y0 y1 y2 y3 y4 y5
   unfold ephemerisref1_ZoneError.l0
   repeat' first
   | (with_reducible exact ih0 _ _ _ _ _ _)
   | (with_reducible exact ih1 _ _ _ _ _ _ _ _ _ _ _)
   | (with_reducible exact ephemerisref1_Instant.mono _ _)
   | (with_reducible exact ephemerisref1_Name.mono _ _)
   | (with_reducible exact ephemerisref1_Offset.mono _ _)
   | (with_reducible exact LeO.refl _)
   | (with_reducible exact LeO.none _)
   | (with_reducible refine LeO.ite ?_ ?_)
   | (with_reducible refine LeO.bind ?_ (fun _ => ?_))
   | exact ih0 _ _ _ _ _ _
   | exact ih1 _ _ _ _ _ _ _ _ _ _ _
   | exact ephemerisref1_Instant.mono _ _
   | exact ephemerisref1_Name.mono _ _
   | exact ephemerisref1_Offset.mono _ _
   | exact LeO.none _
   | refine LeO.ite ?_ ?_
   | refine LeO.bind ?_ (fun _ => ?_)
  ·intro y0 y1 y2 y3 y4 y5 y6 y7 y8 y9 y10
   unfold ephemerisref1_ZoneError.j1
   repeat' first
   | (with_reducible exact ih0 _ _ _ _ _ _)
   | (with_reducible exact ih1 _ _ _ _ _ _ _ _ _ _ _)
   | (with_reducible exact ephemerisref1_Instant.mono _ _)
   | (with_reducible exact ephemerisref1_Name.mono _ _)
   | (with_reducible exact ephemerisref1_Offset.mono _ _)
   | (with_reducible exact LeO.refl _)
   | (with_reducible exact LeO.none _)
   | (with_reducible refine LeO.ite ?_ ?_)
   | (with_reducible refine LeO.bind ?_ (fun _ => ?_))
   | exact ih0 _ _ _ _ _ _
   | exact ih1 _ _ _ _ _ _ _ _ _ _ _
   | exact ephemerisref1_Instant.mono _ _
   | exact ephemerisref1_Name.mono _ _
   | exact ephemerisref1_Offset.mono _ _
   | exact LeO.none _
   | refine LeO.ite ?_ ?_
   | refine LeO.bind ?_ (fun _ => ?_)
theorem ephemerisref1_ZoneError.mono : ∀ a0 a1 a2 k, LeO (ephemerisref1_ZoneError.f k a0 a1 a2) (ephemerisref1_ZoneError.f (k + 1) a0 a1 a2) := by
 intro a0 a1 a2 k
 obtain ⟨ih0, ih1⟩ := ephemerisref1_ZoneError.mono_l k
 unfold ephemerisref1_ZoneError.f
 repeat' first
   | (with_reducible exact ih0 _ _ _ _ _ _)
   | (with_reducible exact ih1 _ _ _ _ _ _ _ _ _ _ _)
   | (with_reducible exact ephemerisref1_Instant.mono _ _)
   | (with_reducible exact ephemerisref1_Name.mono _ _)
   | (with_reducible exact ephemerisref1_Offset.mono _ _)
   | (with_reducible exact LeO.refl _)
   | (with_reducible exact LeO.none _)
   | (with_reducible refine LeO.ite ?_ ?_)
   | (with_reducible refine LeO.bind ?_ (fun _ => ?_))
   | exact ih0 _ _ _ _ _ _
   | exact ih1 _ _ _ _ _ _ _ _ _ _ _
   | exact ephemerisref1_Instant.mono _ _
   | exact ephemerisref1_Name.mono _ _
   | exact ephemerisref1_Offset.mono _ _
   | exact LeO.none _
   | refine LeO.ite ?_ ?_
   | refine LeO.bind ?_ (fun _ => ?_)
set_option maxHeartbeats 8000000 in
set_option maxRecDepth 100000 in
theorem ephemerisref1_ZoneError.calls (k : Nat) (a0_0 : ByteArray) (a0_1 : Int) (A0_2 : Option Addr) (c0_2 : Nat) (l0_2 : List (S43)) (r : Int) (w : World) (hr0_2 : Kd.C k43 w A0_2 l0_2.length l0_2) (hc0_2 : l0_2.length ≤ c0_2) (h : ephemerisref1_ZoneError.f k a0_0 a0_1 l0_2 = some r) :
  Calls Tryd.prog 13 #[.agg #[.string a0_0, .int .i64 a0_1, .slice A0_2 l0_2.length c0_2]] w fun e w' => e = .returned (.int .i64 r) ∧ Below w.heap.size w w' := by
 have hu24 := Tryd.underlying24
 have hu43 := Tryd.underlying43
 have HR0_2 := Aside0.mk hr0_2
 have HC0_2 := Aside0.mk hc0_2
 clear hr0_2 hc0_2
 have HB := Aside0.mk (Below.refl w.heap.size w)
 have H : ((ephemerisref1_Name.f k a0_0).bind fun t120 => (if t120 = true then ((ephemerisref1_Offset.f k a0_1).bind fun t121 => (if t121 = true then (if (l0_2.length : Int) > 200 then (some 2) else (ephemerisref1_ZoneError.l0 k l0_2 (l0_2.length : Int) 0 a0_0 a0_1 l0_2)) else (some 3))) else (some 5))) = some r := h
 clear h
 replace H := Option.bind_eq_some_iff.mp H
 obtain ⟨t120, A20, H⟩ := H
 replace H : (if t120 = true then ((ephemerisref1_Offset.f k a0_1).bind fun t121 => (if t121 = true then (if (l0_2.length : Int) > 200 then (some 2) else (ephemerisref1_ZoneError.l0 k l0_2 (l0_2.length : Int) 0 a0_0 a0_1 l0_2)) else (some 3))) else (some 5)) = some r := H
 have A2 := Aside0.mk A20
 clear A20
 by_cases c3 : t120 = true
 ·subst c3
  have H1 : ((ephemerisref1_Offset.f k a0_1).bind fun t121 => (if t121 = true then (if (l0_2.length : Int) > 200 then (some 2) else (ephemerisref1_ZoneError.l0 k l0_2 (l0_2.length : Int) 0 a0_0 a0_1 l0_2)) else (some 3))) = some r := by rw [if_pos rfl] at H; exact H
  clear H
  have H := H1
  clear H1
  replace H := Option.bind_eq_some_iff.mp H
  obtain ⟨t121, A40, H⟩ := H
  replace H : (if t121 = true then (if (l0_2.length : Int) > 200 then (some 2) else (ephemerisref1_ZoneError.l0 k l0_2 (l0_2.length : Int) 0 a0_0 a0_1 l0_2)) else (some 3)) = some r := H
  have A4 := Aside0.mk A40
  clear A40
  by_cases c5 : t121 = true
  ·subst c5
   have H1 : (if (l0_2.length : Int) > 200 then (some 2) else (ephemerisref1_ZoneError.l0 k l0_2 (l0_2.length : Int) 0 a0_0 a0_1 l0_2)) = some r := by rw [if_pos rfl] at H; exact H
   clear H
   have H := H1
   clear H1
   by_cases c6 : (l0_2.length : Int) > 200
   ·rw [if_pos c6] at H
    have c6b0 : decide (200 < (l0_2.length : Int)) = true := decide_eq_true c6
    have c6b1 : decide (200 < l0_2.length) = true := decide_eq_true (by omega)
    clear c6
    obtain rfl := Option.some.inj H
    go_enter Tryd.func13, Tryd.ntmps13
    go_wp2_with (first | ((with_reducible refine gate_dst (N := 1) rfl ?_); refine box_event ?hg (N := 1) ?hd (cs := #[.string a0_0, .int .i64 a0_1, .slice A0_2 l0_2.length c0_2]) (t := 24) ?hr ?_; (case hd => rfl); (case hg => rfl); (case hr => first | (go_simp; done) | (go_simp; rfl)); intro gb119 hg w7 hbox hb; have n0_ := Aside0.mk (below_step be hb); have n1_ := Aside0.mk (hbox); have n2_ := gs hg HB; have n3_ := n2_; clear HB; have HB := n0_; have BK119 := n1_; have GW119 := n2_; have GE119 := n3_; clear n0_ n1_ n2_ n3_; clear hb hbox hg; obtain ⟨hcz8_0, hcz8_1, hcz8_2, hfz8_0, hfz8_1, hfz8_2⟩ := bc3 BK119) | (go_at_call 43; (with_reducible refine (ephemerisref1_Name.calls k a0_0 true _ A2.out).mono ?_); rintro e w' ⟨rfl, ⟨nd, rfl⟩⟩; (try first | exact ⟨rfl, _, World.drewN_drewN _ _ _⟩ | exact ⟨rfl, _, Eq.trans (World.drewN_drewN _ _ _) (congrArg (World.drewN _) (Nat.add_assoc _ _ _))⟩)) | (go_at_call 44; (with_reducible refine (ephemerisref1_Offset.calls k a0_1 true _ A4.out).mono ?_); rintro e w' ⟨rfl, ⟨nd, rfl⟩⟩; (try first | exact ⟨rfl, _, World.drewN_drewN _ _ _⟩ | exact ⟨rfl, _, Eq.trans (World.drewN_drewN _ _ _) (congrArg (World.drewN _) (Nat.add_assoc _ _ _))⟩)))
    repeat (go_quiet (first | ((with_reducible refine gate_dst (N := 1) rfl ?_); refine box_event ?hg (N := 1) ?hd (cs := #[.string a0_0, .int .i64 a0_1, .slice A0_2 l0_2.length c0_2]) (t := 24) ?hr ?_; (case hd => rfl); (case hg => rfl); (case hr => first | (go_simp; done) | (go_simp; rfl)); intro gb119 hg w7 hbox hb; have n0_ := Aside0.mk (below_step be hb); have n1_ := Aside0.mk (hbox); have n2_ := gs hg HB; have n3_ := n2_; clear HB; have HB := n0_; have BK119 := n1_; have GW119 := n2_; have GE119 := n3_; clear n0_ n1_ n2_ n3_; clear hb hbox hg; obtain ⟨hcz8_0, hcz8_1, hcz8_2, hfz8_0, hfz8_1, hfz8_2⟩ := bc3 BK119) | (go_at_call 43; (with_reducible refine (ephemerisref1_Name.calls k a0_0 true _ A2.out).mono ?_); rintro e w' ⟨rfl, ⟨nd, rfl⟩⟩; (try first | exact ⟨rfl, _, World.drewN_drewN _ _ _⟩ | exact ⟨rfl, _, Eq.trans (World.drewN_drewN _ _ _) (congrArg (World.drewN _) (Nat.add_assoc _ _ _))⟩)) | (go_at_call 44; (with_reducible refine (ephemerisref1_Offset.calls k a0_1 true _ A4.out).mono ?_); rintro e w' ⟨rfl, ⟨nd, rfl⟩⟩; (try first | exact ⟨rfl, _, World.drewN_drewN _ _ _⟩ | exact ⟨rfl, _, Eq.trans (World.drewN_drewN _ _ _) (congrArg (World.drewN _) (Nat.add_assoc _ _ _))⟩))); try go_wp2_with (first | ((with_reducible refine gate_dst (N := 1) rfl ?_); refine box_event ?hg (N := 1) ?hd (cs := #[.string a0_0, .int .i64 a0_1, .slice A0_2 l0_2.length c0_2]) (t := 24) ?hr ?_; (case hd => rfl); (case hg => rfl); (case hr => first | (go_simp; done) | (go_simp; rfl)); intro gb119 hg w7 hbox hb; have n0_ := Aside0.mk (below_step be hb); have n1_ := Aside0.mk (hbox); have n2_ := gs hg HB; have n3_ := n2_; clear HB; have HB := n0_; have BK119 := n1_; have GW119 := n2_; have GE119 := n3_; clear n0_ n1_ n2_ n3_; clear hb hbox hg; obtain ⟨hcz8_0, hcz8_1, hcz8_2, hfz8_0, hfz8_1, hfz8_2⟩ := bc3 BK119) | (go_at_call 43; (with_reducible refine (ephemerisref1_Name.calls k a0_0 true _ A2.out).mono ?_); rintro e w' ⟨rfl, ⟨nd, rfl⟩⟩; (try first | exact ⟨rfl, _, World.drewN_drewN _ _ _⟩ | exact ⟨rfl, _, Eq.trans (World.drewN_drewN _ _ _) (congrArg (World.drewN _) (Nat.add_assoc _ _ _))⟩)) | (go_at_call 44; (with_reducible refine (ephemerisref1_Offset.calls k a0_1 true _ A4.out).mono ?_); rintro e w' ⟨rfl, ⟨nd, rfl⟩⟩; (try first | exact ⟨rfl, _, World.drewN_drewN _ _ _⟩ | exact ⟨rfl, _, Eq.trans (World.drewN_drewN _ _ _) (congrArg (World.drewN _) (Nat.add_assoc _ _ _))⟩))))
    go_ret
    exact ⟨by first | rfl | (simp [errW_none, errW_some] <;> rfl) | (simp [*, errW_none, errW_some] <;> rfl), be⟩
   ·rw [if_neg c6] at H
    have c6b0 : decide (200 < (l0_2.length : Int)) = false := decide_eq_false c6
    have c6b1 : decide (200 < l0_2.length) = false := decide_eq_false (by omega)
    clear c6
    have H' := Aside0.mk H
    clear H
    go_enter Tryd.func13, Tryd.ntmps13
    go_wp2_with (first | ((with_reducible refine gate_dst (N := 1) rfl ?_); refine box_event ?hg (N := 1) ?hd (cs := #[.string a0_0, .int .i64 a0_1, .slice A0_2 l0_2.length c0_2]) (t := 24) ?hr ?_; (case hd => rfl); (case hg => rfl); (case hr => first | (go_simp; done) | (go_simp; rfl)); intro gb119 hg w9 hbox hb; have n0_ := Aside0.mk (below_step be hb); have n1_ := Aside0.mk (hbox); have n2_ := gs hg HB; have n3_ := n2_; clear HB; have HB := n0_; have BK119 := n1_; have GW119 := n2_; have GE119 := n3_; clear n0_ n1_ n2_ n3_; clear hb hbox hg; obtain ⟨hcz10_0, hcz10_1, hcz10_2, hfz10_0, hfz10_1, hfz10_2⟩ := bc3 BK119) | (go_at_call 43; (with_reducible refine (ephemerisref1_Name.calls k a0_0 true _ A2.out).mono ?_); rintro e w' ⟨rfl, ⟨nd, rfl⟩⟩; (try first | exact ⟨rfl, _, World.drewN_drewN _ _ _⟩ | exact ⟨rfl, _, Eq.trans (World.drewN_drewN _ _ _) (congrArg (World.drewN _) (Nat.add_assoc _ _ _))⟩)) | (go_at_call 44; (with_reducible refine (ephemerisref1_Offset.calls k a0_1 true _ A4.out).mono ?_); rintro e w' ⟨rfl, ⟨nd, rfl⟩⟩; (try first | exact ⟨rfl, _, World.drewN_drewN _ _ _⟩ | exact ⟨rfl, _, Eq.trans (World.drewN_drewN _ _ _) (congrArg (World.drewN _) (Nat.add_assoc _ _ _))⟩)))
    repeat (go_quiet (first | ((with_reducible refine gate_dst (N := 1) rfl ?_); refine box_event ?hg (N := 1) ?hd (cs := #[.string a0_0, .int .i64 a0_1, .slice A0_2 l0_2.length c0_2]) (t := 24) ?hr ?_; (case hd => rfl); (case hg => rfl); (case hr => first | (go_simp; done) | (go_simp; rfl)); intro gb119 hg w9 hbox hb; have n0_ := Aside0.mk (below_step be hb); have n1_ := Aside0.mk (hbox); have n2_ := gs hg HB; have n3_ := n2_; clear HB; have HB := n0_; have BK119 := n1_; have GW119 := n2_; have GE119 := n3_; clear n0_ n1_ n2_ n3_; clear hb hbox hg; obtain ⟨hcz10_0, hcz10_1, hcz10_2, hfz10_0, hfz10_1, hfz10_2⟩ := bc3 BK119) | (go_at_call 43; (with_reducible refine (ephemerisref1_Name.calls k a0_0 true _ A2.out).mono ?_); rintro e w' ⟨rfl, ⟨nd, rfl⟩⟩; (try first | exact ⟨rfl, _, World.drewN_drewN _ _ _⟩ | exact ⟨rfl, _, Eq.trans (World.drewN_drewN _ _ _) (congrArg (World.drewN _) (Nat.add_assoc _ _ _))⟩)) | (go_at_call 44; (with_reducible refine (ephemerisref1_Offset.calls k a0_1 true _ A4.out).mono ?_); rintro e w' ⟨rfl, ⟨nd, rfl⟩⟩; (try first | exact ⟨rfl, _, World.drewN_drewN _ _ _⟩ | exact ⟨rfl, _, Eq.trans (World.drewN_drewN _ _ _) (congrArg (World.drewN _) (Nat.add_assoc _ _ _))⟩))); try go_wp2_with (first | ((with_reducible refine gate_dst (N := 1) rfl ?_); refine box_event ?hg (N := 1) ?hd (cs := #[.string a0_0, .int .i64 a0_1, .slice A0_2 l0_2.length c0_2]) (t := 24) ?hr ?_; (case hd => rfl); (case hg => rfl); (case hr => first | (go_simp; done) | (go_simp; rfl)); intro gb119 hg w9 hbox hb; have n0_ := Aside0.mk (below_step be hb); have n1_ := Aside0.mk (hbox); have n2_ := gs hg HB; have n3_ := n2_; clear HB; have HB := n0_; have BK119 := n1_; have GW119 := n2_; have GE119 := n3_; clear n0_ n1_ n2_ n3_; clear hb hbox hg; obtain ⟨hcz10_0, hcz10_1, hcz10_2, hfz10_0, hfz10_1, hfz10_2⟩ := bc3 BK119) | (go_at_call 43; (with_reducible refine (ephemerisref1_Name.calls k a0_0 true _ A2.out).mono ?_); rintro e w' ⟨rfl, ⟨nd, rfl⟩⟩; (try first | exact ⟨rfl, _, World.drewN_drewN _ _ _⟩ | exact ⟨rfl, _, Eq.trans (World.drewN_drewN _ _ _) (congrArg (World.drewN _) (Nat.add_assoc _ _ _))⟩)) | (go_at_call 44; (with_reducible refine (ephemerisref1_Offset.calls k a0_1 true _ A4.out).mono ?_); rintro e w' ⟨rfl, ⟨nd, rfl⟩⟩; (try first | exact ⟨rfl, _, World.drewN_drewN _ _ _⟩ | exact ⟨rfl, _, Eq.trans (World.drewN_drewN _ _ _) (congrArg (World.drewN _) (Nat.add_assoc _ _ _))⟩))))
    go_loopg [20] k (fun kq v20 w' => ∃ (x20_1 : Int), v20 = .int .i64 x20_1 ∧ Aside0 (ephemerisref1_ZoneError.l0 kq l0_2 (l0_2.length : Int) x20_1 a0_0 a0_1 l0_2 = some r) ∧ Aside0 (kq ≤ k) ∧ Aside0 (w'.heap[gb119]? = some (.cells #[.string a0_0, .int .i64 a0_1, (.slice A0_2 l0_2.length c0_2)] 24 (0, 0))) ∧ Aside0 (Below w.heap.size w w'))
    case atStart => exact ⟨(0), rs, H', ⟨Nat.le_refl _⟩, ⟨bk BK119⟩, ⟨be⟩⟩
    case round =>
     clear H'
     (try clear c1); (try clear p2); (try clear c3); (try clear c5); (try clear c6); (try clear c6b0); (try clear c6b1); (try clear hcz10_0); (try clear hcz10_1); (try clear hcz10_2); (try clear hcz8_0); (try clear hcz8_1); (try clear hcz8_2); (try clear hfz10_0); (try clear hfz10_1); (try clear hfz10_2); (try clear hfz8_0); (try clear hfz8_1); (try clear hfz8_2)
     obtain ⟨x20_1, rfl, HA, HK1, BK119, HB⟩ := hrel
     cases gk with
     | zero => exact absurd HA.out (by simp [ephemerisref1_ZoneError.l0])
     | succ k1 =>
      have H := HA.out
      clear HA
      simp only [ephemerisref1_ZoneError.l0] at H
      by_cases c11 : x20_1 < (l0_2.length : Int)
      ·rw [if_pos c11] at H
       have c11b0 : decide (x20_1 < (l0_2.length : Int)) = true := decide_eq_true c11
       clear c11
       by_cases c12 : 0 ≤ x20_1
       ·rw [if_pos c12] at H
        have c12b0 : decide (0 ≤ x20_1) = true := decide_eq_true c12
        clear c12
        by_cases c13 : x20_1 < (l0_2.length : Int)
        ·rw [if_pos c13] at H
         have c13b0 : decide (x20_1 < (l0_2.length : Int)) = true := decide_eq_true c13
         clear c13
         have HC14 := Aside0.mk H
         clear H
         have p122 : 0 ≤ (x20_1 : Int) := of_decide_eq_true ka
         have q122 : x20_1 < (l0_2.length : Int) := of_decide_eq_true ka
         obtain ⟨ad122, e122, hx122_0, hx122_1, hx122_2⟩ := at_T43 HR0_2.out x20_1 p122 q122
         cases e122
         replace hx122_0 := (HB.out.cell (World.block_lt_of_cell? w _ hx122_0)).trans hx122_0
         replace hx122_1 := (HB.out.cell (World.block_lt_of_cell? w _ hx122_1)).trans hx122_1
         replace hx122_2 := (HB.out.cell (World.block_lt_of_cell? w _ hx122_2)).trans hx122_2
         replace p122 := eq_true p122
         replace q122 := eq_true q122
         go_upto_region 10 with (first | ((with_reducible refine gate_dst (N := 4) rfl ?_); refine box_event ?hg (N := 4) ?hd (cs := #[.int .i64 0, .int .i64 0, .string (⟨#[]⟩ : ByteArray)]) (t := 43) ?hr ?_; (case hd => rfl); (case hg => rfl); (case hr => first | (go_simp; done) | (go_simp; rfl)); intro gb123 hg w15 hbox hb; have n0_ := bb BK119 hb; have n1_ := Aside0.mk (below_step be hb); have n2_ := Aside0.mk (hbox); have n3_ := gs hg HB; have n4_ := n3_; have n5_ := nl BK119 hg; have n6_ := ns n5_; clear BK119; clear HB; have BK119 := n0_; have HB := n1_; have BK123 := n2_; have GW123 := n3_; have GE123 := n4_; have NB119_123 := n5_; have NB123_119 := n6_; clear n0_ n1_ n2_ n3_ n4_ n5_ n6_; clear hb hbox hg; have hnb16 := NB123_119.out; have hnc16 := NB119_123.out; obtain ⟨hcz17_0, hcz17_1, hcz17_2, hfz17_0, hfz17_1, hfz17_2⟩ := bc3 BK123))
         repeat (go_quiet (first | ((with_reducible refine gate_dst (N := 4) rfl ?_); refine box_event ?hg (N := 4) ?hd (cs := #[.int .i64 0, .int .i64 0, .string (⟨#[]⟩ : ByteArray)]) (t := 43) ?hr ?_; (case hd => rfl); (case hg => rfl); (case hr => first | (go_simp; done) | (go_simp; rfl)); intro gb123 hg w15 hbox hb; have n0_ := bb BK119 hb; have n1_ := Aside0.mk (below_step be hb); have n2_ := Aside0.mk (hbox); have n3_ := gs hg HB; have n4_ := n3_; have n5_ := nl BK119 hg; have n6_ := ns n5_; clear BK119; clear HB; have BK119 := n0_; have HB := n1_; have BK123 := n2_; have GW123 := n3_; have GE123 := n4_; have NB119_123 := n5_; have NB123_119 := n6_; clear n0_ n1_ n2_ n3_ n4_ n5_ n6_; clear hb hbox hg; have hnb16 := NB123_119.out; have hnc16 := NB119_123.out; obtain ⟨hcz17_0, hcz17_1, hcz17_2, hfz17_0, hfz17_1, hfz17_2⟩ := bc3 BK123)); go_upto_region 10 with (first | ((with_reducible refine gate_dst (N := 4) rfl ?_); refine box_event ?hg (N := 4) ?hd (cs := #[.int .i64 0, .int .i64 0, .string (⟨#[]⟩ : ByteArray)]) (t := 43) ?hr ?_; (case hd => rfl); (case hg => rfl); (case hr => first | (go_simp; done) | (go_simp; rfl)); intro gb123 hg w15 hbox hb; have n0_ := bb BK119 hb; have n1_ := Aside0.mk (below_step be hb); have n2_ := Aside0.mk (hbox); have n3_ := gs hg HB; have n4_ := n3_; have n5_ := nl BK119 hg; have n6_ := ns n5_; clear BK119; clear HB; have BK119 := n0_; have HB := n1_; have BK123 := n2_; have GW123 := n3_; have GE123 := n4_; have NB119_123 := n5_; have NB123_119 := n6_; clear n0_ n1_ n2_ n3_ n4_ n5_ n6_; clear hb hbox hg; have hnb16 := NB123_119.out; have hnc16 := NB119_123.out; obtain ⟨hcz17_0, hcz17_1, hcz17_2, hfz17_0, hfz17_1, hfz17_2⟩ := bc3 BK123)))
         (try simp only [Act.put, List.setIfInBounds_toArray, List.set_cons_zero, List.set_cons_succ])
         go_cut [34] (fun v34 wc => ∃ (kq : Nat) (x34_13 : Bool), v34 = .bool x34_13 ∧ Aside0 (ephemerisref1_ZoneError.j1 kq x20_1 l0_2 (l0_2.length : Int) x20_1 x34_13 a0_0 a0_1 l0_2 ((rd_T43 l0_2 x20_1).f0) ((rd_T43 l0_2 x20_1).f1) ((rd_T43 l0_2 x20_1).f2) = some r) ∧ Aside0 (kq ≤ k1) ∧ Aside0 (wc.heap[gb119]? = some (.cells #[.string a0_0, .int .i64 a0_1, (.slice (some ad122) l0_2.length c0_2)] 24 (0, 0))) ∧ Aside0 (wc.heap[gb123]? = some (.cells #[.int .i64 ((rd_T43 l0_2 x20_1).f0), .int .i64 ((rd_T43 l0_2 x20_1).f1), .string ((rd_T43 l0_2 x20_1).f2)] 43 (0, 0))) ∧ Aside0 (Below w.heap.size w wc))
         case first =>
          have H := HC14.out
          clear HC14
          replace H := Option.bind_eq_some_iff.mp H
          obtain ⟨t124, A180, H⟩ := H
          replace H : (if t124 = true then ((ephemerisref1_Offset.f k1 ((rd_T43 l0_2 x20_1).f1)).bind fun t125 => (ephemerisref1_ZoneError.j1 k1 x20_1 l0_2 (l0_2.length : Int) x20_1 (!t125) a0_0 a0_1 l0_2 ((rd_T43 l0_2 x20_1).f0) ((rd_T43 l0_2 x20_1).f1) ((rd_T43 l0_2 x20_1).f2))) else (ephemerisref1_ZoneError.j1 k1 x20_1 l0_2 (l0_2.length : Int) x20_1 true a0_0 a0_1 l0_2 ((rd_T43 l0_2 x20_1).f0) ((rd_T43 l0_2 x20_1).f1) ((rd_T43 l0_2 x20_1).f2))) = some r := H
          have A18 := Aside0.mk A180
          clear A180
          by_cases c19 : t124 = true
          ·subst c19
           have H1 : ((ephemerisref1_Offset.f k1 ((rd_T43 l0_2 x20_1).f1)).bind fun t125 => (ephemerisref1_ZoneError.j1 k1 x20_1 l0_2 (l0_2.length : Int) x20_1 (!t125) a0_0 a0_1 l0_2 ((rd_T43 l0_2 x20_1).f0) ((rd_T43 l0_2 x20_1).f1) ((rd_T43 l0_2 x20_1).f2))) = some r := by rw [if_pos rfl] at H; exact H
           clear H
           have H := H1
           clear H1
           replace H := Option.bind_eq_some_iff.mp H
           obtain ⟨t125, A200, H⟩ := H
           replace H : (ephemerisref1_ZoneError.j1 k1 x20_1 l0_2 (l0_2.length : Int) x20_1 (!t125) a0_0 a0_1 l0_2 ((rd_T43 l0_2 x20_1).f0) ((rd_T43 l0_2 x20_1).f1) ((rd_T43 l0_2 x20_1).f2)) = some r := H
           have A20 := Aside0.mk A200
           clear A200
           have H' := Aside0.mk H
           clear H
           have hnb21 := NB123_119.out
           have hnc21 := NB119_123.out
           obtain ⟨hcz22_0, hcz22_1, hcz22_2, hfz22_0, hfz22_1, hfz22_2⟩ := bc3 BK123
           go_wp2_with (first | (go_at_call 24; (with_reducible refine (ephemerisref1_Instant.calls k1 ((rd_T43 l0_2 x20_1).f0) true _ A18.out).mono ?_); rintro e w' ⟨rfl, ⟨nd, rfl⟩⟩; (try first | exact ⟨rfl, _, World.drewN_drewN _ _ _⟩ | exact ⟨rfl, _, Eq.trans (World.drewN_drewN _ _ _) (congrArg (World.drewN _) (Nat.add_assoc _ _ _))⟩)) | (go_at_call 44; (with_reducible refine (ephemerisref1_Offset.calls k1 ((rd_T43 l0_2 x20_1).f1) t125 _ A20.out).mono ?_); rintro e w' ⟨rfl, ⟨nd, rfl⟩⟩; (try first | exact ⟨rfl, _, World.drewN_drewN _ _ _⟩ | exact ⟨rfl, _, Eq.trans (World.drewN_drewN _ _ _) (congrArg (World.drewN _) (Nat.add_assoc _ _ _))⟩)))
           repeat (go_quiet (first | (go_at_call 24; (with_reducible refine (ephemerisref1_Instant.calls k1 ((rd_T43 l0_2 x20_1).f0) true _ A18.out).mono ?_); rintro e w' ⟨rfl, ⟨nd, rfl⟩⟩; (try first | exact ⟨rfl, _, World.drewN_drewN _ _ _⟩ | exact ⟨rfl, _, Eq.trans (World.drewN_drewN _ _ _) (congrArg (World.drewN _) (Nat.add_assoc _ _ _))⟩)) | (go_at_call 44; (with_reducible refine (ephemerisref1_Offset.calls k1 ((rd_T43 l0_2 x20_1).f1) t125 _ A20.out).mono ?_); rintro e w' ⟨rfl, ⟨nd, rfl⟩⟩; (try first | exact ⟨rfl, _, World.drewN_drewN _ _ _⟩ | exact ⟨rfl, _, Eq.trans (World.drewN_drewN _ _ _) (congrArg (World.drewN _) (Nat.add_assoc _ _ _))⟩))); try go_wp2_with (first | (go_at_call 24; (with_reducible refine (ephemerisref1_Instant.calls k1 ((rd_T43 l0_2 x20_1).f0) true _ A18.out).mono ?_); rintro e w' ⟨rfl, ⟨nd, rfl⟩⟩; (try first | exact ⟨rfl, _, World.drewN_drewN _ _ _⟩ | exact ⟨rfl, _, Eq.trans (World.drewN_drewN _ _ _) (congrArg (World.drewN _) (Nat.add_assoc _ _ _))⟩)) | (go_at_call 44; (with_reducible refine (ephemerisref1_Offset.calls k1 ((rd_T43 l0_2 x20_1).f1) t125 _ A20.out).mono ?_); rintro e w' ⟨rfl, ⟨nd, rfl⟩⟩; (try first | exact ⟨rfl, _, World.drewN_drewN _ _ _⟩ | exact ⟨rfl, _, Eq.trans (World.drewN_drewN _ _ _) (congrArg (World.drewN _) (Nat.add_assoc _ _ _))⟩))))
           go_meet
           case rel => exact ⟨_, (!t125), rs, H', ⟨by have := HK1.out; first | omega | exact Nat.le_refl _⟩, ⟨bk BK119⟩, ⟨bk BK123⟩, ⟨be⟩⟩
          ·replace c19 := Bool.eq_false_iff.mpr c19
           subst c19
           have H1 : (ephemerisref1_ZoneError.j1 k1 x20_1 l0_2 (l0_2.length : Int) x20_1 true a0_0 a0_1 l0_2 ((rd_T43 l0_2 x20_1).f0) ((rd_T43 l0_2 x20_1).f1) ((rd_T43 l0_2 x20_1).f2)) = some r := by rw [if_neg (show ¬ (false = true) by decide)] at H; exact H
           clear H
           have H := H1
           clear H1
           have H' := Aside0.mk H
           clear H
           have hnb23 := NB123_119.out
           have hnc23 := NB119_123.out
           obtain ⟨hcz24_0, hcz24_1, hcz24_2, hfz24_0, hfz24_1, hfz24_2⟩ := bc3 BK123
           go_wp2_with (first | (go_at_call 24; (with_reducible refine (ephemerisref1_Instant.calls k1 ((rd_T43 l0_2 x20_1).f0) false _ A18.out).mono ?_); rintro e w' ⟨rfl, ⟨nd, rfl⟩⟩; (try first | exact ⟨rfl, _, World.drewN_drewN _ _ _⟩ | exact ⟨rfl, _, Eq.trans (World.drewN_drewN _ _ _) (congrArg (World.drewN _) (Nat.add_assoc _ _ _))⟩)))
           repeat (go_quiet (first | (go_at_call 24; (with_reducible refine (ephemerisref1_Instant.calls k1 ((rd_T43 l0_2 x20_1).f0) false _ A18.out).mono ?_); rintro e w' ⟨rfl, ⟨nd, rfl⟩⟩; (try first | exact ⟨rfl, _, World.drewN_drewN _ _ _⟩ | exact ⟨rfl, _, Eq.trans (World.drewN_drewN _ _ _) (congrArg (World.drewN _) (Nat.add_assoc _ _ _))⟩))); try go_wp2_with (first | (go_at_call 24; (with_reducible refine (ephemerisref1_Instant.calls k1 ((rd_T43 l0_2 x20_1).f0) false _ A18.out).mono ?_); rintro e w' ⟨rfl, ⟨nd, rfl⟩⟩; (try first | exact ⟨rfl, _, World.drewN_drewN _ _ _⟩ | exact ⟨rfl, _, Eq.trans (World.drewN_drewN _ _ _) (congrArg (World.drewN _) (Nat.add_assoc _ _ _))⟩))))
           go_meet
           case rel => exact ⟨_, (true), rs, H', ⟨by have := HK1.out; first | omega | exact Nat.le_refl _⟩, ⟨bk BK119⟩, ⟨bk BK123⟩, ⟨be⟩⟩
         case rest =>
          clear HC14
          (try clear c1); (try clear p1); (try clear q1); (try clear hx1); (try clear c2); (try clear p2); (try clear c3); (try clear c5); (try clear c6); (try clear c6b0); (try clear c6b1); (try clear c11); (try clear c11b0); (try clear c12); (try clear c12b0); (try clear p12); (try clear q12); (try clear hx12); (try clear c13); (try clear c13b0); (try clear c16); (try clear c19); (try clear c21); (try clear c23); (try clear hcz10_0); (try clear hcz10_1); (try clear hcz10_2); (try clear hcz17_0); (try clear hcz17_1); (try clear hcz17_2); (try clear hcz22_0); (try clear hcz22_1); (try clear hcz22_2); (try clear hcz24_0); (try clear hcz24_1); (try clear hcz24_2); (try clear hcz8_0); (try clear hcz8_1); (try clear hcz8_2); (try clear hfz10_0); (try clear hfz10_1); (try clear hfz10_2); (try clear hfz17_0); (try clear hfz17_1); (try clear hfz17_2); (try clear hfz22_0); (try clear hfz22_1); (try clear hfz22_2); (try clear hfz24_0); (try clear hfz24_1); (try clear hfz24_2); (try clear hfz8_0); (try clear hfz8_1); (try clear hfz8_2); (try clear hx122_0); (try clear hx122_1); (try clear hx122_2); (try clear p122); (try clear p2); (try clear q122)
          obtain ⟨kq, x34_13, rfl, HA, HJ13, BK119, BK123, HB⟩ := hcut
          cases kq with
          | zero => exact absurd HA.out (by simp [ephemerisref1_ZoneError.j1])
          | succ kj13 =>
           have H := HA.out
           clear HA
           simp only [ephemerisref1_ZoneError.j1] at H
           by_cases c25 : x34_13 = true
           ·subst c25
            have H1 : (some 3) = some r := by rw [if_pos rfl] at H; exact H
            clear H
            have H := H1
            clear H1
            obtain rfl := Option.some.inj H
            go_wp2
            repeat (go_quiet (fail); try go_wp2)
            go_ret
            exact ⟨by first | rfl | (simp [errW_none, errW_some] <;> rfl) | (simp [*, errW_none, errW_some] <;> rfl), be⟩
           ·replace c25 := Bool.eq_false_iff.mpr c25
            subst c25
            have H1 : ((ephemerisref1_Label.f ((rd_T43 l0_2 x20_1).f2)).bind fun t126 => (if t126 = true then (if x20_1 > 0 then (if 0 ≤ (wrap64 (x20_1 - 1)) then (if (wrap64 (x20_1 - 1)) < (l0_2.length : Int) then (if ((rd_T43 l0_2 (wrap64 (x20_1 - 1))).f0) ≥ ((rd_T43 l0_2 x20_1).f0) then (some 9) else (ephemerisref1_ZoneError.l0 kj13 l0_2 (l0_2.length : Int) (wrap64 (x20_1 + 1)) a0_0 a0_1 l0_2)) else (none)) else (none)) else (ephemerisref1_ZoneError.l0 kj13 l0_2 (l0_2.length : Int) (wrap64 (x20_1 + 1)) a0_0 a0_1 l0_2)) else (some 8))) = some r := by rw [if_neg (show ¬ (false = true) by decide)] at H; exact H
            clear H
            have H := H1
            clear H1
            replace H := Option.bind_eq_some_iff.mp H
            obtain ⟨t126, A260, H⟩ := H
            replace H : (if t126 = true then (if x20_1 > 0 then (if 0 ≤ (wrap64 (x20_1 - 1)) then (if (wrap64 (x20_1 - 1)) < (l0_2.length : Int) then (if ((rd_T43 l0_2 (wrap64 (x20_1 - 1))).f0) ≥ ((rd_T43 l0_2 x20_1).f0) then (some 9) else (ephemerisref1_ZoneError.l0 kj13 l0_2 (l0_2.length : Int) (wrap64 (x20_1 + 1)) a0_0 a0_1 l0_2)) else (none)) else (none)) else (ephemerisref1_ZoneError.l0 kj13 l0_2 (l0_2.length : Int) (wrap64 (x20_1 + 1)) a0_0 a0_1 l0_2)) else (some 8)) = some r := H
            have A26 := Aside0.mk A260
            clear A260
            by_cases c27 : t126 = true
            ·subst c27
             have H1 : (if x20_1 > 0 then (if 0 ≤ (wrap64 (x20_1 - 1)) then (if (wrap64 (x20_1 - 1)) < (l0_2.length : Int) then (if ((rd_T43 l0_2 (wrap64 (x20_1 - 1))).f0) ≥ ((rd_T43 l0_2 x20_1).f0) then (some 9) else (ephemerisref1_ZoneError.l0 kj13 l0_2 (l0_2.length : Int) (wrap64 (x20_1 + 1)) a0_0 a0_1 l0_2)) else (none)) else (none)) else (ephemerisref1_ZoneError.l0 kj13 l0_2 (l0_2.length : Int) (wrap64 (x20_1 + 1)) a0_0 a0_1 l0_2)) = some r := by rw [if_pos rfl] at H; exact H
             clear H
             have H := H1
             clear H1
             by_cases c28 : x20_1 > 0
             ·rw [if_pos c28] at H
              have c28b0 : decide (0 < x20_1) = true := decide_eq_true c28
              clear c28
              obtain ⟨ji29, hji29⟩ : ∃ j_ : Int, (wrap64 (x20_1 - 1)) = j_ := ⟨_, rfl⟩
              replace H : (if 0 ≤ (ji29) then (if (ji29) < (l0_2.length : Int) then (if ((rd_T43 l0_2 (ji29)).f0) ≥ ((rd_T43 l0_2 x20_1).f0) then (some 9) else (ephemerisref1_ZoneError.l0 kj13 l0_2 (l0_2.length : Int) (wrap64 (x20_1 + 1)) a0_0 a0_1 l0_2)) else (none)) else (none)) = some r := by first | (rw [hji29] at H; exact H) | (simp only [hji29] at H ⊢; exact H)
              (try rw [hji29] at A26)
              have hji29w : (IntKind.i64.wrap (x20_1 - 1)) = ji29 := (i64_w _).trans hji29
              by_cases c30 : 0 ≤ (ji29)
              ·rw [if_pos c30] at H
               have c30b0 : decide (0 ≤ (ji29)) = true := decide_eq_true c30
               clear c30
               by_cases c31 : (ji29) < (l0_2.length : Int)
               ·rw [if_pos c31] at H
                have c31b0 : decide ((ji29) < (l0_2.length : Int)) = true := decide_eq_true c31
                clear c31
                by_cases c32 : ((rd_T43 l0_2 (ji29)).f0) ≥ ((rd_T43 l0_2 x20_1).f0)
                ·rw [if_pos c32] at H
                 have c32b0 : decide (((rd_T43 l0_2 x20_1).f0) ≤ ((rd_T43 l0_2 (ji29)).f0)) = true := decide_eq_true c32
                 clear c32
                 obtain rfl := Option.some.inj H
                 have hnb33 := NB123_119.out
                 have hnc33 := NB119_123.out
                 obtain ⟨hcz34_0, hcz34_1, hcz34_2, hfz34_0, hfz34_1, hfz34_2⟩ := bc3 BK123
                 go_wp2_with (first | (go_at_call 45; (with_reducible refine (ephemerisref1_Label.calls ((rd_T43 l0_2 x20_1).f2) true _ A26.out).mono ?_); rintro e w35 ⟨rfl, hb⟩; have n0_ := bb BK119 hb; have n1_ := bb BK123 hb; have n2_ := Aside0.mk (below_step be hb); clear BK119; clear BK123; clear HB; have BK119 := n0_; have BK123 := n1_; have HB := n2_; clear n0_ n1_ n2_; (try clear hb); (try clear hb2); (try clear hk); (try clear hi); obtain ⟨hcz36_0, hcz36_1, hcz36_2, hfz36_0, hfz36_1, hfz36_2⟩ := bc3 BK119; have p127 : 0 ≤ ((ji29) : Int) := of_decide_eq_true ka; have q127 : (ji29) < (l0_2.length : Int) := of_decide_eq_true ka; obtain ⟨ad127, e127, hx127_0, hx127_1, hx127_2⟩ := at_T43 HR0_2.out (ji29) p127 q127; obtain rfl : ad122 = ad127 := (by injection e127); replace hx127_0 := (HB.out.cell (World.block_lt_of_cell? w _ hx127_0)).trans hx127_0; replace hx127_1 := (HB.out.cell (World.block_lt_of_cell? w _ hx127_1)).trans hx127_1; replace hx127_2 := (HB.out.cell (World.block_lt_of_cell? w _ hx127_2)).trans hx127_2; replace p127 := eq_true p127; replace q127 := eq_true q127; obtain ⟨hcz37_0, hcz37_1, hcz37_2, hfz37_0, hfz37_1, hfz37_2⟩ := bc3 BK123))
                 repeat (go_quiet (first | (go_at_call 45; (with_reducible refine (ephemerisref1_Label.calls ((rd_T43 l0_2 x20_1).f2) true _ A26.out).mono ?_); rintro e w35 ⟨rfl, hb⟩; have n0_ := bb BK119 hb; have n1_ := bb BK123 hb; have n2_ := Aside0.mk (below_step be hb); clear BK119; clear BK123; clear HB; have BK119 := n0_; have BK123 := n1_; have HB := n2_; clear n0_ n1_ n2_; (try clear hb); (try clear hb2); (try clear hk); (try clear hi); obtain ⟨hcz36_0, hcz36_1, hcz36_2, hfz36_0, hfz36_1, hfz36_2⟩ := bc3 BK119; have p127 : 0 ≤ ((ji29) : Int) := of_decide_eq_true ka; have q127 : (ji29) < (l0_2.length : Int) := of_decide_eq_true ka; obtain ⟨ad127, e127, hx127_0, hx127_1, hx127_2⟩ := at_T43 HR0_2.out (ji29) p127 q127; obtain rfl : ad122 = ad127 := (by injection e127); replace hx127_0 := (HB.out.cell (World.block_lt_of_cell? w _ hx127_0)).trans hx127_0; replace hx127_1 := (HB.out.cell (World.block_lt_of_cell? w _ hx127_1)).trans hx127_1; replace hx127_2 := (HB.out.cell (World.block_lt_of_cell? w _ hx127_2)).trans hx127_2; replace p127 := eq_true p127; replace q127 := eq_true q127; obtain ⟨hcz37_0, hcz37_1, hcz37_2, hfz37_0, hfz37_1, hfz37_2⟩ := bc3 BK123)); try go_wp2_with (first | (go_at_call 45; (with_reducible refine (ephemerisref1_Label.calls ((rd_T43 l0_2 x20_1).f2) true _ A26.out).mono ?_); rintro e w35 ⟨rfl, hb⟩; have n0_ := bb BK119 hb; have n1_ := bb BK123 hb; have n2_ := Aside0.mk (below_step be hb); clear BK119; clear BK123; clear HB; have BK119 := n0_; have BK123 := n1_; have HB := n2_; clear n0_ n1_ n2_; (try clear hb); (try clear hb2); (try clear hk); (try clear hi); obtain ⟨hcz36_0, hcz36_1, hcz36_2, hfz36_0, hfz36_1, hfz36_2⟩ := bc3 BK119; have p127 : 0 ≤ ((ji29) : Int) := of_decide_eq_true ka; have q127 : (ji29) < (l0_2.length : Int) := of_decide_eq_true ka; obtain ⟨ad127, e127, hx127_0, hx127_1, hx127_2⟩ := at_T43 HR0_2.out (ji29) p127 q127; obtain rfl : ad122 = ad127 := (by injection e127); replace hx127_0 := (HB.out.cell (World.block_lt_of_cell? w _ hx127_0)).trans hx127_0; replace hx127_1 := (HB.out.cell (World.block_lt_of_cell? w _ hx127_1)).trans hx127_1; replace hx127_2 := (HB.out.cell (World.block_lt_of_cell? w _ hx127_2)).trans hx127_2; replace p127 := eq_true p127; replace q127 := eq_true q127; obtain ⟨hcz37_0, hcz37_1, hcz37_2, hfz37_0, hfz37_1, hfz37_2⟩ := bc3 BK123)))
                 go_ret
                 exact ⟨by first | rfl | (simp [errW_none, errW_some] <;> rfl) | (simp only [← hji29]; first | rfl | (simp [errW_none, errW_some] <;> rfl)) | (simp [*, errW_none, errW_some] <;> rfl), be⟩
                ·rw [if_neg c32] at H
                 have c32b0 : decide (((rd_T43 l0_2 x20_1).f0) ≤ ((rd_T43 l0_2 (ji29)).f0)) = false := decide_eq_false c32
                 clear c32
                 have H' := Aside0.mk H
                 clear H
                 have hnb38 := NB123_119.out
                 have hnc38 := NB119_123.out
                 obtain ⟨hcz39_0, hcz39_1, hcz39_2, hfz39_0, hfz39_1, hfz39_2⟩ := bc3 BK123
                 go_wp2_with (first | (go_at_call 45; (with_reducible refine (ephemerisref1_Label.calls ((rd_T43 l0_2 x20_1).f2) true _ A26.out).mono ?_); rintro e w40 ⟨rfl, hb⟩; have n0_ := bb BK119 hb; have n1_ := bb BK123 hb; have n2_ := Aside0.mk (below_step be hb); clear BK119; clear BK123; clear HB; have BK119 := n0_; have BK123 := n1_; have HB := n2_; clear n0_ n1_ n2_; (try clear hb); (try clear hb2); (try clear hk); (try clear hi); obtain ⟨hcz41_0, hcz41_1, hcz41_2, hfz41_0, hfz41_1, hfz41_2⟩ := bc3 BK119; have p127 : 0 ≤ ((ji29) : Int) := of_decide_eq_true ka; have q127 : (ji29) < (l0_2.length : Int) := of_decide_eq_true ka; obtain ⟨ad127, e127, hx127_0, hx127_1, hx127_2⟩ := at_T43 HR0_2.out (ji29) p127 q127; obtain rfl : ad122 = ad127 := (by injection e127); replace hx127_0 := (HB.out.cell (World.block_lt_of_cell? w _ hx127_0)).trans hx127_0; replace hx127_1 := (HB.out.cell (World.block_lt_of_cell? w _ hx127_1)).trans hx127_1; replace hx127_2 := (HB.out.cell (World.block_lt_of_cell? w _ hx127_2)).trans hx127_2; replace p127 := eq_true p127; replace q127 := eq_true q127; obtain ⟨hcz42_0, hcz42_1, hcz42_2, hfz42_0, hfz42_1, hfz42_2⟩ := bc3 BK123))
                 repeat (go_quiet (first | (go_at_call 45; (with_reducible refine (ephemerisref1_Label.calls ((rd_T43 l0_2 x20_1).f2) true _ A26.out).mono ?_); rintro e w40 ⟨rfl, hb⟩; have n0_ := bb BK119 hb; have n1_ := bb BK123 hb; have n2_ := Aside0.mk (below_step be hb); clear BK119; clear BK123; clear HB; have BK119 := n0_; have BK123 := n1_; have HB := n2_; clear n0_ n1_ n2_; (try clear hb); (try clear hb2); (try clear hk); (try clear hi); obtain ⟨hcz41_0, hcz41_1, hcz41_2, hfz41_0, hfz41_1, hfz41_2⟩ := bc3 BK119; have p127 : 0 ≤ ((ji29) : Int) := of_decide_eq_true ka; have q127 : (ji29) < (l0_2.length : Int) := of_decide_eq_true ka; obtain ⟨ad127, e127, hx127_0, hx127_1, hx127_2⟩ := at_T43 HR0_2.out (ji29) p127 q127; obtain rfl : ad122 = ad127 := (by injection e127); replace hx127_0 := (HB.out.cell (World.block_lt_of_cell? w _ hx127_0)).trans hx127_0; replace hx127_1 := (HB.out.cell (World.block_lt_of_cell? w _ hx127_1)).trans hx127_1; replace hx127_2 := (HB.out.cell (World.block_lt_of_cell? w _ hx127_2)).trans hx127_2; replace p127 := eq_true p127; replace q127 := eq_true q127; obtain ⟨hcz42_0, hcz42_1, hcz42_2, hfz42_0, hfz42_1, hfz42_2⟩ := bc3 BK123)); try go_wp2_with (first | (go_at_call 45; (with_reducible refine (ephemerisref1_Label.calls ((rd_T43 l0_2 x20_1).f2) true _ A26.out).mono ?_); rintro e w40 ⟨rfl, hb⟩; have n0_ := bb BK119 hb; have n1_ := bb BK123 hb; have n2_ := Aside0.mk (below_step be hb); clear BK119; clear BK123; clear HB; have BK119 := n0_; have BK123 := n1_; have HB := n2_; clear n0_ n1_ n2_; (try clear hb); (try clear hb2); (try clear hk); (try clear hi); obtain ⟨hcz41_0, hcz41_1, hcz41_2, hfz41_0, hfz41_1, hfz41_2⟩ := bc3 BK119; have p127 : 0 ≤ ((ji29) : Int) := of_decide_eq_true ka; have q127 : (ji29) < (l0_2.length : Int) := of_decide_eq_true ka; obtain ⟨ad127, e127, hx127_0, hx127_1, hx127_2⟩ := at_T43 HR0_2.out (ji29) p127 q127; obtain rfl : ad122 = ad127 := (by injection e127); replace hx127_0 := (HB.out.cell (World.block_lt_of_cell? w _ hx127_0)).trans hx127_0; replace hx127_1 := (HB.out.cell (World.block_lt_of_cell? w _ hx127_1)).trans hx127_1; replace hx127_2 := (HB.out.cell (World.block_lt_of_cell? w _ hx127_2)).trans hx127_2; replace p127 := eq_true p127; replace q127 := eq_true q127; obtain ⟨hcz42_0, hcz42_1, hcz42_2, hfz42_0, hfz42_1, hfz42_2⟩ := bc3 BK123)))
                 go_roundg kj13
                 case measure => have := HK1.out; have := HJ13.out; omega
                 case rel => exact ⟨(wrap64 (x20_1 + 1)), rs, H', ⟨by have := HK1.out; have := HJ13.out; omega⟩, ⟨bk BK119⟩, ⟨be⟩⟩
               ·rw [if_neg c31] at H
                exact absurd H (by simp)
              ·rw [if_neg c30] at H
               exact absurd H (by simp)
             ·rw [if_neg c28] at H
              have c28b0 : decide (0 < x20_1) = false := decide_eq_false c28
              clear c28
              have H' := Aside0.mk H
              clear H
              have hnb43 := NB123_119.out
              have hnc43 := NB119_123.out
              obtain ⟨hcz44_0, hcz44_1, hcz44_2, hfz44_0, hfz44_1, hfz44_2⟩ := bc3 BK123
              go_wp2_with (first | (go_at_call 45; (with_reducible refine (ephemerisref1_Label.calls ((rd_T43 l0_2 x20_1).f2) true _ A26.out).mono ?_); rintro e w45 ⟨rfl, hb⟩; have n0_ := bb BK119 hb; have n1_ := bb BK123 hb; have n2_ := Aside0.mk (below_step be hb); clear BK119; clear BK123; clear HB; have BK119 := n0_; have BK123 := n1_; have HB := n2_; clear n0_ n1_ n2_; (try clear hb); (try clear hb2); (try clear hk); (try clear hi)))
              repeat (go_quiet (first | (go_at_call 45; (with_reducible refine (ephemerisref1_Label.calls ((rd_T43 l0_2 x20_1).f2) true _ A26.out).mono ?_); rintro e w45 ⟨rfl, hb⟩; have n0_ := bb BK119 hb; have n1_ := bb BK123 hb; have n2_ := Aside0.mk (below_step be hb); clear BK119; clear BK123; clear HB; have BK119 := n0_; have BK123 := n1_; have HB := n2_; clear n0_ n1_ n2_; (try clear hb); (try clear hb2); (try clear hk); (try clear hi))); try go_wp2_with (first | (go_at_call 45; (with_reducible refine (ephemerisref1_Label.calls ((rd_T43 l0_2 x20_1).f2) true _ A26.out).mono ?_); rintro e w45 ⟨rfl, hb⟩; have n0_ := bb BK119 hb; have n1_ := bb BK123 hb; have n2_ := Aside0.mk (below_step be hb); clear BK119; clear BK123; clear HB; have BK119 := n0_; have BK123 := n1_; have HB := n2_; clear n0_ n1_ n2_; (try clear hb); (try clear hb2); (try clear hk); (try clear hi))))
              go_roundg kj13
              case measure => have := HK1.out; have := HJ13.out; omega
              case rel => exact ⟨(wrap64 (x20_1 + 1)), rs, H', ⟨by have := HK1.out; have := HJ13.out; omega⟩, ⟨bk BK119⟩, ⟨be⟩⟩
            ·replace c27 := Bool.eq_false_iff.mpr c27
             subst c27
             have H1 : (some 8) = some r := by rw [if_neg (show ¬ (false = true) by decide)] at H; exact H
             clear H
             have H := H1
             clear H1
             obtain rfl := Option.some.inj H
             have hnb46 := NB123_119.out
             have hnc46 := NB119_123.out
             obtain ⟨hcz47_0, hcz47_1, hcz47_2, hfz47_0, hfz47_1, hfz47_2⟩ := bc3 BK123
             go_wp2_with (first | (go_at_call 45; (with_reducible refine (ephemerisref1_Label.calls ((rd_T43 l0_2 x20_1).f2) false _ A26.out).mono ?_); rintro e w48 ⟨rfl, hb⟩; have n0_ := bb BK119 hb; have n1_ := bb BK123 hb; have n2_ := Aside0.mk (below_step be hb); clear BK119; clear BK123; clear HB; have BK119 := n0_; have BK123 := n1_; have HB := n2_; clear n0_ n1_ n2_; (try clear hb); (try clear hb2); (try clear hk); (try clear hi)))
             repeat (go_quiet (first | (go_at_call 45; (with_reducible refine (ephemerisref1_Label.calls ((rd_T43 l0_2 x20_1).f2) false _ A26.out).mono ?_); rintro e w48 ⟨rfl, hb⟩; have n0_ := bb BK119 hb; have n1_ := bb BK123 hb; have n2_ := Aside0.mk (below_step be hb); clear BK119; clear BK123; clear HB; have BK119 := n0_; have BK123 := n1_; have HB := n2_; clear n0_ n1_ n2_; (try clear hb); (try clear hb2); (try clear hk); (try clear hi))); try go_wp2_with (first | (go_at_call 45; (with_reducible refine (ephemerisref1_Label.calls ((rd_T43 l0_2 x20_1).f2) false _ A26.out).mono ?_); rintro e w48 ⟨rfl, hb⟩; have n0_ := bb BK119 hb; have n1_ := bb BK123 hb; have n2_ := Aside0.mk (below_step be hb); clear BK119; clear BK123; clear HB; have BK119 := n0_; have BK123 := n1_; have HB := n2_; clear n0_ n1_ n2_; (try clear hb); (try clear hb2); (try clear hk); (try clear hi))))
             go_ret
             exact ⟨by first | rfl | (simp [errW_none, errW_some] <;> rfl) | (simp [*, errW_none, errW_some] <;> rfl), be⟩
        ·rw [if_neg c13] at H
         exact absurd H (by simp)
       ·rw [if_neg c12] at H
        exact absurd H (by simp)
      ·rw [if_neg c11] at H
       have c11b0 : decide (x20_1 < (l0_2.length : Int)) = false := decide_eq_false c11
       clear c11
       obtain rfl := Option.some.inj H
       go_wp2
       repeat (go_quiet (fail); try go_wp2)
       go_ret
       exact ⟨by first | rfl | (simp [errW_none, errW_some] <;> rfl) | (simp [*, errW_none, errW_some] <;> rfl), be⟩
  ·replace c5 := Bool.eq_false_iff.mpr c5
   subst c5
   have H1 : (some 3) = some r := by rw [if_neg (show ¬ (false = true) by decide)] at H; exact H
   clear H
   have H := H1
   clear H1
   obtain rfl := Option.some.inj H
   go_enter Tryd.func13, Tryd.ntmps13
   go_wp2_with (first | ((with_reducible refine gate_dst (N := 1) rfl ?_); refine box_event ?hg (N := 1) ?hd (cs := #[.string a0_0, .int .i64 a0_1, .slice A0_2 l0_2.length c0_2]) (t := 24) ?hr ?_; (case hd => rfl); (case hg => rfl); (case hr => first | (go_simp; done) | (go_simp; rfl)); intro gb119 hg w49 hbox hb; have n0_ := Aside0.mk (below_step be hb); have n1_ := Aside0.mk (hbox); have n2_ := gs hg HB; have n3_ := n2_; clear HB; have HB := n0_; have BK119 := n1_; have GW119 := n2_; have GE119 := n3_; clear n0_ n1_ n2_ n3_; clear hb hbox hg; obtain ⟨hcz50_0, hcz50_1, hcz50_2, hfz50_0, hfz50_1, hfz50_2⟩ := bc3 BK119) | (go_at_call 43; (with_reducible refine (ephemerisref1_Name.calls k a0_0 true _ A2.out).mono ?_); rintro e w' ⟨rfl, ⟨nd, rfl⟩⟩; (try first | exact ⟨rfl, _, World.drewN_drewN _ _ _⟩ | exact ⟨rfl, _, Eq.trans (World.drewN_drewN _ _ _) (congrArg (World.drewN _) (Nat.add_assoc _ _ _))⟩)) | (go_at_call 44; (with_reducible refine (ephemerisref1_Offset.calls k a0_1 false _ A4.out).mono ?_); rintro e w' ⟨rfl, ⟨nd, rfl⟩⟩; (try first | exact ⟨rfl, _, World.drewN_drewN _ _ _⟩ | exact ⟨rfl, _, Eq.trans (World.drewN_drewN _ _ _) (congrArg (World.drewN _) (Nat.add_assoc _ _ _))⟩)))
   repeat (go_quiet (first | ((with_reducible refine gate_dst (N := 1) rfl ?_); refine box_event ?hg (N := 1) ?hd (cs := #[.string a0_0, .int .i64 a0_1, .slice A0_2 l0_2.length c0_2]) (t := 24) ?hr ?_; (case hd => rfl); (case hg => rfl); (case hr => first | (go_simp; done) | (go_simp; rfl)); intro gb119 hg w49 hbox hb; have n0_ := Aside0.mk (below_step be hb); have n1_ := Aside0.mk (hbox); have n2_ := gs hg HB; have n3_ := n2_; clear HB; have HB := n0_; have BK119 := n1_; have GW119 := n2_; have GE119 := n3_; clear n0_ n1_ n2_ n3_; clear hb hbox hg; obtain ⟨hcz50_0, hcz50_1, hcz50_2, hfz50_0, hfz50_1, hfz50_2⟩ := bc3 BK119) | (go_at_call 43; (with_reducible refine (ephemerisref1_Name.calls k a0_0 true _ A2.out).mono ?_); rintro e w' ⟨rfl, ⟨nd, rfl⟩⟩; (try first | exact ⟨rfl, _, World.drewN_drewN _ _ _⟩ | exact ⟨rfl, _, Eq.trans (World.drewN_drewN _ _ _) (congrArg (World.drewN _) (Nat.add_assoc _ _ _))⟩)) | (go_at_call 44; (with_reducible refine (ephemerisref1_Offset.calls k a0_1 false _ A4.out).mono ?_); rintro e w' ⟨rfl, ⟨nd, rfl⟩⟩; (try first | exact ⟨rfl, _, World.drewN_drewN _ _ _⟩ | exact ⟨rfl, _, Eq.trans (World.drewN_drewN _ _ _) (congrArg (World.drewN _) (Nat.add_assoc _ _ _))⟩))); try go_wp2_with (first | ((with_reducible refine gate_dst (N := 1) rfl ?_); refine box_event ?hg (N := 1) ?hd (cs := #[.string a0_0, .int .i64 a0_1, .slice A0_2 l0_2.length c0_2]) (t := 24) ?hr ?_; (case hd => rfl); (case hg => rfl); (case hr => first | (go_simp; done) | (go_simp; rfl)); intro gb119 hg w49 hbox hb; have n0_ := Aside0.mk (below_step be hb); have n1_ := Aside0.mk (hbox); have n2_ := gs hg HB; have n3_ := n2_; clear HB; have HB := n0_; have BK119 := n1_; have GW119 := n2_; have GE119 := n3_; clear n0_ n1_ n2_ n3_; clear hb hbox hg; obtain ⟨hcz50_0, hcz50_1, hcz50_2, hfz50_0, hfz50_1, hfz50_2⟩ := bc3 BK119) | (go_at_call 43; (with_reducible refine (ephemerisref1_Name.calls k a0_0 true _ A2.out).mono ?_); rintro e w' ⟨rfl, ⟨nd, rfl⟩⟩; (try first | exact ⟨rfl, _, World.drewN_drewN _ _ _⟩ | exact ⟨rfl, _, Eq.trans (World.drewN_drewN _ _ _) (congrArg (World.drewN _) (Nat.add_assoc _ _ _))⟩)) | (go_at_call 44; (with_reducible refine (ephemerisref1_Offset.calls k a0_1 false _ A4.out).mono ?_); rintro e w' ⟨rfl, ⟨nd, rfl⟩⟩; (try first | exact ⟨rfl, _, World.drewN_drewN _ _ _⟩ | exact ⟨rfl, _, Eq.trans (World.drewN_drewN _ _ _) (congrArg (World.drewN _) (Nat.add_assoc _ _ _))⟩))))
   go_ret
   exact ⟨by first | rfl | (simp [errW_none, errW_some] <;> rfl) | (simp [*, errW_none, errW_some] <;> rfl), be⟩
 ·replace c3 := Bool.eq_false_iff.mpr c3
  subst c3
  have H1 : (some 5) = some r := by rw [if_neg (show ¬ (false = true) by decide)] at H; exact H
  clear H
  have H := H1
  clear H1
  obtain rfl := Option.some.inj H
  go_enter Tryd.func13, Tryd.ntmps13
  go_wp2_with (first | ((with_reducible refine gate_dst (N := 1) rfl ?_); refine box_event ?hg (N := 1) ?hd (cs := #[.string a0_0, .int .i64 a0_1, .slice A0_2 l0_2.length c0_2]) (t := 24) ?hr ?_; (case hd => rfl); (case hg => rfl); (case hr => first | (go_simp; done) | (go_simp; rfl)); intro gb119 hg w51 hbox hb; have n0_ := Aside0.mk (below_step be hb); have n1_ := Aside0.mk (hbox); have n2_ := gs hg HB; have n3_ := n2_; clear HB; have HB := n0_; have BK119 := n1_; have GW119 := n2_; have GE119 := n3_; clear n0_ n1_ n2_ n3_; clear hb hbox hg; obtain ⟨hcz52_0, hcz52_1, hcz52_2, hfz52_0, hfz52_1, hfz52_2⟩ := bc3 BK119) | (go_at_call 43; (with_reducible refine (ephemerisref1_Name.calls k a0_0 false _ A2.out).mono ?_); rintro e w' ⟨rfl, ⟨nd, rfl⟩⟩; (try first | exact ⟨rfl, _, World.drewN_drewN _ _ _⟩ | exact ⟨rfl, _, Eq.trans (World.drewN_drewN _ _ _) (congrArg (World.drewN _) (Nat.add_assoc _ _ _))⟩)))
  repeat (go_quiet (first | ((with_reducible refine gate_dst (N := 1) rfl ?_); refine box_event ?hg (N := 1) ?hd (cs := #[.string a0_0, .int .i64 a0_1, .slice A0_2 l0_2.length c0_2]) (t := 24) ?hr ?_; (case hd => rfl); (case hg => rfl); (case hr => first | (go_simp; done) | (go_simp; rfl)); intro gb119 hg w51 hbox hb; have n0_ := Aside0.mk (below_step be hb); have n1_ := Aside0.mk (hbox); have n2_ := gs hg HB; have n3_ := n2_; clear HB; have HB := n0_; have BK119 := n1_; have GW119 := n2_; have GE119 := n3_; clear n0_ n1_ n2_ n3_; clear hb hbox hg; obtain ⟨hcz52_0, hcz52_1, hcz52_2, hfz52_0, hfz52_1, hfz52_2⟩ := bc3 BK119) | (go_at_call 43; (with_reducible refine (ephemerisref1_Name.calls k a0_0 false _ A2.out).mono ?_); rintro e w' ⟨rfl, ⟨nd, rfl⟩⟩; (try first | exact ⟨rfl, _, World.drewN_drewN _ _ _⟩ | exact ⟨rfl, _, Eq.trans (World.drewN_drewN _ _ _) (congrArg (World.drewN _) (Nat.add_assoc _ _ _))⟩))); try go_wp2_with (first | ((with_reducible refine gate_dst (N := 1) rfl ?_); refine box_event ?hg (N := 1) ?hd (cs := #[.string a0_0, .int .i64 a0_1, .slice A0_2 l0_2.length c0_2]) (t := 24) ?hr ?_; (case hd => rfl); (case hg => rfl); (case hr => first | (go_simp; done) | (go_simp; rfl)); intro gb119 hg w51 hbox hb; have n0_ := Aside0.mk (below_step be hb); have n1_ := Aside0.mk (hbox); have n2_ := gs hg HB; have n3_ := n2_; clear HB; have HB := n0_; have BK119 := n1_; have GW119 := n2_; have GE119 := n3_; clear n0_ n1_ n2_ n3_; clear hb hbox hg; obtain ⟨hcz52_0, hcz52_1, hcz52_2, hfz52_0, hfz52_1, hfz52_2⟩ := bc3 BK119) | (go_at_call 43; (with_reducible refine (ephemerisref1_Name.calls k a0_0 false _ A2.out).mono ?_); rintro e w' ⟨rfl, ⟨nd, rfl⟩⟩; (try first | exact ⟨rfl, _, World.drewN_drewN _ _ _⟩ | exact ⟨rfl, _, Eq.trans (World.drewN_drewN _ _ _) (congrArg (World.drewN _) (Nat.add_assoc _ _ _))⟩))))
  go_ret
  exact ⟨by first | rfl | (simp [errW_none, errW_some] <;> rfl) | (simp [*, errW_none, errW_some] <;> rfl), be⟩

/-! ### line_Check: function 73 -/
def line_Check.f (a0 : Int) : Option (Int) := if a0 < (-4000000) then (some 3) else (if a0 > 4000000 then (some 3) else (some 0))
set_option maxHeartbeats 8000000 in
set_option maxRecDepth 100000 in
theorem line_Check.calls (a0 : Int) (r : Int) (w : World) (h : line_Check.f a0 = some r) :
  Calls Tryd.prog 73 #[.int .i64 a0] w fun e w' => e = .returned (.int .i64 r) ∧ Drawn0 w w' := by
 have H : (if a0 < (-4000000) then (some 3) else (if a0 > 4000000 then (some 3) else (some 0))) = some r := h
 clear h
 by_cases c2 : a0 < (-4000000)
 ·rw [if_pos c2] at H
  have c2b0 : decide (a0 < (-4000000)) = true := decide_eq_true c2
  clear c2
  obtain rfl := Option.some.inj H
  go_enter Tryd.func73, Tryd.ntmps73
  go_wp2
  go_ret
  exact ⟨by first | rfl | (simp; done) | (simp [*]; done), by repeat (first | exact Drawn0.refl _ | apply Drawn0.step)⟩
 ·rw [if_neg c2] at H
  have c2b0 : decide (a0 < (-4000000)) = false := decide_eq_false c2
  clear c2
  by_cases c3 : a0 > 4000000
  ·rw [if_pos c3] at H
   have c3b0 : decide (4000000 < a0) = true := decide_eq_true c3
   clear c3
   obtain rfl := Option.some.inj H
   go_enter Tryd.func73, Tryd.ntmps73
   go_wp2
   go_ret
   exact ⟨by first | rfl | (simp; done) | (simp [*]; done), by repeat (first | exact Drawn0.refl _ | apply Drawn0.step)⟩
  ·rw [if_neg c3] at H
   have c3b0 : decide (4000000 < a0) = false := decide_eq_false c3
   clear c3
   obtain rfl := Option.some.inj H
   go_enter Tryd.func73, Tryd.ntmps73
   go_wp2
   go_ret
   exact ⟨by first | rfl | (simp; done) | (simp [*]; done), by repeat (first | exact Drawn0.refl _ | apply Drawn0.step)⟩

/-! ### whole_Div: function 74 -/
def whole_Div.j0 : Nat → Int → Int → Bool → Option (Int × Int × Int)
 | 0, _, _, _ => none
 | k + 1, x0, x1, x16 => if x16 = true then (some (0, 0, 14)) else (if x1 = 0 then (none) else (if (Int.tmod x0 x1) = 0 then (some (wrap64 (Int.tdiv x0 x1), Int.tmod x0 x1, 0)) else (if ((decide ((Int.tmod x0 x1) < 0)) != (decide (x1 < 0))) = true then (some (wrap64 ((wrap64 (Int.tdiv x0 x1)) - 1), wrap64 ((Int.tmod x0 x1) + x1), 0)) else (some (wrap64 (Int.tdiv x0 x1), Int.tmod x0 x1, 0)))))
def whole_Div.f (k : Nat) (a0 : Int) (a1 : Int) : Option (Int × Int × Int) := if a1 = 0 then (some (0, 0, 1)) else (if a0 = (-9223372036854775808) then (whole_Div.j0 k a0 a1 (a1 == (-1))) else (whole_Div.j0 k a0 a1 false))
theorem whole_Div.mono_l : ∀ k, (∀ y0 y1 y2, LeO (whole_Div.j0 k y0 y1 y2) (whole_Div.j0 (k + 1) y0 y1 y2))
 | 0 => fun _ _ _ r h => by simp [whole_Div.j0] at h
 | k + 1 => by
  have ih0 := whole_Div.mono_l k
  ·intro y0 y1 y2
   unfold whole_Div.j0
   repeat' first
   | (with_reducible exact ih0 _ _ _)
   | (with_reducible exact LeO.refl _)
   | (with_reducible exact LeO.none _)
   | (with_reducible refine LeO.ite ?_ ?_)
   | (with_reducible refine LeO.bind ?_ (fun _ => ?_))
   | exact ih0 _ _ _
   | exact LeO.none _
   | refine LeO.ite ?_ ?_
   | refine LeO.bind ?_ (fun _ => ?_)
theorem whole_Div.mono : ∀ a0 a1 k, LeO (whole_Div.f k a0 a1) (whole_Div.f (k + 1) a0 a1) := by
 intro a0 a1 k
 have ih0 := whole_Div.mono_l k
 unfold whole_Div.f
 repeat' first
   | (with_reducible exact ih0 _ _ _)
   | (with_reducible exact LeO.refl _)
   | (with_reducible exact LeO.none _)
   | (with_reducible refine LeO.ite ?_ ?_)
   | (with_reducible refine LeO.bind ?_ (fun _ => ?_))
   | exact ih0 _ _ _
   | exact LeO.none _
   | refine LeO.ite ?_ ?_
   | refine LeO.bind ?_ (fun _ => ?_)
set_option maxHeartbeats 8000000 in
set_option maxRecDepth 100000 in
theorem whole_Div.calls (k : Nat) (a0 : Int) (a1 : Int) (r1 : Int) (r2 : Int) (r3 : Int) (w : World) (h : whole_Div.f k a0 a1 = some (r1, r2, r3)) :
  Calls Tryd.prog 74 #[.int .i64 a0, .int .i64 a1] w fun e w' => e = .returned (.tuple #[.int .i64 r1, .int .i64 r2, .int .i64 r3]) ∧ Drawn0 w w' := by
 have H : (if a1 = 0 then (some (0, 0, 1)) else (if a0 = (-9223372036854775808) then (whole_Div.j0 k a0 a1 (a1 == (-1))) else (whole_Div.j0 k a0 a1 false))) = some (r1, r2, r3) := h
 clear h
 by_cases c3 : a1 = 0
 ·rw [if_pos c3] at H
  have c3b0 : (a1 == 0) = true := beq_iff_eq.mpr c3
  have c3b1 : (a1 != 0) = false := bne_eq_false_iff_eq.mpr c3
  clear c3
  simp only [Option.some.injEq, Prod.mk.injEq] at H
  obtain ⟨rfl, rfl, rfl⟩ := H
  go_enter Tryd.func74, Tryd.ntmps74
  go_wp2
  repeat (go_quiet (fail); try go_wp2)
  go_ret3
  exact ⟨by first | rfl | (simp; done) | (simp [*]; done), by repeat (first | exact Drawn0.refl _ | apply Drawn0.step)⟩
 ·rw [if_neg c3] at H
  have c3b0 : (a1 == 0) = false := beq_eq_false_iff_ne.mpr c3
  have c3b1 : (a1 != 0) = true := bne_iff_ne.mpr c3
  have HC4 := Aside0.mk H
  clear H
  go_enter Tryd.func74, Tryd.ntmps74
  go_upto_region 3 with (fail)
  repeat (go_quiet (fail); go_upto_region 3 with (fail))
  go_cut [16] (fun v16 wc => ∃ (kq : Nat) (x16_3 : Bool), v16 = .bool x16_3 ∧ Aside0 (whole_Div.j0 kq a0 a1 x16_3 = some (r1, r2, r3)) ∧ Aside0 (kq ≤ k) ∧ Drawn0 w wc)
  case first =>
   have H := HC4.out
   clear HC4
   by_cases c5 : a0 = (-9223372036854775808)
   ·rw [if_pos c5] at H
    have c5b0 : (a0 == (-9223372036854775808)) = true := beq_iff_eq.mpr c5
    have c5b1 : (a0 != (-9223372036854775808)) = false := bne_eq_false_iff_eq.mpr c5
    clear c5
    (first | rw [c5b0] | (simp only [i64_w, i32_w]; rw [c5b0]) | skip)
    have H' := Aside0.mk H
    clear H
    go_wp2
    repeat (go_quiet (fail); try go_wp2)
    go_meet
    case rel => exact ⟨_, ((a1 == (-1))), rs, H', ⟨by first | omega | exact Nat.le_refl _⟩, by repeat (first | exact Drawn0.refl _ | apply Drawn0.step)⟩
   ·rw [if_neg c5] at H
    have c5b0 : (a0 == (-9223372036854775808)) = false := beq_eq_false_iff_ne.mpr c5
    have c5b1 : (a0 != (-9223372036854775808)) = true := bne_iff_ne.mpr c5
    (first | rw [c5b0] | (simp only [i64_w, i32_w]; rw [c5b0]) | skip)
    have H' := Aside0.mk H
    clear H
    go_wp2
    repeat (go_quiet (fail); try go_wp2)
    go_meet
    case rel => exact ⟨_, (false), rs, H', ⟨by first | omega | exact Nat.le_refl _⟩, by repeat (first | exact Drawn0.refl _ | apply Drawn0.step)⟩
  case rest =>
   clear HC4
   (try clear p2); (try clear c3); (try clear c3b0); (try clear c3b1); (try clear c5); (try clear c5b0); (try clear c5b1)
   obtain ⟨kq, x16_3, rfl, HA, HJ3, ⟨mc3, rfl⟩⟩ := hcut
   cases kq with
   | zero => exact absurd HA.out (by simp [whole_Div.j0])
   | succ kj3 =>
    have H := HA.out
    clear HA
    simp only [whole_Div.j0] at H
    by_cases c6 : x16_3 = true
    ·subst c6
     have H1 : (some (0, 0, 14)) = some (r1, r2, r3) := by rw [if_pos rfl] at H; exact H
     clear H
     have H := H1
     clear H1
     simp only [Option.some.injEq, Prod.mk.injEq] at H
     obtain ⟨rfl, rfl, rfl⟩ := H
     go_wp2
     repeat (go_quiet (fail); try go_wp2)
     go_ret3
     exact ⟨by first | rfl | (simp; done) | (simp [*]; done), by repeat (first | exact Drawn0.refl _ | apply Drawn0.step)⟩
    ·replace c6 := Bool.eq_false_iff.mpr c6
     subst c6
     have H1 : (if a1 = 0 then (none) else (if (Int.tmod a0 a1) = 0 then (some (wrap64 (Int.tdiv a0 a1), Int.tmod a0 a1, 0)) else (if ((decide ((Int.tmod a0 a1) < 0)) != (decide (a1 < 0))) = true then (some (wrap64 ((wrap64 (Int.tdiv a0 a1)) - 1), wrap64 ((Int.tmod a0 a1) + a1), 0)) else (some (wrap64 (Int.tdiv a0 a1), Int.tmod a0 a1, 0))))) = some (r1, r2, r3) := by rw [if_neg (show ¬ (false = true) by decide)] at H; exact H
     clear H
     have H := H1
     clear H1
     by_cases c7 : a1 = 0
     ·rw [if_pos c7] at H
      exact absurd H (by simp)
     ·rw [if_neg c7] at H
      have c7b0 : (a1 == 0) = false := beq_eq_false_iff_ne.mpr c7
      have c7b1 : (a1 != 0) = true := bne_iff_ne.mpr c7
      by_cases c8 : (Int.tmod a0 a1) = 0
      ·rw [if_pos c8] at H
       have c8b0 : ((Int.tmod a0 a1) == 0) = true := beq_iff_eq.mpr c8
       have c8b1 : ((Int.tmod a0 a1) != 0) = false := bne_eq_false_iff_eq.mpr c8
       clear c8
       simp only [Option.some.injEq, Prod.mk.injEq] at H
       obtain ⟨rfl, rfl, rfl⟩ := H
       go_wp2
       repeat (go_quiet (fail); try go_wp2)
       go_ret3
       exact ⟨by first | rfl | (simp; done) | (simp [*]; done), by repeat (first | exact Drawn0.refl _ | apply Drawn0.step)⟩
      ·rw [if_neg c8] at H
       have c8b0 : ((Int.tmod a0 a1) == 0) = false := beq_eq_false_iff_ne.mpr c8
       have c8b1 : ((Int.tmod a0 a1) != 0) = true := bne_iff_ne.mpr c8
       by_cases c9 : ((decide ((Int.tmod a0 a1) < 0)) != (decide (a1 < 0))) = true
       ·rw [if_pos c9] at H
        have c9b0 : ((decide ((Int.tmod a0 a1) < 0)) != (decide (a1 < 0))) = true := c9
        (try (have c9b1 : decide ((decide ((Int.tmod a0 a1) < 0)) = (decide (a1 < 0))) = false := by simpa using c9))
        (try (have c9b2 : ((decide ((Int.tmod a0 a1) < 0)) == (decide (a1 < 0))) = false := by simpa using c9))
        (try (have c9b3 : ¬ ((decide ((Int.tmod a0 a1) < 0)) = (decide (a1 < 0))) := by simpa using c9))
        clear c9
        simp only [Option.some.injEq, Prod.mk.injEq] at H
        obtain ⟨rfl, rfl, rfl⟩ := H
        go_wp2
        repeat (go_quiet (fail); try go_wp2)
        go_ret3
        exact ⟨by first | rfl | (simp; done) | (simp [*]; done), by repeat (first | exact Drawn0.refl _ | apply Drawn0.step)⟩
       ·rw [if_neg c9] at H
        have c9b0 : ((decide ((Int.tmod a0 a1) < 0)) != (decide (a1 < 0))) = false := by simpa using c9
        (try (have c9b1 : decide ((decide ((Int.tmod a0 a1) < 0)) = (decide (a1 < 0))) = true := by simpa using c9))
        (try (have c9b2 : ((decide ((Int.tmod a0 a1) < 0)) == (decide (a1 < 0))) = true := by simpa using c9))
        clear c9
        simp only [Option.some.injEq, Prod.mk.injEq] at H
        obtain ⟨rfl, rfl, rfl⟩ := H
        go_wp2
        repeat (go_quiet (fail); try go_wp2)
        go_ret3
        exact ⟨by first | rfl | (simp; done) | (simp [*]; done), by repeat (first | exact Drawn0.refl _ | apply Drawn0.step)⟩

/-! ### line_Split: function 42 -/
def line_Split.f (k : Nat) (a0 : Int) : Option (Int × Int × Int) := (whole_Div.f k a0 86400000).bind fun bt128 => ((line_Check.f bt128.1).bind fun t131 => (if t131 = 0 then (some (bt128.1, bt128.2.1, 0)) else (some (0, 0, t131))))
theorem line_Split.mono : ∀ a0 k, LeO (line_Split.f k a0) (line_Split.f (k + 1) a0) := by
 intro a0 k
 unfold line_Split.f
 repeat' first
   | (with_reducible exact whole_Div.mono _ _ _)
   | (with_reducible exact LeO.refl _)
   | (with_reducible exact LeO.none _)
   | (with_reducible refine LeO.ite ?_ ?_)
   | (with_reducible refine LeO.bind ?_ (fun _ => ?_))
   | exact whole_Div.mono _ _ _
   | exact LeO.none _
   | refine LeO.ite ?_ ?_
   | refine LeO.bind ?_ (fun _ => ?_)
set_option maxHeartbeats 8000000 in
set_option maxRecDepth 100000 in
theorem line_Split.calls (k : Nat) (a0 : Int) (r1 : Int) (r2 : Int) (r3 : Int) (w : World) (h : line_Split.f k a0 = some (r1, r2, r3)) :
  Calls Tryd.prog 42 #[.int .i64 a0] w fun e w' => e = .returned (.tuple #[.int .i64 r1, .int .i64 r2, .int .i64 r3]) ∧ Drawn0 w w' := by
 have H : ((whole_Div.f k a0 86400000).bind fun bt128 => ((line_Check.f bt128.1).bind fun t131 => (if t131 = 0 then (some (bt128.1, bt128.2.1, 0)) else (some (0, 0, t131))))) = some (r1, r2, r3) := h
 clear h
 replace H := Option.bind_eq_some_iff.mp H
 obtain ⟨⟨t128, t129, t130⟩, A20, H⟩ := H
 replace H : ((line_Check.f t128).bind fun t131 => (if t131 = 0 then (some (t128, t129, 0)) else (some (0, 0, t131)))) = some (r1, r2, r3) := H
 have A2 := Aside0.mk A20
 clear A20
 replace H := Option.bind_eq_some_iff.mp H
 obtain ⟨t131, A30, H⟩ := H
 replace H : (if t131 = 0 then (some (t128, t129, 0)) else (some (0, 0, t131))) = some (r1, r2, r3) := H
 have A3 := Aside0.mk A30
 clear A30
 by_cases c4 : t131 = 0
 ·rw [if_pos c4] at H
  have c4b0 : (t131 == 0) = true := beq_iff_eq.mpr c4
  have c4b1 : (t131 != 0) = false := bne_eq_false_iff_eq.mpr c4
  clear c4
  simp only [Option.some.injEq, Prod.mk.injEq] at H
  obtain ⟨rfl, rfl, rfl⟩ := H
  go_enter Tryd.func42, Tryd.ntmps42
  go_wp2_with (first | ((with_reducible refine gate_callee (f := 74) rfl ?_); refine goesL_ (some 11) rfl rfl Tryd.func74 kx rfl #[.int .i64 a0, .int .i64 86400000] rfl aa ?_; (with_reducible refine (whole_Div.calls k a0 86400000 t128 t129 t130 _ A2.out).mono ?_); rintro e w' ⟨rfl, ⟨nd, rfl⟩⟩; refine ⟨_, rfl, ?_⟩) | ((with_reducible refine gate_callee (f := 73) rfl ?_); refine goesL_ (some 16) rfl rfl Tryd.func73 kx rfl #[.int .i64 t128] rfl aa ?_; (with_reducible refine (line_Check.calls t128 t131 _ A3.out).mono ?_); rintro e w' ⟨rfl, ⟨nd, rfl⟩⟩; refine ⟨_, rfl, ?_⟩))
  go_ret3
  exact ⟨by first | rfl | (simp; done) | (simp [*]; done), by repeat (first | exact Drawn0.refl _ | apply Drawn0.step)⟩
 ·rw [if_neg c4] at H
  have c4b0 : (t131 == 0) = false := beq_eq_false_iff_ne.mpr c4
  have c4b1 : (t131 != 0) = true := bne_iff_ne.mpr c4
  simp only [Option.some.injEq, Prod.mk.injEq] at H
  obtain ⟨rfl, rfl, rfl⟩ := H
  go_enter Tryd.func42, Tryd.ntmps42
  go_wp2_with (first | ((with_reducible refine gate_callee (f := 74) rfl ?_); refine goesL_ (some 11) rfl rfl Tryd.func74 kx rfl #[.int .i64 a0, .int .i64 86400000] rfl aa ?_; (with_reducible refine (whole_Div.calls k a0 86400000 t128 t129 t130 _ A2.out).mono ?_); rintro e w' ⟨rfl, ⟨nd, rfl⟩⟩; refine ⟨_, rfl, ?_⟩) | ((with_reducible refine gate_callee (f := 73) rfl ?_); refine goesL_ (some 16) rfl rfl Tryd.func73 kx rfl #[.int .i64 t128] rfl aa ?_; (with_reducible refine (line_Check.calls t128 t131 _ A3.out).mono ?_); rintro e w' ⟨rfl, ⟨nd, rfl⟩⟩; refine ⟨_, rfl, ?_⟩))
  go_ret3
  exact ⟨by first | rfl | (simp; done) | (simp [*]; done), by repeat (first | exact Drawn0.refl _ | apply Drawn0.step)⟩

/-! ### rule_Name: function 70 -/
/-- All bytes are letters. -/
def rule_Name.all (l : List UInt8) : Bool := l.all fun c => decide (97 ≤ (c.toNat : Int)) && decide ((c.toNat : Int) ≤ 122)
def rule_Name.f (a0 : ByteArray) : Option (Bool) := some (if (a0.size : Int) < 1 then false else if (a0.size : Int) > 12 then false else if a0.toList = ([121] : List UInt8) then false else if a0.toList = ([97, 110, 100] : List UInt8) then false else if a0.toList = ([111, 114] : List UInt8) then false else if a0.toList = ([110, 111, 116] : List UInt8) then false else rule_Name.all a0.data.toList)
theorem rule_Name.below_bytes (w W : World) (e : TypeId) (s : ByteArray) (h : Below w.heap.size w W) : Below w.heap.size w (Go.Lib.bytesWorld W e s) := by
 have hs := h.size
 refine ⟨?_, ?_, ?_, ?_, ?_⟩
 ·exact h.os
 ·exact h.tape
 ·exact h.output
 ·rw [Go.Lib.bytesWorld_size]; omega
 ·intro j hj
  rw [Go.Lib.bytesWorld_at_old _ _ _ _ (by omega)]
  exact h.block j hj
theorem rule_Name.all_step (s : ByteArray) (n c : Nat) (r : Bool) (hn : n < s.size) (hc : (s.data.toList.getD n 0).toNat = c) (h : rule_Name.all (s.data.toList.drop n) = r) :
  r = (decide (97 ≤ (c : Int)) && decide ((c : Int) ≤ 122) && rule_Name.all (s.data.toList.drop (n + 1))) := by
 have hl : n < s.data.toList.length := by rw [Array.length_toList]; exact hn
 rw [List.drop_eq_getElem_cons hl] at h
 have e : s.data.toList.getD n 0 = s.data.toList[n] := by rw [List.getD_eq_getElem?_getD, List.getElem?_eq_getElem hl]; rfl
 rw [e] at hc
 rw [← h, ← hc]
 simp only [rule_Name.all, List.all_cons]
set_option maxHeartbeats 8000000 in
set_option maxRecDepth 100000 in
theorem rule_Name.late (a0 : ByteArray) (r : Bool) (w : World) (h : Aside0 (rule_Name.all a0.data.toList = r)) (c1 : decide ((a0.size : Int) < 1) = false) (c2 : decide (12 < (a0.size : Int)) = false)
  (c3 : (a0.toList == ([121] : List UInt8)) = false) (c4 : (a0.toList == ([97, 110, 100] : List UInt8)) = false) (c5 : (a0.toList == ([111, 114] : List UInt8)) = false) (c6 : (a0.toList == ([110, 111, 116] : List UInt8)) = false) :
  Calls Tryd.prog 70 #[.string a0] w fun e w' => e = .returned (.bool r) ∧ Below w.heap.size w w' := by
 have hconv := fun (W : World) => Go.Lib.run_convert_string_bytes (P := Tryd.prog) W 9 119 5 a0 Tryd.underlying9 Tryd.underlying119 Tryd.underlying5
 go_enter Tryd.func70, Tryd.ntmps70
 go_wp2
 repeat (go_quiet (fail); try go_wp2)
 go_loopg [32] (a0.size + 1) (fun kq v32 w' => ∃ (n : Nat), v32 = .int .i64 n ∧ Aside0 (n ≤ a0.size) ∧ Aside0 (rule_Name.all (a0.data.toList.drop n) = r) ∧ Aside0 (a0.size - n < kq) ∧ Aside0 (∀ j, j < a0.size → w'.cell? ⟨w.heap.size, j, none⟩ = some (.int .u8 (a0.data.toList.getD j 0).toNat)) ∧ Aside0 (Below w.heap.size w w'))
 case atStart => exact ⟨0, rfl, ⟨Nat.zero_le _⟩, h, ⟨by omega⟩, ⟨fun j hj => Go.Lib.bytesWorld_cell _ _ _ _ hj⟩, ⟨rule_Name.below_bytes _ _ _ _ (Below.refl _ _)⟩⟩
 case round =>
  obtain ⟨n, rfl, hn, ha, hk, hcell, HB⟩ := hrel
  cases gk with
  | zero => exact absurd hk.out (by omega)
  | succ k1 =>
   by_cases hlt : n < a0.size
   ·have hx := hcell.out n hlt
    have h0 : decide ((n : Int) < (a0.size : Int)) = true := decide_eq_true (by omega)
    obtain ⟨c, hc⟩ : ∃ c : Nat, (a0.data.toList.getD n 0).toNat = c := ⟨_, rfl⟩
    have hs := rule_Name.all_step a0 n c r hlt hc ha.out
    rw [hc] at hx
    clear ha hc
    have hsz : (a0.size : Int) ≤ 12 := by simpa using c2
    by_cases hA : (c : Int) < 97
    ·have d1 : decide ((c : Int) < 97) = true := decide_eq_true hA
     have hr : r = false := by rw [hs, decide_eq_false (by omega)]; rfl
     subst hr
     clear hs hA
     go_wp2
     go_ret
     exact ⟨rfl, HB.out⟩
    ·have d1 : decide ((c : Int) < 97) = false := decide_eq_false hA
     by_cases hZ : (c : Int) > 122
     ·have d2 : decide (122 < (c : Int)) = true := decide_eq_true hZ
      have hr : r = false := by rw [hs, decide_eq_false (show ¬ (c : Int) ≤ 122 by omega)]; simp
      subst hr
      clear hs hA hZ
      go_wp2
      go_ret
      exact ⟨rfl, HB.out⟩
     ·have d2 : decide (122 < (c : Int)) = false := decide_eq_false hZ
      have hr : Aside0 (rule_Name.all (a0.data.toList.drop (n + 1)) = r) := ⟨by rw [hs, decide_eq_true (show 97 ≤ (c : Int) by omega), decide_eq_true (show (c : Int) ≤ 122 by omega)]; rfl⟩
      clear hs hA hZ
      go_wp2
      go_roundg k1
      case measure => omega
      case rel => exact ⟨n + 1, by go_num, ⟨by omega⟩, hr, ⟨by have := hk.out; omega⟩, hcell, HB⟩
   ·have h0 : decide ((n : Int) < (a0.size : Int)) = false := decide_eq_false (by omega)
    have hr : r = true := by
     have := ha.out
     rw [List.drop_of_length_le (by rw [Array.length_toList]; exact Nat.le_of_not_lt hlt)] at this
     exact this.symm
    subst hr
    go_wp2
    go_ret
    exact ⟨rfl, HB.out⟩
set_option maxHeartbeats 8000000 in
set_option maxRecDepth 100000 in
theorem rule_Name.calls (a0 : ByteArray) (r : Bool) (w : World) (h : rule_Name.f a0 = some r) :
  Calls Tryd.prog 70 #[.string a0] w fun e w' => e = .returned (.bool r) ∧ Below w.heap.size w w' := by
 unfold rule_Name.f at h
 replace h := Option.some.inj h
 by_cases c1 : (a0.size : Int) < 1
 ·rw [if_pos c1] at h
  subst h
  have c1b : decide ((a0.size : Int) < 1) = true := decide_eq_true c1
  clear c1
  go_enter Tryd.func70, Tryd.ntmps70
  go_wp2
  repeat (go_quiet (fail); try go_wp2)
  go_ret
  exact ⟨rfl, by repeat (first | exact Below.refl _ _ | apply pw_below_drewN)⟩
 rw [if_neg c1] at h
 have c1b : decide ((a0.size : Int) < 1) = false := decide_eq_false c1
 clear c1
 by_cases c2 : (a0.size : Int) > 12
 ·rw [if_pos c2] at h
  subst h
  have c2b : decide (12 < (a0.size : Int)) = true := decide_eq_true c2
  clear c2
  go_enter Tryd.func70, Tryd.ntmps70
  go_wp2
  repeat (go_quiet (fail); try go_wp2)
  go_ret
  exact ⟨rfl, by repeat (first | exact Below.refl _ _ | apply pw_below_drewN)⟩
 rw [if_neg c2] at h
 have c2b : decide (12 < (a0.size : Int)) = false := decide_eq_false c2
 clear c2
 by_cases c3 : a0.toList = ([121] : List UInt8)
 ·rw [if_pos c3] at h
  subst h
  have c3b : (a0.toList == ([121] : List UInt8)) = true := beq_iff_eq.mpr c3
  clear c3
  go_enter Tryd.func70, Tryd.ntmps70
  go_wp2
  repeat (go_quiet (fail); try go_wp2)
  go_ret
  exact ⟨rfl, by repeat (first | exact Below.refl _ _ | apply pw_below_drewN)⟩
 rw [if_neg c3] at h
 have c3b : (a0.toList == ([121] : List UInt8)) = false := beq_eq_false_iff_ne.mpr c3
 clear c3
 by_cases c4 : a0.toList = ([97, 110, 100] : List UInt8)
 ·rw [if_pos c4] at h
  subst h
  have c4b : (a0.toList == ([97, 110, 100] : List UInt8)) = true := beq_iff_eq.mpr c4
  clear c4
  go_enter Tryd.func70, Tryd.ntmps70
  go_wp2
  repeat (go_quiet (fail); try go_wp2)
  go_ret
  exact ⟨rfl, by repeat (first | exact Below.refl _ _ | apply pw_below_drewN)⟩
 rw [if_neg c4] at h
 have c4b : (a0.toList == ([97, 110, 100] : List UInt8)) = false := beq_eq_false_iff_ne.mpr c4
 clear c4
 by_cases c5 : a0.toList = ([111, 114] : List UInt8)
 ·rw [if_pos c5] at h
  subst h
  have c5b : (a0.toList == ([111, 114] : List UInt8)) = true := beq_iff_eq.mpr c5
  clear c5
  go_enter Tryd.func70, Tryd.ntmps70
  go_wp2
  repeat (go_quiet (fail); try go_wp2)
  go_ret
  exact ⟨rfl, by repeat (first | exact Below.refl _ _ | apply pw_below_drewN)⟩
 rw [if_neg c5] at h
 have c5b : (a0.toList == ([111, 114] : List UInt8)) = false := beq_eq_false_iff_ne.mpr c5
 clear c5
 by_cases c6 : a0.toList = ([110, 111, 116] : List UInt8)
 ·rw [if_pos c6] at h
  subst h
  have c6b : (a0.toList == ([110, 111, 116] : List UInt8)) = true := beq_iff_eq.mpr c6
  clear c6
  go_enter Tryd.func70, Tryd.ntmps70
  go_wp2
  repeat (go_quiet (fail); try go_wp2)
  go_ret
  exact ⟨rfl, by repeat (first | exact Below.refl _ _ | apply pw_below_drewN)⟩
 rw [if_neg c6] at h
 have c6b : (a0.toList == ([110, 111, 116] : List UInt8)) = false := beq_eq_false_iff_ne.mpr c6
 clear c6
 exact rule_Name.late a0 r w ⟨h⟩ c1b c2b c3b c4b c5b c6b

end Go.Proofs.YtolhlaadhfilnaaDoor.PForecastExtends
