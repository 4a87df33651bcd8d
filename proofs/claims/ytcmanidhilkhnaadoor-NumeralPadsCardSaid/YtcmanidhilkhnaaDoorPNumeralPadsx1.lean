/- The walks of the functions of this part. The proof of numeral_digits, strconv_Itoa, strings_Repeat, numeral_Pad (in part) is written by hand; the other ones are as the kit's print tells them. -/
-- The walks of the law's functions, told by a program.
import Derived.Shelf.Strings.BuilderK
import Derived.Lib.AppendIntMem
import Derived.Shelf.Strconv.Itoa3
import Derived.Shelf.Strings.BuilderK
import Derived.Lib.OthersKept
import Derived.Shelf.Strings.Repeat
import Derived.Shelf.Strings.BuilderRune
import Derived.Test.YtcmanidhilkhnaaDoorPNumeralPadsx0
namespace Go.Proofs.YtcmanidhilkhnaaDoor.PNumeralPads
open Go.RowKit Go.Proofs.YtcmanidhilkhnaaDoorW.PrintWords Go.Proofs.YtcmanidhilkhnaaDoorW.PrintLast Go.Proofs.YtcmanidhilkhnaaDoorW.PrintMore
attribute [local go_sem] max2_int min2_int max_two min_two max_three min_three max_four min_four   -- for this text's walks alone
set_option linter.unusedVariables false
set_option linter.unusedSimpArgs false

/-! ### ephemerisref1_In: function 17 -/
def ephemerisref1_In.f (a0 : Int) (a1 : Int) (a2 : Int) : Option (Bool) := if a0 ≥ a1 then (some (decide (a0 ≤ a2))) else (some false)
set_option maxHeartbeats 8000000 in
set_option maxRecDepth 100000 in
theorem ephemerisref1_In.calls (a0 : Int) (a1 : Int) (a2 : Int) (r : Bool) (w : World) (h : ephemerisref1_In.f a0 a1 a2 = some r) :
    Calls Tryd.prog 17 #[.int .i64 a0, .int .i64 a1, .int .i64 a2] w fun e w' => e = .returned (.bool r) ∧ Drawn0 w w' := by
  have H : (if a0 ≥ a1 then (some (decide (a0 ≤ a2))) else (some false)) = some r := h
  clear h
  by_cases c4 : a0 ≥ a1
  · rw [if_pos c4] at H
    have c4b0 : decide (a1 ≤ a0) = true := decide_eq_true c4
    clear c4
    obtain rfl := Option.some.inj H
    go_enter Tryd.func17, Tryd.ntmps17
    go_wp2
    go_ret
    exact ⟨by first | rfl | (simp; done) | (simp [*]; done), by repeat (first | exact Drawn0.refl _ | apply Drawn0.step)⟩
  · rw [if_neg c4] at H
    have c4b0 : decide (a1 ≤ a0) = false := decide_eq_false c4
    clear c4
    obtain rfl := Option.some.inj H
    go_enter Tryd.func17, Tryd.ntmps17
    go_wp2
    go_ret
    exact ⟨by first | rfl | (simp; done) | (simp [*]; done), by repeat (first | exact Drawn0.refl _ | apply Drawn0.step)⟩

/-! ### numeral_digits: function 49 -/
/-- A strings.Builder of the call's own, in block b, that holds the bytes of x. -/
def numeral_digits.Is (B b : Nat) (x : ByteArray) (w : World) : Prop := Go.Lib.IsBuilderF 122 5 B b (Go.Lib.byteCells x.data.toList) w
theorem numeral_digits.Is.alloc {B b : Nat} {x : ByteArray} {w : World} {o : Obj} (h : numeral_digits.Is B b x w) : numeral_digits.Is B b x (w.alloc o) := Go.Lib.IsBuilderF.alloc h o
theorem numeral_digits.Is.drew {B b : Nat} {x : ByteArray} {w : World} (h : numeral_digits.Is B b x w) : numeral_digits.Is B b x w.drew := h
theorem numeral_digits.Is.drewN {B b : Nat} {x : ByteArray} {w : World} {n : Nat} (h : numeral_digits.Is B b x w) : numeral_digits.Is B b x (w.drewN n) := h
theorem numeral_digits.Is.lt {B b : Nat} {x : ByteArray} {w : World} (h : numeral_digits.Is B b x w) : b < w.heap.size := h.elim Go.Lib.BuilderAtF.lt Go.Lib.BuilderAtF.lt
theorem numeral_digits.at_kept {B b : Nat} {p : Value} {bs : List Value} {w w' : World} {row : Option Nat} (h : Go.Lib.BuilderAtF 122 5 B b p bs w) (hg : w.grownBy w' row) (hb : some b ≠ row) (hr : ∀ k, row = some k → ¬ ∃ c fz, w.heap[k]? = some (.cells c 5 fz)) : Go.Lib.BuilderAtF 122 5 B b p bs w' := by
  have hlt := h.lt
  obtain ⟨hB, v, hbk, hown, hne⟩ := h
  obtain ⟨_, _, _, _, hgb⟩ := id hg
  refine ⟨hB, v, (hgb b hlt hb).trans hbk, hown.kept hg ?_, hne⟩
  rcases hv : v.ownBlock with _ | k
  · exact .inl rfl
  · right
    intro e
    exact hr k e.symm (Go.Lib.ownsRowF_kind hown k hv)
theorem numeral_digits.Is.below {B b : Nat} {x : ByteArray} {w w' : World} (h : numeral_digits.Is B b x w) (hb : Below w.heap.size w w') : numeral_digits.Is B b x w' := by
  have hg : w.grownBy w' none := ⟨hb.os, hb.tape, hb.output, hb.size, fun k hk _ => hb.block k hk⟩
  exact h.elim (fun g => .inl (numeral_digits.at_kept g hg (by simp) (fun k e => by cases e))) (fun g => .inr (numeral_digits.at_kept g hg (by simp) (fun k e => by cases e)))
/-- A block of cells of a type that is not the bytes'. -/
def numeral_digits.Oth (g : Nat) (w : World) : Prop := ∃ t cells fz, w.heap[g]? = some (.cells cells t fz) ∧ t ≠ 5
theorem numeral_digits.Oth.set {g : Nat} {w : World} {j : Nat} {u : Value} (h : numeral_digits.Oth g w) : numeral_digits.Oth g (w.setCell ⟨g, j, none⟩ u) := by
  obtain ⟨t, cells, fz, hg, ht⟩ := h
  rw [setCell_eq_setRow w g j cells t fz u hg]
  exact ⟨t, _, fz, setRow_heap w g cells _ t fz hg, ht⟩
theorem numeral_digits.Is.set {B b g : Nat} {x : ByteArray} {w : World} {j : Nat} {u : Value} (h : numeral_digits.Is B b x w) (hg : numeral_digits.Oth g w) (hne : b ≠ g) : numeral_digits.Is B b x (w.setCell ⟨g, j, none⟩ u) := by
  obtain ⟨t, cells, fz, hc, ht⟩ := hg
  have hw : w.grownBy (w.setCell ⟨g, j, none⟩ u) (some g) := by
    rw [setCell_eq_setRow w g j cells t fz u hc]
    exact ⟨rfl, rfl, rfl, by simp [World.setRow], fun k _ hk => setRow_other _ _ _ _ (fun he => hk (by rw [he]))⟩
  have hr : ∀ k, some g = some k → ¬ ∃ c fz, w.heap[k]? = some (.cells c 5 fz) := by
    intro k e
    obtain rfl := Option.some.inj e
    rintro ⟨c, fz', h'⟩
    rw [hc] at h'
    injection h' with h'
    injection h' with _ h2 _
    exact ht h2
  exact Or.elim h (fun q => .inl (numeral_digits.at_kept q hw (by simpa using hne) hr)) (fun q => .inr (numeral_digits.at_kept q hw (by simpa using hne) hr))
theorem numeral_digits.Is.fresh {B b : Nat} {w : World} (hB : B ≤ b) (hbk : w.heap[b]? = some (.cells #[.pointer none, .slice none 0 0] 122 (0, 0))) : numeral_digits.Is B b ⟨#[]⟩ w :=
  .inl ⟨hB, _, hbk, Go.World.ownsRowF_nil _ _ _ _, by simp [Value.ownBlock]⟩
/-- What a write leaves of another block. -/
theorem numeral_digits.others {b g : Nat} {w w' : World} {cells : Array Value} {t : TypeId} {fz : Nat × Nat} (hk : Go.Lib.OthersKept 5 (some b) w w') (h : w.heap[g]? = some (.cells cells t fz)) (hne : b ≠ g) (ht : t ≠ 5) : w'.heap[g]? = some (.cells cells t fz) :=
  hk g _ h (by simpa using fun e : g = b => hne e.symm) (fun c fz' e => by injection e with _ h2 _; exact ht h2)
def numeral_digits.R.ren : Go.Shelf.Ren := ⟨fun | 168 => 57 | 240 => 97 | 242 => 98 | 276 => 134 | 278 => 135 | n => n, fun | 0 => 0 | 3 => 3 | 4 => 4 | 5 => 5 | 9 => 9 | 20 => 20 | 21 => 21 | 37 => 120 | 46 => 154 | 51 => 189 | 70 => 119 | 72 => 122 | 75 => 125 | 164 => 195 | 80 => 129 | n => n, fun | n => n⟩
theorem numeral_digits.R.lays : Go.Proofs.Lays.n168 Tryd.prog numeral_digits.R.ren := {
  mixed := by kernel_rfl
  f168 := Tryd.func57.trans (congrArg some (by kernel_rfl))
  f240 := Tryd.func97.trans (congrArg some (by kernel_rfl))
  f242 := Tryd.func98.trans (congrArg some (by kernel_rfl))
  f276 := Tryd.func134.trans (congrArg some (by kernel_rfl))
  f278 := Tryd.func135.trans (congrArg some (by kernel_rfl))
  t0 := Tryd.underlying0
  a0 := Tryd.isAgg0
  z0 := Tryd.sizeOf0
  v0 := Tryd.zeroValue0
  t3 := Tryd.underlying3
  a3 := Tryd.isAgg3
  z3 := Tryd.sizeOf3
  v3 := Tryd.zeroValue3
  t4 := Tryd.underlying4
  a4 := Tryd.isAgg4
  z4 := Tryd.sizeOf4
  v4 := Tryd.zeroValue4
  t5 := Tryd.underlying5
  a5 := Tryd.isAgg5
  z5 := Tryd.sizeOf5
  v5 := Tryd.zeroValue5
  t9 := Tryd.underlying9
  a9 := Tryd.isAgg9
  z9 := Tryd.sizeOf9
  v9 := Tryd.zeroValue9
  t20 := Tryd.underlying20
  a20 := Tryd.isAgg20
  z20 := Tryd.sizeOf20
  v20 := Tryd.zeroValue20
  t21 := Tryd.underlying21
  a21 := Tryd.isAgg21
  z21 := Tryd.sizeOf21
  v21 := Tryd.zeroValue21
  t37 := Tryd.underlying120
  a37 := Tryd.isAgg120
  z37 := Tryd.sizeOf120
  v37 := Tryd.zeroValue120
  t46 := Tryd.underlying154
  a46 := Tryd.isAgg154
  z46 := Tryd.sizeOf154
  v46 := Tryd.zeroValue154
  t51 := Tryd.underlying189
  a51 := Tryd.isAgg189
  z51 := Tryd.sizeOf189
  v51 := Tryd.zeroValue189
  t70 := Tryd.underlying119
  a70 := Tryd.isAgg119
  z70 := Tryd.sizeOf119
  v70 := Tryd.zeroValue119
  t72 := Tryd.underlying122
  a72 := Tryd.isAgg122
  z72 := Tryd.sizeOf122
  v72 := Tryd.zeroValue122
  t75 := Tryd.underlying125
  a75 := Tryd.isAgg125
  z75 := Tryd.sizeOf125
  v75 := Tryd.zeroValue125
  t164 := Tryd.underlying195
  a164 := Tryd.isAgg195
  z164 := Tryd.sizeOf195
  v164 := Tryd.zeroValue195 }
theorem numeral_digits.R.extra : Go.Proofs.Builder.Extra Tryd.prog numeral_digits.R.ren := { sizeBuilder := by kernel_rfl, liesBuilder := by kernel_rfl, t5 := Tryd.underlying5, a5 := Tryd.isAgg5, z5 := Tryd.sizeOf5, v5 := Tryd.zeroValue5, infoByte := by kernel_rfl, cellsByte := by kernel_rfl, sizeByte := by kernel_rfl, neB5 := by decide }
def numeral_digits.G.ren : Go.Shelf.Ren := ⟨fun | 169 => 59 | n => n, fun | 0 => 0 | 3 => 3 | 9 => 9 | 37 => 120 | 70 => 119 | 72 => 122 | 127 => 160 | 5 => 5 | n => n, fun | n => n⟩
theorem numeral_digits.G.lays : Go.Proofs.Lays.n169 Tryd.prog numeral_digits.G.ren := {
  mixed := by kernel_rfl
  f169 := Tryd.func59.trans (congrArg some (by kernel_rfl))
  t0 := Tryd.underlying0
  a0 := Tryd.isAgg0
  z0 := Tryd.sizeOf0
  v0 := Tryd.zeroValue0
  t3 := Tryd.underlying3
  a3 := Tryd.isAgg3
  z3 := Tryd.sizeOf3
  v3 := Tryd.zeroValue3
  t9 := Tryd.underlying9
  a9 := Tryd.isAgg9
  z9 := Tryd.sizeOf9
  v9 := Tryd.zeroValue9
  t37 := Tryd.underlying120
  a37 := Tryd.isAgg120
  z37 := Tryd.sizeOf120
  v37 := Tryd.zeroValue120
  t70 := Tryd.underlying119
  a70 := Tryd.isAgg119
  z70 := Tryd.sizeOf119
  v70 := Tryd.zeroValue119
  t72 := Tryd.underlying122
  a72 := Tryd.isAgg122
  z72 := Tryd.sizeOf122
  v72 := Tryd.zeroValue122
  t127 := Tryd.underlying160
  a127 := Tryd.isAgg160
  z127 := Tryd.sizeOf160
  v127 := Tryd.zeroValue160 }
theorem numeral_digits.G.extra : Go.Proofs.Builder.Extra Tryd.prog numeral_digits.G.ren := { sizeBuilder := by kernel_rfl, liesBuilder := by kernel_rfl, t5 := Tryd.underlying5, a5 := Tryd.isAgg5, z5 := Tryd.sizeOf5, v5 := Tryd.zeroValue5, infoByte := by kernel_rfl, cellsByte := by kernel_rfl, sizeByte := by kernel_rfl, neB5 := by decide }
theorem numeral_digits.G.does (B b : Nat) (x : ByteArray) (w : World) (hI : numeral_digits.Is B b x w) (hBw : B ≤ w.heap.size) :
    Calls Tryd.prog 59 #[.pointer (some ⟨b, 0, none⟩)] w fun e w' => e = .returned (.string x) ∧ Below B w w' ∧ Go.Lib.OthersKept 5 (some b) w w' := by
  refine (Go.Proofs.Any.Builder_String_any_k numeral_digits.G.lays numeral_digits.G.extra B b x.data.toList w hI hBw).mono ?_
  rintro e w' ⟨rfl, _, h2, h3⟩
  exact ⟨rfl, h2, h3⟩
theorem numeral_digits.R.does (B b : Nat) (x : ByteArray) (r : Int) (hr0 : 0 ≤ r) (hr1 : r ≤ 1114111) (w : World) (hI : numeral_digits.Is B b x w) (hBw : B ≤ w.heap.size) (h : x.size ≤ 1000000) :
    Calls Tryd.prog 57 #[.pointer (some ⟨b, 0, none⟩), .int .i32 r] w fun e w' => (∃ n : Int, e = .returned (.tuple #[.int .i64 n, .nilIface])) ∧ numeral_digits.Is B b (x ++ ⟨(Go.Lib.encodeRune r).toArray⟩) w' ∧ Below B w w' ∧ Go.Lib.OthersKept 5 (some b) w w' := by
  refine (Go.Proofs.Any.Builder_WriteRune_k numeral_digits.R.lays numeral_digits.R.extra B b _ r (by omega) (by omega) w hI (by rw [Go.Lib.byteCells, List.length_map, Array.length_toList]; show x.size + 4 ≤ _; omega) hBw).mono ?_
  rintro e w' ⟨rfl, h1, h2, h3⟩
  refine ⟨⟨_, rfl⟩, .inr ?_, h2, h3⟩
  have e1 : Go.Lib.byteCells (x ++ ⟨(Go.Lib.encodeRune r).toArray⟩ : ByteArray).data.toList = Go.Lib.byteCells x.data.toList ++ Go.Lib.runeCells r := by
    rw [← Go.Lib.byteCells_encodeRune, show (x ++ ⟨(Go.Lib.encodeRune r).toArray⟩ : ByteArray).data.toList = x.data.toList ++ Go.Lib.encodeRune r from by simp]
    unfold Go.Lib.byteCells
    rw [List.map_append]
  rw [e1]
  exact h1
theorem numeral_digits.Is.iterAt {B b k : Nat} {x s : ByteArray} {w : World} {p q : Nat} (h : numeral_digits.Is B b x w) (hk : w.heap[k]? = some (.stringIter s p)) (hne : b ≠ k) : numeral_digits.Is B b x (w.iterAt k s q) := by
  have hw : w.grownBy (w.iterAt k s q) (some k) := by
    refine ⟨rfl, rfl, rfl, by simp [World.iterAt], fun j hj hjk => ?_⟩
    have : k ≠ j := fun e => hjk (by rw [e])
    simp [World.iterAt, Array.getElem?_setIfInBounds, this]
  have hr : ∀ j, some k = some j → ¬ ∃ c fz, w.heap[j]? = some (.cells c 5 fz) := by
    intro j e
    obtain rfl := Option.some.inj e
    rintro ⟨c, fz', h'⟩
    rw [hk] at h'
    cases h'
  exact Or.elim h (fun q => .inl (numeral_digits.at_kept q hw (by simpa using hne) hr)) (fun q => .inr (numeral_digits.at_kept q hw (by simpa using hne) hr))
/-- The cells of ephemeris/numeral.zeros. -/
def numeral_digits.Tab_zeros : List Value := [.int .i32 48, .int .i32 1632, .int .i32 1776, .int .i32 2406, .int .i32 2534, .int .i32 3664, .int .i32 3872, .int .i32 6112, .int .i32 65296]
/-- The laid tables. -/
def numeral_digits.Tab (w : World) : Prop := (∀ (i : Nat) (v : Value), numeral_digits.Tab_zeros[i]? = some v → w.cell? ⟨4, i, none⟩ = some v)
theorem numeral_digits.Tab.below {w W : World} {n : Nat} (h : numeral_digits.Tab w) (hb : Below n w W) (hn : w.heap.size ≤ n) : numeral_digits.Tab W :=
  fun i v e => (hb.cell (Nat.lt_of_lt_of_le (World.block_lt_of_cell? w _ (h i v e)) hn)).trans (h i v e)
/-- The digit nought of a script. -/
def numeral_digits.zs : List Int := [48, 1632, 1776, 2406, 2534, 3664, 3872, 6112, 65296]
def numeral_digits.z (a0 : Int) : Int := numeral_digits.zs.getD a0.toNat 0
/-- A byte in a script. -/
def numeral_digits.one (z : Int) (c : UInt8) : List UInt8 := if c = 45 then [45] else Go.Lib.encodeRune (z + (c.toNat : Int) - 48)
def numeral_digits.enc (z : Int) (l : List UInt8) : List UInt8 := l.flatMap (numeral_digits.one z)
def numeral_digits.f (a0 : Int) (a1 : ByteArray) : Option (ByteArray) := if (0 ≤ a0 ∧ a0 < 9) ∧ a1.size ≤ 1000 ∧ (a1.data.toList.all fun c => decide (c = 45 ∨ (48 ≤ c.toNat ∧ c.toNat ≤ 57))) = true then some ⟨(numeral_digits.enc (numeral_digits.z a0) a1.data.toList).toArray⟩ else none
theorem numeral_digits.w32 {y : Int} (h0 : 0 ≤ y) (h1 : y ≤ 1000000) : IntKind.i32.wrap y = y := by
  rw [IntKind.wrap_i32]; omega
theorem numeral_digits.one_le (z : Int) (c : UInt8) : (numeral_digits.one z c).length ≤ 4 := by
  unfold numeral_digits.one
  split
  · decide
  · have := Go.Lib.runeCells_le (z + (c.toNat : Int) - 48)
    rw [Go.Lib.runeCells_length] at this
    exact this.2
theorem numeral_digits.enc_le (z : Int) : ∀ l : List UInt8, (numeral_digits.enc z l).length ≤ 4 * l.length
  | [] => Nat.le_refl _
  | c :: l => by
    have := numeral_digits.enc_le z l
    have h1 := numeral_digits.one_le z c
    show (numeral_digits.one z c ++ numeral_digits.enc z l).length ≤ _
    rw [List.length_append, List.length_cons]; omega
theorem numeral_digits.enc_snoc (z : Int) (l : List UInt8) (c : UInt8) : numeral_digits.enc z (l ++ [c]) = numeral_digits.enc z l ++ numeral_digits.one z c := by
  unfold numeral_digits.enc
  rw [List.flatMap_append]
  simp
theorem numeral_digits.z_in (a0 : Int) (h0 : 0 ≤ a0) (h9 : a0 < 9) : 48 ≤ numeral_digits.z a0 ∧ numeral_digits.z a0 ≤ 65296 := by
  obtain ⟨n, rfl⟩ : ∃ n : Nat, a0 = n := ⟨a0.toNat, by omega⟩
  rcases (show n = 0 ∨ n = 1 ∨ n = 2 ∨ n = 3 ∨ n = 4 ∨ n = 5 ∨ n = 6 ∨ n = 7 ∨ n = 8 by omega) with rfl | rfl | rfl | rfl | rfl | rfl | rfl | rfl | rfl <;> exact ⟨by decide, by decide⟩
theorem numeral_digits.enc_is (a0 : Int) (h0 : 0 ≤ a0) (h9 : a0 < 9) : ∀ x : Int, 48 ≤ x → x ≤ 57 → Utf8.encode (x + (numeral_digits.z a0 - 48)) = ⟨(Go.Lib.encodeRune (numeral_digits.z a0 + x - 48)).toArray⟩ := by
  intro x hx hx9
  have key : ∀ i : Fin 9, ∀ d : Fin 10, (Utf8.encode (((48 + d.1 : Nat) : Int) + (numeral_digits.z (i.1 : Int) - 48))).data = (Go.Lib.encodeRune (numeral_digits.z (i.1 : Int) + ((48 + d.1 : Nat) : Int) - 48)).toArray := by decide +kernel
  obtain ⟨n, rfl⟩ : ∃ n : Nat, a0 = n := ⟨a0.toNat, by omega⟩
  obtain ⟨m, rfl⟩ : ∃ m : Nat, x = ((48 + m : Nat) : Int) := ⟨x.toNat - 48, by omega⟩
  exact ByteArray.ext (key ⟨n, by omega⟩ ⟨m, by omega⟩)
set_option maxHeartbeats 8000000 in
set_option maxRecDepth 100000 in
theorem numeral_digits.calls (a0 : Int) (a1 r : ByteArray) (w : World) (hZ : numeral_digits.Tab w) (h : numeral_digits.f a0 a1 = some r) :
    Calls Tryd.prog 49 #[.int .i64 a0, .string a1] w fun e w' => e = .returned (.string r) ∧ Below w.heap.size w w' := by
  unfold numeral_digits.f at h
  by_cases c0 : (0 ≤ a0 ∧ a0 < 9) ∧ a1.size ≤ 1000 ∧ (a1.data.toList.all fun c => decide (c = 45 ∨ (48 ≤ c.toNat ∧ c.toNat ≤ 57))) = true
  · rw [if_pos c0] at h
    obtain ⟨⟨h0, h9⟩, hs, hall⟩ := c0
    have HR := Aside0.mk (Option.some.inj h)
    have HA := Aside0.mk hall
    have hz : numeral_digits.Tab_zeros[a0.toNat]? = some (.int .i32 (numeral_digits.z a0)) ∧ 48 ≤ numeral_digits.z a0 ∧ numeral_digits.z a0 ≤ 65296 := by
      obtain ⟨n, rfl⟩ : ∃ n : Nat, a0 = n := ⟨a0.toNat, by omega⟩
      rcases (show n = 0 ∨ n = 1 ∨ n = 2 ∨ n = 3 ∨ n = 4 ∨ n = 5 ∨ n = 6 ∨ n = 7 ∨ n = 8 by omega) with rfl | rfl | rfl | rfl | rfl | rfl | rfl | rfl | rfl <;> exact ⟨rfl, by decide, by decide⟩
    obtain ⟨hz0, hz1, hz2⟩ := hz
    generalize numeral_digits.z a0 = z at hz0 hz1 hz2 HR
    have HT := Aside0.mk hz0
    clear h hall hz0
    go_enter Tryd.func49, Tryd.ntmps49
    go_wp2
    have hal : (w.alloc (Obj.cells #[.pointer none, .slice none 0 0] 122)).heap.size = w.heap.size + 1 := Array.size_push _
    go_loopg [7] a1.size (fun g _ wx => ∃ i : Nat, i + g = a1.size ∧ wx.heap[w.heap.size + 1]? = some (.stringIter a1 i) ∧ Aside0 (numeral_digits.Is w.heap.size w.heap.size ⟨(numeral_digits.enc z (a1.data.toList.take i)).toArray⟩ wx) ∧ Aside0 (Below w.heap.size w wx))
    case atStart =>
      refine ⟨0, by omega, ?_, ⟨numeral_digits.Is.alloc (numeral_digits.Is.fresh (Nat.le_refl _) (Array.getElem?_push_size))⟩, ⟨((Below.refl w.heap.size w).alloc (Nat.le_refl _) _).alloc (by rw [hal]; omega) _⟩⟩
      have e := World.iter_heap (w.alloc (Obj.cells #[.pointer none, .slice none 0 0] 122)) a1 0
      rwa [hal] at e
    case round =>
      obtain ⟨i, hig, hit, HI, HB⟩ := hrel
      have HIt := Aside0.mk hit
      by_cases hi : i < a1.size
      · have hl : i < a1.data.toList.length := by rw [Array.length_toList]; exact hi
        obtain ⟨c, hc⟩ : ∃ c : UInt8, a1.data.toList[i] = c := ⟨_, rfl⟩
        have hcx : (a1[i]'hi) = c := by rw [← hc]; rfl
        have hcc : c = 45 ∨ (48 ≤ c.toNat ∧ c.toNat ≤ 57) := by
          have := List.all_eq_true.1 HA.out a1.data.toList[i] (List.getElem_mem hl)
          rw [hc] at this
          simpa using this
        have HE : Aside0 (numeral_digits.enc z (a1.data.toList.take (i + 1)) = numeral_digits.enc z (a1.data.toList.take i) ++ numeral_digits.one z c) := ⟨by
          rw [← numeral_digits.enc_snoc, List.take_succ_eq_append_getElem hl, hc]⟩
        have HL : Aside0 ((⟨(numeral_digits.enc z (a1.data.toList.take i)).toArray⟩ : ByteArray).size ≤ 1000000) := ⟨by
          have := numeral_digits.enc_le z (a1.data.toList.take i)
          rw [List.length_take] at this
          show (numeral_digits.enc z (a1.data.toList.take i)).length ≤ _
          omega⟩
        have hx : (a1[i]'hi).toNat < 128 := by
          rw [hcx]
          rcases hcc with h | h
          · rw [h]; decide
          · omega
        have hnx := fun ty => Go.Lib.run_next_ascii_at (P := Tryd.prog) wr (w.heap.size + 1) a1 i ty hit hi hx
        have HN : Aside0 (Below w.heap.size w (wr.iterAt (w.heap.size + 1) a1 (i + 1))) := ⟨Go.Lib.below_iterAt HB.out (Nat.le_succ _) _ _⟩
        have HJ : Aside0 (numeral_digits.Is w.heap.size w.heap.size ⟨(numeral_digits.enc z (a1.data.toList.take i)).toArray⟩ (wr.iterAt (w.heap.size + 1) a1 (i + 1))) := ⟨HI.out.iterAt hit (by omega)⟩
        have HK : Aside0 ((wr.iterAt (w.heap.size + 1) a1 (i + 1)).heap[w.heap.size + 1]? = some (.stringIter a1 (i + 1))) := ⟨Go.Lib.iterAt_heap _ _ _ _ _ hit⟩
        have hcell : (wr.iterAt (w.heap.size + 1) a1 (i + 1)).cell? ⟨4, a0.toNat, none⟩ = some (.int .i32 z) := hZ.below HN.out (Nat.le_refl _) _ _ HT.out
        obtain ⟨x, hxe⟩ : ∃ x : Int, (((a1[i]'hi).toNat : Nat) : Int) = x := ⟨_, rfl⟩
        rw [hxe] at hnx
        have HS : Aside0 (w.heap.size ≤ (wr.iterAt (w.heap.size + 1) a1 (i + 1)).heap.size) := ⟨below_size HN.out⟩
        have e0 : decide ((0 : Int) ≤ a0) = true := decide_eq_true h0
        have e1 : decide (a0 < 9) = true := decide_eq_true h9
        rw [hcx] at hxe
        clear hit HB HI HIt
        by_cases h45 : c = 45
        · obtain rfl : x = 45 := by rw [← hxe, h45]; rfl
          have hone : numeral_digits.one z c = Go.Lib.encodeRune 45 := by unfold numeral_digits.one; rw [if_pos h45]; rfl
          rw [hone] at HE
          clear hcell hone hx hcc hc hcx hxe h45
          go_wp2_with (first
            | (go_at_call 57; refine (numeral_digits.R.does w.heap.size w.heap.size _ 45 (by decide) (by decide) _ HJ.out HS.out HL.out).mono ?_; rintro e w' ⟨⟨n, rfl⟩, hI2, hb2, hk2⟩; have HI2 := Aside0.mk hI2; have HB2 := Aside0.mk hb2; have HK2 := Aside0.mk hk2; clear hI2 hb2 hk2))
          go_roundg (a1.size - (i + 1))
          case measure => omega
          case rel =>
            refine ⟨i + 1, by omega, HK2.out _ _ HK.out (by simp) (fun c fz e => by cases e), ⟨?_⟩, ⟨HN.out.trans HB2.out⟩⟩
            rw [HE.out]
            have e2 : ∀ A C : List UInt8, (⟨(A ++ C).toArray⟩ : ByteArray) = (⟨A.toArray⟩ : ByteArray) ++ ⟨C.toArray⟩ := by
              intro A C
              apply ByteArray.ext
              rw [ByteArray.data_append]
              simp
            rw [e2]
            exact HI2.out
        · have hx2 : (48 : Int) ≤ x ∧ x ≤ 57 := by
            have : 48 ≤ c.toNat ∧ c.toNat ≤ 57 := by rcases hcc with h | h; · exact absurd h h45
                                                     · exact h
            omega
          have hone : numeral_digits.one z c = Go.Lib.encodeRune (z + x - 48) := by unfold numeral_digits.one; rw [if_neg h45, hxe]
          rw [hone] at HE
          have d1 : (x == 45) = false := beq_eq_false_iff_ne.2 (by omega)
          have v1 : IntKind.i32.wrap (z + x) = z + x := numeral_digits.w32 (by omega) (by omega)
          have v2 : IntKind.i32.wrap (z + x - 48) = z + x - 48 := numeral_digits.w32 (by omega) (by omega)
          have HX1 : Aside0 (0 ≤ z + x - 48) := ⟨by omega⟩
          have HX2 : Aside0 (z + x - 48 ≤ 1114111) := ⟨by omega⟩
          clear hone hx hcc hc hcx hxe h45
          go_wp2_with (first
            | (go_at_call 57; refine (numeral_digits.R.does w.heap.size w.heap.size _ (z + x - 48) HX1.out HX2.out _ HJ.out HS.out HL.out).mono ?_; rintro e w' ⟨⟨n, rfl⟩, hI2, hb2, hk2⟩; have HI2 := Aside0.mk hI2; have HB2 := Aside0.mk hb2; have HK2 := Aside0.mk hk2; clear hI2 hb2 hk2))
          go_roundg (a1.size - (i + 1))
          case measure => omega
          case rel =>
            refine ⟨i + 1, by omega, HK2.out _ _ HK.out (by simp) (fun c fz e => by cases e), ⟨?_⟩, ⟨HN.out.trans HB2.out⟩⟩
            rw [HE.out]
            have e2 : ∀ A C : List UInt8, (⟨(A ++ C).toArray⟩ : ByteArray) = (⟨A.toArray⟩ : ByteArray) ++ ⟨C.toArray⟩ := by
              intro A C
              apply ByteArray.ext
              rw [ByteArray.data_append]
              simp
            rw [e2]
            exact HI2.out
      · obtain rfl : i = a1.size := by omega
        have hnx := fun ty => Go.Lib.run_next_end_at (P := Tryd.prog) wr (w.heap.size + 1) a1 a1.size ty hit hi
        have HS : Aside0 (w.heap.size ≤ wr.heap.size) := ⟨below_size HB.out⟩
        rw [List.take_of_length_le (by rw [Array.length_toList]; exact Nat.le_refl _), HR.out] at HI
        clear hit hi
        go_wp2_with (first
          | (go_at_call 59; refine (numeral_digits.G.does w.heap.size w.heap.size _ _ HI.out HS.out).mono ?_; rintro e w' ⟨rfl, hb2, hk2⟩; have HB2 := Aside0.mk hb2; clear hb2 hk2))
        go_ret
        exact ⟨rfl, HB.out.trans HB2.out⟩
  · rw [if_neg c0] at h; cases h

/-! ### strconv_Itoa: function 50 -/
/-- The decimal numeral. -/
def strconv_Itoa.f (a0 : Int) : Option (ByteArray) := if -9223372036854775808 ≤ a0 ∧ a0 ≤ 9223372036854775807 then some ⟨(Go.Lib.itoa a0).toArray⟩ else none
/-- The table of the powers of ten is laid. -/
def strconv_Itoa.Tab (w : World) : Prop := Go.Lib.TabIs Tryd.prog w "internal/strconv.uint64pow10" .u64 Go.Lib.pow10Tab
theorem strconv_Itoa.gTab : Tryd.prog.globalNamed "internal/strconv.uint64pow10" = some 12 := by kernel_rfl
theorem strconv_Itoa.Tab.below {w W : World} {n : Nat} (h : strconv_Itoa.Tab w) (hb : Below n w W) (hn : w.heap.size ≤ n) : strconv_Itoa.Tab W := by
  unfold strconv_Itoa.Tab Go.Lib.TabIs World.var? at h ⊢
  rw [strconv_Itoa.gTab] at h ⊢
  simp only [Option.bind_some] at h ⊢
  have hlt : 12 < w.heap.size := by
    rcases Nat.lt_or_ge 12 w.heap.size with h' | h'
    · exact h'
    · rw [Array.getElem?_eq_none h'] at h; cases h
  rw [hb.block 12 (Nat.lt_of_lt_of_le hlt hn)]
  exact h
def strconv_Itoa.ren : Go.Shelf.Ren := ⟨fun | 129 => 172 | 171 => 50 | 243 => 91 | 246 => 130 | 283 => 156 | 284 => 157 | 285 => 158 | 286 => 159 | 317 => 171 | 318 => 173 | 319 => 174 | 320 => 175 | 337 => 180 | 338 => 181 | n => n, fun | 0 => 0 | 2 => 2 | 3 => 3 | 4 => 4 | 5 => 5 | 9 => 9 | 20 => 20 | 37 => 120 | 46 => 154 | 51 => 189 | 53 => 192 | 171 => 210 | 173 => 213 | 212 => 226 | 213 => 227 | 232 => 239 | 233 => 240 | n => n, fun | 17 => 12 | 18 => 15 | 19 => 16 | n => n⟩
theorem strconv_Itoa.lays : Go.Proofs.LaysM.n171 Tryd.prog strconv_Itoa.ren := {
  mixed := by kernel_rfl
  f129 := Tryd.func172.trans (congrArg some (by kernel_rfl))
  f171 := Tryd.func50.trans (congrArg some (by kernel_rfl))
  f243 := Tryd.func91.trans (congrArg some (by kernel_rfl))
  f246 := Tryd.func130.trans (congrArg some (by kernel_rfl))
  f283 := Tryd.func156.trans (congrArg some (by kernel_rfl))
  f284 := Tryd.func157.trans (congrArg some (by kernel_rfl))
  f285 := Tryd.func158.trans (congrArg some (by kernel_rfl))
  f286 := Tryd.func159.trans (congrArg some (by kernel_rfl))
  f317 := Tryd.func171.trans (congrArg some (by kernel_rfl))
  f318 := Tryd.func173.trans (congrArg some (by kernel_rfl))
  f319 := Tryd.func174.trans (congrArg some (by kernel_rfl))
  f320 := Tryd.func175.trans (congrArg some (by kernel_rfl))
  f337 := Tryd.func180.trans (congrArg some (by kernel_rfl))
  f338 := Tryd.func181.trans (congrArg some (by kernel_rfl))
  t0 := Tryd.underlying0
  a0 := Tryd.isAgg0
  z0 := Tryd.sizeOf0
  v0 := Tryd.zeroValue0
  t2 := Tryd.underlying2
  a2 := Tryd.isAgg2
  z2 := Tryd.sizeOf2
  v2 := Tryd.zeroValue2
  t3 := Tryd.underlying3
  a3 := Tryd.isAgg3
  z3 := Tryd.sizeOf3
  v3 := Tryd.zeroValue3
  t4 := Tryd.underlying4
  a4 := Tryd.isAgg4
  z4 := Tryd.sizeOf4
  v4 := Tryd.zeroValue4
  t5 := Tryd.underlying5
  a5 := Tryd.isAgg5
  z5 := Tryd.sizeOf5
  v5 := Tryd.zeroValue5
  t9 := Tryd.underlying9
  a9 := Tryd.isAgg9
  z9 := Tryd.sizeOf9
  v9 := Tryd.zeroValue9
  t20 := Tryd.underlying20
  a20 := Tryd.isAgg20
  z20 := Tryd.sizeOf20
  v20 := Tryd.zeroValue20
  t37 := Tryd.underlying120
  a37 := Tryd.isAgg120
  z37 := Tryd.sizeOf120
  v37 := Tryd.zeroValue120
  t46 := Tryd.underlying154
  a46 := Tryd.isAgg154
  z46 := Tryd.sizeOf154
  v46 := Tryd.zeroValue154
  t51 := Tryd.underlying189
  a51 := Tryd.isAgg189
  z51 := Tryd.sizeOf189
  v51 := Tryd.zeroValue189
  t53 := Tryd.underlying192
  a53 := Tryd.isAgg192
  z53 := Tryd.sizeOf192
  v53 := Tryd.zeroValue192
  t171 := Tryd.underlying210
  a171 := Tryd.isAgg210
  z171 := Tryd.sizeOf210
  v171 := Tryd.zeroValue210
  t173 := Tryd.underlying213
  a173 := Tryd.isAgg213
  z173 := Tryd.sizeOf213
  v173 := Tryd.zeroValue213
  t212 := Tryd.underlying226
  a212 := Tryd.isAgg226
  z212 := Tryd.sizeOf226
  v212 := Tryd.zeroValue226
  t213 := Tryd.underlying227
  a213 := Tryd.isAgg227
  z213 := Tryd.sizeOf227
  t232 := Tryd.underlying239
  a232 := Tryd.isAgg239
  z232 := Tryd.sizeOf239
  v232 := Tryd.zeroValue239
  t233 := Tryd.underlying240
  a233 := Tryd.isAgg240
  z233 := Tryd.sizeOf240
  v233 := Tryd.zeroValue240
  g17 := by kernel_rfl
  g18 := by kernel_rfl
  g19 := by kernel_rfl
  i0 := by kernel_rfl
  i2 := by kernel_rfl
  i3 := by kernel_rfl
  i4 := by kernel_rfl
  i5 := by kernel_rfl
  i9 := by kernel_rfl
  i20 := by kernel_rfl
  i37 := by kernel_rfl
  i46 := by kernel_rfl
  i51 := by kernel_rfl
  i53 := by kernel_rfl
  i171 := by kernel_rfl
  i173 := by kernel_rfl
  i212 := by kernel_rfl
  i232 := by kernel_rfl
  i233 := by kernel_rfl
  m17 := by kernel_rfl
  m18 := by kernel_rfl
  m19 := by kernel_rfl }
theorem strconv_Itoa.calls (a0 : Int) (r : ByteArray) (w : World) (hT : strconv_Itoa.Tab w) (h : strconv_Itoa.f a0 = some r) :
    Calls Tryd.prog 50 #[.int .i64 a0] w fun e w' => e = .returned (.string r) ∧ Below w.heap.size w w' := by
  unfold strconv_Itoa.f at h
  by_cases c : -9223372036854775808 ≤ a0 ∧ a0 ≤ 9223372036854775807
  · rw [if_pos c] at h
    obtain rfl := Option.some.inj h
    refine (Go.Proofs.Any.strconv_Itoa strconv_Itoa.lays a0 c.1 c.2 w hT).mono ?_
    rintro e w' ⟨rfl, k, os, rfl⟩
    exact ⟨rfl, Go.Lib.below_grow w.heap.size w (Nat.le_refl _) k os⟩
  · rw [if_neg c] at h; cases h

/-! ### strings_Repeat: function 54 -/
/-- A text some times one behind the other. -/
def strings_Repeat.f (a0 : ByteArray) (a1 : Int) : Option (ByteArray) := if (0 ≤ a1 ∧ a1 ≤ 1000) ∧ a0.size ≤ 1000 then some ⟨(Go.Lib.repeatL a0.data.toList a1.toNat).toArray⟩ else none
def strings_Repeat.ren : Go.Shelf.Ren := ⟨fun | 99 => 47 | 105 => 54 | 165 => 94 | 166 => 83 | 169 => 59 | 170 => 95 | 206 => 89 | 212 => 93 | 240 => 97 | 241 => 133 | 263 => 131 | 264 => 132 | 276 => 134 | 277 => 160 | n => n, fun | 0 => 0 | 3 => 3 | 4 => 4 | 5 => 5 | 9 => 9 | 20 => 20 | 37 => 120 | 46 => 154 | 51 => 189 | 53 => 192 | 70 => 119 | 72 => 122 | 75 => 125 | 76 => 126 | 109 => 155 | 127 => 160 | 146 => 190 | 148 => 193 | 164 => 195 | 80 => 129 | n => n, fun | n => n⟩
theorem strings_Repeat.lays : Go.Proofs.Lays.n105 Tryd.prog strings_Repeat.ren := {
  mixed := by kernel_rfl
  f99 := Tryd.func47.trans (congrArg some (by kernel_rfl))
  f105 := Tryd.func54.trans (congrArg some (by kernel_rfl))
  f165 := Tryd.func94.trans (congrArg some (by kernel_rfl))
  f166 := Tryd.func83.trans (congrArg some (by kernel_rfl))
  f169 := Tryd.func59.trans (congrArg some (by kernel_rfl))
  f170 := Tryd.func95.trans (congrArg some (by kernel_rfl))
  f206 := Tryd.func89.trans (congrArg some (by kernel_rfl))
  f212 := Tryd.func93.trans (congrArg some (by kernel_rfl))
  f240 := Tryd.func97.trans (congrArg some (by kernel_rfl))
  f241 := Tryd.func133.trans (congrArg some (by kernel_rfl))
  f263 := Tryd.func131.trans (congrArg some (by kernel_rfl))
  f264 := Tryd.func132.trans (congrArg some (by kernel_rfl))
  f276 := Tryd.func134.trans (congrArg some (by kernel_rfl))
  f277 := Tryd.func160.trans (congrArg some (by kernel_rfl))
  t0 := Tryd.underlying0
  a0 := Tryd.isAgg0
  z0 := Tryd.sizeOf0
  v0 := Tryd.zeroValue0
  t3 := Tryd.underlying3
  a3 := Tryd.isAgg3
  z3 := Tryd.sizeOf3
  v3 := Tryd.zeroValue3
  t4 := Tryd.underlying4
  a4 := Tryd.isAgg4
  z4 := Tryd.sizeOf4
  v4 := Tryd.zeroValue4
  t5 := Tryd.underlying5
  a5 := Tryd.isAgg5
  z5 := Tryd.sizeOf5
  v5 := Tryd.zeroValue5
  t9 := Tryd.underlying9
  a9 := Tryd.isAgg9
  z9 := Tryd.sizeOf9
  v9 := Tryd.zeroValue9
  t20 := Tryd.underlying20
  a20 := Tryd.isAgg20
  z20 := Tryd.sizeOf20
  v20 := Tryd.zeroValue20
  t37 := Tryd.underlying120
  a37 := Tryd.isAgg120
  z37 := Tryd.sizeOf120
  v37 := Tryd.zeroValue120
  t46 := Tryd.underlying154
  a46 := Tryd.isAgg154
  z46 := Tryd.sizeOf154
  v46 := Tryd.zeroValue154
  t51 := Tryd.underlying189
  a51 := Tryd.isAgg189
  z51 := Tryd.sizeOf189
  v51 := Tryd.zeroValue189
  t53 := Tryd.underlying192
  a53 := Tryd.isAgg192
  z53 := Tryd.sizeOf192
  v53 := Tryd.zeroValue192
  t70 := Tryd.underlying119
  a70 := Tryd.isAgg119
  z70 := Tryd.sizeOf119
  v70 := Tryd.zeroValue119
  t72 := Tryd.underlying122
  a72 := Tryd.isAgg122
  z72 := Tryd.sizeOf122
  v72 := Tryd.zeroValue122
  t75 := Tryd.underlying125
  a75 := Tryd.isAgg125
  z75 := Tryd.sizeOf125
  v75 := Tryd.zeroValue125
  t76 := Tryd.underlying126
  a76 := Tryd.isAgg126
  z76 := Tryd.sizeOf126
  v76 := Tryd.zeroValue126
  t109 := Tryd.underlying155
  a109 := Tryd.isAgg155
  z109 := Tryd.sizeOf155
  v109 := Tryd.zeroValue155
  t127 := Tryd.underlying160
  a127 := Tryd.isAgg160
  z127 := Tryd.sizeOf160
  v127 := Tryd.zeroValue160
  t146 := Tryd.underlying190
  a146 := Tryd.isAgg190
  z146 := Tryd.sizeOf190
  v146 := Tryd.zeroValue190
  t148 := Tryd.underlying193
  a148 := Tryd.isAgg193
  z148 := Tryd.sizeOf193
  v148 := Tryd.zeroValue193
  t164 := Tryd.underlying195
  a164 := Tryd.isAgg195
  z164 := Tryd.sizeOf195
  v164 := Tryd.zeroValue195 }
theorem strings_Repeat.extra : Go.Proofs.Builder.Extra Tryd.prog strings_Repeat.ren := { sizeBuilder := by kernel_rfl, liesBuilder := by kernel_rfl, t5 := Tryd.underlying5, a5 := Tryd.isAgg5, z5 := Tryd.sizeOf5, v5 := Tryd.zeroValue5, infoByte := by kernel_rfl, cellsByte := by kernel_rfl, sizeByte := by kernel_rfl, neB5 := by decide }
theorem strings_Repeat.calls (a0 : ByteArray) (a1 : Int) (r : ByteArray) (w : World) (h : strings_Repeat.f a0 a1 = some r) :
    Calls Tryd.prog 54 #[.string a0, .int .i64 a1] w fun e w' => e = .returned (.string r) ∧ Below w.heap.size w w' := by
  unfold strings_Repeat.f at h
  by_cases c : (0 ≤ a1 ∧ a1 ≤ 1000) ∧ a0.size ≤ 1000
  · rw [if_pos c] at h
    obtain rfl := Option.some.inj h
    obtain ⟨n, rfl⟩ : ∃ n : Nat, a1 = n := ⟨a1.toNat, by omega⟩
    have hm : a0.size * n ≤ 1000 * 1000 := Nat.mul_le_mul c.2 (by omega)
    exact Go.Proofs.Any.strings_Repeat strings_Repeat.lays strings_Repeat.extra a0 n w (by omega) (by omega)
  · rw [if_neg c] at h; cases h

/-! ### numeral_Pad: function 20 -/
mutual
def numeral_Pad.j0 : Nat → Int → Int → Int → Bool → Option (ByteArray × Int)
  | 0, _, _, _, _ => none
  | k + 1, x0, x1, x2, x23 => if x23 = true then (some ((⟨#[]⟩ : ByteArray), 1)) else (if x1 < (-2147483647) then (numeral_Pad.j1 k x0 x1 x2 true) else (numeral_Pad.j1 k x0 x1 x2 (decide (x1 > 2147483647))))
def numeral_Pad.j1 : Nat → Int → Int → Int → Bool → Option (ByteArray × Int)
  | 0, _, _, _, _ => none
  | k + 1, x0, x1, x2, x29 => if x29 = true then (some ((⟨#[]⟩ : ByteArray), 3)) else (if x1 < 0 then (numeral_Pad.j2 k x0 (wrap64 (-x1)) x2 (⟨#[45]⟩ : ByteArray)) else (numeral_Pad.j2 k x0 x1 x2 (⟨#[]⟩ : ByteArray)))
def numeral_Pad.j2 : Nat → Int → Int → Int → ByteArray → Option (ByteArray × Int)
  | 0, _, _, _, _ => none
  | k + 1, x0, x1, x2, x8 => (strconv_Itoa.f x1).bind fun t110 => (if (t110.size : Int) < x2 then ((strings_Repeat.f (⟨#[48]⟩ : ByteArray) (wrap64 (x2 - (t110.size : Int)))).bind fun t111 => (if t111.size + t110.size ≤ 9223372036854775807 then (if x8.size + (t111 ++ t110).size ≤ 9223372036854775807 then ((numeral_digits.f x0 (x8 ++ (t111 ++ t110))).bind fun t112 => (some (t112, 0))) else (none)) else (none))) else (if x8.size + t110.size ≤ 9223372036854775807 then ((numeral_digits.f x0 (x8 ++ t110)).bind fun t113 => (some (t113, 0))) else (none)))
end
def numeral_Pad.f (k : Nat) (a0 : Int) (a1 : Int) (a2 : Int) : Option (ByteArray × Int) := if a0 < 0 then (numeral_Pad.j0 k a0 a1 a2 true) else (if a0 > 8 then (numeral_Pad.j0 k a0 a1 a2 true) else (if a2 < 0 then (numeral_Pad.j0 k a0 a1 a2 true) else (numeral_Pad.j0 k a0 a1 a2 (decide (a2 > 12)))))
theorem numeral_Pad.mono_l : ∀ k, (∀ y0 y1 y2 y3, LeO (numeral_Pad.j0 k y0 y1 y2 y3) (numeral_Pad.j0 (k + 1) y0 y1 y2 y3)) ∧ (∀ y0 y1 y2 y3, LeO (numeral_Pad.j1 k y0 y1 y2 y3) (numeral_Pad.j1 (k + 1) y0 y1 y2 y3)) ∧ (∀ y0 y1 y2 y3, LeO (numeral_Pad.j2 k y0 y1 y2 y3) (numeral_Pad.j2 (k + 1) y0 y1 y2 y3))
  | 0 => ⟨fun _ _ _ _ r h => by simp [numeral_Pad.j0] at h, fun _ _ _ _ r h => by simp [numeral_Pad.j1] at h, fun _ _ _ _ r h => by simp [numeral_Pad.j2] at h⟩
  | k + 1 => by
    obtain ⟨ih0, ih1, ih2⟩ := numeral_Pad.mono_l k
    refine ⟨?_, ?_, ?_⟩
    · intro y0 y1 y2 y3
      unfold numeral_Pad.j0
      repeat' first
      | (with_reducible exact ih0 _ _ _ _)
      | (with_reducible exact ih1 _ _ _ _)
      | (with_reducible exact ih2 _ _ _ _)
      | (with_reducible exact LeO.refl _)
      | (with_reducible exact LeO.none _)
      | (with_reducible refine LeO.ite ?_ ?_)
      | (with_reducible refine LeO.bind ?_ (fun _ => ?_))
      | exact ih0 _ _ _ _
      | exact ih1 _ _ _ _
      | exact ih2 _ _ _ _
      | exact LeO.none _
      | refine LeO.ite ?_ ?_
      | refine LeO.bind ?_ (fun _ => ?_)
    · intro y0 y1 y2 y3
      unfold numeral_Pad.j1
      repeat' first
      | (with_reducible exact ih0 _ _ _ _)
      | (with_reducible exact ih1 _ _ _ _)
      | (with_reducible exact ih2 _ _ _ _)
      | (with_reducible exact LeO.refl _)
      | (with_reducible exact LeO.none _)
      | (with_reducible refine LeO.ite ?_ ?_)
      | (with_reducible refine LeO.bind ?_ (fun _ => ?_))
      | exact ih0 _ _ _ _
      | exact ih1 _ _ _ _
      | exact ih2 _ _ _ _
      | exact LeO.none _
      | refine LeO.ite ?_ ?_
      | refine LeO.bind ?_ (fun _ => ?_)
    · intro y0 y1 y2 y3
      unfold numeral_Pad.j2
      repeat' first
      | (with_reducible exact ih0 _ _ _ _)
      | (with_reducible exact ih1 _ _ _ _)
      | (with_reducible exact ih2 _ _ _ _)
      | (with_reducible exact LeO.refl _)
      | (with_reducible exact LeO.none _)
      | (with_reducible refine LeO.ite ?_ ?_)
      | (with_reducible refine LeO.bind ?_ (fun _ => ?_))
      | exact ih0 _ _ _ _
      | exact ih1 _ _ _ _
      | exact ih2 _ _ _ _
      | exact LeO.none _
      | refine LeO.ite ?_ ?_
      | refine LeO.bind ?_ (fun _ => ?_)
theorem numeral_Pad.mono : ∀ a0 a1 a2 k, LeO (numeral_Pad.f k a0 a1 a2) (numeral_Pad.f (k + 1) a0 a1 a2) := by
  intro a0 a1 a2 k
  obtain ⟨ih0, ih1, ih2⟩ := numeral_Pad.mono_l k
  unfold numeral_Pad.f
  repeat' first
      | (with_reducible exact ih0 _ _ _ _)
      | (with_reducible exact ih1 _ _ _ _)
      | (with_reducible exact ih2 _ _ _ _)
      | (with_reducible exact LeO.refl _)
      | (with_reducible exact LeO.none _)
      | (with_reducible refine LeO.ite ?_ ?_)
      | (with_reducible refine LeO.bind ?_ (fun _ => ?_))
      | exact ih0 _ _ _ _
      | exact ih1 _ _ _ _
      | exact ih2 _ _ _ _
      | exact LeO.none _
      | refine LeO.ite ?_ ?_
      | refine LeO.bind ?_ (fun _ => ?_)
set_option maxHeartbeats 8000000 in
set_option maxRecDepth 100000 in
theorem numeral_Pad.calls (k : Nat) (a0 : Int) (a1 : Int) (a2 : Int) (r1 : ByteArray) (r2 : Int) (w : World) (hT : strconv_Itoa.Tab w) (hZ : numeral_digits.Tab w) (h : numeral_Pad.f k a0 a1 a2 = some (r1, r2)) :
    Calls Tryd.prog 20 #[.int .i64 a0, .int .i64 a1, .int .i64 a2] w fun e w' => e = .returned (.tuple #[.string r1, .int .i64 r2]) ∧ Below w.heap.size w w' := by
  have HB := Aside0.mk (Below.refl w.heap.size w)
  have H : (if a0 < 0 then (numeral_Pad.j0 k a0 a1 a2 true) else (if a0 > 8 then (numeral_Pad.j0 k a0 a1 a2 true) else (if a2 < 0 then (numeral_Pad.j0 k a0 a1 a2 true) else (numeral_Pad.j0 k a0 a1 a2 (decide (a2 > 12)))))) = some (r1, r2) := h
  clear h
  have HC4 := Aside0.mk H
  clear H
  go_enter Tryd.func20, Tryd.ntmps20
  go_upto_region 1 with (fail)
  go_cut [23] (fun v23 wc => ∃ (kq : Nat) (x23_3 : Bool), v23 = .bool x23_3 ∧ Aside0 (numeral_Pad.j0 kq a0 a1 a2 x23_3 = some (r1, r2)) ∧ Aside0 (kq ≤ k) ∧ Aside0 (Below w.heap.size w wc))
  case first =>
    have H := HC4.out
    clear HC4
    by_cases c5 : a0 < 0
    · rw [if_pos c5] at H
      have c5b0 : decide (a0 < 0) = true := decide_eq_true c5
      clear c5
      (first | rw [c5b0] | (simp only [i64_w, i32_w]; rw [c5b0]) | skip)
      have H' := Aside0.mk H
      clear H
      go_wp2
      go_meet
      case rel => exact ⟨_, (true), (by first | rfl | (simp; done) | (simp [*]; done)), H', ⟨by first | omega | exact Nat.le_refl _⟩, ⟨by repeat (first | (with_reducible first | exact HB.out | apply below_alloc | apply pw_below_drewN | apply below_drew1) | exact HB.out)⟩⟩
    · rw [if_neg c5] at H
      have c5b0 : decide (a0 < 0) = false := decide_eq_false c5
      clear c5
      (first | rw [c5b0] | (simp only [i64_w, i32_w]; rw [c5b0]) | skip)
      by_cases c6 : a0 > 8
      · rw [if_pos c6] at H
        have c6b0 : decide (8 < a0) = true := decide_eq_true c6
        clear c6
        have H' := Aside0.mk H
        clear H
        go_wp2
        go_meet
        case rel => exact ⟨_, (true), (by first | rfl | (simp; done) | (simp [*]; done)), H', ⟨by first | omega | exact Nat.le_refl _⟩, ⟨by repeat (first | (with_reducible first | exact HB.out | apply below_alloc | apply pw_below_drewN | apply below_drew1) | exact HB.out)⟩⟩
      · rw [if_neg c6] at H
        have c6b0 : decide (8 < a0) = false := decide_eq_false c6
        clear c6
        by_cases c7 : a2 < 0
        · rw [if_pos c7] at H
          have c7b0 : decide (a2 < 0) = true := decide_eq_true c7
          clear c7
          have H' := Aside0.mk H
          clear H
          go_wp2
          go_meet
          case rel => exact ⟨_, (true), (by first | rfl | (simp; done) | (simp [*]; done)), H', ⟨by first | omega | exact Nat.le_refl _⟩, ⟨by repeat (first | (with_reducible first | exact HB.out | apply below_alloc | apply pw_below_drewN | apply below_drew1) | exact HB.out)⟩⟩
        · rw [if_neg c7] at H
          have c7b0 : decide (a2 < 0) = false := decide_eq_false c7
          clear c7
          have H' := Aside0.mk H
          clear H
          go_wp2
          go_meet
          case rel => exact ⟨_, (decide (a2 > 12)), (by first | rfl | (simp; done) | (simp [*]; done)), H', ⟨by first | omega | exact Nat.le_refl _⟩, ⟨by repeat (first | (with_reducible first | exact HB.out | apply below_alloc | apply pw_below_drewN | apply below_drew1) | exact HB.out)⟩⟩
  case rest =>
    clear HC4
    try clear c2
    try clear p2
    try clear c5
    try clear c5b0
    try clear c6
    try clear c6b0
    try clear c7
    try clear c7b0
    obtain ⟨kq, x23_3, rfl, HA, HJ3, HB⟩ := hcut
    cases kq with
    | zero => exact absurd HA.out (by simp [numeral_Pad.j0])
    | succ kj3 =>
      have H := HA.out
      clear HA
      simp only [numeral_Pad.j0] at H
      by_cases c8 : x23_3 = true
      · subst c8
        have H1 : (some ((⟨#[]⟩ : ByteArray), 1)) = some (r1, r2) := by rw [if_pos rfl] at H; exact H
        clear H
        have H := H1
        clear H1
        simp only [Option.some.injEq, Prod.mk.injEq] at H
        obtain ⟨rfl, rfl⟩ := H
        go_wp2
        go_ret2
        exact ⟨by first | rfl | (simp [errW_none, errW_some] <;> rfl) | (simp [*, errW_none, errW_some] <;> rfl), by repeat (first | (with_reducible first | exact HB.out | apply below_alloc | apply pw_below_drewN | apply below_drew1) | exact HB.out)⟩
      · replace c8 := Bool.eq_false_iff.mpr c8
        subst c8
        have H1 : (if a1 < (-2147483647) then (numeral_Pad.j1 kj3 a0 a1 a2 true) else (numeral_Pad.j1 kj3 a0 a1 a2 (decide (a1 > 2147483647)))) = some (r1, r2) := by rw [if_neg (show ¬ (false = true) by decide)] at H; exact H
        clear H
        have H := H1
        clear H1
        have HC9 := Aside0.mk H
        clear H
        go_upto_region 3 with (fail)
        go_cut [29] (fun v29 wc => ∃ (kq : Nat) (x29_8 : Bool), v29 = .bool x29_8 ∧ Aside0 (numeral_Pad.j1 kq a0 a1 a2 x29_8 = some (r1, r2)) ∧ Aside0 (kq ≤ kj3) ∧ Aside0 (Below w.heap.size w wc))
        case first =>
          have H := HC9.out
          clear HC9
          by_cases c10 : a1 < (-2147483647)
          · rw [if_pos c10] at H
            have c10b0 : decide (a1 < (-2147483647)) = true := decide_eq_true c10
            clear c10
            (first | rw [c10b0] | (simp only [i64_w, i32_w]; rw [c10b0]) | skip)
            have H' := Aside0.mk H
            clear H
            go_wp2
            go_meet
            case rel => exact ⟨_, (true), (by first | rfl | (simp; done) | (simp [*]; done)), H', ⟨by have := HJ3.out; first | omega | exact Nat.le_refl _⟩, ⟨by repeat (first | (with_reducible first | exact HB.out | apply below_alloc | apply pw_below_drewN | apply below_drew1) | exact HB.out)⟩⟩
          · rw [if_neg c10] at H
            have c10b0 : decide (a1 < (-2147483647)) = false := decide_eq_false c10
            clear c10
            (first | rw [c10b0] | (simp only [i64_w, i32_w]; rw [c10b0]) | skip)
            have H' := Aside0.mk H
            clear H
            go_wp2
            go_meet
            case rel => exact ⟨_, (decide (a1 > 2147483647)), (by first | rfl | (simp; done) | (simp [*]; done)), H', ⟨by have := HJ3.out; first | omega | exact Nat.le_refl _⟩, ⟨by repeat (first | (with_reducible first | exact HB.out | apply below_alloc | apply pw_below_drewN | apply below_drew1) | exact HB.out)⟩⟩
        case rest =>
          clear HC9
          try clear c1
          try clear c2
          try clear p2
          try clear c5
          try clear c5b0
          try clear c6
          try clear c6b0
          try clear c7
          try clear c7b0
          try clear c8
          try clear c10
          try clear c10b0
          try clear p2
          obtain ⟨kq, x29_8, rfl, HA, HJ8, HB⟩ := hcut
          cases kq with
          | zero => exact absurd HA.out (by simp [numeral_Pad.j1])
          | succ kj8 =>
            have H := HA.out
            clear HA
            simp only [numeral_Pad.j1] at H
            by_cases c11 : x29_8 = true
            · subst c11
              have H1 : (some ((⟨#[]⟩ : ByteArray), 3)) = some (r1, r2) := by rw [if_pos rfl] at H; exact H
              clear H
              have H := H1
              clear H1
              simp only [Option.some.injEq, Prod.mk.injEq] at H
              obtain ⟨rfl, rfl⟩ := H
              go_wp2
              go_ret2
              exact ⟨by first | rfl | (simp [errW_none, errW_some] <;> rfl) | (simp [*, errW_none, errW_some] <;> rfl), by repeat (first | (with_reducible first | exact HB.out | apply below_alloc | apply pw_below_drewN | apply below_drew1) | exact HB.out)⟩
            · replace c11 := Bool.eq_false_iff.mpr c11
              subst c11
              have H1 : (if a1 < 0 then (numeral_Pad.j2 kj8 a0 (wrap64 (-a1)) a2 (⟨#[45]⟩ : ByteArray)) else (numeral_Pad.j2 kj8 a0 a1 a2 (⟨#[]⟩ : ByteArray))) = some (r1, r2) := by rw [if_neg (show ¬ (false = true) by decide)] at H; exact H
              clear H
              have H := H1
              clear H1
              have HC12 := Aside0.mk H
              clear H
              go_upto_if 31 with (fail)
              go_cut [1, 8] (fun v1 v8 wc => ∃ (kq : Nat) (x1_11 : Int) (x8_11 : ByteArray), v1 = .int .i64 x1_11 ∧ v8 = .string x8_11 ∧ Aside0 (numeral_Pad.j2 kq a0 x1_11 a2 x8_11 = some (r1, r2)) ∧ Aside0 (kq ≤ kj8) ∧ Aside0 (Below w.heap.size w wc))
              case first =>
                have H := HC12.out
                clear HC12
                by_cases c13 : a1 < 0
                · rw [if_pos c13] at H
                  have c13b0 : decide (a1 < 0) = true := decide_eq_true c13
                  clear c13
                  (first | rw [c13b0] | (simp only [i64_w, i32_w]; rw [c13b0]) | skip)
                  have H' := Aside0.mk H
                  clear H
                  go_wp2
                  go_meet
                  case rel => exact ⟨_, (wrap64 (-a1)), ((⟨#[45]⟩ : ByteArray)), (by first | rfl | (simp; done) | (simp [*]; done)), (by first | rfl | (simp; done) | (simp [*]; done)), H', ⟨by have := HJ3.out; have := HJ8.out; first | omega | exact Nat.le_refl _⟩, ⟨by repeat (first | (with_reducible first | exact HB.out | apply below_alloc | apply pw_below_drewN | apply below_drew1) | exact HB.out)⟩⟩
                · rw [if_neg c13] at H
                  have c13b0 : decide (a1 < 0) = false := decide_eq_false c13
                  clear c13
                  (first | rw [c13b0] | (simp only [i64_w, i32_w]; rw [c13b0]) | skip)
                  have H' := Aside0.mk H
                  clear H
                  go_wp2
                  go_meet
                  case rel => exact ⟨_, (a1), ((⟨#[]⟩ : ByteArray)), (by first | rfl | (simp; done) | (simp [*]; done)), (by first | rfl | (simp; done) | (simp [*]; done)), H', ⟨by have := HJ3.out; have := HJ8.out; first | omega | exact Nat.le_refl _⟩, ⟨by repeat (first | (with_reducible first | exact HB.out | apply below_alloc | apply pw_below_drewN | apply below_drew1) | exact HB.out)⟩⟩
              case rest =>
                clear HC12
                try clear c1
                try clear c2
                try clear p2
                try clear c5
                try clear c5b0
                try clear c6
                try clear c6b0
                try clear p6
                try clear c7
                try clear c7b0
                try clear c8
                try clear c10
                try clear c10b0
                try clear c11
                try clear c13
                try clear c13b0
                try clear p2
                obtain ⟨kq, x1_11, x8_11, rfl, rfl, HA, HJ11, HB⟩ := hcut
                cases kq with
                | zero => exact absurd HA.out (by simp [numeral_Pad.j2])
                | succ kj11 =>
                  have H := HA.out
                  clear HA
                  simp only [numeral_Pad.j2] at H
                  replace H := Option.bind_eq_some_iff.mp H
                  obtain ⟨t110, A140, H⟩ := H
                  replace H : (if (t110.size : Int) < a2 then ((strings_Repeat.f (⟨#[48]⟩ : ByteArray) (wrap64 (a2 - (t110.size : Int)))).bind fun t111 => (if t111.size + t110.size ≤ 9223372036854775807 then (if x8_11.size + (t111 ++ t110).size ≤ 9223372036854775807 then ((numeral_digits.f a0 (x8_11 ++ (t111 ++ t110))).bind fun t112 => (some (t112, 0))) else (none)) else (none))) else (if x8_11.size + t110.size ≤ 9223372036854775807 then ((numeral_digits.f a0 (x8_11 ++ t110)).bind fun t113 => (some (t113, 0))) else (none))) = some (r1, r2) := H
                  have A14 := Aside0.mk A140
                  clear A140
                  by_cases c15 : (t110.size : Int) < a2
                  · rw [if_pos c15] at H
                    have c15b0 : decide ((t110.size : Int) < a2) = true := decide_eq_true c15
                    clear c15
                    replace H := Option.bind_eq_some_iff.mp H
                    obtain ⟨t111, A160, H⟩ := H
                    replace H : (if t111.size + t110.size ≤ 9223372036854775807 then (if x8_11.size + (t111 ++ t110).size ≤ 9223372036854775807 then ((numeral_digits.f a0 (x8_11 ++ (t111 ++ t110))).bind fun t112 => (some (t112, 0))) else (none)) else (none)) = some (r1, r2) := H
                    have A16 := Aside0.mk A160
                    clear A160
                    by_cases c17 : t111.size + t110.size ≤ 9223372036854775807
                    · rw [if_pos c17] at H
                      have c17b0 := eq_true c17
                      have c17b1 : decide (t111.size + t110.size ≤ 9223372036854775807) = true := decide_eq_true c17
                      try have c17b2 : (9223372036854775807 < t111.size + t110.size) = False := eq_false (Nat.not_lt.2 c17)
                      by_cases c18 : x8_11.size + (t111 ++ t110).size ≤ 9223372036854775807
                      · rw [if_pos c18] at H
                        have c18b0 := eq_true c18
                        have c18b1 : decide (x8_11.size + (t111 ++ t110).size ≤ 9223372036854775807) = true := decide_eq_true c18
                        try have c18b2 : (9223372036854775807 < x8_11.size + (t111 ++ t110).size) = False := eq_false (Nat.not_lt.2 c18)
                        replace H := Option.bind_eq_some_iff.mp H
                        obtain ⟨t112, A190, H⟩ := H
                        replace H : (some (t112, 0)) = some (r1, r2) := H
                        have A19 := Aside0.mk A190
                        clear A190
                        simp only [Option.some.injEq, Prod.mk.injEq] at H
                        obtain ⟨rfl, rfl⟩ := H
                        go_wp2_with (first | ((with_reducible refine gate_callee (f := 50) rfl ?_); refine goesL_ (some 35) rfl rfl Tryd.func50 (by kernel_rfl) rfl #[.int .i64 x1_11] rfl (by (try simp only [List.map_toArray, List.map_cons, List.map_nil]); first | done | rfl | (simp only [List.length_drop, List.length_take]; rfl)) ?_; (with_reducible refine (strconv_Itoa.calls x1_11 t110 _ (hT.below (by repeat (first | (with_reducible first | exact HB.out | apply below_alloc | apply pw_below_drewN | apply below_drew1) | exact HB.out)) (Nat.le_refl _)) A14.out).mono ?_); rintro e w20 ⟨rfl, hb⟩; refine ⟨_, rfl, ?_⟩; have n0_ := Aside0.mk (below_step (by repeat (first | (with_reducible first | exact HB.out | apply below_alloc | apply pw_below_drewN | apply below_drew1) | exact HB.out)) hb); clear HB; have HB := n0_; clear n0_; (try clear hb); (try clear hb2); (try clear hk); (try clear hi)) | ((with_reducible refine gate_callee (f := 54) rfl ?_); refine goesL_ (some 44) rfl rfl Tryd.func54 (by kernel_rfl) rfl #[.string (⟨#[48]⟩ : ByteArray), .int .i64 (wrap64 (a2 - (t110.size : Int)))] rfl (by (try simp only [List.map_toArray, List.map_cons, List.map_nil]); first | done | rfl | (simp only [List.length_drop, List.length_take]; rfl)) ?_; (with_reducible refine (strings_Repeat.calls (⟨#[48]⟩ : ByteArray) (wrap64 (a2 - (t110.size : Int))) t111 _ A16.out).mono ?_); rintro e w21 ⟨rfl, hb⟩; refine ⟨_, rfl, ?_⟩; have n0_ := Aside0.mk (below_step (by repeat (first | (with_reducible first | exact HB.out | apply below_alloc | apply pw_below_drewN | apply below_drew1) | exact HB.out)) hb); clear HB; have HB := n0_; clear n0_; (try clear hb); (try clear hb2); (try clear hk); (try clear hi)) | ((with_reducible refine gate_callee (f := 49) rfl ?_); refine goesL_ (some 51) rfl rfl Tryd.func49 (by kernel_rfl) rfl #[.int .i64 a0, .string (x8_11 ++ (t111 ++ t110))] rfl (by (try simp only [List.map_toArray, List.map_cons, List.map_nil]); first | done | rfl | (simp only [List.length_drop, List.length_take]; rfl)) ?_; (with_reducible refine (numeral_digits.calls a0 (x8_11 ++ (t111 ++ t110)) t112 _ (hZ.below (by repeat (first | (with_reducible first | exact HB.out | apply below_alloc | apply pw_below_drewN | apply below_drew1) | exact HB.out)) (Nat.le_refl _)) A19.out).mono ?_); rintro e w22 ⟨rfl, hb⟩; refine ⟨_, rfl, ?_⟩; have n0_ := Aside0.mk (below_step (by repeat (first | (with_reducible first | exact HB.out | apply below_alloc | apply pw_below_drewN | apply below_drew1) | exact HB.out)) hb); clear HB; have HB := n0_; clear n0_; (try clear hb); (try clear hb2); (try clear hk); (try clear hi)))
                        go_ret2
                        exact ⟨by first | rfl | (simp [errW_none, errW_some] <;> rfl) | (simp [*, errW_none, errW_some] <;> rfl), by repeat (first | (with_reducible first | exact HB.out | apply below_alloc | apply pw_below_drewN | apply below_drew1) | exact HB.out)⟩
                      · rw [if_neg c18] at H
                        exact absurd H (by simp)
                    · rw [if_neg c17] at H
                      exact absurd H (by simp)
                  · rw [if_neg c15] at H
                    have c15b0 : decide ((t110.size : Int) < a2) = false := decide_eq_false c15
                    clear c15
                    by_cases c23 : x8_11.size + t110.size ≤ 9223372036854775807
                    · rw [if_pos c23] at H
                      have c23b0 := eq_true c23
                      have c23b1 : decide (x8_11.size + t110.size ≤ 9223372036854775807) = true := decide_eq_true c23
                      try have c23b2 : (9223372036854775807 < x8_11.size + t110.size) = False := eq_false (Nat.not_lt.2 c23)
                      replace H := Option.bind_eq_some_iff.mp H
                      obtain ⟨t113, A240, H⟩ := H
                      replace H : (some (t113, 0)) = some (r1, r2) := H
                      have A24 := Aside0.mk A240
                      clear A240
                      simp only [Option.some.injEq, Prod.mk.injEq] at H
                      obtain ⟨rfl, rfl⟩ := H
                      go_wp2_with (first | ((with_reducible refine gate_callee (f := 50) rfl ?_); refine goesL_ (some 35) rfl rfl Tryd.func50 (by kernel_rfl) rfl #[.int .i64 x1_11] rfl (by (try simp only [List.map_toArray, List.map_cons, List.map_nil]); first | done | rfl | (simp only [List.length_drop, List.length_take]; rfl)) ?_; (with_reducible refine (strconv_Itoa.calls x1_11 t110 _ (hT.below (by repeat (first | (with_reducible first | exact HB.out | apply below_alloc | apply pw_below_drewN | apply below_drew1) | exact HB.out)) (Nat.le_refl _)) A14.out).mono ?_); rintro e w25 ⟨rfl, hb⟩; refine ⟨_, rfl, ?_⟩; have n0_ := Aside0.mk (below_step (by repeat (first | (with_reducible first | exact HB.out | apply below_alloc | apply pw_below_drewN | apply below_drew1) | exact HB.out)) hb); clear HB; have HB := n0_; clear n0_; (try clear hb); (try clear hb2); (try clear hk); (try clear hi)) | ((with_reducible refine gate_callee (f := 49) rfl ?_); refine goesL_ (some 51) rfl rfl Tryd.func49 (by kernel_rfl) rfl #[.int .i64 a0, .string (x8_11 ++ t110)] rfl (by (try simp only [List.map_toArray, List.map_cons, List.map_nil]); first | done | rfl | (simp only [List.length_drop, List.length_take]; rfl)) ?_; (with_reducible refine (numeral_digits.calls a0 (x8_11 ++ t110) t113 _ (hZ.below (by repeat (first | (with_reducible first | exact HB.out | apply below_alloc | apply pw_below_drewN | apply below_drew1) | exact HB.out)) (Nat.le_refl _)) A24.out).mono ?_); rintro e w26 ⟨rfl, hb⟩; refine ⟨_, rfl, ?_⟩; have n0_ := Aside0.mk (below_step (by repeat (first | (with_reducible first | exact HB.out | apply below_alloc | apply pw_below_drewN | apply below_drew1) | exact HB.out)) hb); clear HB; have HB := n0_; clear n0_; (try clear hb); (try clear hb2); (try clear hk); (try clear hi)))
                      go_ret2
                      exact ⟨by first | rfl | (simp [errW_none, errW_some] <;> rfl) | (simp [*, errW_none, errW_some] <;> rfl), by repeat (first | (with_reducible first | exact HB.out | apply below_alloc | apply pw_below_drewN | apply below_drew1) | exact HB.out)⟩
                    · rw [if_neg c23] at H
                      exact absurd H (by simp)

/-! ### ephemerisref1_Num: function 21 -/
def ephemerisref1_Num.f (a0 : Int) : Option (Bool) := (ephemerisref1_In.f a0 (-2147483647) 2147483647).bind fun t114 => (some t114)
set_option maxHeartbeats 8000000 in
set_option maxRecDepth 100000 in
theorem ephemerisref1_Num.calls (a0 : Int) (r : Bool) (w : World) (h : ephemerisref1_Num.f a0 = some r) :
    Calls Tryd.prog 21 #[.int .i64 a0] w fun e w' => e = .returned (.bool r) ∧ Drawn0 w w' := by
  have H : ((ephemerisref1_In.f a0 (-2147483647) 2147483647).bind fun t114 => (some t114)) = some r := h
  clear h
  replace H := Option.bind_eq_some_iff.mp H
  obtain ⟨t114, A20, H⟩ := H
  replace H : (some t114) = some r := H
  have A2 := Aside0.mk A20
  clear A20
  obtain rfl := Option.some.inj H
  go_enter Tryd.func21, Tryd.ntmps21
  go_wp2_with (first | ((with_reducible refine gate_callee (f := 17) rfl ?_); refine goesL_ (some 4) rfl rfl Tryd.func17 (by kernel_rfl) rfl #[.int .i64 a0, .int .i64 (-2147483647), .int .i64 2147483647] rfl (by (try simp only [List.map_toArray, List.map_cons, List.map_nil]); first | done | rfl | (simp only [List.length_drop, List.length_take]; rfl)) ?_; (with_reducible refine (ephemerisref1_In.calls a0 (-2147483647) 2147483647 t114 _ A2.out).mono ?_); rintro e w' ⟨rfl, ⟨nd, rfl⟩⟩; refine ⟨_, rfl, ?_⟩))
  go_ret
  exact ⟨by first | rfl | (simp; done) | (simp [*]; done), by repeat (first | exact Drawn0.refl _ | apply Drawn0.step)⟩

/-! ### ephemerisref1_zero: function 51 -/
def ephemerisref1_zero.f (a0 : Int) : Option (Int) := (some (([48, 1632, 1776, 2406, 2534, 3664, 3872, 6112, 65296] : List Int) : List Int)).bind fun y115 => (if 0 ≤ a0 then (if a0 < (y115.length : Int) then (some (rd y115 a0)) else (none)) else (none))
set_option maxHeartbeats 8000000 in
set_option maxRecDepth 100000 in
theorem ephemerisref1_zero.calls (a0 : Int) (r : Int) (w : World) (h : ephemerisref1_zero.f a0 = some r) :
    Calls Tryd.prog 51 #[.int .i64 a0] w fun e w' => e = .returned (.int .i32 r) ∧ Below w.heap.size w w' := by
  have HB := Aside0.mk (Below.refl w.heap.size w)
  have H : ((some (([48, 1632, 1776, 2406, 2534, 3664, 3872, 6112, 65296] : List Int) : List Int)).bind fun y115 => (if 0 ≤ a0 then (if a0 < (y115.length : Int) then (some (rd y115 a0)) else (none)) else (none))) = some r := h
  clear h
  obtain ⟨y115, hy115⟩ : ∃ y_ : List Int, y_ = (([48, 1632, 1776, 2406, 2534, 3664, 3872, 6112, 65296] : List Int)) := ⟨_, rfl⟩
  replace H : (if 0 ≤ a0 then (if a0 < (y115.length : Int) then (some (rd y115 a0)) else (none)) else (none)) = some r := by first | (rw [hy115]; with_reducible exact H) | (have H2_ := (Option.bind_some _ _).symm.trans H; rw [hy115]; with_reducible exact H2_) | (have H2_ := (Option.bind_some _ _).symm.trans H; with_reducible exact H2_) | with_reducible exact H | (rw [hy115]; exact H) | exact H
  have Ny115 := Aside0.mk hy115
  clear hy115
  by_cases c2 : 0 ≤ a0
  · rw [if_pos c2] at H
    have c2b0 : decide (0 ≤ a0) = true := decide_eq_true c2
    clear c2
    by_cases c3 : a0 < (y115.length : Int)
    · rw [if_pos c3] at H
      have c3b0 : decide (a0 < (y115.length : Int)) = true := decide_eq_true c3
      clear c3
      obtain rfl := Option.some.inj H
      go_enter Tryd.func51, Tryd.ntmps51
      go_wp2_with (first | ((with_reducible refine gate_dst (N := 3) rfl ?_); refine Kd.R_lit (Kd.int .i32) _ 21 ?hg (N := 3) ?hd (xs := ([48, 1632, 1776, 2406, 2534, 3664, 3872, 6112, 65296] : List Int)) (inner := [.int .i32 48, .int .i32 1632, .int .i32 1776, .int .i32 2406, .int .i32 2534, .int .i32 3664, .int .i32 3872, .int .i32 6112, .int .i32 65296]) (ok := fun _ => True) (okp := fun _ => True) ?hr ?hp (fun _ hk => hk) trivial (Below.refl _ _) (Nat.le_refl _) (by simp) ?_; (case hd => rfl); (case hg => rfl); (case hr => first | (go_simp; done) | (go_simp; rfl)); (case hp => exact (Reps.one (show Kd.M (Kd.int .i32) _ _ _ 48 [.int .i32 48] from rfl) (Reps.one (show Kd.M (Kd.int .i32) _ _ _ 1632 [.int .i32 1632] from rfl) (Reps.one (show Kd.M (Kd.int .i32) _ _ _ 1776 [.int .i32 1776] from rfl) (Reps.one (show Kd.M (Kd.int .i32) _ _ _ 2406 [.int .i32 2406] from rfl) (Reps.one (show Kd.M (Kd.int .i32) _ _ _ 2534 [.int .i32 2534] from rfl) (Reps.one (show Kd.M (Kd.int .i32) _ _ _ 3664 [.int .i32 3664] from rfl) (Reps.one (show Kd.M (Kd.int .i32) _ _ _ 3872 [.int .i32 3872] from rfl) (Reps.one (show Kd.M (Kd.int .i32) _ _ _ 6112 [.int .i32 6112] from rfl) (Reps.one (show Kd.M (Kd.int .i32) _ _ _ 65296 [.int .i32 65296] from rfl) (Reps.none _ _))))))))))); intro v116 w4 ho5 hb hg_ hnew_; clear hg_ hnew_; (first | rw [← Ny115.out] at ho5 | (simp only [Int.reduceToNat] at ho5; rw [← Ny115.out] at ho5)); have n0_ := Aside0.mk (Kd.R_lower ho5 (below_size (by repeat (first | (with_reducible first | exact HB.out | apply below_alloc | apply pw_below_drewN | apply below_drew1) | exact HB.out)))); have n1_ := Aside0.mk (below_step (by repeat (first | (with_reducible first | exact HB.out | apply below_alloc | apply pw_below_drewN | apply below_drew1) | exact HB.out)) hb); clear HB; have HO117 := n0_; have HB := n1_; clear n0_ n1_; clear hb ho5; obtain ⟨Ao6, co6, eo6⟩ := Kd.R_slice HO117.out; subst eo6; have p118 : 0 ≤ (a0 : Int) := of_decide_eq_true (by first | (with_reducible assumption) | assumption); have q118 : a0 < (y115.length : Int) := of_decide_eq_true (by first | (with_reducible assumption) | assumption); obtain ⟨ad118, e118, hx118_0⟩ := Kd.at_int (Kd.R_reads' HO117.out).2.2 a0 p118 q118; cases e118; replace p118 := eq_true p118; replace q118 := eq_true q118))
      go_ret
      exact ⟨by first | rfl | (simp [errW_none, errW_some] <;> rfl) | (simp [*, errW_none, errW_some] <;> rfl), by repeat (first | (with_reducible first | exact HB.out | apply below_alloc | apply pw_below_drewN | apply below_drew1) | exact HB.out)⟩
    · rw [if_neg c3] at H
      exact absurd H (by simp)
  · rw [if_neg c2] at H
    exact absurd H (by simp)

/-! ### stringslite_HasSuffix: function 92 -/
def stringslite_HasSuffix.f (a0 : ByteArray) (a1 : ByteArray) : Option (Bool) := if (a0.size : Int) ≥ (a1.size : Int) then (if 0 ≤ (wrap64 ((a0.size : Int) - (a1.size : Int))) then (if (wrap64 ((a0.size : Int) - (a1.size : Int))) ≤ (a0.size : Int) then (some ((a0.extract ((wrap64 ((a0.size : Int) - (a1.size : Int))) : Int).toNat a0.size).toList == a1.toList)) else (none)) else (none)) else (some false)
set_option maxHeartbeats 8000000 in
set_option maxRecDepth 100000 in
theorem stringslite_HasSuffix.calls (a0 : ByteArray) (a1 : ByteArray) (r : Bool) (w : World) (h : stringslite_HasSuffix.f a0 a1 = some r) :
    Calls Tryd.prog 92 #[.string a0, .string a1] w fun e w' => e = .returned (.bool r) ∧ Drawn0 w w' := by
  have H : (if (a0.size : Int) ≥ (a1.size : Int) then (if 0 ≤ (wrap64 ((a0.size : Int) - (a1.size : Int))) then (if (wrap64 ((a0.size : Int) - (a1.size : Int))) ≤ (a0.size : Int) then (some ((a0.extract ((wrap64 ((a0.size : Int) - (a1.size : Int))) : Int).toNat a0.size).toList == a1.toList)) else (none)) else (none)) else (some false)) = some r := h
  clear h
  by_cases c3 : (a0.size : Int) ≥ (a1.size : Int)
  · rw [if_pos c3] at H
    have c3b0 : decide ((a1.size : Int) ≤ (a0.size : Int)) = true := decide_eq_true c3
    have c3b1 : decide (a1.size ≤ a0.size) = true := decide_eq_true (Int.ofNat_le.mp c3)
    clear c3
    obtain ⟨ji4, hji4⟩ : ∃ j_ : Int, (wrap64 ((a0.size : Int) - (a1.size : Int))) = j_ := ⟨_, rfl⟩
    replace H : (if 0 ≤ (ji4) then (if (ji4) ≤ (a0.size : Int) then (some ((a0.extract ((ji4) : Int).toNat a0.size).toList == a1.toList)) else (none)) else (none)) = some r := by first | (rw [hji4] at H; exact H) | (simp only [hji4] at H ⊢; exact H)
    have hji4w : (IntKind.i64.wrap ((a0.size : Int) - (a1.size : Int))) = ji4 := (i64_w _).trans hji4
    by_cases c5 : 0 ≤ (ji4)
    · rw [if_pos c5] at H
      have c5b0 := eq_true c5
      have c5b1 : decide (0 ≤ (ji4)) = true := decide_eq_true c5
      clear c5
      by_cases c6 : (ji4) ≤ (a0.size : Int)
      · rw [if_pos c6] at H
        have c6b0 := eq_true c6
        have c6b1 : decide ((ji4) ≤ (a0.size : Int)) = true := decide_eq_true c6
        clear c6
        obtain rfl := Option.some.inj H
        go_enter Tryd.func92, Tryd.ntmps92
        go_wp2
        go_ret
        exact ⟨by first | rfl | (simp; done) | (simp only [← hji4] <;> (first | rfl | simp)) | (simp [*]; done), by repeat (first | exact Drawn0.refl _ | apply Drawn0.step)⟩
      · rw [if_neg c6] at H
        exact absurd H (by simp)
    · rw [if_neg c5] at H
      exact absurd H (by simp)
  · rw [if_neg c3] at H
    have c3b0 : decide ((a1.size : Int) ≤ (a0.size : Int)) = false := decide_eq_false c3
    have c3b1 : decide (a1.size ≤ a0.size) = false := decide_eq_false (fun h => c3 (Int.ofNat_le.mpr h))
    clear c3
    obtain rfl := Option.some.inj H
    go_enter Tryd.func92, Tryd.ntmps92
    go_wp2
    go_ret
    exact ⟨by first | rfl | (simp; done) | (simp [*]; done), by repeat (first | exact Drawn0.refl _ | apply Drawn0.step)⟩

/-! ### strings_HasSuffix: function 52 -/
def strings_HasSuffix.f (a0 : ByteArray) (a1 : ByteArray) : Option (Bool) := (stringslite_HasSuffix.f a0 a1).bind fun t119 => (some t119)
set_option maxHeartbeats 8000000 in
set_option maxRecDepth 100000 in
theorem strings_HasSuffix.calls (a0 : ByteArray) (a1 : ByteArray) (r : Bool) (w : World) (h : strings_HasSuffix.f a0 a1 = some r) :
    Calls Tryd.prog 52 #[.string a0, .string a1] w fun e w' => e = .returned (.bool r) ∧ Drawn0 w w' := by
  have H : ((stringslite_HasSuffix.f a0 a1).bind fun t119 => (some t119)) = some r := h
  clear h
  replace H := Option.bind_eq_some_iff.mp H
  obtain ⟨t119, A30, H⟩ := H
  replace H : (some t119) = some r := H
  have A3 := Aside0.mk A30
  clear A30
  obtain rfl := Option.some.inj H
  go_enter Tryd.func52, Tryd.ntmps52
  go_wp2_with (first | ((with_reducible refine gate_callee (f := 92) rfl ?_); refine goesL_ (some 7) rfl rfl Tryd.func92 (by kernel_rfl) rfl #[.string a0, .string a1] rfl (by (try simp only [List.map_toArray, List.map_cons, List.map_nil]); first | done | rfl | (simp only [List.length_drop, List.length_take]; rfl)) ?_; (with_reducible refine (stringslite_HasSuffix.calls a0 a1 t119 _ A3.out).mono ?_); rintro e w' ⟨rfl, ⟨nd, rfl⟩⟩; refine ⟨_, rfl, ?_⟩))
  go_ret
  exact ⟨by first | rfl | (simp; done) | (simp [*]; done), by repeat (first | exact Drawn0.refl _ | apply Drawn0.step)⟩

/-! ### ephemerisref1_list: function 53 -/
def ephemerisref1_list.f (a0 : Int) : Option ((List (S113))) := if a0 = 9 then (some (([(⟨1000, (⟨#[77]⟩ : ByteArray)⟩ : S113), (⟨900, (⟨#[67, 77]⟩ : ByteArray)⟩ : S113), (⟨500, (⟨#[68]⟩ : ByteArray)⟩ : S113), (⟨400, (⟨#[67, 68]⟩ : ByteArray)⟩ : S113), (⟨100, (⟨#[67]⟩ : ByteArray)⟩ : S113), (⟨90, (⟨#[88, 67]⟩ : ByteArray)⟩ : S113), (⟨50, (⟨#[76]⟩ : ByteArray)⟩ : S113), (⟨40, (⟨#[88, 76]⟩ : ByteArray)⟩ : S113), (⟨10, (⟨#[88]⟩ : ByteArray)⟩ : S113), (⟨9, (⟨#[73, 88]⟩ : ByteArray)⟩ : S113), (⟨5, (⟨#[86]⟩ : ByteArray)⟩ : S113), (⟨4, (⟨#[73, 86]⟩ : ByteArray)⟩ : S113), (⟨1, (⟨#[73]⟩ : ByteArray)⟩ : S113)] : List (S113)))) else (if a0 = 10 then (some (([(⟨900, (⟨#[207, 161]⟩ : ByteArray)⟩ : S113), (⟨800, (⟨#[207, 137]⟩ : ByteArray)⟩ : S113), (⟨700, (⟨#[207, 136]⟩ : ByteArray)⟩ : S113), (⟨600, (⟨#[207, 135]⟩ : ByteArray)⟩ : S113), (⟨500, (⟨#[207, 134]⟩ : ByteArray)⟩ : S113), (⟨400, (⟨#[207, 133]⟩ : ByteArray)⟩ : S113), (⟨300, (⟨#[207, 132]⟩ : ByteArray)⟩ : S113), (⟨200, (⟨#[207, 131]⟩ : ByteArray)⟩ : S113), (⟨100, (⟨#[207, 129]⟩ : ByteArray)⟩ : S113), (⟨90, (⟨#[207, 159]⟩ : ByteArray)⟩ : S113), (⟨80, (⟨#[207, 128]⟩ : ByteArray)⟩ : S113), (⟨70, (⟨#[206, 191]⟩ : ByteArray)⟩ : S113), (⟨60, (⟨#[206, 190]⟩ : ByteArray)⟩ : S113), (⟨50, (⟨#[206, 189]⟩ : ByteArray)⟩ : S113), (⟨40, (⟨#[206, 188]⟩ : ByteArray)⟩ : S113), (⟨30, (⟨#[206, 187]⟩ : ByteArray)⟩ : S113), (⟨20, (⟨#[206, 186]⟩ : ByteArray)⟩ : S113), (⟨10, (⟨#[206, 185]⟩ : ByteArray)⟩ : S113), (⟨9, (⟨#[206, 184]⟩ : ByteArray)⟩ : S113), (⟨8, (⟨#[206, 183]⟩ : ByteArray)⟩ : S113), (⟨7, (⟨#[206, 182]⟩ : ByteArray)⟩ : S113), (⟨6, (⟨#[207, 155]⟩ : ByteArray)⟩ : S113), (⟨5, (⟨#[206, 181]⟩ : ByteArray)⟩ : S113), (⟨4, (⟨#[206, 180]⟩ : ByteArray)⟩ : S113), (⟨3, (⟨#[206, 179]⟩ : ByteArray)⟩ : S113), (⟨2, (⟨#[206, 178]⟩ : ByteArray)⟩ : S113), (⟨1, (⟨#[206, 177]⟩ : ByteArray)⟩ : S113)] : List (S113)))) else (some (([(⟨400, (⟨#[215, 170]⟩ : ByteArray)⟩ : S113), (⟨300, (⟨#[215, 169]⟩ : ByteArray)⟩ : S113), (⟨200, (⟨#[215, 168]⟩ : ByteArray)⟩ : S113), (⟨100, (⟨#[215, 167]⟩ : ByteArray)⟩ : S113), (⟨90, (⟨#[215, 166]⟩ : ByteArray)⟩ : S113), (⟨80, (⟨#[215, 164]⟩ : ByteArray)⟩ : S113), (⟨70, (⟨#[215, 162]⟩ : ByteArray)⟩ : S113), (⟨60, (⟨#[215, 161]⟩ : ByteArray)⟩ : S113), (⟨50, (⟨#[215, 160]⟩ : ByteArray)⟩ : S113), (⟨40, (⟨#[215, 158]⟩ : ByteArray)⟩ : S113), (⟨30, (⟨#[215, 156]⟩ : ByteArray)⟩ : S113), (⟨20, (⟨#[215, 155]⟩ : ByteArray)⟩ : S113), (⟨16, (⟨#[215, 152, 215, 150]⟩ : ByteArray)⟩ : S113), (⟨15, (⟨#[215, 152, 215, 149]⟩ : ByteArray)⟩ : S113), (⟨10, (⟨#[215, 153]⟩ : ByteArray)⟩ : S113), (⟨9, (⟨#[215, 152]⟩ : ByteArray)⟩ : S113), (⟨8, (⟨#[215, 151]⟩ : ByteArray)⟩ : S113), (⟨7, (⟨#[215, 150]⟩ : ByteArray)⟩ : S113), (⟨6, (⟨#[215, 149]⟩ : ByteArray)⟩ : S113), (⟨5, (⟨#[215, 148]⟩ : ByteArray)⟩ : S113), (⟨4, (⟨#[215, 147]⟩ : ByteArray)⟩ : S113), (⟨3, (⟨#[215, 146]⟩ : ByteArray)⟩ : S113), (⟨2, (⟨#[215, 145]⟩ : ByteArray)⟩ : S113), (⟨1, (⟨#[215, 144]⟩ : ByteArray)⟩ : S113)] : List (S113)))))
set_option maxHeartbeats 8000000 in
set_option maxRecDepth 100000 in
theorem ephemerisref1_list.calls (a0 : Int) (r : List (S113)) (w : World) (h : ephemerisref1_list.f a0 = some r) :
    Calls Tryd.prog 53 #[.int .i64 a0] w fun e w' => ∃ v0_ : Value, e = .returned (v0_) ∧ Kd.R k113 113 w' w.heap.size (fun _ => True) v0_ r ∧ Below w.heap.size w w' := by
  have hu113 := Tryd.underlying113
  have HB := Aside0.mk (Below.refl w.heap.size w)
  have H : (if a0 = 9 then (some (([(⟨1000, (⟨#[77]⟩ : ByteArray)⟩ : S113), (⟨900, (⟨#[67, 77]⟩ : ByteArray)⟩ : S113), (⟨500, (⟨#[68]⟩ : ByteArray)⟩ : S113), (⟨400, (⟨#[67, 68]⟩ : ByteArray)⟩ : S113), (⟨100, (⟨#[67]⟩ : ByteArray)⟩ : S113), (⟨90, (⟨#[88, 67]⟩ : ByteArray)⟩ : S113), (⟨50, (⟨#[76]⟩ : ByteArray)⟩ : S113), (⟨40, (⟨#[88, 76]⟩ : ByteArray)⟩ : S113), (⟨10, (⟨#[88]⟩ : ByteArray)⟩ : S113), (⟨9, (⟨#[73, 88]⟩ : ByteArray)⟩ : S113), (⟨5, (⟨#[86]⟩ : ByteArray)⟩ : S113), (⟨4, (⟨#[73, 86]⟩ : ByteArray)⟩ : S113), (⟨1, (⟨#[73]⟩ : ByteArray)⟩ : S113)] : List (S113)))) else (if a0 = 10 then (some (([(⟨900, (⟨#[207, 161]⟩ : ByteArray)⟩ : S113), (⟨800, (⟨#[207, 137]⟩ : ByteArray)⟩ : S113), (⟨700, (⟨#[207, 136]⟩ : ByteArray)⟩ : S113), (⟨600, (⟨#[207, 135]⟩ : ByteArray)⟩ : S113), (⟨500, (⟨#[207, 134]⟩ : ByteArray)⟩ : S113), (⟨400, (⟨#[207, 133]⟩ : ByteArray)⟩ : S113), (⟨300, (⟨#[207, 132]⟩ : ByteArray)⟩ : S113), (⟨200, (⟨#[207, 131]⟩ : ByteArray)⟩ : S113), (⟨100, (⟨#[207, 129]⟩ : ByteArray)⟩ : S113), (⟨90, (⟨#[207, 159]⟩ : ByteArray)⟩ : S113), (⟨80, (⟨#[207, 128]⟩ : ByteArray)⟩ : S113), (⟨70, (⟨#[206, 191]⟩ : ByteArray)⟩ : S113), (⟨60, (⟨#[206, 190]⟩ : ByteArray)⟩ : S113), (⟨50, (⟨#[206, 189]⟩ : ByteArray)⟩ : S113), (⟨40, (⟨#[206, 188]⟩ : ByteArray)⟩ : S113), (⟨30, (⟨#[206, 187]⟩ : ByteArray)⟩ : S113), (⟨20, (⟨#[206, 186]⟩ : ByteArray)⟩ : S113), (⟨10, (⟨#[206, 185]⟩ : ByteArray)⟩ : S113), (⟨9, (⟨#[206, 184]⟩ : ByteArray)⟩ : S113), (⟨8, (⟨#[206, 183]⟩ : ByteArray)⟩ : S113), (⟨7, (⟨#[206, 182]⟩ : ByteArray)⟩ : S113), (⟨6, (⟨#[207, 155]⟩ : ByteArray)⟩ : S113), (⟨5, (⟨#[206, 181]⟩ : ByteArray)⟩ : S113), (⟨4, (⟨#[206, 180]⟩ : ByteArray)⟩ : S113), (⟨3, (⟨#[206, 179]⟩ : ByteArray)⟩ : S113), (⟨2, (⟨#[206, 178]⟩ : ByteArray)⟩ : S113), (⟨1, (⟨#[206, 177]⟩ : ByteArray)⟩ : S113)] : List (S113)))) else (some (([(⟨400, (⟨#[215, 170]⟩ : ByteArray)⟩ : S113), (⟨300, (⟨#[215, 169]⟩ : ByteArray)⟩ : S113), (⟨200, (⟨#[215, 168]⟩ : ByteArray)⟩ : S113), (⟨100, (⟨#[215, 167]⟩ : ByteArray)⟩ : S113), (⟨90, (⟨#[215, 166]⟩ : ByteArray)⟩ : S113), (⟨80, (⟨#[215, 164]⟩ : ByteArray)⟩ : S113), (⟨70, (⟨#[215, 162]⟩ : ByteArray)⟩ : S113), (⟨60, (⟨#[215, 161]⟩ : ByteArray)⟩ : S113), (⟨50, (⟨#[215, 160]⟩ : ByteArray)⟩ : S113), (⟨40, (⟨#[215, 158]⟩ : ByteArray)⟩ : S113), (⟨30, (⟨#[215, 156]⟩ : ByteArray)⟩ : S113), (⟨20, (⟨#[215, 155]⟩ : ByteArray)⟩ : S113), (⟨16, (⟨#[215, 152, 215, 150]⟩ : ByteArray)⟩ : S113), (⟨15, (⟨#[215, 152, 215, 149]⟩ : ByteArray)⟩ : S113), (⟨10, (⟨#[215, 153]⟩ : ByteArray)⟩ : S113), (⟨9, (⟨#[215, 152]⟩ : ByteArray)⟩ : S113), (⟨8, (⟨#[215, 151]⟩ : ByteArray)⟩ : S113), (⟨7, (⟨#[215, 150]⟩ : ByteArray)⟩ : S113), (⟨6, (⟨#[215, 149]⟩ : ByteArray)⟩ : S113), (⟨5, (⟨#[215, 148]⟩ : ByteArray)⟩ : S113), (⟨4, (⟨#[215, 147]⟩ : ByteArray)⟩ : S113), (⟨3, (⟨#[215, 146]⟩ : ByteArray)⟩ : S113), (⟨2, (⟨#[215, 145]⟩ : ByteArray)⟩ : S113), (⟨1, (⟨#[215, 144]⟩ : ByteArray)⟩ : S113)] : List (S113)))))) = some r := h
  clear h
  by_cases c2 : a0 = 9
  · rw [if_pos c2] at H
    have c2b0 : (a0 == 9) = true := beq_iff_eq.mpr c2
    have c2b1 : (a0 != 9) = false := bne_eq_false_iff_eq.mpr c2
    clear c2
    obtain ⟨y120, hy120⟩ : ∃ y_ : List (S113), y_ = (([(⟨1000, (⟨#[77]⟩ : ByteArray)⟩ : S113), (⟨900, (⟨#[67, 77]⟩ : ByteArray)⟩ : S113), (⟨500, (⟨#[68]⟩ : ByteArray)⟩ : S113), (⟨400, (⟨#[67, 68]⟩ : ByteArray)⟩ : S113), (⟨100, (⟨#[67]⟩ : ByteArray)⟩ : S113), (⟨90, (⟨#[88, 67]⟩ : ByteArray)⟩ : S113), (⟨50, (⟨#[76]⟩ : ByteArray)⟩ : S113), (⟨40, (⟨#[88, 76]⟩ : ByteArray)⟩ : S113), (⟨10, (⟨#[88]⟩ : ByteArray)⟩ : S113), (⟨9, (⟨#[73, 88]⟩ : ByteArray)⟩ : S113), (⟨5, (⟨#[86]⟩ : ByteArray)⟩ : S113), (⟨4, (⟨#[73, 86]⟩ : ByteArray)⟩ : S113), (⟨1, (⟨#[73]⟩ : ByteArray)⟩ : S113)] : List (S113))) := ⟨_, rfl⟩
    replace H : (some y120) = some r := by first | (rw [hy120]; with_reducible exact H) | (have H2_ := (Option.bind_some _ _).symm.trans H; rw [hy120]; with_reducible exact H2_) | (have H2_ := (Option.bind_some _ _).symm.trans H; with_reducible exact H2_) | with_reducible exact H | (rw [hy120]; exact H) | exact H
    have Ny120 := Aside0.mk hy120
    clear hy120
    obtain rfl := Option.some.inj H
    go_enter Tryd.func53, Tryd.ntmps53
    go_wp2_with (first | ((with_reducible refine gate_dst (N := 19) rfl ?_); refine Kd.R_lit k113 _ 113 ?hg (N := 19) ?hd (xs := ([(⟨1000, (⟨#[77]⟩ : ByteArray)⟩ : S113), (⟨900, (⟨#[67, 77]⟩ : ByteArray)⟩ : S113), (⟨500, (⟨#[68]⟩ : ByteArray)⟩ : S113), (⟨400, (⟨#[67, 68]⟩ : ByteArray)⟩ : S113), (⟨100, (⟨#[67]⟩ : ByteArray)⟩ : S113), (⟨90, (⟨#[88, 67]⟩ : ByteArray)⟩ : S113), (⟨50, (⟨#[76]⟩ : ByteArray)⟩ : S113), (⟨40, (⟨#[88, 76]⟩ : ByteArray)⟩ : S113), (⟨10, (⟨#[88]⟩ : ByteArray)⟩ : S113), (⟨9, (⟨#[73, 88]⟩ : ByteArray)⟩ : S113), (⟨5, (⟨#[86]⟩ : ByteArray)⟩ : S113), (⟨4, (⟨#[73, 86]⟩ : ByteArray)⟩ : S113), (⟨1, (⟨#[73]⟩ : ByteArray)⟩ : S113)] : List (S113))) (inner := [.int .i64 1000, .string (⟨#[77]⟩ : ByteArray), .int .i64 900, .string (⟨#[67, 77]⟩ : ByteArray), .int .i64 500, .string (⟨#[68]⟩ : ByteArray), .int .i64 400, .string (⟨#[67, 68]⟩ : ByteArray), .int .i64 100, .string (⟨#[67]⟩ : ByteArray), .int .i64 90, .string (⟨#[88, 67]⟩ : ByteArray), .int .i64 50, .string (⟨#[76]⟩ : ByteArray), .int .i64 40, .string (⟨#[88, 76]⟩ : ByteArray), .int .i64 10, .string (⟨#[88]⟩ : ByteArray), .int .i64 9, .string (⟨#[73, 88]⟩ : ByteArray), .int .i64 5, .string (⟨#[86]⟩ : ByteArray), .int .i64 4, .string (⟨#[73, 86]⟩ : ByteArray), .int .i64 1, .string (⟨#[73]⟩ : ByteArray)]) (ok := fun _ => True) (okp := fun _ => True) ?hr ?hp (fun _ hk => hk) trivial (Below.refl _ _) (Nat.le_refl _) (by simp) ?_; (case hd => rfl); (case hg => rfl); (case hr => first | (go_simp; done) | (go_simp; rfl)); (case hp => exact (Reps.c2 (show Kd.M k113 _ _ _ (⟨1000, (⟨#[77]⟩ : ByteArray)⟩ : S113) [.int .i64 1000, .string (⟨#[77]⟩ : ByteArray)] from (k113_mkM _ _ _ (⟨1000, (⟨#[77]⟩ : ByteArray)⟩ : S113) )) (Reps.c2 (show Kd.M k113 _ _ _ (⟨900, (⟨#[67, 77]⟩ : ByteArray)⟩ : S113) [.int .i64 900, .string (⟨#[67, 77]⟩ : ByteArray)] from (k113_mkM _ _ _ (⟨900, (⟨#[67, 77]⟩ : ByteArray)⟩ : S113) )) (Reps.c2 (show Kd.M k113 _ _ _ (⟨500, (⟨#[68]⟩ : ByteArray)⟩ : S113) [.int .i64 500, .string (⟨#[68]⟩ : ByteArray)] from (k113_mkM _ _ _ (⟨500, (⟨#[68]⟩ : ByteArray)⟩ : S113) )) (Reps.c2 (show Kd.M k113 _ _ _ (⟨400, (⟨#[67, 68]⟩ : ByteArray)⟩ : S113) [.int .i64 400, .string (⟨#[67, 68]⟩ : ByteArray)] from (k113_mkM _ _ _ (⟨400, (⟨#[67, 68]⟩ : ByteArray)⟩ : S113) )) (Reps.c2 (show Kd.M k113 _ _ _ (⟨100, (⟨#[67]⟩ : ByteArray)⟩ : S113) [.int .i64 100, .string (⟨#[67]⟩ : ByteArray)] from (k113_mkM _ _ _ (⟨100, (⟨#[67]⟩ : ByteArray)⟩ : S113) )) (Reps.c2 (show Kd.M k113 _ _ _ (⟨90, (⟨#[88, 67]⟩ : ByteArray)⟩ : S113) [.int .i64 90, .string (⟨#[88, 67]⟩ : ByteArray)] from (k113_mkM _ _ _ (⟨90, (⟨#[88, 67]⟩ : ByteArray)⟩ : S113) )) (Reps.c2 (show Kd.M k113 _ _ _ (⟨50, (⟨#[76]⟩ : ByteArray)⟩ : S113) [.int .i64 50, .string (⟨#[76]⟩ : ByteArray)] from (k113_mkM _ _ _ (⟨50, (⟨#[76]⟩ : ByteArray)⟩ : S113) )) (Reps.c2 (show Kd.M k113 _ _ _ (⟨40, (⟨#[88, 76]⟩ : ByteArray)⟩ : S113) [.int .i64 40, .string (⟨#[88, 76]⟩ : ByteArray)] from (k113_mkM _ _ _ (⟨40, (⟨#[88, 76]⟩ : ByteArray)⟩ : S113) )) (Reps.c2 (show Kd.M k113 _ _ _ (⟨10, (⟨#[88]⟩ : ByteArray)⟩ : S113) [.int .i64 10, .string (⟨#[88]⟩ : ByteArray)] from (k113_mkM _ _ _ (⟨10, (⟨#[88]⟩ : ByteArray)⟩ : S113) )) (Reps.c2 (show Kd.M k113 _ _ _ (⟨9, (⟨#[73, 88]⟩ : ByteArray)⟩ : S113) [.int .i64 9, .string (⟨#[73, 88]⟩ : ByteArray)] from (k113_mkM _ _ _ (⟨9, (⟨#[73, 88]⟩ : ByteArray)⟩ : S113) )) (Reps.c2 (show Kd.M k113 _ _ _ (⟨5, (⟨#[86]⟩ : ByteArray)⟩ : S113) [.int .i64 5, .string (⟨#[86]⟩ : ByteArray)] from (k113_mkM _ _ _ (⟨5, (⟨#[86]⟩ : ByteArray)⟩ : S113) )) (Reps.c2 (show Kd.M k113 _ _ _ (⟨4, (⟨#[73, 86]⟩ : ByteArray)⟩ : S113) [.int .i64 4, .string (⟨#[73, 86]⟩ : ByteArray)] from (k113_mkM _ _ _ (⟨4, (⟨#[73, 86]⟩ : ByteArray)⟩ : S113) )) (Reps.c2 (show Kd.M k113 _ _ _ (⟨1, (⟨#[73]⟩ : ByteArray)⟩ : S113) [.int .i64 1, .string (⟨#[73]⟩ : ByteArray)] from (k113_mkM _ _ _ (⟨1, (⟨#[73]⟩ : ByteArray)⟩ : S113) )) (Reps.none _ _))))))))))))))); intro v121 w3 ho4 hb hg_ hnew_; clear hg_ hnew_; (first | rw [← Ny120.out] at ho4 | (simp only [Int.reduceToNat] at ho4; rw [← Ny120.out] at ho4)); have n0_ := Aside0.mk (Kd.R_lower ho4 (below_size (by repeat (first | (with_reducible first | exact HB.out | apply below_alloc | apply pw_below_drewN | apply below_drew1) | exact HB.out)))); have n1_ := Aside0.mk (below_step (by repeat (first | (with_reducible first | exact HB.out | apply below_alloc | apply pw_below_drewN | apply below_drew1) | exact HB.out)) hb); clear HB; have HO122 := n0_; have HB := n1_; clear n0_ n1_; clear hb ho4))
    go_ret
    exact ⟨_, by first | rfl | (simp [errW_none, errW_some] <;> rfl) | (simp [*, errW_none, errW_some] <;> rfl), by (with_reducible repeat (first | apply Kd.R_alloc | apply Kd.R_drewN | apply Kd.R_drew)); exact HO122.out, by repeat (first | (with_reducible first | exact HB.out | apply below_alloc | apply pw_below_drewN | apply below_drew1) | exact HB.out)⟩
  · rw [if_neg c2] at H
    have c2b0 : (a0 == 9) = false := beq_eq_false_iff_ne.mpr c2
    have c2b1 : (a0 != 9) = true := bne_iff_ne.mpr c2
    by_cases c5 : a0 = 10
    · rw [if_pos c5] at H
      have c5b0 : (a0 == 10) = true := beq_iff_eq.mpr c5
      have c5b1 : (a0 != 10) = false := bne_eq_false_iff_eq.mpr c5
      clear c5
      obtain ⟨y123, hy123⟩ : ∃ y_ : List (S113), y_ = (([(⟨900, (⟨#[207, 161]⟩ : ByteArray)⟩ : S113), (⟨800, (⟨#[207, 137]⟩ : ByteArray)⟩ : S113), (⟨700, (⟨#[207, 136]⟩ : ByteArray)⟩ : S113), (⟨600, (⟨#[207, 135]⟩ : ByteArray)⟩ : S113), (⟨500, (⟨#[207, 134]⟩ : ByteArray)⟩ : S113), (⟨400, (⟨#[207, 133]⟩ : ByteArray)⟩ : S113), (⟨300, (⟨#[207, 132]⟩ : ByteArray)⟩ : S113), (⟨200, (⟨#[207, 131]⟩ : ByteArray)⟩ : S113), (⟨100, (⟨#[207, 129]⟩ : ByteArray)⟩ : S113), (⟨90, (⟨#[207, 159]⟩ : ByteArray)⟩ : S113), (⟨80, (⟨#[207, 128]⟩ : ByteArray)⟩ : S113), (⟨70, (⟨#[206, 191]⟩ : ByteArray)⟩ : S113), (⟨60, (⟨#[206, 190]⟩ : ByteArray)⟩ : S113), (⟨50, (⟨#[206, 189]⟩ : ByteArray)⟩ : S113), (⟨40, (⟨#[206, 188]⟩ : ByteArray)⟩ : S113), (⟨30, (⟨#[206, 187]⟩ : ByteArray)⟩ : S113), (⟨20, (⟨#[206, 186]⟩ : ByteArray)⟩ : S113), (⟨10, (⟨#[206, 185]⟩ : ByteArray)⟩ : S113), (⟨9, (⟨#[206, 184]⟩ : ByteArray)⟩ : S113), (⟨8, (⟨#[206, 183]⟩ : ByteArray)⟩ : S113), (⟨7, (⟨#[206, 182]⟩ : ByteArray)⟩ : S113), (⟨6, (⟨#[207, 155]⟩ : ByteArray)⟩ : S113), (⟨5, (⟨#[206, 181]⟩ : ByteArray)⟩ : S113), (⟨4, (⟨#[206, 180]⟩ : ByteArray)⟩ : S113), (⟨3, (⟨#[206, 179]⟩ : ByteArray)⟩ : S113), (⟨2, (⟨#[206, 178]⟩ : ByteArray)⟩ : S113), (⟨1, (⟨#[206, 177]⟩ : ByteArray)⟩ : S113)] : List (S113))) := ⟨_, rfl⟩
      replace H : (some y123) = some r := by first | (rw [hy123]; with_reducible exact H) | (have H2_ := (Option.bind_some _ _).symm.trans H; rw [hy123]; with_reducible exact H2_) | (have H2_ := (Option.bind_some _ _).symm.trans H; with_reducible exact H2_) | with_reducible exact H | (rw [hy123]; exact H) | exact H
      have Ny123 := Aside0.mk hy123
      clear hy123
      obtain rfl := Option.some.inj H
      go_enter Tryd.func53, Tryd.ntmps53
      go_wp2_with (first | ((with_reducible refine gate_dst (N := 49) rfl ?_); refine Kd.R_lit k113 _ 113 ?hg (N := 49) ?hd (xs := ([(⟨900, (⟨#[207, 161]⟩ : ByteArray)⟩ : S113), (⟨800, (⟨#[207, 137]⟩ : ByteArray)⟩ : S113), (⟨700, (⟨#[207, 136]⟩ : ByteArray)⟩ : S113), (⟨600, (⟨#[207, 135]⟩ : ByteArray)⟩ : S113), (⟨500, (⟨#[207, 134]⟩ : ByteArray)⟩ : S113), (⟨400, (⟨#[207, 133]⟩ : ByteArray)⟩ : S113), (⟨300, (⟨#[207, 132]⟩ : ByteArray)⟩ : S113), (⟨200, (⟨#[207, 131]⟩ : ByteArray)⟩ : S113), (⟨100, (⟨#[207, 129]⟩ : ByteArray)⟩ : S113), (⟨90, (⟨#[207, 159]⟩ : ByteArray)⟩ : S113), (⟨80, (⟨#[207, 128]⟩ : ByteArray)⟩ : S113), (⟨70, (⟨#[206, 191]⟩ : ByteArray)⟩ : S113), (⟨60, (⟨#[206, 190]⟩ : ByteArray)⟩ : S113), (⟨50, (⟨#[206, 189]⟩ : ByteArray)⟩ : S113), (⟨40, (⟨#[206, 188]⟩ : ByteArray)⟩ : S113), (⟨30, (⟨#[206, 187]⟩ : ByteArray)⟩ : S113), (⟨20, (⟨#[206, 186]⟩ : ByteArray)⟩ : S113), (⟨10, (⟨#[206, 185]⟩ : ByteArray)⟩ : S113), (⟨9, (⟨#[206, 184]⟩ : ByteArray)⟩ : S113), (⟨8, (⟨#[206, 183]⟩ : ByteArray)⟩ : S113), (⟨7, (⟨#[206, 182]⟩ : ByteArray)⟩ : S113), (⟨6, (⟨#[207, 155]⟩ : ByteArray)⟩ : S113), (⟨5, (⟨#[206, 181]⟩ : ByteArray)⟩ : S113), (⟨4, (⟨#[206, 180]⟩ : ByteArray)⟩ : S113), (⟨3, (⟨#[206, 179]⟩ : ByteArray)⟩ : S113), (⟨2, (⟨#[206, 178]⟩ : ByteArray)⟩ : S113), (⟨1, (⟨#[206, 177]⟩ : ByteArray)⟩ : S113)] : List (S113))) (inner := [.int .i64 900, .string (⟨#[207, 161]⟩ : ByteArray), .int .i64 800, .string (⟨#[207, 137]⟩ : ByteArray), .int .i64 700, .string (⟨#[207, 136]⟩ : ByteArray), .int .i64 600, .string (⟨#[207, 135]⟩ : ByteArray), .int .i64 500, .string (⟨#[207, 134]⟩ : ByteArray), .int .i64 400, .string (⟨#[207, 133]⟩ : ByteArray), .int .i64 300, .string (⟨#[207, 132]⟩ : ByteArray), .int .i64 200, .string (⟨#[207, 131]⟩ : ByteArray), .int .i64 100, .string (⟨#[207, 129]⟩ : ByteArray), .int .i64 90, .string (⟨#[207, 159]⟩ : ByteArray), .int .i64 80, .string (⟨#[207, 128]⟩ : ByteArray), .int .i64 70, .string (⟨#[206, 191]⟩ : ByteArray), .int .i64 60, .string (⟨#[206, 190]⟩ : ByteArray), .int .i64 50, .string (⟨#[206, 189]⟩ : ByteArray), .int .i64 40, .string (⟨#[206, 188]⟩ : ByteArray), .int .i64 30, .string (⟨#[206, 187]⟩ : ByteArray), .int .i64 20, .string (⟨#[206, 186]⟩ : ByteArray), .int .i64 10, .string (⟨#[206, 185]⟩ : ByteArray), .int .i64 9, .string (⟨#[206, 184]⟩ : ByteArray), .int .i64 8, .string (⟨#[206, 183]⟩ : ByteArray), .int .i64 7, .string (⟨#[206, 182]⟩ : ByteArray), .int .i64 6, .string (⟨#[207, 155]⟩ : ByteArray), .int .i64 5, .string (⟨#[206, 181]⟩ : ByteArray), .int .i64 4, .string (⟨#[206, 180]⟩ : ByteArray), .int .i64 3, .string (⟨#[206, 179]⟩ : ByteArray), .int .i64 2, .string (⟨#[206, 178]⟩ : ByteArray), .int .i64 1, .string (⟨#[206, 177]⟩ : ByteArray)]) (ok := fun _ => True) (okp := fun _ => True) ?hr ?hp (fun _ hk => hk) trivial (Below.refl _ _) (Nat.le_refl _) (by simp) ?_; (case hd => rfl); (case hg => rfl); (case hr => first | (go_simp; done) | (go_simp; rfl)); (case hp => exact (Reps.c2 (show Kd.M k113 _ _ _ (⟨900, (⟨#[207, 161]⟩ : ByteArray)⟩ : S113) [.int .i64 900, .string (⟨#[207, 161]⟩ : ByteArray)] from (k113_mkM _ _ _ (⟨900, (⟨#[207, 161]⟩ : ByteArray)⟩ : S113) )) (Reps.c2 (show Kd.M k113 _ _ _ (⟨800, (⟨#[207, 137]⟩ : ByteArray)⟩ : S113) [.int .i64 800, .string (⟨#[207, 137]⟩ : ByteArray)] from (k113_mkM _ _ _ (⟨800, (⟨#[207, 137]⟩ : ByteArray)⟩ : S113) )) (Reps.c2 (show Kd.M k113 _ _ _ (⟨700, (⟨#[207, 136]⟩ : ByteArray)⟩ : S113) [.int .i64 700, .string (⟨#[207, 136]⟩ : ByteArray)] from (k113_mkM _ _ _ (⟨700, (⟨#[207, 136]⟩ : ByteArray)⟩ : S113) )) (Reps.c2 (show Kd.M k113 _ _ _ (⟨600, (⟨#[207, 135]⟩ : ByteArray)⟩ : S113) [.int .i64 600, .string (⟨#[207, 135]⟩ : ByteArray)] from (k113_mkM _ _ _ (⟨600, (⟨#[207, 135]⟩ : ByteArray)⟩ : S113) )) (Reps.c2 (show Kd.M k113 _ _ _ (⟨500, (⟨#[207, 134]⟩ : ByteArray)⟩ : S113) [.int .i64 500, .string (⟨#[207, 134]⟩ : ByteArray)] from (k113_mkM _ _ _ (⟨500, (⟨#[207, 134]⟩ : ByteArray)⟩ : S113) )) (Reps.c2 (show Kd.M k113 _ _ _ (⟨400, (⟨#[207, 133]⟩ : ByteArray)⟩ : S113) [.int .i64 400, .string (⟨#[207, 133]⟩ : ByteArray)] from (k113_mkM _ _ _ (⟨400, (⟨#[207, 133]⟩ : ByteArray)⟩ : S113) )) (Reps.c2 (show Kd.M k113 _ _ _ (⟨300, (⟨#[207, 132]⟩ : ByteArray)⟩ : S113) [.int .i64 300, .string (⟨#[207, 132]⟩ : ByteArray)] from (k113_mkM _ _ _ (⟨300, (⟨#[207, 132]⟩ : ByteArray)⟩ : S113) )) (Reps.c2 (show Kd.M k113 _ _ _ (⟨200, (⟨#[207, 131]⟩ : ByteArray)⟩ : S113) [.int .i64 200, .string (⟨#[207, 131]⟩ : ByteArray)] from (k113_mkM _ _ _ (⟨200, (⟨#[207, 131]⟩ : ByteArray)⟩ : S113) )) (Reps.c2 (show Kd.M k113 _ _ _ (⟨100, (⟨#[207, 129]⟩ : ByteArray)⟩ : S113) [.int .i64 100, .string (⟨#[207, 129]⟩ : ByteArray)] from (k113_mkM _ _ _ (⟨100, (⟨#[207, 129]⟩ : ByteArray)⟩ : S113) )) (Reps.c2 (show Kd.M k113 _ _ _ (⟨90, (⟨#[207, 159]⟩ : ByteArray)⟩ : S113) [.int .i64 90, .string (⟨#[207, 159]⟩ : ByteArray)] from (k113_mkM _ _ _ (⟨90, (⟨#[207, 159]⟩ : ByteArray)⟩ : S113) )) (Reps.c2 (show Kd.M k113 _ _ _ (⟨80, (⟨#[207, 128]⟩ : ByteArray)⟩ : S113) [.int .i64 80, .string (⟨#[207, 128]⟩ : ByteArray)] from (k113_mkM _ _ _ (⟨80, (⟨#[207, 128]⟩ : ByteArray)⟩ : S113) )) (Reps.c2 (show Kd.M k113 _ _ _ (⟨70, (⟨#[206, 191]⟩ : ByteArray)⟩ : S113) [.int .i64 70, .string (⟨#[206, 191]⟩ : ByteArray)] from (k113_mkM _ _ _ (⟨70, (⟨#[206, 191]⟩ : ByteArray)⟩ : S113) )) (Reps.c2 (show Kd.M k113 _ _ _ (⟨60, (⟨#[206, 190]⟩ : ByteArray)⟩ : S113) [.int .i64 60, .string (⟨#[206, 190]⟩ : ByteArray)] from (k113_mkM _ _ _ (⟨60, (⟨#[206, 190]⟩ : ByteArray)⟩ : S113) )) (Reps.c2 (show Kd.M k113 _ _ _ (⟨50, (⟨#[206, 189]⟩ : ByteArray)⟩ : S113) [.int .i64 50, .string (⟨#[206, 189]⟩ : ByteArray)] from (k113_mkM _ _ _ (⟨50, (⟨#[206, 189]⟩ : ByteArray)⟩ : S113) )) (Reps.c2 (show Kd.M k113 _ _ _ (⟨40, (⟨#[206, 188]⟩ : ByteArray)⟩ : S113) [.int .i64 40, .string (⟨#[206, 188]⟩ : ByteArray)] from (k113_mkM _ _ _ (⟨40, (⟨#[206, 188]⟩ : ByteArray)⟩ : S113) )) (Reps.c2 (show Kd.M k113 _ _ _ (⟨30, (⟨#[206, 187]⟩ : ByteArray)⟩ : S113) [.int .i64 30, .string (⟨#[206, 187]⟩ : ByteArray)] from (k113_mkM _ _ _ (⟨30, (⟨#[206, 187]⟩ : ByteArray)⟩ : S113) )) (Reps.c2 (show Kd.M k113 _ _ _ (⟨20, (⟨#[206, 186]⟩ : ByteArray)⟩ : S113) [.int .i64 20, .string (⟨#[206, 186]⟩ : ByteArray)] from (k113_mkM _ _ _ (⟨20, (⟨#[206, 186]⟩ : ByteArray)⟩ : S113) )) (Reps.c2 (show Kd.M k113 _ _ _ (⟨10, (⟨#[206, 185]⟩ : ByteArray)⟩ : S113) [.int .i64 10, .string (⟨#[206, 185]⟩ : ByteArray)] from (k113_mkM _ _ _ (⟨10, (⟨#[206, 185]⟩ : ByteArray)⟩ : S113) )) (Reps.c2 (show Kd.M k113 _ _ _ (⟨9, (⟨#[206, 184]⟩ : ByteArray)⟩ : S113) [.int .i64 9, .string (⟨#[206, 184]⟩ : ByteArray)] from (k113_mkM _ _ _ (⟨9, (⟨#[206, 184]⟩ : ByteArray)⟩ : S113) )) (Reps.c2 (show Kd.M k113 _ _ _ (⟨8, (⟨#[206, 183]⟩ : ByteArray)⟩ : S113) [.int .i64 8, .string (⟨#[206, 183]⟩ : ByteArray)] from (k113_mkM _ _ _ (⟨8, (⟨#[206, 183]⟩ : ByteArray)⟩ : S113) )) (Reps.c2 (show Kd.M k113 _ _ _ (⟨7, (⟨#[206, 182]⟩ : ByteArray)⟩ : S113) [.int .i64 7, .string (⟨#[206, 182]⟩ : ByteArray)] from (k113_mkM _ _ _ (⟨7, (⟨#[206, 182]⟩ : ByteArray)⟩ : S113) )) (Reps.c2 (show Kd.M k113 _ _ _ (⟨6, (⟨#[207, 155]⟩ : ByteArray)⟩ : S113) [.int .i64 6, .string (⟨#[207, 155]⟩ : ByteArray)] from (k113_mkM _ _ _ (⟨6, (⟨#[207, 155]⟩ : ByteArray)⟩ : S113) )) (Reps.c2 (show Kd.M k113 _ _ _ (⟨5, (⟨#[206, 181]⟩ : ByteArray)⟩ : S113) [.int .i64 5, .string (⟨#[206, 181]⟩ : ByteArray)] from (k113_mkM _ _ _ (⟨5, (⟨#[206, 181]⟩ : ByteArray)⟩ : S113) )) (Reps.c2 (show Kd.M k113 _ _ _ (⟨4, (⟨#[206, 180]⟩ : ByteArray)⟩ : S113) [.int .i64 4, .string (⟨#[206, 180]⟩ : ByteArray)] from (k113_mkM _ _ _ (⟨4, (⟨#[206, 180]⟩ : ByteArray)⟩ : S113) )) (Reps.c2 (show Kd.M k113 _ _ _ (⟨3, (⟨#[206, 179]⟩ : ByteArray)⟩ : S113) [.int .i64 3, .string (⟨#[206, 179]⟩ : ByteArray)] from (k113_mkM _ _ _ (⟨3, (⟨#[206, 179]⟩ : ByteArray)⟩ : S113) )) (Reps.c2 (show Kd.M k113 _ _ _ (⟨2, (⟨#[206, 178]⟩ : ByteArray)⟩ : S113) [.int .i64 2, .string (⟨#[206, 178]⟩ : ByteArray)] from (k113_mkM _ _ _ (⟨2, (⟨#[206, 178]⟩ : ByteArray)⟩ : S113) )) (Reps.c2 (show Kd.M k113 _ _ _ (⟨1, (⟨#[206, 177]⟩ : ByteArray)⟩ : S113) [.int .i64 1, .string (⟨#[206, 177]⟩ : ByteArray)] from (k113_mkM _ _ _ (⟨1, (⟨#[206, 177]⟩ : ByteArray)⟩ : S113) )) (Reps.none _ _))))))))))))))))))))))))))))); intro v124 w6 ho7 hb hg_ hnew_; clear hg_ hnew_; (first | rw [← Ny123.out] at ho7 | (simp only [Int.reduceToNat] at ho7; rw [← Ny123.out] at ho7)); have n0_ := Aside0.mk (Kd.R_lower ho7 (below_size (by repeat (first | (with_reducible first | exact HB.out | apply below_alloc | apply pw_below_drewN | apply below_drew1) | exact HB.out)))); have n1_ := Aside0.mk (below_step (by repeat (first | (with_reducible first | exact HB.out | apply below_alloc | apply pw_below_drewN | apply below_drew1) | exact HB.out)) hb); clear HB; have HO125 := n0_; have HB := n1_; clear n0_ n1_; clear hb ho7))
      go_ret
      exact ⟨_, by first | rfl | (simp [errW_none, errW_some] <;> rfl) | (simp [*, errW_none, errW_some] <;> rfl), by (with_reducible repeat (first | apply Kd.R_alloc | apply Kd.R_drewN | apply Kd.R_drew)); exact HO125.out, by repeat (first | (with_reducible first | exact HB.out | apply below_alloc | apply pw_below_drewN | apply below_drew1) | exact HB.out)⟩
    · rw [if_neg c5] at H
      have c5b0 : (a0 == 10) = false := beq_eq_false_iff_ne.mpr c5
      have c5b1 : (a0 != 10) = true := bne_iff_ne.mpr c5
      obtain ⟨y126, hy126⟩ : ∃ y_ : List (S113), y_ = (([(⟨400, (⟨#[215, 170]⟩ : ByteArray)⟩ : S113), (⟨300, (⟨#[215, 169]⟩ : ByteArray)⟩ : S113), (⟨200, (⟨#[215, 168]⟩ : ByteArray)⟩ : S113), (⟨100, (⟨#[215, 167]⟩ : ByteArray)⟩ : S113), (⟨90, (⟨#[215, 166]⟩ : ByteArray)⟩ : S113), (⟨80, (⟨#[215, 164]⟩ : ByteArray)⟩ : S113), (⟨70, (⟨#[215, 162]⟩ : ByteArray)⟩ : S113), (⟨60, (⟨#[215, 161]⟩ : ByteArray)⟩ : S113), (⟨50, (⟨#[215, 160]⟩ : ByteArray)⟩ : S113), (⟨40, (⟨#[215, 158]⟩ : ByteArray)⟩ : S113), (⟨30, (⟨#[215, 156]⟩ : ByteArray)⟩ : S113), (⟨20, (⟨#[215, 155]⟩ : ByteArray)⟩ : S113), (⟨16, (⟨#[215, 152, 215, 150]⟩ : ByteArray)⟩ : S113), (⟨15, (⟨#[215, 152, 215, 149]⟩ : ByteArray)⟩ : S113), (⟨10, (⟨#[215, 153]⟩ : ByteArray)⟩ : S113), (⟨9, (⟨#[215, 152]⟩ : ByteArray)⟩ : S113), (⟨8, (⟨#[215, 151]⟩ : ByteArray)⟩ : S113), (⟨7, (⟨#[215, 150]⟩ : ByteArray)⟩ : S113), (⟨6, (⟨#[215, 149]⟩ : ByteArray)⟩ : S113), (⟨5, (⟨#[215, 148]⟩ : ByteArray)⟩ : S113), (⟨4, (⟨#[215, 147]⟩ : ByteArray)⟩ : S113), (⟨3, (⟨#[215, 146]⟩ : ByteArray)⟩ : S113), (⟨2, (⟨#[215, 145]⟩ : ByteArray)⟩ : S113), (⟨1, (⟨#[215, 144]⟩ : ByteArray)⟩ : S113)] : List (S113))) := ⟨_, rfl⟩
      replace H : (some y126) = some r := by first | (rw [hy126]; with_reducible exact H) | (have H2_ := (Option.bind_some _ _).symm.trans H; rw [hy126]; with_reducible exact H2_) | (have H2_ := (Option.bind_some _ _).symm.trans H; with_reducible exact H2_) | with_reducible exact H | (rw [hy126]; exact H) | exact H
      have Ny126 := Aside0.mk hy126
      clear hy126
      obtain rfl := Option.some.inj H
      go_enter Tryd.func53, Tryd.ntmps53
      go_wp2_with (first | ((with_reducible refine gate_dst (N := 74) rfl ?_); refine Kd.R_lit k113 _ 113 ?hg (N := 74) ?hd (xs := ([(⟨400, (⟨#[215, 170]⟩ : ByteArray)⟩ : S113), (⟨300, (⟨#[215, 169]⟩ : ByteArray)⟩ : S113), (⟨200, (⟨#[215, 168]⟩ : ByteArray)⟩ : S113), (⟨100, (⟨#[215, 167]⟩ : ByteArray)⟩ : S113), (⟨90, (⟨#[215, 166]⟩ : ByteArray)⟩ : S113), (⟨80, (⟨#[215, 164]⟩ : ByteArray)⟩ : S113), (⟨70, (⟨#[215, 162]⟩ : ByteArray)⟩ : S113), (⟨60, (⟨#[215, 161]⟩ : ByteArray)⟩ : S113), (⟨50, (⟨#[215, 160]⟩ : ByteArray)⟩ : S113), (⟨40, (⟨#[215, 158]⟩ : ByteArray)⟩ : S113), (⟨30, (⟨#[215, 156]⟩ : ByteArray)⟩ : S113), (⟨20, (⟨#[215, 155]⟩ : ByteArray)⟩ : S113), (⟨16, (⟨#[215, 152, 215, 150]⟩ : ByteArray)⟩ : S113), (⟨15, (⟨#[215, 152, 215, 149]⟩ : ByteArray)⟩ : S113), (⟨10, (⟨#[215, 153]⟩ : ByteArray)⟩ : S113), (⟨9, (⟨#[215, 152]⟩ : ByteArray)⟩ : S113), (⟨8, (⟨#[215, 151]⟩ : ByteArray)⟩ : S113), (⟨7, (⟨#[215, 150]⟩ : ByteArray)⟩ : S113), (⟨6, (⟨#[215, 149]⟩ : ByteArray)⟩ : S113), (⟨5, (⟨#[215, 148]⟩ : ByteArray)⟩ : S113), (⟨4, (⟨#[215, 147]⟩ : ByteArray)⟩ : S113), (⟨3, (⟨#[215, 146]⟩ : ByteArray)⟩ : S113), (⟨2, (⟨#[215, 145]⟩ : ByteArray)⟩ : S113), (⟨1, (⟨#[215, 144]⟩ : ByteArray)⟩ : S113)] : List (S113))) (inner := [.int .i64 400, .string (⟨#[215, 170]⟩ : ByteArray), .int .i64 300, .string (⟨#[215, 169]⟩ : ByteArray), .int .i64 200, .string (⟨#[215, 168]⟩ : ByteArray), .int .i64 100, .string (⟨#[215, 167]⟩ : ByteArray), .int .i64 90, .string (⟨#[215, 166]⟩ : ByteArray), .int .i64 80, .string (⟨#[215, 164]⟩ : ByteArray), .int .i64 70, .string (⟨#[215, 162]⟩ : ByteArray), .int .i64 60, .string (⟨#[215, 161]⟩ : ByteArray), .int .i64 50, .string (⟨#[215, 160]⟩ : ByteArray), .int .i64 40, .string (⟨#[215, 158]⟩ : ByteArray), .int .i64 30, .string (⟨#[215, 156]⟩ : ByteArray), .int .i64 20, .string (⟨#[215, 155]⟩ : ByteArray), .int .i64 16, .string (⟨#[215, 152, 215, 150]⟩ : ByteArray), .int .i64 15, .string (⟨#[215, 152, 215, 149]⟩ : ByteArray), .int .i64 10, .string (⟨#[215, 153]⟩ : ByteArray), .int .i64 9, .string (⟨#[215, 152]⟩ : ByteArray), .int .i64 8, .string (⟨#[215, 151]⟩ : ByteArray), .int .i64 7, .string (⟨#[215, 150]⟩ : ByteArray), .int .i64 6, .string (⟨#[215, 149]⟩ : ByteArray), .int .i64 5, .string (⟨#[215, 148]⟩ : ByteArray), .int .i64 4, .string (⟨#[215, 147]⟩ : ByteArray), .int .i64 3, .string (⟨#[215, 146]⟩ : ByteArray), .int .i64 2, .string (⟨#[215, 145]⟩ : ByteArray), .int .i64 1, .string (⟨#[215, 144]⟩ : ByteArray)]) (ok := fun _ => True) (okp := fun _ => True) ?hr ?hp (fun _ hk => hk) trivial (Below.refl _ _) (Nat.le_refl _) (by simp) ?_; (case hd => rfl); (case hg => rfl); (case hr => first | (go_simp; done) | (go_simp; rfl)); (case hp => exact (Reps.c2 (show Kd.M k113 _ _ _ (⟨400, (⟨#[215, 170]⟩ : ByteArray)⟩ : S113) [.int .i64 400, .string (⟨#[215, 170]⟩ : ByteArray)] from (k113_mkM _ _ _ (⟨400, (⟨#[215, 170]⟩ : ByteArray)⟩ : S113) )) (Reps.c2 (show Kd.M k113 _ _ _ (⟨300, (⟨#[215, 169]⟩ : ByteArray)⟩ : S113) [.int .i64 300, .string (⟨#[215, 169]⟩ : ByteArray)] from (k113_mkM _ _ _ (⟨300, (⟨#[215, 169]⟩ : ByteArray)⟩ : S113) )) (Reps.c2 (show Kd.M k113 _ _ _ (⟨200, (⟨#[215, 168]⟩ : ByteArray)⟩ : S113) [.int .i64 200, .string (⟨#[215, 168]⟩ : ByteArray)] from (k113_mkM _ _ _ (⟨200, (⟨#[215, 168]⟩ : ByteArray)⟩ : S113) )) (Reps.c2 (show Kd.M k113 _ _ _ (⟨100, (⟨#[215, 167]⟩ : ByteArray)⟩ : S113) [.int .i64 100, .string (⟨#[215, 167]⟩ : ByteArray)] from (k113_mkM _ _ _ (⟨100, (⟨#[215, 167]⟩ : ByteArray)⟩ : S113) )) (Reps.c2 (show Kd.M k113 _ _ _ (⟨90, (⟨#[215, 166]⟩ : ByteArray)⟩ : S113) [.int .i64 90, .string (⟨#[215, 166]⟩ : ByteArray)] from (k113_mkM _ _ _ (⟨90, (⟨#[215, 166]⟩ : ByteArray)⟩ : S113) )) (Reps.c2 (show Kd.M k113 _ _ _ (⟨80, (⟨#[215, 164]⟩ : ByteArray)⟩ : S113) [.int .i64 80, .string (⟨#[215, 164]⟩ : ByteArray)] from (k113_mkM _ _ _ (⟨80, (⟨#[215, 164]⟩ : ByteArray)⟩ : S113) )) (Reps.c2 (show Kd.M k113 _ _ _ (⟨70, (⟨#[215, 162]⟩ : ByteArray)⟩ : S113) [.int .i64 70, .string (⟨#[215, 162]⟩ : ByteArray)] from (k113_mkM _ _ _ (⟨70, (⟨#[215, 162]⟩ : ByteArray)⟩ : S113) )) (Reps.c2 (show Kd.M k113 _ _ _ (⟨60, (⟨#[215, 161]⟩ : ByteArray)⟩ : S113) [.int .i64 60, .string (⟨#[215, 161]⟩ : ByteArray)] from (k113_mkM _ _ _ (⟨60, (⟨#[215, 161]⟩ : ByteArray)⟩ : S113) )) (Reps.c2 (show Kd.M k113 _ _ _ (⟨50, (⟨#[215, 160]⟩ : ByteArray)⟩ : S113) [.int .i64 50, .string (⟨#[215, 160]⟩ : ByteArray)] from (k113_mkM _ _ _ (⟨50, (⟨#[215, 160]⟩ : ByteArray)⟩ : S113) )) (Reps.c2 (show Kd.M k113 _ _ _ (⟨40, (⟨#[215, 158]⟩ : ByteArray)⟩ : S113) [.int .i64 40, .string (⟨#[215, 158]⟩ : ByteArray)] from (k113_mkM _ _ _ (⟨40, (⟨#[215, 158]⟩ : ByteArray)⟩ : S113) )) (Reps.c2 (show Kd.M k113 _ _ _ (⟨30, (⟨#[215, 156]⟩ : ByteArray)⟩ : S113) [.int .i64 30, .string (⟨#[215, 156]⟩ : ByteArray)] from (k113_mkM _ _ _ (⟨30, (⟨#[215, 156]⟩ : ByteArray)⟩ : S113) )) (Reps.c2 (show Kd.M k113 _ _ _ (⟨20, (⟨#[215, 155]⟩ : ByteArray)⟩ : S113) [.int .i64 20, .string (⟨#[215, 155]⟩ : ByteArray)] from (k113_mkM _ _ _ (⟨20, (⟨#[215, 155]⟩ : ByteArray)⟩ : S113) )) (Reps.c2 (show Kd.M k113 _ _ _ (⟨16, (⟨#[215, 152, 215, 150]⟩ : ByteArray)⟩ : S113) [.int .i64 16, .string (⟨#[215, 152, 215, 150]⟩ : ByteArray)] from (k113_mkM _ _ _ (⟨16, (⟨#[215, 152, 215, 150]⟩ : ByteArray)⟩ : S113) )) (Reps.c2 (show Kd.M k113 _ _ _ (⟨15, (⟨#[215, 152, 215, 149]⟩ : ByteArray)⟩ : S113) [.int .i64 15, .string (⟨#[215, 152, 215, 149]⟩ : ByteArray)] from (k113_mkM _ _ _ (⟨15, (⟨#[215, 152, 215, 149]⟩ : ByteArray)⟩ : S113) )) (Reps.c2 (show Kd.M k113 _ _ _ (⟨10, (⟨#[215, 153]⟩ : ByteArray)⟩ : S113) [.int .i64 10, .string (⟨#[215, 153]⟩ : ByteArray)] from (k113_mkM _ _ _ (⟨10, (⟨#[215, 153]⟩ : ByteArray)⟩ : S113) )) (Reps.c2 (show Kd.M k113 _ _ _ (⟨9, (⟨#[215, 152]⟩ : ByteArray)⟩ : S113) [.int .i64 9, .string (⟨#[215, 152]⟩ : ByteArray)] from (k113_mkM _ _ _ (⟨9, (⟨#[215, 152]⟩ : ByteArray)⟩ : S113) )) (Reps.c2 (show Kd.M k113 _ _ _ (⟨8, (⟨#[215, 151]⟩ : ByteArray)⟩ : S113) [.int .i64 8, .string (⟨#[215, 151]⟩ : ByteArray)] from (k113_mkM _ _ _ (⟨8, (⟨#[215, 151]⟩ : ByteArray)⟩ : S113) )) (Reps.c2 (show Kd.M k113 _ _ _ (⟨7, (⟨#[215, 150]⟩ : ByteArray)⟩ : S113) [.int .i64 7, .string (⟨#[215, 150]⟩ : ByteArray)] from (k113_mkM _ _ _ (⟨7, (⟨#[215, 150]⟩ : ByteArray)⟩ : S113) )) (Reps.c2 (show Kd.M k113 _ _ _ (⟨6, (⟨#[215, 149]⟩ : ByteArray)⟩ : S113) [.int .i64 6, .string (⟨#[215, 149]⟩ : ByteArray)] from (k113_mkM _ _ _ (⟨6, (⟨#[215, 149]⟩ : ByteArray)⟩ : S113) )) (Reps.c2 (show Kd.M k113 _ _ _ (⟨5, (⟨#[215, 148]⟩ : ByteArray)⟩ : S113) [.int .i64 5, .string (⟨#[215, 148]⟩ : ByteArray)] from (k113_mkM _ _ _ (⟨5, (⟨#[215, 148]⟩ : ByteArray)⟩ : S113) )) (Reps.c2 (show Kd.M k113 _ _ _ (⟨4, (⟨#[215, 147]⟩ : ByteArray)⟩ : S113) [.int .i64 4, .string (⟨#[215, 147]⟩ : ByteArray)] from (k113_mkM _ _ _ (⟨4, (⟨#[215, 147]⟩ : ByteArray)⟩ : S113) )) (Reps.c2 (show Kd.M k113 _ _ _ (⟨3, (⟨#[215, 146]⟩ : ByteArray)⟩ : S113) [.int .i64 3, .string (⟨#[215, 146]⟩ : ByteArray)] from (k113_mkM _ _ _ (⟨3, (⟨#[215, 146]⟩ : ByteArray)⟩ : S113) )) (Reps.c2 (show Kd.M k113 _ _ _ (⟨2, (⟨#[215, 145]⟩ : ByteArray)⟩ : S113) [.int .i64 2, .string (⟨#[215, 145]⟩ : ByteArray)] from (k113_mkM _ _ _ (⟨2, (⟨#[215, 145]⟩ : ByteArray)⟩ : S113) )) (Reps.c2 (show Kd.M k113 _ _ _ (⟨1, (⟨#[215, 144]⟩ : ByteArray)⟩ : S113) [.int .i64 1, .string (⟨#[215, 144]⟩ : ByteArray)] from (k113_mkM _ _ _ (⟨1, (⟨#[215, 144]⟩ : ByteArray)⟩ : S113) )) (Reps.none _ _)))))))))))))))))))))))))); intro v127 w8 ho9 hb hg_ hnew_; clear hg_ hnew_; (first | rw [← Ny126.out] at ho9 | (simp only [Int.reduceToNat] at ho9; rw [← Ny126.out] at ho9)); have n0_ := Aside0.mk (Kd.R_lower ho9 (below_size (by repeat (first | (with_reducible first | exact HB.out | apply below_alloc | apply pw_below_drewN | apply below_drew1) | exact HB.out)))); have n1_ := Aside0.mk (below_step (by repeat (first | (with_reducible first | exact HB.out | apply below_alloc | apply pw_below_drewN | apply below_drew1) | exact HB.out)) hb); clear HB; have HO128 := n0_; have HB := n1_; clear n0_ n1_; clear hb ho9))
      go_ret
      exact ⟨_, by first | rfl | (simp [errW_none, errW_some] <;> rfl) | (simp [*, errW_none, errW_some] <;> rfl), by (with_reducible repeat (first | apply Kd.R_alloc | apply Kd.R_drewN | apply Kd.R_drew)); exact HO128.out, by repeat (first | (with_reducible first | exact HB.out | apply below_alloc | apply pw_below_drewN | apply below_drew1) | exact HB.out)⟩

end Go.Proofs.YtcmanidhilkhnaaDoor.PNumeralPads
