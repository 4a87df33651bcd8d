import Derived.Test.YtolhlaadhfilnaaDoorWMore
import Derived.Laws.CopyRow
namespace Go.Proofs.YtolhlaadhfilnaaDoorW.PrintWords
open Go.RowKit
set_option linter.unusedVariables false
namespace Kd
theorem flat_len {α : Type} {enc : α → List Value} {sz : Nat} (hlen : ∀ x, (enc x).length = sz) : ∀ xs : List α, (xs.flatMap enc).length = xs.length * sz
  | [] => by simp
  | x :: r => by rw [List.flatMap_cons, List.length_append, hlen, flat_len hlen r, List.length_cons, Nat.succ_mul]; omega
theorem flat_drop {α : Type} {enc : α → List Value} {sz : Nat} (hlen : ∀ x, (enc x).length = sz) : ∀ (xs : List α) (i : Nat), (xs.flatMap enc).drop (i * sz) = (xs.drop i).flatMap enc
  | xs, 0 => by simp
  | [], i + 1 => by simp
  | x :: r, i + 1 => by
    rw [List.flatMap_cons, List.drop_succ_cons, ← flat_drop hlen r i, Nat.succ_mul, Nat.add_comm, ← List.drop_drop, ← hlen x, List.drop_left]
theorem flat_take {α : Type} {enc : α → List Value} {sz : Nat} (hlen : ∀ x, (enc x).length = sz) : ∀ (xs : List α) (i : Nat), (xs.flatMap enc).take (i * sz) = (xs.take i).flatMap enc
  | xs, 0 => by simp
  | [], i + 1 => by simp
  | x :: r, i + 1 => by
    rw [List.flatMap_cons, List.take_succ_cons, List.flatMap_cons, ← flat_take hlen r i, Nat.succ_mul, Nat.add_comm, List.take_append, hlen x, List.take_of_length_le (by rw [hlen x]; omega), Nat.add_sub_cancel_left]
theorem reps_flat {α : Type} {R : α → List Value → Prop} {enc : α → List Value} {sz : Nat} (hR : ∀ x c, R x c → c = enc x) (hlen : ∀ x, (enc x).length = sz) : ∀ (xs : List α) (cs : List Value), Reps R sz xs cs → cs = xs.flatMap enc
  | [], cs, h => by have := h.1; rw [List.length_nil, Nat.zero_mul] at this; rw [List.length_eq_zero_iff.1 this]; rfl
  | x :: r, cs, h => by
    have h0 := hR _ _ (h.2 0 x rfl)
    rw [Nat.zero_mul, List.drop_zero] at h0
    have hl := h.1
    rw [List.length_cons, Nat.succ_mul] at hl
    have ih := reps_flat (R := R) hR hlen r (cs.drop sz) ⟨by rw [List.length_drop, hl]; omega, fun j p hp => by
      have := h.2 (j + 1) p (by simpa using hp)
      rw [List.drop_drop]
      rwa [Nat.succ_mul, Nat.add_comm] at this⟩
    rw [List.flatMap_cons, ← ih, ← h0, List.take_append_drop]
theorem flat_reps {α : Type} {R : α → List Value → Prop} {enc : α → List Value} {sz : Nat} (hR : ∀ x, R x (enc x)) (hlen : ∀ x, (enc x).length = sz) (xs : List α) : Reps R sz xs (xs.flatMap enc) := by
  refine ⟨flat_len hlen xs, fun j p hp => ?_⟩
  have hj : j < xs.length := (List.getElem?_eq_some_iff.1 hp).1
  rw [flat_drop hlen, List.drop_eq_getElem_cons hj, List.flatMap_cons, ← hlen xs[j], List.take_left]
  rw [List.getElem?_eq_getElem hj] at hp
  rw [Option.some.inj hp]
  exact hR p
theorem run_copyN {P : Program} (w : World) (dT sT ty elem : TypeId) (g o dLen dCap : Nat) (a : Addr) (sLen sCap : Nat) (cur : Array Value) (t : TypeId) (cs : List Value) (n sz : Nat)
    (hu : P.underlying dT = some (.slice elem)) (hs : (P.info? elem).map (·.size) = some sz)
    (hg : w.heap[g]? = some (.cells cur t (0, 0))) (hn : n = Nat.min sLen dLen) (hcs : cs.length = n * sz)
    (hsrc : ∀ j v, cs[j]? = some v → w.cell? (a.add j) = some v) (hfit : o + cs.length ≤ cur.size) (h1 : ∀ v ∈ cs, v.oneCell' = true) :
    (Builtin.copy_ #[dT, sT] ty #[.slice (some ⟨g, o, none⟩) dLen dCap, .slice (some a) sLen sCap]).run P w =
      .ok (goInt n) (w.setRow g (cur.toList.take o ++ cs ++ cur.toList.drop (o + cs.length)).toArray) := by
  have hl := run_loadCells_list (P := P) w a cs hsrc
  have hst := run_storeCells_at P g o t cs 0 cur w hg (by simpa using hfit) h1
  rw [hcs] at hl
  cases hq : P.info? elem with
  | none => simp [hq] at hs
  | some i =>
    have hi : i.size = sz := by simpa [hq] using hs
    simp [Builtin.copy_, run_underlying hu, Builtin.lenOf, Builtin.firstCells, sizeOf, typeInfo, hq, hi, ← hn, hl, hst]
theorem run_copyN_none {P : Program} (w : World) (dT sT ty elem : TypeId) (d : Option Addr) (a : Addr) (dCap sLen sCap : Nat) (hu : P.underlying dT = some (.slice elem)) (hs : ((P.info? elem).map (·.size)).isSome = true) :
    (Builtin.copy_ #[dT, sT] ty #[.slice d 0 dCap, .slice (some a) sLen sCap]).run P w = .ok (goInt 0) w := by
  cases hq : P.info? elem with
  | none => simp [hq] at hs
  | some i =>
    have hl : (loadCells a 0).run P w = .ok #[] w := by simpa using run_loadCells_list (P := P) w a [] (by simp)
    cases d <;> simp [Builtin.copy_, run_underlying hu, Builtin.lenOf, Builtin.firstCells, sizeOf, typeInfo, hq, storeCells, hl]
/-- copy(v[i+1:], v[i:]) within a row of one's own whose elements hold no rows: from place i on all moves up by one; the last element is dropped. -/
theorem R_shiftN_run {P : Program} {α : Type} (d : Kd α) (enc : α → List Value) (hopen : ∀ {w b ok x cs}, d.M w b ok x cs → cs = enc x) (hmk : ∀ w b ok x, d.M w b ok x (enc x)) (hlen : ∀ x, (enc x).length = d.sz) (hone : ∀ x, ∀ u ∈ enc x, u.oneCell' = true)
    {W : World} (base : Nat) (t ty e : TypeId) (ht : P.underlying t = some (.slice e)) (hinfo : (P.info? e).map (·.size) = some d.sz)
    (g cap : Nat) (xs : List α) (i : Nat) (hi : i < xs.length) (ok : Nat → Prop) (dp : Option Addr) (hdp : i + 1 < xs.length → dp = some ⟨g, (i + 1) * d.sz, none⟩) (HO : d.R e W base ok (.slice (some ⟨g, 0, none⟩) xs.length cap) xs) :
    ∃ w1, (Builtin.copy_ #[t, t] ty #[.slice dp (xs.length - (i + 1)) (cap - (i + 1)), .slice (some ⟨g, i * d.sz, none⟩) (xs.length - i) (cap - i)]).run P W = .ok (goInt ((xs.length - (i + 1) : Nat) : Int)) w1 ∧
      d.R e w1 base ok (.slice (some ⟨g, 0, none⟩) xs.length cap) (xs.take (i + 1) ++ (xs.drop i).take (xs.length - (i + 1))) ∧ W.grownBy w1 (some g) ∧ ∀ w0, Below base w0 W → base ≤ W.heap.size → Below base w0 w1 := by
  by_cases hlast : i + 1 = xs.length
  · refine ⟨W, ?_, ?_, World.grownBy.refl W _, fun _ h _ => h⟩
    · rw [show xs.length - (i + 1) = 0 from by omega]
      exact run_copyN_none W t t ty e dp ⟨g, i * d.sz, none⟩ (cap - (i + 1)) (xs.length - i) (cap - i) ht (by rw [hinfo]; rfl)
    · rw [show xs.length - (i + 1) = 0 from by omega, List.take_zero, List.append_nil, List.take_of_length_le (by omega)]
      exact HO
  obtain rfl := hdp (by omega)
  obtain ⟨hok, inner, hown, hreps⟩ := HO
  obtain rfl := reps_flat (fun x c h => hopen h) hlen xs inner hreps
  have hown0 := hown
  rcases hown.2 with ⟨hx0, _⟩ | ⟨g', cap', cur, hv, hb, hh, hnc, hcm, hcs, htake⟩
  · cases hx0
  injection hv with hv1 hv2 hv3
  injection hv1 with hv1
  injection hv1 with hv1
  subst hv1
  subst hv3
  obtain ⟨ys, hys⟩ : ∃ ys, ys = (xs.drop i).take (xs.length - (i + 1)) := ⟨_, rfl⟩
  have hyl : ys.length = xs.length - (i + 1) := by rw [hys, List.length_take, List.length_drop]; omega
  have hkl : (ys.flatMap enc).length = (xs.length - (i + 1)) * d.sz := by rw [flat_len hlen, hyl]
  have hfl := flat_len hlen xs
  have hnsz : (i + 1) * d.sz + (xs.length - (i + 1)) * d.sz = xs.length * d.sz := by rw [← Nat.add_mul]; congr 1; omega
  have hcapsz : xs.length * d.sz ≤ cap * d.sz := Nat.mul_le_mul_right _ hnc
  have hyeq : ys.flatMap enc = ((xs.flatMap enc).drop (i * d.sz)).take ((xs.length - (i + 1)) * d.sz) := by rw [flat_drop hlen, flat_take hlen, hys]
  have hget : ∀ j, j < xs.length * d.sz → cur.toList[j]? = (xs.flatMap enc)[j]? := by
    intro j hj
    rw [← htake, List.getElem?_take, if_pos hj]
  have hsrc : ∀ j u, (ys.flatMap enc)[j]? = some u → W.cell? ((⟨g, i * d.sz, none⟩ : Addr).add j) = some u := by
    intro j u hu
    have hj : j < (xs.length - (i + 1)) * d.sz := by
      rcases Nat.lt_or_ge j ((xs.length - (i + 1)) * d.sz) with h | h
      · exact h
      · rw [List.getElem?_eq_none (by rw [hkl]; exact h)] at hu
        cases hu
    have hle : i * d.sz + (xs.length - (i + 1)) * d.sz ≤ xs.length * d.sz := by rw [← Nat.add_mul]; exact Nat.mul_le_mul_right _ (by omega)
    have h2 := hget (i * d.sz + j) (by omega)
    have h3 : W.cell? ⟨g, i * d.sz + j, none⟩ = cur[i * d.sz + j]? := by simp [World.cell?, hh]
    rw [show (⟨g, i * d.sz, none⟩ : Addr).add j = ⟨g, i * d.sz + j, none⟩ from by unfold Addr.add; split <;> simp_all]
    rw [h3, ← Array.getElem?_toList, h2, ← hu, hyeq, List.getElem?_take, if_pos hj, List.getElem?_drop]
  have hr := run_copyN (P := P) W t t ty e g ((i + 1) * d.sz) (xs.length - (i + 1)) (cap - (i + 1)) ⟨g, i * d.sz, none⟩ (xs.length - i) (cap - i) cur e (ys.flatMap enc) (xs.length - (i + 1)) d.sz ht hinfo hh (by simp only [Nat.min_def]; split <;> omega) hkl hsrc (by rw [hkl, hnsz]; omega)
    (by intro u hu; obtain ⟨x, _, hx⟩ := List.mem_flatMap.1 hu; exact hone x u hx)
  have hgr : W.grownBy (W.setRow g (cur.toList.take ((i + 1) * d.sz) ++ ys.flatMap enc ++ cur.toList.drop ((i + 1) * d.sz + (ys.flatMap enc).length)).toArray) (some g) := ⟨rfl, rfl, rfl, by simp [World.setRow], fun k _ hk => setRow_other _ _ _ _ (fun he => hk (by rw [he]))⟩
  refine ⟨_, hr, ⟨hok, (xs.take (i + 1) ++ ys).flatMap enc, ?_, ?_⟩, hgr, fun w0 HB hbase => HB.grown hgr hbase (own_base hown0)⟩
  · have hln : (xs.take (i + 1) ++ ys).length = xs.length := by rw [List.length_append, List.length_take, hyl]; omega
    rw [← hys, hln]
    have e1 : cur.toList.take ((i + 1) * d.sz) = (xs.take (i + 1)).flatMap enc := by
      rw [← flat_take hlen, ← htake, List.take_take, Nat.min_eq_left (by omega)]
    have hL : (cur.toList.take ((i + 1) * d.sz) ++ ys.flatMap enc).length = xs.length * d.sz := by rw [e1, List.length_append, flat_len hlen, hkl, List.length_take, Nat.min_eq_left (by omega)]; exact hnsz
    refine ⟨by rw [flat_len hlen, hln], .inr ⟨g, cap, _, rfl, hb, setRow_heap W g cur _ e _ hh, hnc, hcm, ?_, ?_⟩⟩
    · rw [← hcs, List.size_toArray, List.length_append, hL, hkl, hnsz, List.length_drop]
      have : cur.toList.length = cur.size := Array.length_toList
      omega
    · rw [List.flatMap_append, ← e1]
      show ((cur.toList.take ((i + 1) * d.sz) ++ ys.flatMap enc) ++ cur.toList.drop ((i + 1) * d.sz + (ys.flatMap enc).length)).take (xs.length * d.sz) = _
      rw [← hL]
      exact List.take_left
  · rw [← hys]
    exact flat_reps (fun x => hmk _ _ _ x) hlen _
end Kd
end Go.Proofs.YtolhlaadhfilnaaDoorW.PrintWords
