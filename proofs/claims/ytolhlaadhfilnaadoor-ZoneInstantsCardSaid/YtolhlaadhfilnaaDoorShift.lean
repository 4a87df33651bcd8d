import Derived.Test.YtolhlaadhfilnaaDoorWMore
import Derived.Laws.IdiomCopy
namespace Go.Proofs.YtolhlaadhfilnaaDoorW.PrintWords
open Go.RowKit
set_option linter.unusedVariables false
namespace Kd
/-- copy(v[i+1:], v[i:]) within a row of scalars of one's own: from place i on all moves up by one; the last element is dropped. -/
theorem R_shift_run {P : Program} {α : Type} {enc : α → Value} {h1 : ∀ x, (enc x).oneCell' = true} (d : α) {W : World} (base : Nat) (t ty e : TypeId) (ht : P.underlying t = some (.slice e)) (hinfo : (P.info? e).map (·.size) = some 1)
    (g cap : Nat) (xs : List α) (i : Nat) (hi : i < xs.length) (ok : Nat → Prop) (dp : Option Addr) (hdp : i + 1 < xs.length → dp = some ⟨g, i + 1, none⟩) (HO : (scalar enc h1).R e W base ok (.slice (some ⟨g, 0, none⟩) xs.length cap) xs) :
    ∃ w1, (Builtin.copy_ #[t, t] ty #[.slice dp (xs.length - (i + 1)) (cap - (i + 1)), .slice (some ⟨g, i, none⟩) (xs.length - i) (cap - i)]).run P W = .ok (goInt ((xs.length - (i + 1) : Nat) : Int)) w1 ∧
      (scalar enc h1).R e w1 base ok (.slice (some ⟨g, 0, none⟩) xs.length cap) (xs.take (i + 1) ++ (xs.drop i).take (xs.length - (i + 1))) ∧ W.grownBy w1 (some g) ∧ ∀ w0, Below base w0 W → base ≤ W.heap.size → Below base w0 w1 := by
  by_cases hlast : i + 1 = xs.length
  · refine ⟨W, ?_, ?_, World.grownBy.refl W _, fun _ h _ => h⟩
    · rw [show xs.length - (i + 1) = 0 from by omega]
      exact run_copy_none W t t ty e dp (some ⟨g, i, none⟩) 0 (cap - (i + 1)) (xs.length - i) (cap - i) ht hinfo (by simp)
    · rw [show xs.length - (i + 1) = 0 from by omega, List.take_zero, List.append_nil, List.take_of_length_le (by omega)]
      exact HO
  obtain rfl := hdp (by omega)
  have hown := own_of_R HO
  rcases hown.2 with ⟨_, hx0⟩ | ⟨g', cap', cur, hv, hb, hh, hnc, hcm, hcs, htake⟩
  · omega
  injection hv with hv1 hv2 hv3
  injection hv1 with hv1
  injection hv1 with hv1
  subst hv1
  subst hv3
  have hcs1 : cur.size = cap := by omega
  obtain ⟨ys, hys⟩ : ∃ ys, ys = (xs.drop i).take (xs.length - (i + 1)) := ⟨_, rfl⟩
  have hyl : ys.length = xs.length - (i + 1) := by rw [hys, List.length_take, List.length_drop]; omega
  have hkl : (encs enc ys).length = xs.length - (i + 1) := by rw [encs_length, hyl]
  have htk : cur.toList.take xs.length = encs enc xs := by rw [← htake, Nat.mul_one]
  have hget : ∀ j, j < xs.length → cur.toList[j]? = (encs enc xs)[j]? := by
    intro j hj
    rw [← htk, List.getElem?_take, if_pos hj]
  have hsrc : ∀ j u, (encs enc ys)[j]? = some u → W.cell? ((⟨g, i, none⟩ : Addr).add j) = some u := by
    intro j u hu
    have hj : j < xs.length - (i + 1) := by
      rcases Nat.lt_or_ge j (xs.length - (i + 1)) with h | h
      · exact h
      · rw [List.getElem?_eq_none (by rw [hkl]; exact h)] at hu
        cases hu
    have h2 := hget (i + j) (by omega)
    have h3 : W.cell? ⟨g, i + j, none⟩ = cur[i + j]? := cell_of_row W g (i + j) cur e (0, 0) hh
    rw [show (⟨g, i, none⟩ : Addr).add j = ⟨g, i + j, none⟩ from by simp [Addr.add]]
    rw [h3, ← Array.getElem?_toList, h2, ← hu, hys]
    simp only [encs, List.getElem?_map, List.getElem?_take, List.getElem?_drop]
    rw [if_pos hj]
  have hr := run_copy_cells (P := P) W t t ty e g (i + 1) (xs.length - (i + 1)) (cap - (i + 1)) ⟨g, i, none⟩ (xs.length - i) (cap - i) (encs enc ys) ht hinfo (by rw [hkl]; simp only [Nat.min_def]; split <;> omega) hsrc
    (fun j hj => by rw [cell_of_row W g _ cur e (0, 0) hh]; simp; omega) (fun j _ => blk_frozen hh _) (by intro u hu; simp only [encs, List.mem_map] at hu; obtain ⟨q, _, rfl⟩ := hu; exact h1 q)
  obtain ⟨cur', h3, h4, h5⟩ := setCells_row (encs enc ys) (i + 1) W cur hh (by rw [hkl]; omega)
  obtain ⟨s1, s2, s3, s4⟩ := setCells_same g (encs enc ys) (i + 1) W
  have hgr : W.grownBy (W.setCells g (i + 1) (encs enc ys)) (some g) := ⟨s1, s2, s3, by rw [s4]; exact Nat.le_refl _, fun k _ hk => setCells_far _ _ k (fun he => hk (by rw [he]))⟩
  refine ⟨_, by rw [hr, hkl], R_of_own ?_ HO.1, hgr, fun w0 HB hbase => HB.grown hgr hbase (own_base hown)⟩
  rw [← hys]
  have hln : (xs.take (i + 1) ++ ys).length = xs.length := by rw [List.length_append, List.length_take, hyl]; omega
  rw [show (Value.slice (some ⟨g, 0, none⟩) xs.length cap) = Value.slice (some ⟨g, 0, none⟩) (xs.take (i + 1) ++ ys).length cap from by rw [hln]]
  have e1 : cur.toList.take (i + 1) = encs enc (xs.take (i + 1)) := by
    rw [show encs enc (xs.take (i + 1)) = (encs enc xs).take (i + 1) from by simp [encs, List.map_take], ← htk, List.take_take, Nat.min_eq_left (by omega)]
  have hL : (encs enc (xs.take (i + 1)) ++ encs enc ys).length = xs.length := by rw [List.length_append, encs_length, encs_length, List.length_take, hyl]; omega
  have hfin : cur'.toList.take xs.length = encs enc (xs.take (i + 1) ++ ys) := by
    rw [h5, e1, encs_append]
    rw [← hL]
    exact List.take_left
  exact ⟨by rw [encs_length, Nat.mul_one], .inr ⟨g, cap, cur', rfl, hb, h3, by rw [hln]; exact hnc, hcm, by rw [h4, hcs], by rw [hln, Nat.mul_one]; exact hfin⟩⟩
/-- The same as one step of a region that draws its order. -/
theorem R_shift_step {P : Program} {ops : Array Oper} {o : Oper} {a : Act} {K : Act → World → Prop} {Q : Exit → Act → World → Prop} {E : Prop} {α : Type} {enc : α → Value} {h1 : ∀ x, (enc x).oneCell' = true} (d : α) {w0 W : World} (base : Nat) (hgd : o.guard = none)
    (s x : Operand) (t e : TypeId) (ho : o.op = .call { callee := .builtin .copy, args := #[s, x], argTypes := #[t, t] }) (ht : P.underlying t = some (.slice e)) (hinfo : (P.info? e).map (·.size) = some 1)
    (g cap : Nat) (xs : List α) (i : Nat) (hi : i < xs.length) (ok : Nat → Prop) (dp : Option Addr) (hdp : i + 1 < xs.length → dp = some ⟨g, i + 1, none⟩) (hs : a.eval s = .slice dp (xs.length - (i + 1)) (cap - (i + 1))) (hx : a.eval x = .slice (some ⟨g, i, none⟩) (xs.length - i) (cap - i))
    (HO : (scalar enc h1).R e W base ok (.slice (some ⟨g, 0, none⟩) xs.length cap) xs) (HB : Below base w0 W) (hbase : base ≤ W.heap.size)
    (h : ∀ w1, (scalar enc h1).R e w1 base ok (.slice (some ⟨g, 0, none⟩) xs.length cap) (xs.take (i + 1) ++ (xs.drop i).take (xs.length - (i + 1))) → Below base w0 w1 → W.grownBy w1 (some g) → K (a.put o.dst (goInt ((xs.length - (i + 1) : Nat) : Int))) w1) :
    if Region.wanted o (yielded ops a.tmps) = true then Oper.wp P o a W K Q else E := by
  have hw : Region.wanted o (yielded ops a.tmps) = true := by simp [Region.wanted, hgd]
  rw [if_pos hw]
  obtain ⟨w1, hr, hrow, hg, _⟩ := R_shift_run (P := P) (h1 := h1) d base t o.type e ht hinfo g cap xs i hi ok dp hdp HO
  have hown := own_of_R HO
  unfold Oper.wp execOp
  simp only [ho, resolve, invoke, builtin, Sem.run_bind, Sem.run_pure, Result.andThen_ok, List.map_toArray, List.map_cons, List.map_nil, hs, hx, hr]
  exact h w1 hrow (HB.grown hg hbase (own_base hown)) hg
end Kd
end Go.Proofs.YtolhlaadhfilnaaDoorW.PrintWords
