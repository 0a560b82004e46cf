/-
  Slices that are made or written out, and copies.
-/
import Derived.Test.YtmcfkedagmfhcaaM5b
import Derived.Great.BuildSlice
import Derived.Laws.CopyRow
namespace Go.Proofs.Ytmcfkedagmfhcaa.M
open Go Go.RowKit
section
variable {P : Program} {N : Nat} {S : Nat → Prop} {w : World} {μ : Mu} {e : Env} {a : Act} {h : H} {pm : Nat → Prop}

theorem rows_len (zs : List AV) : ∀ n, (rows zs n).length = n * zs.length := by
  intro n
  induction n with
  | zero => simp [rows]
  | succ n ih =>
    unfold rows at ih ⊢
    rw [List.range_succ, List.flatMap_append, List.length_append, ih, Nat.succ_mul]
    simp

theorem rows_succ (zs : List AV) (n : Nat) : rows zs (n + 1) = rows zs n ++ zs := by
  unfold rows
  rw [List.range_succ, List.flatMap_append]
  simp

theorem rows_get (zs : List AV) : ∀ (n i : Nat) (x : AV), (rows zs n)[i]? = some x → zs[i % zs.length]? = some x
  | 0, i, x, h => by simp [rows] at h
  | n + 1, i, x, h => by
    rw [rows_succ] at h
    by_cases hi : i < (rows zs n).length
    · rw [List.getElem?_append_left hi] at h
      exact rows_get zs n i x h
    · rw [List.getElem?_append_right (by omega)] at h
      rw [rows_len] at hi h
      have hlt := (List.getElem?_eq_some_iff.1 h).1
      have : i % zs.length = i - n * zs.length := by
        conv => lhs; rw [show i = (i - n * zs.length) + zs.length * n by rw [Nat.mul_comm zs.length n]; omega]
        rw [Nat.add_mul_mod_self_left, Nat.mod_eq_of_lt hlt]
      rw [this]
      exact h

theorem rows_one {zs : List AV} (h : zs.all one = true) (n : Nat) : (rows zs n).all one = true := by
  rw [List.all_eq_true] at h ⊢
  intro x hx
  unfold rows at hx
  obtain ⟨_, _, hx⟩ := List.mem_flatMap.1 hx
  exact h x hx

theorem rows_VR {zs : List AV} {z : Array Value} {n : Nat} (hl : zs.length = z.size) (hv : ∀ (i : Nat) (x : AV), zs[i]? = some x → VR S w μ x (z.getD i undef)) :
    ((Array.range (n * z.size)).map (z[· % z.size]!)).size = (rows zs n).length ∧ ∀ (i : Nat) (x : AV), (rows zs n)[i]? = some x → VR S w μ x (((Array.range (n * z.size)).map (z[· % z.size]!)).getD i undef) := by
  refine ⟨by simp [rows_len, hl], fun i x hx => ?_⟩
  have hlt := (List.getElem?_eq_some_iff.1 hx).1
  rw [rows_len, hl] at hlt
  have hg := rows_get zs n i x hx
  rw [hl] at hg
  have hv := hv _ _ hg
  have hm : i % z.size < z.size := by
    have := (List.getElem?_eq_some_iff.1 hg).1
    omega
  simp only [Array.getD_eq_getD_getElem?, Array.getElem?_map, Array.getElem?_range, if_pos hlt, Option.map_some, Option.getD_some, Array.getElem?_eq_getElem hm] at hv ⊢
  rwa [getElem!_pos z _ hm]

theorem mapM_partsS {sz : Nat} {xs : List (Nat × Operand)} {ys : List (Nat × Nat × Opd)} (hx : xs.mapM (rPartS N sz) = some ys) (he : ER N S w μ e a.tmps) :
    xs.length = ys.length ∧ ∀ (i : Nat) (y : Nat × Nat × Opd), ys[i]? = some y → ∃ j x, xs[i]? = some (j, x) ∧ y.1 = j * sz ∧ y.2.1 = sz ∧ VR S w μ (evO e y.2.2) (a.eval x) := by
  induction xs generalizing ys with
  | nil => simp at hx; subst hx; simp
  | cons v r ih =>
    simp only [List.mapM_cons, Option.bind_eq_bind, Option.bind_eq_some_iff] at hx
    obtain ⟨y, hy, ys', hys, hr⟩ := hx
    injection hr with hr
    subst hr
    obtain ⟨x', hx', rfl⟩ := Option.map_eq_some_iff.1 hy
    obtain ⟨h1, h2⟩ := ih hys
    refine ⟨by simp [h1], fun i z hz => ?_⟩
    cases i with
    | zero =>
      simp at hz
      subst hz
      exact ⟨v.1, v.2, rfl, rfl, rfl, opd_sound hx' he⟩
    | succ i => simpa using h2 i z (by simpa using hz)

theorem do_bsl {t len parts el i z zs ps K} (o : Oper) (ho : o.op = .buildSlice t len parts) (ht : P.underlying t = some (.slice el)) (hi : P.info? el = some i) (hz : i.zero = some z) (hz0 : z.cells.size = i.size) (hpos : i.size ≠ 0)
    (hsm : ¬ 16777216 < len * i.size) (hzs : absCells z = some zs) (hps : parts.toList.mapM (rPartS N i.size) = some ps) (hr : HR S w μ h) (he : ER N S w μ e a.tmps) (hK : ev1 pm e h K (.bsl i.size len zs ps)) : Does P pm S w μ a o K := by
  simp only [ev1] at hK
  split at hK
  · rename_i cs hcs
    obtain ⟨h1, hK⟩ := hK
    obtain ⟨c1, c2, c3⟩ := abs_cells (S := S) (w := w) (μ := μ) hzs
    obtain ⟨p1, p2⟩ := mapM_partsS hps he
    obtain ⟨r1, r2⟩ := rows_VR (n := len) c1 c2
    obtain ⟨arr', g1, g2, g3⟩ := fill_sound (S := S) (w := w) (μ := μ) (place := fun j => some (j * i.size, i.size)) (vs := (parts.map fun (i, x) => (i, a.eval x)).toList) (arr := (Array.range (len * z.cells.size)).map (z.cells[· % z.cells.size]!)) hcs (fun i' p hp => by
      rw [List.getElem?_map, Option.map_eq_some_iff] at hp
      obtain ⟨q, hq, rfl⟩ := hp
      obtain ⟨j, x, hx, hj1, hj2, hv⟩ := p2 i' q hq
      exact ⟨j, a.eval x, by simp [hx] , by simp [hj1, hj2], hv⟩) (by simp [← p1]) r1 r2
    have g0 := g1
    rw [show len * z.cells.size = len * i.size by rw [hz0]] at g1
    have hsz : arr'.size = len * i.size := by
      rw [g2]
      have : zs.length = i.size := c1.trans hz0
      have hfl : ∀ {ps : List (Nat × Nat × AV)} {c d : List AV}, fillA c ps = some d → d.length = c.length := by
        intro ps
        induction ps with
        | nil => intro c d hh; simp [fillA] at hh; rw [hh]
        | cons p ps ih =>
          intro c d hh
          obtain ⟨p1, p2, p3⟩ := p
          simp only [fillA] at hh
          split at hh
          · rename_i hc
            rw [ih hh, over_len (by omega)]
          · cases hh
      rw [hfl hcs, rows_len, this]
    have hrun : (Instr.buildSlice t len (parts.map fun (i, x) => (i, a.eval x))).run P w = .ok (.slice (some ⟨w.heap.size, 0, none⟩) len len) (w.alloc (.cells arr' el)) := by
      by_cases hl0 : len = 0
      · subst hl0
        simp only [Nat.zero_mul, Array.range_zero', Array.map_empty, Array.toList_map] at g1
        simp [Instr.buildSlice, run_underlying ht, sizeOf, typeInfo, hi, g1, newRow, Array.range_zero']
      · exact run_buildSlice w t el len _ arr' i z ht hi hz (by omega) (fun hc => by rcases Nat.mul_eq_zero.1 hc with hc | hc <;> contradiction) g1
    have hml : len ≤ 16777216 := Nat.le_trans (Nat.le_mul_of_pos_right len (Nat.pos_of_ne_zero hpos)) (by omega)
    obtain ⟨f1, f2⟩ := fresh (pm := pm) (t := el) hr (Nat.le_of_eq g2.symm) h1 g3
    refine ⟨_, .slice (some ⟨w.heap.size, 0, none⟩) len len, _, _, _, _, ?_, .inl rfl, hK, new_sl hr _ (Nat.le_refl _) (Nat.le_refl _) (by simp [maxLen]; omega) (Nat.pos_of_ne_zero hpos) (Nat.le_of_eq hsz.symm), f1, f2⟩
    simp only [execOp, ho, Sem.run_bind, hrun, Result.andThen_ok]
    rfl
  · exact hK.elim

theorem do_mks {t l c l' c' el i z zs K} (o : Oper) (ho : o.op = .makeSlice t l c) (hl : rOpd N l = some l') (hc : rOpd N c = some c') (ht : P.underlying t = some (.slice el)) (hi : P.info? el = some i) (hz : i.zero = some z) (hz0 : z.cells.size = i.size) (hpos : i.size ≠ 0) (hb : i.bytes ≠ 0)
    (hzs : absCells z = some zs) (hr : HR S w μ h) (he : ER N S w μ e a.tmps) (hK : ev1 pm e h K (.mks i.size i.bytes zs l' c')) : Does P pm S w μ a o K := by
  simp only [ev1] at hK
  split at hK
  · rename_i kl n kc m hn hm
    obtain ⟨h0, h1, h2, hK⟩ := hK
    have e1 := (at_ hl he hn).int_
    have e2 := (at_ hc he hm).int_
    obtain ⟨c1, c2, c3⟩ := abs_cells (S := S) (w := w) (μ := μ) hzs
    obtain ⟨r1, r2⟩ := rows_VR (n := m.toNat) c1 c2
    have hm1 : m ≤ m * i.bytes := by
      have : m * 1 ≤ m * (i.bytes : Int) := Int.mul_le_mul_of_nonneg_left (by omega) (by omega)
      omega
    have hrun := run_make (P := P) w t el i z ht hi hz kl kc n m h0 h1 (by rw [Int.mul_comm]; omega) (by omega)
    unfold madeCells at hrun
    rw [hz0] at r1 r2 hrun
    obtain ⟨f1, f2⟩ := fresh (pm := pm) (t := el) hr (Nat.le_of_eq r1.symm) (rows_one c3 m.toNat) r2
    refine ⟨_, .slice (some ⟨w.heap.size, 0, none⟩) n.toNat m.toNat, _, _, _, _, ?_, .inl rfl, hK, new_sl hr _ (by omega) (Nat.le_refl _) (by simp [maxLen]; omega) (Nat.pos_of_ne_zero hpos) (by simp), f1, f2⟩
    simp [execOp, ho, e1, e2, hrun]
  · exact hK.elim
end
end Go.Proofs.Ytmcfkedagmfhcaa.M
