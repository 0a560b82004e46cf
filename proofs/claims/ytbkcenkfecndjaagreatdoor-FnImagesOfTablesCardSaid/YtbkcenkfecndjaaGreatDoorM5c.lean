/-
  Slices that are made or written out, and copies.
-/
import Derived.Test.YtbkcenkfecndjaaGreatDoorM5b
import Derived.Great.BuildSlice
import Derived.Laws.CopyRow
namespace Go.Proofs.YtbkcenkfecndjaaGreatDoor.M
open Go Go.RowKit
set_option linter.unusedVariables false
set_option linter.unusedSimpArgs false
section
variable {P : Program} {N : Nat} {S : Nat → Prop} {w : World} {μ : Mu} {e : Env} {a : Act} {h : H} {pm : Nat → Prop}

theorem rows_len (zs : List AV) : ∀ n, (rows zs n).length = n * zs.length := by
  intro n
  induction n with
  | zero => simp [rows]
  | succ n ih =>
    unfold rows at ih ⊢
    rw [List.range_succ, List.flatMap_append, List.length_append, ih, Nat.succ_mul]
    simp

theorem rows_succ (zs : List AV) (n : Nat) : rows zs (n + 1) = rows zs n ++ zs := by
  unfold rows
  rw [List.range_succ, List.flatMap_append]
  simp

theorem rows_get (zs : List AV) : ∀ (n i : Nat) (x : AV), (rows zs n)[i]? = some x → zs[i % zs.length]? = some x
  | 0, i, x, h => by simp [rows] at h
  | n + 1, i, x, h => by
    rw [rows_succ] at h
    by_cases hi : i < (rows zs n).length
    · rw [List.getElem?_append_left hi] at h
      exact rows_get zs n i x h
    · rw [List.getElem?_append_right (by omega)] at h
      rw [rows_len] at hi h
      have hlt := (List.getElem?_eq_some_iff.1 h).1
      have : i % zs.length = i - n * zs.length := by
        conv => lhs; rw [show i = (i - n * zs.length) + zs.length * n by rw [Nat.mul_comm zs.length n]; omega]
        rw [Nat.add_mul_mod_self_left, Nat.mod_eq_of_lt hlt]
      rw [this]
      exact h

theorem rows_one {zs : List AV} (h : zs.all one = true) (n : Nat) : (rows zs n).all one = true := by
  rw [List.all_eq_true] at h ⊢
  intro x hx
  unfold rows at hx
  obtain ⟨_, _, hx⟩ := List.mem_flatMap.1 hx
  exact h x hx

theorem rows_VR {zs : List AV} {z : Array Value} {n : Nat} (hl : zs.length = z.size) (hv : ∀ (i : Nat) (x : AV), zs[i]? = some x → VR S w μ x (z.getD i undef)) :
    ((Array.range (n * z.size)).map (z[· % z.size]!)).size = (rows zs n).length ∧ ∀ (i : Nat) (x : AV), (rows zs n)[i]? = some x → VR S w μ x (((Array.range (n * z.size)).map (z[· % z.size]!)).getD i undef) := by
  refine ⟨by simp [rows_len, hl], fun i x hx => ?_⟩
  have hlt := (List.getElem?_eq_some_iff.1 hx).1
  rw [rows_len, hl] at hlt
  have hg := rows_get zs n i x hx
  rw [hl] at hg
  have hv := hv _ _ hg
  have hm : i % z.size < z.size := by
    have := (List.getElem?_eq_some_iff.1 hg).1
    omega
  simp only [Array.getD_eq_getD_getElem?, Array.getElem?_map, Array.getElem?_range, if_pos hlt, Option.map_some, Option.getD_some, Array.getElem?_eq_getElem hm] at hv ⊢
  rwa [getElem!_pos z _ hm]

theorem mapM_partsS {sz : Nat} {xs : List (Nat × Operand)} {ys : List (Nat × Nat × Opd)} (hx : xs.mapM (rPartS N sz) = some ys) (he : ER N S w μ e a.tmps) :
    xs.length = ys.length ∧ ∀ (i : Nat) (y : Nat × Nat × Opd), ys[i]? = some y → ∃ j x, xs[i]? = some (j, x) ∧ y.1 = j * sz ∧ y.2.1 = sz ∧ VR S w μ (evO e y.2.2) (a.eval x) := by
  induction xs generalizing ys with
  | nil => simp at hx; subst hx; simp
  | cons v r ih =>
    simp only [List.mapM_cons, Option.bind_eq_bind, Option.bind_eq_some_iff] at hx
    obtain ⟨y, hy, ys', hys, hr⟩ := hx
    injection hr with hr
    subst hr
    obtain ⟨x', hx', rfl⟩ := Option.map_eq_some_iff.1 hy
    obtain ⟨h1, h2⟩ := ih hys
    refine ⟨by simp [h1], fun i z hz => ?_⟩
    cases i with
    | zero =>
      simp at hz
      subst hz
      exact ⟨v.1, v.2, rfl, rfl, rfl, opd_sound hx' he⟩
    | succ i => simpa using h2 i z (by simpa using hz)

theorem do_bsl {t len parts el i z zs ps K} (o : Oper) (ho : o.op = .buildSlice t len parts) (ht : P.underlying t = some (.slice el)) (hi : P.info? el = some i) (hz : i.zero = some z) (hz0 : z.cells.size = i.size) (hpos : i.size ≠ 0)
    (hsm : ¬ 16777216 < len * i.size) (hzs : absCells z = some zs) (hps : parts.toList.mapM (rPartS N i.size) = some ps) (hr : HR S w μ h) (he : ER N S w μ e a.tmps) (hK : ev1 pm e h K (.bsl i.size len zs ps)) : Does P pm S w μ a o K := by
  simp only [ev1] at hK
  split at hK
  · rename_i cs hcs
    obtain ⟨h1, hK⟩ := hK
    obtain ⟨c1, c2, c3⟩ := abs_cells (S := S) (w := w) (μ := μ) hzs
    obtain ⟨p1, p2⟩ := mapM_partsS hps he
    obtain ⟨r1, r2⟩ := rows_VR (n := len) c1 c2
    obtain ⟨arr', g1, g2, g3⟩ := fill_sound (S := S) (w := w) (μ := μ) (place := fun j => some (j * i.size, i.size)) (vs := (parts.map fun (i, x) => (i, a.eval x)).toList) (arr := (Array.range (len * z.cells.size)).map (z.cells[· % z.cells.size]!)) hcs (fun i' p hp => by
      rw [List.getElem?_map, Option.map_eq_some_iff] at hp
      obtain ⟨q, hq, rfl⟩ := hp
      obtain ⟨j, x, hx, hj1, hj2, hv⟩ := p2 i' q hq
      exact ⟨j, a.eval x, by simp [hx] , by simp [hj1, hj2], hv⟩) (by simp [← p1]) r1 r2
    have g0 := g1
    rw [show len * z.cells.size = len * i.size by rw [hz0]] at g1
    have hsz : arr'.size = len * i.size := by
      rw [g2]
      have : zs.length = i.size := c1.trans hz0
      have hfl : ∀ {ps : List (Nat × Nat × AV)} {c d : List AV}, fillA c ps = some d → d.length = c.length := by
        intro ps
        induction ps with
        | nil => intro c d hh; simp [fillA] at hh; rw [hh]
        | cons p ps ih =>
          intro c d hh
          obtain ⟨p1, p2, p3⟩ := p
          simp only [fillA] at hh
          split at hh
          · rename_i hc
            rw [ih hh, over_len (by omega)]
          · cases hh
      rw [hfl hcs, rows_len, this]
    have hrun : (Instr.buildSlice t len (parts.map fun (i, x) => (i, a.eval x))).run P w = .ok (.slice (some ⟨w.heap.size, 0, none⟩) len len) (w.alloc (.cells arr' el)) := by
      by_cases hl0 : len = 0
      · subst hl0
        simp only [Nat.zero_mul, Array.range_zero', Array.map_empty, Array.toList_map] at g1
        simp [Instr.buildSlice, run_underlying ht, sizeOf, typeInfo, hi, g1, newRow, Array.range_zero']
      · exact run_buildSlice w t el len _ arr' i z ht hi hz (by omega) (fun hc => by rcases Nat.mul_eq_zero.1 hc with hc | hc <;> contradiction) g1
    have hml : len ≤ 16777216 := Nat.le_trans (Nat.le_mul_of_pos_right len (Nat.pos_of_ne_zero hpos)) (by omega)
    obtain ⟨f1, f2⟩ := fresh (pm := pm) (t := el) hr (Nat.le_of_eq g2.symm) h1 g3
    refine ⟨_, .slice (some ⟨w.heap.size, 0, none⟩) len len, _, _, _, _, ?_, .inl rfl, hK, new_sl hr _ (Nat.le_refl _) (Nat.le_refl _) (by simp [maxLen]; omega) (Nat.pos_of_ne_zero hpos) (Nat.le_of_eq hsz.symm), f1, f2⟩
    simp only [execOp, ho, Sem.run_bind, hrun, Result.andThen_ok]
    rfl
  · exact hK.elim

theorem do_mks {t l c l' c' el i z zs K} (o : Oper) (ho : o.op = .makeSlice t l c) (hl : rOpd N l = some l') (hc : rOpd N c = some c') (ht : P.underlying t = some (.slice el)) (hi : P.info? el = some i) (hz : i.zero = some z) (hz0 : z.cells.size = i.size) (hpos : i.size ≠ 0) (hb : i.bytes ≠ 0)
    (hzs : absCells z = some zs) (hr : HR S w μ h) (he : ER N S w μ e a.tmps) (hK : ev1 pm e h K (.mks i.size i.bytes zs l' c')) : Does P pm S w μ a o K := by
  simp only [ev1] at hK
  split at hK
  · rename_i kl n kc m hn hm
    obtain ⟨h0, h1, h2, hK⟩ := hK
    have e1 := (at_ hl he hn).int_
    have e2 := (at_ hc he hm).int_
    obtain ⟨c1, c2, c3⟩ := abs_cells (S := S) (w := w) (μ := μ) hzs
    obtain ⟨r1, r2⟩ := rows_VR (n := m.toNat) c1 c2
    have hm1 : m ≤ m * i.bytes := by
      have : m * 1 ≤ m * (i.bytes : Int) := Int.mul_le_mul_of_nonneg_left (by omega) (by omega)
      omega
    have hrun := run_make (P := P) w t el i z ht hi hz kl kc n m h0 h1 (by rw [Int.mul_comm]; omega) (by omega)
    unfold madeCells at hrun
    rw [hz0] at r1 r2 hrun
    obtain ⟨f1, f2⟩ := fresh (pm := pm) (t := el) hr (Nat.le_of_eq r1.symm) (rows_one c3 m.toNat) r2
    refine ⟨_, .slice (some ⟨w.heap.size, 0, none⟩) n.toNat m.toNat, _, _, _, _, ?_, .inl rfl, hK, new_sl hr _ (by omega) (Nat.le_refl _) (by simp [maxLen]; omega) (Nat.pos_of_ne_zero hpos) (by simp), f1, f2⟩
    simp [execOp, ho, e1, e2, hrun]
  · exact hK.elim

/-! ### maps -/
theorem HR.adoptO {m0 : MI} {ob0 : AObj} (hr : HR S w μ h) (ho0 : OR S w (μ ++ [some m0]) m0 ob0) (hS : ¬ S m0.B) (hn : ∀ (b : Nat) (m : MI), μ[b]? = some (some m) → m.B ≠ m0.B) : HR S w (μ ++ [some m0]) (h ++ [some ob0]) := by
  have hf := Fwd.app S w μ (some m0)
  have split : ∀ (b : Nat) (m : MI), (μ ++ [some m0])[b]? = some (some m) → (b < μ.length ∧ μ[b]? = some (some m)) ∨ (b = μ.length ∧ m = m0) := by
    intro b m hm
    by_cases hlt : b < μ.length
    · rw [List.getElem?_append_left hlt] at hm
      exact .inl ⟨hlt, hm⟩
    · rw [List.getElem?_append_right (by omega)] at hm
      have := (List.getElem?_eq_some_iff.1 hm).1
      simp at this
      have hbe : b = μ.length := by omega
      subst hbe
      simp at hm
      exact .inr ⟨rfl, hm.symm⟩
  refine ⟨by simp [hr.len], fun b ob hob => ?_, fun b hd => ?_, fun b b' m m' hm hm' he => ?_, fun b m hm => ?_, hr.lt, hr.gl⟩
  · by_cases hlt : b < h.length
    · rw [List.getElem?_append_left hlt] at hob
      obtain ⟨m, hm, ho⟩ := hr.obj b ob hob
      exact ⟨m, by rw [List.getElem?_append_left (hr.len ▸ hlt)]; exact hm, ho.fwd hf rfl⟩
    · rw [List.getElem?_append_right (by omega)] at hob
      have := (List.getElem?_eq_some_iff.1 hob).1
      simp at this
      have hbe : b = h.length := by omega
      subst hbe
      simp at hob
      subst hob
      exact ⟨m0, by rw [← hr.len]; simp, ho0⟩
  · by_cases hlt : b < h.length
    · rw [List.getElem?_append_left hlt] at hd
      rw [List.getElem?_append_left (hr.len ▸ hlt)]
      exact hr.dead b hd
    · rw [List.getElem?_append_right (by omega)] at hd
      have := (List.getElem?_eq_some_iff.1 hd).1
      simp at this
      have hbe : b = h.length := by omega
      subst hbe
      simp at hd
  · rcases split b m hm with ⟨_, q⟩ | ⟨q1, q2⟩ <;> rcases split b' m' hm' with ⟨_, q'⟩ | ⟨q1', q2'⟩
    · exact hr.inj b b' m m' q q' he
    · subst q2'; exact absurd he (hn b m q)
    · subst q2; exact absurd he.symm (hn b' m' q')
    · omega
  · rcases split b m hm with ⟨_, q⟩ | ⟨_, q⟩
    · exact hr.out b m q
    · subst q; exact hS

theorem do_mkm {t K} (o : Oper) (ho : o.op = .makeMap t none) (hr : HR S w μ h) (hK : ev1 pm e h K .mkm) : Does P pm S w μ a o K := by
  obtain ⟨h2, h3⟩ := alloc_step (pm := pm) hr (.map #[] 0)
  have hnew : (w.alloc (.map #[] 0)).heap[w.heap.size]? = some (.map #[] 0) := heap_alloc_new w _
  have had := h2.adoptO (m0 := ⟨w.heap.size, 0, 0⟩) (ob0 := .map []) (.map hnew rfl (fun i p hp => by simp at hp)) (fun hS => absurd (hr.lt _ hS) (Nat.lt_irrefl _)) (fun b m hm => Nat.ne_of_lt (hr.lt_of hm))
  refine ⟨_, .map (some w.heap.size), _, _, _, _, ?_, .inl rfl, hK, .mp (om := some ⟨w.heap.size, 0, 0⟩) (by rw [← hr.len]; simp) (fun m hm => by cases hm; rfl), had, h3.trans (Step.app _ _ _ _ _)⟩
  simp [execOp, ho, Instr.makeMap, Result.andThen]

theorem set_entries {arr : Array MapEntry} {es : List (AV × AV)} {j : Nat} {p : AV × AV} {q : MapEntry} {x : AV} {f : MapEntry → MapEntry} (hl : arr.size = es.length)
    (hv : ∀ (i : Nat) (p : AV × AV), es[i]? = some p → VR S w μ p.1 (arr.getD i default).key ∧ VR S w μ p.2 (arr.getD i default).val) (hq : arr.toList[j]? = some q) (hk : VR S w μ p.1 (f q).key) (hx : VR S w μ x (f q).val) :
    (arr.modify j f).size = (es.set j (p.1, x)).length ∧ ∀ (i : Nat) (r : AV × AV), (es.set j (p.1, x))[i]? = some r → VR S w μ r.1 ((arr.modify j f).getD i default).key ∧ VR S w μ r.2 ((arr.modify j f).getD i default).val := by
  refine ⟨by simpa using hl, fun i r hr => ?_⟩
  have hq2 : arr[j]? = some q := by simpa using hq
  rcases set_get hr with ⟨rfl, rfl⟩ | ⟨hne, hr⟩
  · rw [Array.getD_eq_getD_getElem?, Array.getElem?_modify, if_pos rfl, hq2]
    exact ⟨hk, hx⟩
  · rw [Array.getD_eq_getD_getElem?, Array.getElem?_modify, if_neg hne]
    have := hv i r hr
    rw [Array.getD_eq_getD_getElem?] at this
    exact this

theorem do_mset {t m k v m' k' v' kt el K} (o : Oper) (ho : o.op = .mapUpdate t m k v) (ht : P.underlying t = some (.map kt el)) (hk : P.underlying kt = some (.int .i64)) (hm0 : rOpd N m = some m') (hkk : rOpd N k = some k') (hvv : rOpd N v = some v')
    (hr : HR S w μ h) (he : ER N S w μ e a.tmps) (hK : ev1 pm e h K (.mset m' k' v')) : Does P pm S w μ a o K := by
  have hmv := opd_sound hm0 he
  have hkv := opd_sound hkk he
  have hxv := opd_sound hvv he
  simp only [ev1] at hK
  split at hK
  · rename_i b hp
    obtain ⟨hpm, hK⟩ := hK
    split at hK
    · exact hK.elim
    · rename_i es hes
      obtain ⟨hik, hall, hK⟩ := hK
      obtain ⟨n, hn⟩ := isIntK_ hik
      obtain ⟨mi, arr, clock, hm, hg, hl, hvs⟩ := hr.mapOf hes
      rw [hp] at hmv
      have h2 := hmv.mp_ hm
      rw [hn] at hkv hK
      have h3 := hkv.int_
      obtain ⟨e1, e2⟩ := entries_at hl hvs
      have hlt : mi.B < w.heap.size := (Array.getElem?_eq_some_iff.1 hg).1
      have fin : ∀ (arr2 : Array MapEntry) (c2 : Nat) (es2 : List (AV × AV)), K unset (h.set b (some (.map es2))) → (Instr.mapUpdate t (.map (some mi.B)) (.int .i64 n) (a.eval v)).run P w = .ok () { w with heap := w.heap.setIfInBounds mi.B (.map arr2 c2) } →
          arr2.size = es2.length → (∀ (i : Nat) (p : AV × AV), es2[i]? = some p → VR S w μ p.1 (arr2.getD i default).key ∧ VR S w μ p.2 (arr2.getD i default).val) → Does P pm S w μ a o K := by
        intro arr2 c2 es2 hK hrun hl2 hv2
        have hw : ∀ B, B ≠ mi.B → ({ w with heap := w.heap.setIfInBounds mi.B (.map arr2 c2) } : World).heap[B]? = w.heap[B]? := fun B hB => by simp [Ne.symm hB]
        have hst : Step pm S w μ S { w with heap := w.heap.setIfInBounds mi.B (.map arr2 c2) } μ := write_world hr hm hpm hw (by simp) rfl rfl ⟨rfl, Nat.le_refl _⟩
        refine ⟨_, undef, _, _, _, _, ?_, .inr ⟨rfl, rfl⟩, hK, VR.undef_ _ _ _, hr.wrote hm hst hw (.map (arr := arr2) (clock := c2) ?_ hl2 (fun i p hp => ⟨(hv2 i p hp).1.fwd hst.toFwd, (hv2 i p hp).2.fwd hst.toFwd⟩)), hst⟩
        · simp [execOp, ho, h2, h3, hrun, Result.andThen]
        · simp [hlt]
      rcases findNow_sound (n := n) hall e1 e2 0 with ⟨f1, f2, f3⟩ | ⟨j, p, q, f1, f2, f3, f4, f5, f6⟩
      · rw [f3] at hK
        refine fin (arr.push { key := .int .i64 n, val := a.eval v, born := clock }) (clock + 1) _ hK ?_ (by simp [hl]) (fun i p hp => ?_)
        · unfold Instr.mapUpdate
          simp only [Sem.run_bind, run_underlying ht, Result.andThen, MapKept.run_getObj_map hg, MapKept.run_checkKey hk (k := .int .i64 n) (by simp [MapKept.IsKey]), MapKept.run_findKey hk f1]
          rw [MapKept.run_setObj_map _ hg]
        · by_cases hi : i < es.length
          · rw [List.getElem?_append_left hi] at hp
            have := hvs i p hp
            simpa [Array.getD_eq_getD_getElem?, Array.getElem?_push, show ¬ i = arr.size by omega] using this
          · rw [List.getElem?_append_right (by omega)] at hp
            have := (List.getElem?_eq_some_iff.1 hp).1
            simp at this
            have hie : i = arr.size := by omega
            subst hie
            rw [hl, Nat.sub_self] at hp
            simp at hp
            subst hp
            simp
            exact ⟨.int _ _, hxv⟩
      · rw [f6] at hK
        have hq2 : arr[j]? = some q := by simpa using f2
        obtain ⟨g1, g2⟩ := set_entries (p := p) (x := evO e v') (f := fun e => { e with key := .int .i64 n, val := a.eval v }) hl hvs f2 (by
          obtain ⟨m3, g1, g2, _⟩ := e2 j p f1
          rw [f2] at g1
          injection g1 with g1
          subst g1
          rw [f3] at g2
          exact g2) hxv
        refine fin (arr.modify j fun e => { e with key := .int .i64 n, val := a.eval v }) clock _ hK ?_ g1 g2
        unfold Instr.mapUpdate
        simp only [Sem.run_bind, run_underlying ht, Result.andThen, MapKept.run_getObj_map hg, MapKept.run_checkKey hk (k := .int .i64 n) (by simp [MapKept.IsKey]), MapKept.run_findKey hk f4]
        simp only [Nat.zero_add, hq2, Option.map_some, Option.getD_some, f3, Instr.keyThatStays]
        simp [Instr.sameBits, Result.andThen, MapKept.run_setObj_map _ hg]
  · exact hK.elim

end
end Go.Proofs.YtbkcenkfecndjaaGreatDoor.M
