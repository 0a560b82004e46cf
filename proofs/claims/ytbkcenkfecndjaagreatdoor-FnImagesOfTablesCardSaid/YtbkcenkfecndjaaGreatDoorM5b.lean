/-
  append, make, literals of slices: what they do.
-/
import Derived.Test.YtbkcenkfecndjaaGreatDoorM5
namespace Go.Proofs.YtbkcenkfecndjaaGreatDoor.M
open Go Go.RowKit
set_option linter.unusedVariables false
set_option linter.unusedSimpArgs false
section
variable {P : Program} {N : Nat} {S : Nat → Prop} {w : World} {μ : Mu} {e : Env} {a : Act} {h : H} {pm : Nat → Prop}

theorem drew_eq (w : World) : w.drew = { w with drawn := w.drawn + 1 } := rfl

theorem HR.killed_other {b : Nat} {m : MI} {w' : World} (hr : HR S w μ h) (hm : μ[b]? = some (some m)) (hw : ∀ B, B ≠ m.B → w'.heap[B]? = w.heap[B]?) (hs : w.heap.size ≤ w'.heap.size) : HR S w' (μ.set b none) (killed h b) :=
  (hr.kill b).world (fun B hB => hw B (fun e => hr.out b m hm (e ▸ hB))) (fun c m' hm' => hw _ (fun e => by
    rcases set_get hm' with ⟨_, q⟩ | ⟨hne, q⟩
    · cases q
    · exact hne (hr.inj c b m' m q hm e).symm)) hs

theorem Step.killw {b : Nat} {m : MI} {w' : World} (hr : HR S w μ h) (hm : μ[b]? = some (some m)) (hp : pm b) (hw : ∀ B, B ≠ m.B → w'.heap[B]? = w.heap[B]?) (hs : w'.heap.size = w.heap.size) (hos : w'.os = w.os)
    (hout : w'.output = w.output) (ht : w'.tape = w.tape ∧ w.drawn ≤ w'.drawn) : Step pm S w μ S w' (μ.set b none) :=
  (write_world hr hm hp hw hs hos hout ht).trans (Step.kill S w' μ b hp)

theorem getD_app {vs us : List Value} {rest : Array Value} {i : Nat} (hi : i < vs.length + us.length) : (((vs ++ us).toArray ++ rest).getD i undef) = (vs ++ us).getD i undef := by
  simp only [Array.getD_eq_getD_getElem?, List.getD_eq_getElem?_getD]
  rw [Array.getElem?_append_left (by simpa using hi)]
  simp

/-- What was there and what comes, in a new row. -/
theorem grow_new {A : Option Addr} {len cap n sz : Nat} {olds vs : List Value} {oldA new : List AV} {t u ty el : TypeId} {i : TypeInfo} {z v : Value} {b : Nat} {μ1 : Mu} {h1 : H}
    (ht : P.underlying t = some (.slice el)) (hi : P.info? el = some i) (hz : i.zero = some z) (hsz : i.size = sz) (hz0 : z.cells.size = sz) (hpos : 0 < sz)
    (hsrc : Src P i.size u v n vs w) (hvs : vs.length = new.length) (hone : new.all one = true) (hnv : ∀ (i : Nat) (x : AV), new[i]? = some x → VR S w μ x (vs.getD i undef))
    (hold : (Builtin.firstCells i.size len (.slice A len cap)).run P w.drew = .ok olds.toArray w.drew) (hol : olds.length = oldA.length) (hol2 : oldA.length = len * sz) (hone2 : oldA.all one = true)
    (hov : ∀ (i : Nat) (x : AV), oldA[i]? = some x → VR S w μ x (olds.getD i undef)) (hg : cap < len + n) (hby : (len + n) * i.bytes ≤ 140737488355328) (hb63 : len + n ≤ 9223372036854775807)
    (hr1 : HR S w μ1 h1) (hf1 : Step pm S w μ S w μ1) :
    ∃ v' w' μ', (Builtin.append_ #[t, u] ty #[.slice A len cap, v]).run P w = .ok v' w' ∧ VR S w' μ' (.sl h1.length 0 sz (len + n) (len + n)) v' ∧ HR S w' μ' (h1 ++ [some (.cells (oldA ++ new))]) ∧ Step pm S w μ S w' μ' := by
  have hrun := run_append_grow_src (P := P) w t u ty el i z ht hi hz A len cap olds hold v n vs hsrc hg (by omega) (growslice_fits hg hby)
  have hd : HR S w.drew μ1 h1 := hr1.drew _
  have hsd : Step pm S w μ S w.drew μ1 := hf1.trans (Step.drew _ _ _ _ _)
  have hnl : new.length = n * sz := by rw [← hvs, hsrc.newsLen, hsz]
  have hge := grownCap_ge w (len + n) cap el
  have hcm := grownCap_le_maxLen w (len + n) cap el (by simpa [maxLen] using hb63)
  have hlen : (oldA ++ new).length = (len + n) * sz := by rw [List.length_append, hol2, hnl, Nat.add_mul]
  have hasz : ((olds ++ vs).toArray ++ Builtin.zeroCells z.cells (grownCap w (len + n) cap el - (len + n))).size = grownCap w (len + n) cap el * sz := by
    rw [Array.size_append, size_zeroCells, hz0]
    simp only [List.size_toArray, List.length_append, hol, hvs]
    rw [← List.length_append, hlen, ← Nat.add_mul]
    congr 1
    omega
  obtain ⟨f1, f2⟩ := fresh (pm := pm) (t := el) (arr := (olds ++ vs).toArray ++ Builtin.zeroCells z.cells (grownCap w (len + n) cap el - (len + n))) (cs := oldA ++ new) hd
    (by rw [hasz, hlen]; exact Nat.mul_le_mul_right _ hge) (by rw [List.all_append, hone2, hone]; rfl) (fun j x hx => by
      have hlt := (List.getElem?_eq_some_iff.1 hx).1
      rw [getD_app (by rw [hol, hvs, ← List.length_append]; exact hlt)]
      rw [List.getD_eq_getElem?_getD]
      by_cases hj : j < oldA.length
      · rw [List.getElem?_append_left hj] at hx
        rw [List.getElem?_append_left (hol ▸ hj)]
        simpa [List.getD_eq_getElem?_getD] using (hov j x hx).fwd hsd.toFwd
      · rw [List.getElem?_append_right (by omega)] at hx
        rw [List.getElem?_append_right (by omega)]
        have := (hnv _ x hx).fwd hsd.toFwd
        rw [hol]
        simpa [List.getD_eq_getElem?_getD] using this)
  exact ⟨_, _, _, hrun, new_sl (arr := (olds ++ vs).toArray ++ Builtin.zeroCells z.cells (grownCap w (len + n) cap el - (len + n))) hd _ (Nat.le_refl _) hge hcm hpos (Nat.le_of_eq hasz.symm), f1, hsd.trans f2⟩

theorem do_app {x y t u x' y' args argTypes el i z K} {st : Bool} (o : Oper) (ho : o.op = .call { callee := .builtin .append, args := args, argTypes := argTypes }) (hargs : args.toList = [x, y]) (ht0 : argTypes[0]? = some t) (hu0 : argTypes[1]? = some u)
    (ht : P.underlying t = some (.slice el)) (hi : P.info? el = some i) (hz : i.zero = some z) (hz0 : z.cells.size = i.size) (hpos : i.size ≠ 0) (hbpos : i.bytes ≠ 0)
    (hu : if st then P.underlying u = some .string else ∃ el, P.underlying u = some (.slice el))
    (hx : rOpd N x = some x') (hy : rOpd N y = some y') (hr : HR S w μ h) (he : ER N S w μ e a.tmps) (hK : ev1 pm e h K (.app st i.size i.bytes x' y')) : Does P pm S w μ a o K := by
  have ha : args = #[x, y] := by
    apply Array.ext'
    simpa using hargs
  subst ha
  have hxv := opd_sound hx he
  have hyv := opd_sound hy he
  have run : ∀ v w', (Builtin.append_ #[t, u] o.type #[a.eval x, a.eval y]).run P w = .ok v w' → (execOp a.eval o).run P w = .ok (.value v) w' := by
    intro v w' hv
    have : Builtin.append_ argTypes o.type #[a.eval x, a.eval y] = Builtin.append_ #[t, u] o.type #[a.eval x, a.eval y] := by
      unfold Builtin.append_
      simp only [ht0, hu0]
      rfl
    simp [execOp, ho, resolve, invoke, builtin, this, hv]
  simp only [ev1] at hK
  split at hK
  · exact hK.elim
  · rename_i new n hsrc
    obtain ⟨vs, hS, hvl, hone, hnv⟩ := app_src hu hyv hr hsrc
    have hnl : new.length = n * i.size := by rw [← hvl, hS.newsLen]
    split at hK
    · rename_i hp
      rw [hp] at hxv
      have e1 := hxv.nils_
      split at hK
      · rename_i hn0
        subst hn0
        have hr0 : (Builtin.append_ #[t, u] o.type #[a.eval x, a.eval y]).run P w = .ok (.slice none 0 0) w := by
          rw [e1]
          cases st with
          | true => simp only [if_true] at hu; simp [Builtin.append_, run_underlying ht, run_underlying hu, sizeOf, typeInfo, hi, hS.len, hS.cells]
          | false =>
            simp only [Bool.false_eq_true, if_false] at hu
            obtain ⟨el', hu⟩ := hu
            simp [Builtin.append_, run_underlying ht, run_underlying hu, sizeOf, typeInfo, hi, hS.len, hS.cells]
        exact ⟨_, _, w, μ, _, _, run _ _ hr0, .inl rfl, hK, .nils, hr, Step.refl _ _ _ _⟩
      · rename_i hn0
        obtain ⟨hby, hK⟩ := hK
        obtain ⟨v', w', μ', q1, q2, q3, q4⟩ := grow_new (pm := pm) (ty := o.type) (b := 0) (oldA := []) (len := 0) (cap := 0) (A := none) (olds := []) ht hi hz rfl hz0 (by omega) hS hvl hone hnv
          (by simp [Builtin.firstCells]) rfl (by simp) rfl (fun j x hx => by simp at hx) (by omega) (by simpa using hby) (by
            have : n ≤ 140737488355328 := Nat.le_trans (Nat.le_mul_of_pos_right n (by omega)) hby
            omega) hr (Step.refl pm S w μ)
        rw [← e1] at q1
        simp only [Nat.zero_add, List.nil_append] at q2 q3
        exact ⟨_, _, _, _, _, _, run _ _ q1, .inl rfl, hK, q2, q3, q4⟩
    · rename_i b off sz' len kc hp
      obtain ⟨rfl, hK⟩ := hK
      split at hK
      · exact hK.elim
      rename_i cs hcs
      obtain ⟨hle, hK⟩ := hK
      obtain ⟨m, arr, t', hm, hg, hn, hl, h1, hvs⟩ := hr.cells hcs
      rw [hp] at hxv
      obtain ⟨A, cap, e1, hlk, hkc, hmx, hB, hsp, hof, hcn, hz1⟩ := hxv.sl_ hm
      obtain ⟨B, o', sp⟩ := A
      simp only at hB hsp hof hcn
      subst hB hsp
      split at hK
      · rename_i hn0
        subst hn0
        have hv0 : vs = [] := List.eq_nil_of_length_eq_zero (by rw [hvl, hnl]; simp)
        subst hv0
        have hr0 := run_append_room_src (P := P) w t u o.type el i ht hi m.B o' len cap (a.eval y) 0 [] hS (by omega) (fun j hj => by simp at hj) (fun j hj => by simp at hj)
        rw [← e1] at hr0
        simp only [Nat.add_zero] at hr0
        rw [← e1] at hr0
        exact ⟨_, _, w, μ, _, _, run _ _ hr0, .inl rfl, hK, hp ▸ opd_sound hx he, hr, Step.refl _ _ _ _⟩
      rename_i hn0
      split at hK
      · rename_i hroom
        obtain ⟨hpm, hfit, hK⟩ := hK
        have hcap : 0 < cap := by omega
        have ho' := hof hcap
        subst ho'
        have hln : (len + n) * i.size = len * i.size + n * i.size := Nat.add_mul _ _ _
        obtain ⟨q1, q2⟩ := write_cells (pm := pm) (off := off + len * i.size) (vs := vs) hr hm hpm hg hn hl h1 hvs (by omega) hone hvl hnv
        have hcell : ∀ j, j < vs.length → (w.cell? ⟨m.B, m.o + off + len * i.size + j, none⟩).isSome = true := by
          intro j hj
          rw [cell_of hg, Array.getElem?_eq_getElem (by omega)]
          rfl
        have hr0 := run_append_room_src (P := P) w t u o.type el i ht hi m.B (m.o + off) len cap (a.eval y) n vs hS (by omega) hcell (fun j hj => by simp [World.frozen?, hg])
        rw [← e1, Nat.add_assoc m.o] at hr0
        exact ⟨_, _, _, _, _, _, run _ _ hr0, .inl rfl, hK, .sl (om := some m) hm (by omega) (by omega) hmx rfl hz1 (fun m' hm' => by cases hm'; exact ⟨rfl, fun _ => rfl, hcn⟩), q2, q1⟩
      · rename_i hroom
        obtain ⟨hpm, hby, hK⟩ := hK
        have hln : (len + n) * i.size = len * i.size + n * i.size := Nat.add_mul _ _ _
        have hbl : len + n ≤ 140737488355328 := Nat.le_trans (Nat.le_mul_of_pos_right _ (by omega)) hby
        have get : ∀ (i' : Nat) (x : AV), ((cs.drop off).take (len * i.size))[i']? = some x → i' < len * i.size ∧ cs[off + i']? = some x := by
          intro i' x hx
          rw [List.getElem?_take] at hx
          split at hx
          · rw [List.getElem?_drop] at hx
            exact ⟨by assumption, hx⟩
          · cases hx
        have hone2 : ((cs.drop off).take (len * i.size)).all one = true := List.all_eq_true.2 fun x hx => by
          obtain ⟨i', hi'⟩ := List.getElem?_of_mem hx
          exact h1 _ _ (get i' x hi').2
        have hl2 : ((cs.drop off).take (len * i.size)).length = len * i.size := by
          rw [List.length_take, List.length_drop]
          omega
        by_cases hcr : len + n ≤ cap
        · have hcap : 0 < cap := by omega
          have ho' := hof hcap
          subst ho'
          have hcs2 : (len + n) * i.size ≤ cap * i.size := Nat.mul_le_mul_right _ hcr
          obtain ⟨arr', r1, r2, r3⟩ := setCells_heap m.B 0 t' (0, 0) vs (m.o + off + len * i.size) w arr hg (by omega)
          obtain ⟨f1, f2, f3, f4⟩ := setCells_frame m.B vs (m.o + off + len * i.size) w
          have hw : ∀ B, B ≠ m.B → (w.setCells m.B (m.o + off + len * i.size) vs).heap[B]? = w.heap[B]? := fun B hB => setCells_other m.B vs _ w B hB
          have hk := hr.killed_other hm hw (by omega)
          have hstk : Step pm S w μ S (w.setCells m.B (m.o + off + len * i.size) vs) (μ.set b none) := Step.killw hr hm hpm hw f1 f2 f3 f4
          have hcell : ∀ j, j < vs.length → (w.cell? ⟨m.B, m.o + off + len * i.size + j, none⟩).isSome = true := by
            intro j hj
            rw [cell_of hg, Array.getElem?_eq_getElem (by omega)]
            rfl
          have hr0 := run_append_room_src (P := P) w t u o.type el i ht hi m.B (m.o + off) len cap (a.eval y) n vs hS hcr hcell (fun j hj => by simp [World.frozen?, hg])
          rw [← e1] at hr0
          have had := hk.adopt (o := m.o + off) (cs := (cs.drop off).take (len * i.size) ++ new) r1 (by rw [List.length_append, hl2, hnl, r2]; omega) (by rw [List.all_append, hone2, hone]; rfl)
            (fun j x hx => by
              rw [r3]
              by_cases hj : j < len * i.size
              · rw [List.getElem?_append_left (by omega)] at hx
                rw [if_neg (by omega)]
                have := (hvs _ _ (get j x hx).2).fwd hstk.toFwd
                rwa [← Nat.add_assoc] at this
              · rw [List.getElem?_append_right (by omega)] at hx
                have hlt := (List.getElem?_eq_some_iff.1 hx).1
                rw [if_pos (by omega)]
                have := (hnv _ x hx).fwd hstk.toFwd
                rw [hl2] at this
                rwa [show m.o + off + j - (m.o + off + len * i.size) = j - len * i.size by omega])
            (hr.out b m hm) (fun c m' hm' e => by
              rcases set_get hm' with ⟨_, q⟩ | ⟨hne, q⟩
              · cases q
              · exact hne (hr.inj c b m' m q hm e).symm)
          refine ⟨_, _, _, _, _, _, run _ _ hr0, .inl rfl, hK, ?_, had, hstk.trans (Step.app _ _ _ _ _)⟩
          refine .sl (om := some ⟨m.B, m.o + off, arr'.size⟩) (by rw [← hr.len]; simp) (Nat.le_refl _) hcr hmx rfl hz1 (fun m' hm' => by cases hm'; exact ⟨rfl, fun _ => rfl, by simp only; omega⟩)
        · obtain ⟨olds, hold, holl, hov⟩ : ∃ olds : List Value, (Builtin.firstCells i.size len (.slice (some ⟨m.B, o', none⟩) len cap)).run P w.drew = .ok olds.toArray w.drew ∧ olds.length = len * i.size ∧
              ∀ (i' : Nat) (x : AV), ((cs.drop off).take (len * i.size))[i']? = some x → VR S w μ x (olds.getD i' undef) := by
            refine ⟨(List.range (len * i.size)).map fun j => arr.getD (m.o + off + j) undef, ?_, by simp, fun i' x hx => ?_⟩
            · refine run_firstCells_some w.drew i.size len ⟨m.B, o', none⟩ len cap _ (by simp) (fun j v hv => ?_)
              rw [List.getElem?_map, Option.map_eq_some_iff] at hv
              obtain ⟨k, hk, rfl⟩ := hv
              have hlt := (List.getElem?_eq_some_iff.1 hk).1
              simp at hlt
              have hkj : k = j := by
                have := (List.getElem?_eq_some_iff.1 hk).2
                simpa using this.symm
              subst hkj
              have hlen0 : 0 < len := by
                rcases Nat.eq_zero_or_pos len with h0 | h0
                · subst h0; simp at hlt
                · exact h0
              rw [add_off, hof (by omega)]
              have : w.drew.heap[m.B]? = some (.cells arr t' (0, 0)) := hg
              rw [cell_of this, Array.getElem?_eq_getElem (by omega), Array.getD_eq_getD_getElem?, Array.getElem?_eq_getElem (by omega)]
              rfl
            · obtain ⟨q1, q2⟩ := get i' x hx
              have := hvs _ _ q2
              simpa [List.getD_eq_getElem?_getD, q1, Nat.add_assoc] using this
          obtain ⟨v', w', μ', q1, q2, q3, q4⟩ := grow_new (pm := pm) (ty := o.type) (b := 0) (oldA := (cs.drop off).take (len * i.size)) (len := len) (cap := cap) (A := some ⟨m.B, o', none⟩) (olds := olds) ht hi hz rfl hz0 (by omega) hS hvl hone hnv
            hold (by omega) hl2 hone2 hov (by omega) hby (by omega) (hr.kill b) (Step.kill S w μ b hpm)
          rw [← e1] at q1
          have hkl : (killed h b).length = h.length := by simp [killed]
          rw [hkl] at q2
          exact ⟨_, _, _, _, _, _, run _ _ q1, .inl rfl, hK, q2, q3, q4⟩
    · exact hK.2.2.elim
    · exact hK.elim

theorem do_cpy {x y t u x' y' c el el' i K} (o : Oper) (ho : o.op = .call c) (hcl : c.callee = .builtin .copy) (hargs : c.args.toList = [x, y]) (ht0 : c.argTypes[0]? = some t) (hu0 : c.argTypes[1]? = some u)
    (ht : P.underlying t = some (.slice el)) (hu : P.underlying u = some (.slice el')) (hi : P.info? el = some i)
    (hx : rOpd N x = some x') (hy : rOpd N y = some y') (hr : HR S w μ h) (he : ER N S w μ e a.tmps) (hK : ev1 pm e h K (.cpy false i.size x' y')) : Does P pm S w μ a o K := by
  have ha : c.args = #[x, y] := by
    apply Array.ext'
    simpa using hargs
  have hxv := opd_sound hx he
  have hyv := opd_sound hy he
  have run : ∀ v w', (Builtin.copy_ #[t, u] o.type #[a.eval x, a.eval y]).run P w = .ok v w' → (execOp a.eval o).run P w = .ok (.value v) w' := by
    intro v w' hv
    have : Builtin.copy_ c.argTypes o.type #[a.eval x, a.eval y] = Builtin.copy_ #[t, u] o.type #[a.eval x, a.eval y] := by
      unfold Builtin.copy_
      simp only [ht0]
      rfl
    simp [execOp, ho, hcl, ha, resolve, invoke, builtin, this, hv]
  simp only [ev1] at hK
  split at hK
  · exact hK.elim
  · rename_i src n hsrc
    split at hK
    · rename_i hp
      rw [hp] at hxv
      have e1 := hxv.nils_
      obtain ⟨vs, q1, q2, q3, q4, q5, q6, q7⟩ := cpy_src (P := P) (k := 0) hyv hr hsrc (Nat.zero_le _)
      have hr0 : (Builtin.copy_ #[t, u] o.type #[a.eval x, a.eval y]).run P w = .ok (goInt 0) w := by
        rw [e1]
        simp [Builtin.copy_, run_underlying ht, q1, sizeOf, typeInfo, hi, q2]
      exact ⟨_, _, w, μ, _, _, run _ _ hr0, .inl rfl, hK, .int _ _, hr, Step.refl _ _ _ _⟩
    · rename_i b off sz' len kc hp
      obtain ⟨rfl, hpm, hK⟩ := hK
      split at hK
      · exact hK.elim
      rename_i cs hcs
      obtain ⟨hle, hK⟩ := hK
      obtain ⟨m, arr, t', hm, hg, hn, hl, h1, hvs⟩ := hr.cells hcs
      rw [hp] at hxv
      obtain ⟨A, cap, e1, hlk, hkc, hmx, hB, hsp, hof, hcn, hz1⟩ := hxv.sl_ hm
      obtain ⟨B, o', sp⟩ := A
      simp only at hB hsp hof hcn
      subst hB hsp
      obtain ⟨vs, q1, q2, q3, q4, q5, q6, q7⟩ := cpy_src (P := P) (k := min n len) hyv hr hsrc (Nat.min_le_left _ _)
      have hkl : min n len * i.size ≤ len * i.size := Nat.mul_le_mul_right _ (Nat.min_le_right _ _)
      obtain ⟨s1, s2⟩ := write_cells (pm := pm) (off := off) (vs := vs) hr hm hpm hg hn hl h1 hvs (by rw [← q4]; omega) q5 q4 q7
      have hnm : Nat.min n len = min n len := rfl
      have hst : (storeCells ⟨m.B, o', none⟩ vs).run P w = .ok () (w.setCells m.B (m.o + off) vs) := by
        rcases Nat.eq_zero_or_pos vs.length with h0 | h0
        · rw [List.eq_nil_of_length_eq_zero h0]
          rfl
        · have hlen0 : 0 < len := by
            rcases Nat.eq_zero_or_pos len with h5 | h5
            · subst h5
              rw [Nat.min_zero, Nat.zero_mul] at q3
              omega
            · exact h5
          have ho' := hof (by omega)
          subst ho'
          have := run_storeCells_cells (P := P) m.B (m.o + off) vs 0 w (fun j hj => by
            rw [cell_of hg, Array.getElem?_eq_getElem (by omega)]
            rfl) (fun j hj => by simp [World.frozen?, hg]) q6
          simpa using this
      have hr0 : (Builtin.copy_ #[t, u] o.type #[a.eval x, a.eval y]).run P w = .ok (goInt ((min n len : Nat) : Int)) (w.setCells m.B (m.o + off) vs) := by
        rw [e1]
        simp [Builtin.copy_, run_underlying ht, q1, sizeOf, typeInfo, hi, hnm, q2, hst]
      exact ⟨_, _, _, _, _, _, run _ _ hr0, .inl rfl, hK, .int _ _, s2, s1⟩
    · exact hK.elim
end
end Go.Proofs.YtbkcenkfecndjaaGreatDoor.M
