/-
  The rest of the operations that yield a value: addresses, parts, slices, lengths, loads, function values.
-/
import Derived.Test.YtbkcenkfecndjaaGreatDoorM3
import Derived.Laws.BytesArg
import Derived.Laws.Tables
import Derived.MapKept
namespace Go.Proofs.YtbkcenkfecndjaaGreatDoor.M
open Go Go.RowKit
set_option linter.unusedVariables false
set_option linter.unusedSimpArgs false
section
variable {P : Program} {N : Nat} {S : Nat → Prop} {w : World} {μ : Mu} {e : Env} {a : Act} {h : H}

theorem VR.sl0 {b off sz len kc v} (h : VR S w μ (.sl b off sz len kc) v) : ∃ (A : Addr) (cap : Nat) (om : Option MI), v = .slice (some A) len cap ∧ μ[b]? = some om ∧ len ≤ kc ∧ kc ≤ cap ∧ cap ≤ maxLen ∧ A.spot = none ∧ 0 < sz ∧
    (∀ m, om = some m → A.block = m.B ∧ (0 < cap → A.off = m.o + off) ∧ A.off + cap * sz ≤ m.n) := by
  cases h with
  | sl h h1 h2 h3 h4 h5 h6 => exact ⟨_, _, _, rfl, h, h1, h2, h3, h4, h5, h6⟩
theorem VR.sl_ {b off sz len kc v} {m : MI} (h : VR S w μ (.sl b off sz len kc) v) (hm : μ[b]? = some (some m)) : ∃ A cap, v = .slice (some A) len cap ∧ len ≤ kc ∧ kc ≤ cap ∧ cap ≤ maxLen ∧ A.block = m.B ∧ A.spot = none ∧
    (0 < cap → A.off = m.o + off) ∧ A.off + cap * sz ≤ m.n ∧ 0 < sz := by
  obtain ⟨A, cap, om, hv, h0, h1, h2, h3, h4, h5, h6⟩ := h.sl0
  rw [hm] at h0
  injection h0 with h0
  obtain ⟨q1, q2, q3⟩ := h6 m h0.symm
  exact ⟨A, cap, hv, h1, h2, h3, q1, h4, q2, q3, h5⟩
theorem VR.adr0 {b off v} (h : VR S w μ (.adr b off) v) : ∃ (B o : Nat) (om : Option MI), v = .pointer (some ⟨B, o, none⟩) ∧ μ[b]? = some om ∧ (∀ m, om = some m → B = m.B ∧ o = m.o + off) := by
  cases h with
  | @adr _ _ A om h hs hA =>
    obtain ⟨B, o, sp⟩ := A
    simp only at hs
    subst hs
    exact ⟨B, o, om, rfl, h, fun m hm => by have := hA m hm; cases this; exact ⟨rfl, rfl⟩⟩
theorem VR.adr_ {b off v} {m : MI} (h : VR S w μ (.adr b off) v) (hm : μ[b]? = some (some m)) : v = .pointer (some ⟨m.B, m.o + off, none⟩) := by
  obtain ⟨B, o, om, hv, h0, h1⟩ := h.adr0
  rw [hm] at h0
  injection h0 with h0
  obtain ⟨rfl, rfl⟩ := h1 m h0.symm
  exact hv
theorem VR.mp_ {b v} {m : MI} (h : VR S w μ (.mp b) v) (hm : μ[b]? = some (some m)) : v = .map (some m.B) := by
  cases h with
  | mp h hr => rw [hm] at h; injection h with h; rw [hr m h.symm]
theorem VR.ro_ {sz cs len v} (h : VR S w μ (.ro sz cs len) v) : ∃ (A : Addr) (cap : Nat) (f : Nat → Value), v = .slice (some A) len cap ∧ len ≤ cap ∧ cap ≤ maxLen ∧ 0 < sz ∧ cs.all one = true ∧ (0 < len ∨ cs ≠ [] → S A.block ∧ A.spot = none) ∧
    (∀ (i : Nat) (x : AV), cs[i]? = some x → w.cell? ⟨A.block, A.off + i, none⟩ = some (f i)) ∧ (∀ (i : Nat) (x : AV), cs[i]? = some x → VR S w μ x (f i)) := by
  cases h with
  | @ro _ _ _ cap A f h1 h2 h3 h0 h4 h6 h7 => exact ⟨A, cap, f, rfl, h1, h2, h3, h0, h4, h6, h7⟩
theorem ne_of_get {α : Type} {l : List α} {i : Nat} {x : α} (h : l[i]? = some x) : l ≠ [] := fun he => by rw [he] at h; simp at h
theorem VR.rad_ {cs off v} (h : VR S w μ (.rad cs off) v) : ∃ (B o : Nat) (f : Nat → Value), v = .pointer (some ⟨B, o + off, none⟩) ∧ S B ∧
    (∀ (i : Nat) (x : AV), cs[i]? = some x → w.cell? ⟨B, o + i, none⟩ = some (f i)) ∧ (∀ (i : Nat) (x : AV), cs[i]? = some x → VR S w μ x (f i)) := by
  cases h with
  | rad h1 h2 h3 => exact ⟨_, _, _, rfl, h1, h2, h3⟩
theorem VR.agg_ {cs v} (h : VR S w μ (.agg cs) v) : ∃ vs : Array Value, v = .agg vs ∧ vs.size = cs.length ∧ ∀ (i : Nat) (x : AV), cs[i]? = some x → VR S w μ x (vs.getD i undef) := by
  cases h with
  | agg h1 h2 => exact ⟨_, rfl, h1, h2⟩
theorem VR.tup_ {cs v} (h : VR S w μ (.tup cs) v) : ∃ vs : Array Value, v = .tuple vs ∧ vs.size = cs.length ∧ ∀ (i : Nat) (x : AV), cs[i]? = some x → VR S w μ x (vs.getD i undef) := by
  cases h with
  | tup h1 h2 => exact ⟨_, rfl, h1, h2⟩
theorem VR.fn_ {f cs v} (h : VR S w μ (.fn f cs) v) : ∃ vs : Array Value, v = .func (.func f) #[] vs ∧ vs.size = cs.length ∧ ∀ (i : Nat) (x : AV), cs[i]? = some x → VR S w μ x (vs.getD i undef) := by
  cases h with
  | fn h1 h2 => exact ⟨_, rfl, h1, h2⟩

theorem add_off (B o k : Nat) : (⟨B, o, none⟩ : Addr).add k = ⟨B, o + k, none⟩ := by
  unfold Addr.add
  split <;> simp_all

theorem run_sizeOf' {t : TypeId} {i : TypeInfo} (hi : P.info? t = some i) (w : World) : (sizeOf t).run P w = .ok i.size w := by
  simp [sizeOf, typeInfo, hi]

theorem yld_faddr {s x f x' fs fd i} (o : Oper) (ho : o.op = .fieldAddr s x f) (hu : P.underlying s = some (.struct fs)) (hf : fs[f]? = some fd) (hi : P.info? fd.type = some i) (hn : i.size ≠ 0)
    (hx : rOpd N x = some x') (he : ER N S w μ e a.tmps) {z} (hz : ev0 e h (.faddr fd.offset x') = some z) : Yld P S w μ a o [] z := by
  have hv := opd_sound hx he
  simp only [ev0] at hz
  split at hz
  · rename_i b off hp
    injection hz with hz
    subst hz
    rw [hp] at hv
    obtain ⟨B, o', om, h2, hom, hA⟩ := hv.adr0
    refine ⟨.pointer (some ⟨B, o' + fd.offset, none⟩), fun w' _ _ => ?_, .adr hom rfl (fun m hm => by obtain ⟨rfl, rfl⟩ := hA m hm; rw [Nat.add_assoc])⟩
    simp [execOp, ho, h2, Instr.fieldAt, run_underlying hu, hf, Instr.sureAddr, fieldPlace, run_sizeOf' hi, hn, add_off, Nat.add_assoc]
  · rename_i cs off hp
    injection hz with hz
    subst hz
    rw [hp] at hv
    obtain ⟨B, o', g, h2, h3, h4, h5⟩ := hv.rad_
    refine ⟨_, fun w' _ _ => ?_, .rad (off := off + fd.offset) h3 h4 h5⟩
    simp [execOp, ho, h2, Instr.fieldAt, run_underlying hu, hf, Instr.sureAddr, fieldPlace, run_sizeOf' hi, hn, add_off, Nat.add_assoc]
  · cases hz

theorem run_isAgg {t : TypeId} {d : TypeDesc} (hu : P.underlying t = some d) (w : World) : (isAgg t).run P w = .ok (isAggD d) w := by
  simp only [isAgg, Sem.run_bind, run_underlying hu, Result.andThen_ok]
  cases d <;> rfl

/-- Cells read as a value. -/
theorem ld_agg {cs : List AV} {vs : Array Value} {off sz : Nat} {z} (hl : vs.size = cs.length) (hv : ∀ (i : Nat) (x : AV), cs[i]? = some x → VR S w μ x (vs.getD i undef)) (hz : ld true sz cs off = some z) :
    VR S w μ z (.agg (vs.extract off (off + sz))) := by
  simp only [ld, if_true] at hz
  split at hz
  · rename_i hle
    injection hz with hz
    subst hz
    refine .agg ?_ (fun i x hx => ?_)
    · simp only [Array.size_extract, List.length_take, List.length_drop]
      omega
    · rw [List.getElem?_take] at hx
      split at hx
      · rename_i hi
        rw [List.getElem?_drop] at hx
        have := hv _ _ hx
        have hlt : off + i < cs.length := (List.getElem?_eq_some_iff.1 hx).1
        simp only [Array.getD_eq_getD_getElem?] at this ⊢
        rw [Array.getElem?_extract]
        rw [if_pos (by omega)]
        exact this
      · cases hx
  · cases hz

theorem yld_fld {s x f x' fs fd i d} (o : Oper) (ho : o.op = .field s x f) (hu : P.underlying s = some (.struct fs)) (hf : fs[f]? = some fd) (hd : P.underlying fd.type = some d) (hi : P.info? fd.type = some i)
    (hx : rOpd N x = some x') (he : ER N S w μ e a.tmps) {z} (hz : ev0 e h (.fld (isAggD d) fd.offset i.size x') = some z) : Yld P S w μ a o [] z := by
  have hv := opd_sound hx he
  simp only [ev0] at hz
  split at hz
  · rename_i cs hp
    rw [hp] at hv
    obtain ⟨vs, h2, hl, hvs⟩ := hv.agg_
    cases hag : isAggD d
    · rw [hag] at hz
      simp only [ld] at hz
      have := hvs _ _ hz
      have hlt : fd.offset < cs.length := (List.getElem?_eq_some_iff.1 hz).1
      refine ⟨_, fun w' _ _ => ?_, this⟩
      simp only [execOp, ho, h2, Instr.field, Sem.run_bind, run_underlying hu, Result.andThen_ok, hf, asAgg, Sem.run_pure, part, run_isAgg hd, hag, Bool.false_eq_true, if_false]
      rw [Array.getD_eq_getD_getElem?, Array.getElem?_eq_getElem (by omega)]
      simp
    · rw [hag] at hz
      refine ⟨_, fun w' _ _ => ?_, ld_agg hl hvs hz⟩
      simp only [execOp, ho, h2, Instr.field, Sem.run_bind, run_underlying hu, Result.andThen_ok, hf, asAgg, Sem.run_pure, part, run_isAgg hd, hag, if_true, run_sizeOf' hi]
  · cases hz

theorem yld_iaddr {t x ix x' ix' el inf} (o : Oper) (ho : o.op = .indexAddr t x ix) (hu : P.underlying t = some (.slice el)) (hi : P.info? el = some inf)
    (hx : rOpd N x = some x') (hix : rOpd N ix = some ix') (he : ER N S w μ e a.tmps) {z} (hz : ev0 e h (.iaddr inf.size x' ix') = some z) : Yld P S w μ a o [] z := by
  have hv := opd_sound hx he
  simp only [ev0] at hz
  split at hz
  · rename_i b off sz' len kc k n hp hq
    have e2 := (at_ hix he hq).int_
    split at hz
    · rename_i hc
      obtain ⟨rfl, h0, h1⟩ := hc
      injection hz with hz
      subst hz
      rw [hp] at hv
      obtain ⟨A, cap, om, h2, hom, hl, hk, hmx, hs, hz0, hA⟩ := hv.sl0
      have hcap : 0 < cap := by omega
      obtain ⟨B, o', sp⟩ := A
      simp only at hs
      subst hs
      refine ⟨.pointer (some ⟨B, o' + n.toNat * inf.size, none⟩), fun w' _ _ => ?_, .adr hom rfl (fun m hm => by obtain ⟨q1, q2, q3⟩ := hA m hm; rw [← q1, ← Nat.add_assoc, ← q2 hcap])⟩
      simp [execOp, ho, h2, e2, Instr.indexAt, asIntOf, run_underlying hu, h0, h1, run_sizeOf' hi, add_off, Nat.add_assoc]
    · cases hz
  · rename_i sz' cs len k n hp hq
    have e2 := (at_ hix he hq).int_
    split at hz
    · rename_i hc
      obtain ⟨rfl, h0, h1⟩ := hc
      injection hz with hz
      subst hz
      rw [hp] at hv
      obtain ⟨A, cap, f, h2, hl, hmx, hz0, hone, hS, hcc, hvv⟩ := hv.ro_
      obtain ⟨hS, hsp⟩ := hS (.inl (by omega))
      obtain ⟨B, o', sp⟩ := A
      simp only at hsp
      subst hsp
      refine ⟨_, fun w' _ _ => ?_, .rad (off := n.toNat * inf.size) hS hcc hvv⟩
      simp [execOp, ho, h2, e2, Instr.indexAt, asIntOf, run_underlying hu, h0, h1, run_sizeOf' hi, add_off]
    · cases hz
  · cases hz

theorem yld_sidx {t x ix x' ix'} (o : Oper) (ho : o.op = .index t x ix) (hu : P.underlying t = some .string)
    (hx : rOpd N x = some x') (hix : rOpd N ix = some ix') (he : ER N S w μ e a.tmps) {z} (hz : ev0 e h (.sidx x' ix') = some z) : Yld P S w μ a o [] z := by
  simp only [ev0] at hz
  split at hz
  · rename_i s k n hp hq
    have e1 := (at_ hx he hp).str_
    have e2 := (at_ hix he hq).int_
    split at hz
    · rename_i h0
      simp only [Option.map_eq_some_iff] at hz
      obtain ⟨c, hc, rfl⟩ := hz
      have hlt := (List.getElem?_eq_some_iff.1 hc).1
      refine ⟨_, fun w' _ _ => ?_, .int _ _⟩
      have hcb : (⟨s.toArray⟩ : ByteArray)[n.toNat]? = some c := by
        rw [getElem?_pos _ _ (by simpa [sizeL] using hlt)]
        congr 1
        exact (List.getElem?_eq_some_iff.1 hc).2
      simp [execOp, ho, e1, e2, Instr.index, asIntOf, run_underlying hu, h0, hcb]
    · cases hz
  · cases hz

theorem run_bnd {x : Option Operand} {x' : Option Opd} {d y r : Nat} (hx : rBnd N x = some x') (he : ER N S w μ e a.tmps) (hr : bnd e x' d y = some r) (c : BoundsCode) (w' : World) :
    (match x.map a.eval with | some v => Instr.sliceBound v y c | none => pure d : Sem Nat).run P w' = .ok r w' ∧ (x ≠ none → r ≤ y) := by
  cases x with
  | none =>
    simp only [rBnd, Option.some.injEq] at hx
    subst hx
    simp only [bnd, Option.some.injEq] at hr
    subst hr
    exact ⟨rfl, fun hh => absurd rfl hh⟩
  | some x =>
    simp only [rBnd, Option.map_eq_some_iff] at hx
    obtain ⟨q, hq, rfl⟩ := hx
    simp only [bnd] at hr
    split at hr
    · rename_i k i hp
      have e1 := (at_ hq he hp).int_
      split at hr
      · rename_i hc
        injection hr with hr
        subst hr
        refine ⟨?_, fun _ => by omega⟩
        simp [e1, Instr.sliceBound, asIntOf, hc]
      · cases hr
    · cases hr

theorem run_sliceBounds {lo hi : Option Operand} {lo' hi' : Option Opd} {len cap l hh : Nat} {isS : Bool} (hlo : rBnd N lo = some lo') (hhi : rBnd N hi = some hi') (he : ER N S w μ e a.tmps)
    (h1 : bnd e hi' len cap = some hh) (h2 : bnd e lo' 0 hh = some l) (hl : len ≤ cap) (w' : World) :
    (Instr.sliceBounds isS len cap (lo.map a.eval) (hi.map a.eval) none).run P w' = .ok (l, hh, cap) w' ∧ l ≤ hh ∧ hh ≤ cap := by
  have a1 := run_bnd (P := P) hhi he h1 (if isS then .sliceAcap else .sliceAlen) w'
  have a2 := run_bnd (P := P) hlo he h2 .sliceB w'
  refine ⟨?_, ?_, ?_⟩
  · unfold Instr.sliceBounds
    cases lo <;> cases hi <;> simp only [Option.map_none, Option.map_some, Sem.run_bind, Sem.run_pure, Result.andThen_ok] at a1 a2 ⊢ <;>
      (try rw [a1.1]) <;> (try simp only [Result.andThen_ok]) <;> (try simp only [Option.isSome_none, Bool.false_eq_true, if_false]) <;> (try rw [a2.1]) <;> (try simp only [Result.andThen_ok]) <;> (try injection a1.1 with q1) <;> (try injection a2.1 with q2) <;> simp_all
  · cases lo with
    | none =>
      simp only [rBnd, Option.some.injEq] at hlo
      subst hlo
      simp only [bnd, Option.some.injEq] at h2
      omega
    | some x => exact a2.2 (by simp)
  · cases hi with
    | none =>
      simp only [rBnd, Option.some.injEq] at hhi
      subst hhi
      simp only [bnd, Option.some.injEq] at h1
      omega
    | some x => exact a1.2 (by simp)

theorem yld_sstr {t x lo hi x' lo' hi'} (o : Oper) (ho : o.op = .slice t x lo hi none) (hu : P.underlying t = some .string)
    (hx : rOpd N x = some x') (hlo : rBnd N lo = some lo') (hhi : rBnd N hi = some hi') (he : ER N S w μ e a.tmps) {z} (hz : ev0 e h (.sstr x' lo' hi') = some z) : Yld P S w μ a o [] z := by
  simp only [ev0] at hz
  split at hz
  · rename_i s hp
    have e1 := (at_ hx he hp).str_
    have e2 := (at_ hx he hp).strLen
    simp only [Option.bind_eq_some_iff] at hz
    obtain ⟨hh, h1, l, h2, h3⟩ := hz
    injection h3 with h3
    subst h3
    refine ⟨_, fun w' _ _ => ?_, .str _ (by simp; omega)⟩
    have hb := (run_sliceBounds (P := P) (isS := false) hlo hhi he h1 h2 (Nat.le_refl _) w').1
    have hex : (⟨s.toArray⟩ : ByteArray).extract l hh = ⟨((s.drop l).take (hh - l)).toArray⟩ := by
      apply ByteArray.ext
      apply Array.ext'
      rw [Lib.extract_data]
    simp only [execOp, ho, Instr.sliceAt, Sem.run_bind, run_underlying hu, Result.andThen_ok, Instr.slice, e1, Option.map_none, Option.isSome_none, Bool.false_eq_true, if_false, sizeL, hb, Sem.run_pure, hex]
  · cases hz

theorem yld_slc {t x lo hi x' lo' hi' el inf} (o : Oper) (ho : o.op = .slice t x lo hi none) (hu : P.underlying t = some (.slice el)) (hi0 : P.info? el = some inf)
    (hx : rOpd N x = some x') (hlo : rBnd N lo = some lo') (hhi : rBnd N hi = some hi') (he : ER N S w μ e a.tmps) {z} (hz : ev0 e h (.slc inf.size x' lo' hi') = some z) : Yld P S w μ a o [] z := by
  have hv := opd_sound hx he
  simp only [ev0] at hz
  split at hz
  · rename_i hp
    have e1 := (at_ hx he hp).nils_
    simp only [Option.bind_eq_some_iff] at hz
    obtain ⟨hh, h1, l, h2, h3⟩ := hz
    injection h3 with h3
    subst h3
    have hb := fun w' => run_sliceBounds (P := P) (isS := true) hlo hhi he h1 h2 (Nat.le_refl _) w'
    obtain ⟨_, q1, q2⟩ := hb w
    refine ⟨.slice none 0 0, fun w' _ _ => ?_, .nils⟩
    simp only [execOp, ho, Instr.sliceAt, Sem.run_bind, run_underlying hu, Result.andThen_ok, Instr.slice, e1, Option.map_none, (hb w').1, Sem.run_pure, run_sizeOf' hi0]
    have : l = 0 := by omega
    have : hh = 0 := by omega
    subst_vars
    rfl
  · rename_i b off sz' len kc hp
    split at hz
    · rename_i hsz
      subst hsz
      simp only [Option.bind_eq_some_iff] at hz
      obtain ⟨hh, h1, l, h2, h3⟩ := hz
      injection h3 with h3
      subst h3
      rw [hp] at hv
      obtain ⟨A, cap, om, h4, hom, hl, hk, hmx, hs, hz0, hAA⟩ := hv.sl0
      · have h1' : bnd e hi' len cap = some hh := by
          unfold bnd at h1 ⊢
          split at h1
          · exact h1
          · split at h1
            · split at h1
              · rw [if_pos (by omega)]
                exact h1
              · cases h1
            · cases h1
        have hhk : hh ≤ kc := by
          unfold bnd at h1
          split at h1
          · injection h1 with h1
            omega
          · split at h1
            · split at h1
              · injection h1 with h1
                omega
              · cases h1
            · cases h1
        have hb := fun w' => run_sliceBounds (P := P) (isS := true) hlo hhi he h1' h2 (by omega) w'
        obtain ⟨_, q1, q2⟩ := hb w
        refine ⟨.slice (some (if cap = l then A else A.add (l * inf.size))) (hh - l) (cap - l), fun w' _ _ => ?_, ?_⟩
        · simp only [execOp, ho, Instr.sliceAt, Sem.run_bind, run_underlying hu, Result.andThen_ok, Instr.slice, h4, Option.map_none, (hb w').1, Sem.run_pure, run_sizeOf' hi0]
          split <;> simp
        · have hA : A.spot = none := hs
          have hadd : A.add (l * inf.size) = ⟨A.block, A.off + l * inf.size, none⟩ := by
            cases A
            simp only at hA
            subst hA
            exact add_off _ _ _
          refine .sl hom (by omega) (by omega) (by omega) ?_ hz0 (fun m hm => ?_)
          · split
            · exact hs
            · rw [hadd]
          · obtain ⟨hB, hof, hn⟩ := hAA m hm
            refine ⟨?_, ?_, ?_⟩
            · split
              · exact hB
              · rw [hadd]; exact hB
            · intro hpos
              rw [if_neg (by omega), hadd]
              simp only
              rw [hof (by omega)]
              omega
            · split
              · rename_i hcl
                subst hcl
                simp only [Nat.sub_self, Nat.zero_mul, Nat.add_zero]
                exact Nat.le_trans (Nat.le_add_right _ _) hn
              · rw [hadd]
                simp only
                have : cap * inf.size = l * inf.size + (cap - l) * inf.size := by rw [← Nat.add_mul]; congr 1; omega
                omega
    · cases hz
  · rename_i sz' cs len hp
    split at hz
    · rename_i hsz
      subst hsz
      simp only [Option.bind_eq_some_iff] at hz
      obtain ⟨hh, h1, l, h2, h3⟩ := hz
      injection h3 with h3
      subst h3
      rw [hp] at hv
      obtain ⟨A, cap, f, h4, hl, hmx, hz0, hone, hS, hcc, hvv⟩ := hv.ro_
      have h1' : bnd e hi' len cap = some hh := by
        unfold bnd at h1 ⊢
        split at h1
        · exact h1
        · split at h1
          · split at h1
            · rw [if_pos (by omega)]
              exact h1
            · cases h1
          · cases h1
      have hb := fun w' => run_sliceBounds (P := P) (isS := true) hlo hhi he h1' h2 (by omega) w'
      obtain ⟨_, q1, q2⟩ := hb w
      have hhl : hh ≤ len := by
        unfold bnd at h1
        split at h1
        · injection h1 with h1
          omega
        · split at h1
          · split at h1
            · injection h1 with h1
              omega
            · cases h1
          · cases h1
      refine ⟨.slice (some (if cap = l then A else A.add (l * inf.size))) (hh - l) (cap - l), fun w' _ _ => ?_, ?_⟩
      · simp only [execOp, ho, Instr.sliceAt, Sem.run_bind, run_underlying hu, Result.andThen_ok, Instr.slice, h4, Option.map_none, (hb w').1, Sem.run_pure, run_sizeOf' hi0]
        split <;> simp
      · by_cases hcl : hh - l = 0
        · rw [hcl]
          exact .ro (f := f) (by omega) (by omega) hz0 (by simp) (fun hx => by simp at hx) (fun i x hx => by simp at hx) (fun i x hx => by simp at hx)
        · obtain ⟨hS, hsp⟩ := hS (.inl (by omega))
          obtain ⟨B, o', sp⟩ := A
          simp only at hsp
          subst hsp
          have hadd : (⟨B, o', none⟩ : Addr).add (l * inf.size) = ⟨B, o' + l * inf.size, none⟩ := add_off _ _ _
          rw [if_neg (by omega), hadd]
          refine .ro (f := fun i => f (l * inf.size + i)) (by omega) (by omega) hz0 (List.all_eq_true.2 fun x hx => List.all_eq_true.1 hone x (List.mem_of_mem_drop (List.mem_of_mem_take hx))) (fun _ => ⟨hS, rfl⟩) (fun i x hx => ?_) (fun i x hx => ?_)
          · rw [List.getElem?_take] at hx
            split at hx
            · rw [List.getElem?_drop] at hx
              have := hcc _ _ hx
              simpa [Nat.add_assoc] using this
            · cases hx
          · rw [List.getElem?_take] at hx
            split at hx
            · rw [List.getElem?_drop] at hx
              exact hvv _ _ hx
            · cases hx
    · cases hz
  · cases hz

theorem ld_run {cs : List AV} {g : Nat → Value} {B o0 : Nat} (hv : ∀ (i : Nat) (x : AV), cs[i]? = some x → VR S w μ x (g i)) {ag : Bool} {sz off : Nat} {z : AV} (hz : ld ag sz cs off = some z)
    {t : TypeId} {d : TypeDesc} {i : TypeInfo} (hu : P.underlying t = some d) (hi : P.info? t = some i) (hag : ag = isAggD d) (hsz : sz = i.size) :
    ∃ v, (∀ w' : World, (∀ (i : Nat) (x : AV), cs[i]? = some x → w'.cell? ⟨B, o0 + i, none⟩ = some (g i)) → (loadVar t ⟨B, o0 + off, none⟩).run P w' = .ok v w') ∧ VR S w μ z v := by
  subst hsz
  cases ag with
  | false =>
    simp only [ld, Bool.false_eq_true, if_false] at hz
    refine ⟨g off, fun w' hc => ?_, hv _ _ hz⟩
    simp [loadVar, run_isAgg hu, ← hag, hc _ _ hz]
  | true =>
    simp only [ld, if_true] at hz
    split at hz
    · rename_i hle
      injection hz with hz
      subst hz
      refine ⟨.agg ((List.range i.size).map fun j => g (off + j)).toArray, fun w' hc => ?_, .agg (by simp; omega) (fun j x hx => ?_)⟩
      · have hl := run_loadCells (P := P) w' ⟨B, o0 + off, none⟩ i.size (fun j => g (off + j)) (fun j hj => by
          have hlt : off + j < cs.length := by omega
          have := hc (off + j) _ (List.getElem?_eq_getElem hlt)
          rw [add_off, Nat.add_assoc]
          exact this)
        simp only [loadVar, Sem.run_bind, run_isAgg hu, ← hag, Result.andThen_ok, if_true, run_sizeOf' hi, hl, Sem.run_pure]
      · rw [List.getElem?_take] at hx
        split at hx
        · rename_i hj
          rw [List.getElem?_drop] at hx
          have := hv _ _ hx
          simpa [hj, List.getElem?_eq_getElem] using this
        · cases hx
    · cases hz

theorem yld_load {t x x' d i} (o : Oper) (ho : o.op = .load t x) (hu : P.underlying t = some d) (hi : P.info? t = some i) (hx : rOpd N x = some x') (hr : HR S w μ h) (he : ER N S w μ e a.tmps) {z}
    (hz : ev0 e h (.load (isAggD d) i.size x') = some z) : Yld P S w μ a o (reads e (.load (isAggD d) i.size x')) z := by
  have hv := opd_sound hx he
  simp only [ev0] at hz
  split at hz
  · rename_i b off hp
    simp only [Option.bind_eq_some_iff] at hz
    obtain ⟨cs, hcs, hz⟩ := hz
    obtain ⟨m, arr, t', hm, hg, hn, hl, h1, hvs⟩ := hr.cells hcs
    rw [hp] at hv
    have h2 := hv.adr_ hm
    obtain ⟨v, hrun, hvr⟩ := ld_run (P := P) (B := m.B) (o0 := m.o) (g := fun i => arr.getD (m.o + i) undef) hvs hz hu hi rfl rfl
    refine ⟨v, fun w' _ hR => ?_, hvr⟩
    have hb : w'.heap[m.B]? = w.heap[m.B]? := hR b (by simp [reads, hp]) m hm
    have := hrun w' (fun i x hx => by
      rw [cell_of (hb.trans hg)]
      have hlt : i < cs.length := (List.getElem?_eq_some_iff.1 hx).1
      rw [Array.getD_eq_getD_getElem?, Array.getElem?_eq_getElem (by omega)]
      rfl)
    simp [execOp, ho, h2, Instr.loadAt, Instr.sureAddr, this]
  · rename_i cs off hp
    rw [hp] at hv
    obtain ⟨B, o', f, h2, hS, hc, hvs⟩ := hv.rad_
    obtain ⟨v, hrun, hvr⟩ := ld_run (P := P) (B := B) (o0 := o') (g := f) hvs hz hu hi rfl rfl
    refine ⟨v, fun w' hB _ => ?_, hvr⟩
    have := hrun w' (fun i x hx => (cell_blk (hB B hS)).trans (hc i x hx))
    simp [execOp, ho, h2, Instr.loadAt, Instr.sureAddr, this]
  · cases hz

theorem yld_lens {x x' args argTypes} (o : Oper) (ho : o.op = .call { callee := .builtin .len, args := args, argTypes := argTypes }) (hargs : args.toList = [x]) (ht : argTypes[0]?.bind P.underlying = some .string)
    (hx : rOpd N x = some x') (he : ER N S w μ e a.tmps) {z} (hz : ev0 e h (.lens x') = some z) : Yld P S w μ a o [] z := by
  have ha : args = #[x] := by
    apply Array.ext'
    simpa using hargs
  subst ha
  obtain ⟨t, ht0, hu⟩ := Option.bind_eq_some_iff.1 ht
  simp only [ev0] at hz
  split at hz
  · rename_i s hp
    have e1 := (at_ hx he hp).str_
    injection hz with hz
    subst hz
    refine ⟨_, fun w' _ _ => ?_, .int _ _⟩
    simp [execOp, ho, resolve, invoke, builtin, Builtin.len_, ht0, run_underlying hu, e1, goInt, sizeL]
  · cases hz

theorem yld_len {x x' args argTypes el} (o : Oper) (ho : o.op = .call { callee := .builtin .len, args := args, argTypes := argTypes }) (hargs : args.toList = [x]) (ht : argTypes[0]?.bind P.underlying = some (.slice el))
    (hx : rOpd N x = some x') (he : ER N S w μ e a.tmps) {z} (hz : ev0 e h (.len x') = some z) : Yld P S w μ a o [] z := by
  have hv := opd_sound hx he
  have ha : args = #[x] := by
    apply Array.ext'
    simpa using hargs
  subst ha
  obtain ⟨t, ht0, hu⟩ := Option.bind_eq_some_iff.1 ht
  have run : ∀ (n : Nat) (A : Option Addr) (c : Nat), a.eval x = .slice A n c → ∀ w' : World, (execOp a.eval o).run P w' = .ok (.value (.int .i64 n)) w' := by
    intro n A c h1 w'
    simp [execOp, ho, resolve, invoke, builtin, Builtin.len_, ht0, run_underlying hu, h1, goInt]
  simp only [ev0] at hz
  split at hz
  · rename_i hp
    rw [hp] at hv
    injection hz with hz
    subst hz
    exact ⟨_, fun w' _ _ => run 0 _ _ hv.nils_ w', .int _ _⟩
  · rename_i b off sz len kc hp
    rw [hp] at hv
    injection hz with hz
    subst hz
    obtain ⟨A, cap, om, h2, _⟩ := hv.sl0
    exact ⟨_, fun w' _ _ => run _ _ _ h2 w', .int _ _⟩
  · rename_i sz cs len hp
    rw [hp] at hv
    injection hz with hz
    subst hz
    obtain ⟨A, cap, f, h2, _⟩ := hv.ro_
    exact ⟨_, fun w' _ _ => run _ _ _ h2 w', .int _ _⟩
  · cases hz

theorem ev0_mn2 {x y : Opd} : ev0 e h (.mn [x, y]) = mn2 (evO e x) (evO e y) := by
  show (mn2 (evO e x) (evO e y)).bind some = _
  cases mn2 (evO e x) (evO e y) <;> rfl
theorem ev0_mx2 {x y : Opd} : ev0 e h (.mx [x, y]) = mx2 (evO e x) (evO e y) := by
  show (mx2 (evO e x) (evO e y)).bind some = _
  cases mx2 (evO e x) (evO e y) <;> rfl
theorem mn2_int {k : IntKind} {a b : Int} : mn2 (.int k a) (.int k b) = some (.int k (if b < a then b else a)) := if_pos rfl
theorem mx2_int {k : IntKind} {a b : Int} : mx2 (.int k a) (.int k b) = some (.int k (if a < b then b else a)) := if_pos rfl
attribute [push_cast] ev0_mn2 ev0_mx2 mn2_int mx2_int
theorem yld_mn {x y x' y' c} (o : Oper) (ho : o.op = .call c) (hb : c.callee = .builtin .min) (hargs : c.args.toList = [x, y])
    (hx : rOpd N x = some x') (hy : rOpd N y = some y') (he : ER N S w μ e a.tmps) {z} (hz : ev0 e h (.mn [x', y']) = some z) : Yld P S w μ a o [] z := by
  have ha : c.args = #[x, y] := by
    apply Array.ext'
    simpa using hargs
  rw [ev0_mn2] at hz
  unfold mn2 at hz
  split at hz
  · rename_i k n k' m h1 h2
    split at hz
    · rename_i hk
      subst hk
      injection hz with hz
      subst hz
      have e1 := (at_ hx he h1).int_
      have e2 := (at_ hy he h2).int_
      refine ⟨_, fun w' _ _ => ?_, .int _ _⟩
      simp [execOp, ho, hb, ha, resolve, invoke, builtin, Builtin.min_, Builtin.min2, e1, e2]
    · cases hz
  · cases hz
theorem yld_mx {x y x' y' c} (o : Oper) (ho : o.op = .call c) (hb : c.callee = .builtin .max) (hargs : c.args.toList = [x, y])
    (hx : rOpd N x = some x') (hy : rOpd N y = some y') (he : ER N S w μ e a.tmps) {z} (hz : ev0 e h (.mx [x', y']) = some z) : Yld P S w μ a o [] z := by
  have ha : c.args = #[x, y] := by
    apply Array.ext'
    simpa using hargs
  rw [ev0_mx2] at hz
  unfold mx2 at hz
  split at hz
  · rename_i k n k' m h1 h2
    split at hz
    · rename_i hk
      subst hk
      injection hz with hz
      subst hz
      have e1 := (at_ hx he h1).int_
      have e2 := (at_ hy he h2).int_
      refine ⟨_, fun w' _ _ => ?_, .int _ _⟩
      simp [execOp, ho, hb, ha, resolve, invoke, builtin, Builtin.max_, Builtin.max2, e1, e2]
    · cases hz
  · cases hz

theorem yld_ext {x j x'} (o : Oper) (ho : o.op = .extract x j) (hx : rOpd N x = some x') (he : ER N S w μ e a.tmps) {z} (hz : ev0 e h (.ext x' j) = some z) : Yld P S w μ a o [] z := by
  have hv := opd_sound hx he
  simp only [ev0] at hz
  split at hz
  · rename_i vs hp
    rw [hp] at hv
    obtain ⟨cs, h2, hl, hvs⟩ := hv.tup_
    have hlt : j < vs.length := (List.getElem?_eq_some_iff.1 hz).1
    refine ⟨_, fun w' _ _ => ?_, hvs _ _ hz⟩
    simp only [execOp, ho, h2, Instr.extract]
    rw [Array.getD_eq_getD_getElem?, Array.getElem?_eq_getElem (by omega)]
    simp
  · cases hz

theorem mapM_opd {xs : List Operand} {ys : List Opd} (hx : xs.mapM (rOpd N) = some ys) (he : ER N S w μ e a.tmps) :
    ys.length = xs.length ∧ ∀ (i : Nat) (y : AV), (ys.map (evO e))[i]? = some y → ∃ x, xs[i]? = some x ∧ VR S w μ y (a.eval x) := by
  induction xs generalizing ys with
  | nil =>
    simp at hx
    subst hx
    exact ⟨rfl, fun i y h => by simp at h⟩
  | cons x r ih =>
    simp only [List.mapM_cons, Option.bind_eq_bind, Option.bind_eq_some_iff] at hx
    obtain ⟨y, hy, zs, hzs, hr⟩ := hx
    injection hr with hr
    subst hr
    obtain ⟨h1, h2⟩ := ih hzs
    refine ⟨by simp [h1], fun i z hz => ?_⟩
    cases i with
    | zero =>
      simp at hz
      subst hz
      exact ⟨x, rfl, opd_sound hy he⟩
    | succ i =>
      simp only [List.map_cons, List.getElem?_cons_succ] at hz ⊢
      exact h2 i z hz

theorem yld_mkfn {f first caps cs} (o : Oper) (ho : o.op = .makeFunc (.func f) first caps) (hf : first.isEmpty = true) (hc : caps.toList.mapM (rOpd N) = some cs) (he : ER N S w μ e a.tmps) {z}
    (hz : ev0 e h (.mkfn f cs) = some z) : Yld P S w μ a o [] z := by
  simp only [ev0] at hz
  injection hz with hz
  subst hz
  obtain ⟨h1, h2⟩ := mapM_opd hc he
  have hf0 : first = #[] := by simpa using hf
  refine ⟨.func (.func f) #[] (caps.map a.eval), fun w' _ _ => ?_, .fn (by simp [h1]) (fun i x hx => ?_)⟩
  · simp [execOp, ho, Instr.makeFunc, hf0]
  · obtain ⟨q, hq, hv⟩ := h2 i x hx
    have : caps[i]? = some q := by simpa using hq
    simpa [this] using hv

/-- All of them. -/
theorem asInts_list : ∀ {l : List AV} {s : List UInt8}, asInts l = some s → ∃ xs : List Int, l = xs.map (AV.int .u8) ∧ s = xs.map (fun n => UInt8.ofNat n.toNat)
  | [], s, h => by simp [asInts] at h; subst h; exact ⟨[], rfl, rfl⟩
  | x :: r, s, h => by
    unfold asInts at h
    split at h
    · rename_i hh; cases hh
    · rename_i n r' hh
      injection hh with h1 h2
      subst h1 h2
      obtain ⟨s', hs', rfl⟩ := Option.map_eq_some_iff.1 h
      obtain ⟨xs, rfl, rfl⟩ := asInts_list hs'
      exact ⟨n :: xs, rfl, rfl⟩
    · cases h

theorem run_bytes {l : List AV} {s : List UInt8} (hs : asInts l = some s) {f : Nat → Value} (hv : ∀ (i : Nat) (x : AV), l[i]? = some x → VR S w μ x (f i)) {src dst el : TypeId} (h1 : P.underlying src = some (.slice el)) (h2 : P.underlying dst = some .string)
    (h3 : P.underlying el = some (.int .u8)) {B o cap : Nat} (w' : World) (hc : ∀ (i : Nat) (x : AV), l[i]? = some x → w'.cell? ⟨B, o + i, none⟩ = some (f i)) :
    (convert src dst (.slice (some ⟨B, o, none⟩) l.length cap)).run P w' = .ok (.string ⟨s.toArray⟩) w' := by
  obtain ⟨xs, rfl, rfl⟩ := asInts_list hs
  exact run_convert_bytes_arg (P := P) w' src el h1 h3 B o _ cap xs (by simp) (fun i hi => by
    have hi' : i < xs.length := by simpa using hi
    have hx : (xs.map (AV.int .u8))[i]? = some (.int .u8 (xs.getD i 0)) := by simp [hi']
    rw [hc i _ hx, (hv i _ hx).int_]) dst h2

theorem yld_cbs {s d x x' el} (o : Oper) (ho : o.op = .convert s d x) (hs : P.underlying s = some (.slice el)) (hd : P.underlying d = some .string) (hel : P.underlying el = some (.int .u8)) (hx : rOpd N x = some x')
    (hr : HR S w μ h) (he : ER N S w μ e a.tmps) {z} (hz : ev0 e h (.cbs x') = some z) : Yld P S w μ a o (reads e (.cbs x')) z := by
  have hv := opd_sound hx he
  simp only [ev0] at hz
  split at hz
  · rename_i hp
    injection hz with hz
    subst hz
    rw [hp] at hv
    have h2 := hv.nils_
    refine ⟨.string ⟨#[]⟩, fun w' _ _ => ?_, .str [] (by simp)⟩
    have := run_convert_bytes_nil (P := P) w' s el hs hel 0 0 d hd
    simp only [execOp, ho, h2, Sem.run_bind, this]
    rfl
  · rename_i b off sz len kc hp
    split at hz
    · obtain ⟨cs, hcs, hz⟩ := Option.bind_eq_some_iff.1 hz
      split at hz
      · rename_i hle
        obtain ⟨t, ht, rfl⟩ := Option.map_eq_some_iff.1 hz
        obtain ⟨m, arr, t', hm, hg, hn, hl, h1, hvs⟩ := hr.cells hcs
        rw [hp] at hv
        obtain ⟨A, cap, h2, hlk, hkc, hmx, hB, hsp, hof, hcn, hz0⟩ := hv.sl_ hm
        have get : ∀ (i : Nat) (x : AV), ((cs.drop off).take len)[i]? = some x → i < len ∧ cs[off + i]? = some x := by
          intro i x hx
          rw [List.getElem?_take] at hx
          split at hx
          · rw [List.getElem?_drop] at hx
            exact ⟨by assumption, hx⟩
          · cases hx
        have hll : ((cs.drop off).take len).length = len := by simp; omega
        have htl : t.length = len := by
          obtain ⟨xs, hx1, hx2⟩ := asInts_list ht
          rw [hx2, List.length_map, ← hll, hx1, List.length_map]
        refine ⟨.string ⟨t.toArray⟩, fun w' _ hR => ?_, .str t (by simp [maxLen] at hmx; omega)⟩
        have hb : w'.heap[m.B]? = w.heap[m.B]? := hR b (by simp [reads, hp]) m hm
        obtain ⟨B, o', sp⟩ := A
        simp only at hB hsp hof
        subst hB hsp
        have := run_bytes (P := P) (S := S) (w := w) (μ := μ) ht (f := fun i => arr.getD (m.o + (off + i)) undef) (fun i x hx => hvs _ _ (get i x hx).2) hs hd hel (B := m.B) (o := o') (cap := cap) w' (fun i x hx => by
          obtain ⟨hi, hx⟩ := get i x hx
          rw [hof (by omega), cell_of (hb.trans hg)]
          have hlt : off + i < cs.length := (List.getElem?_eq_some_iff.1 hx).1
          rw [Array.getD_eq_getD_getElem?, Array.getElem?_eq_getElem (by omega), Array.getElem?_eq_getElem (by omega)]
          simp [Nat.add_assoc])
        rw [hll] at this
        simp [execOp, ho, h2, this]
      · cases hz
    · cases hz
  · rename_i sz cs len hp
    split at hz
    · rename_i hle
      obtain ⟨t, ht, rfl⟩ := Option.map_eq_some_iff.1 hz
      rw [hp] at hv
      obtain ⟨A, cap, f, h2, hl, hmx, hz0, h1, hS, hcc, hvv⟩ := hv.ro_
      have get : ∀ (i : Nat) (x : AV), (cs.take len)[i]? = some x → cs[i]? = some x := by
        intro i x hx
        rw [List.getElem?_take] at hx
        split at hx
        · exact hx
        · cases hx
      have hll : (cs.take len).length = len := by simp; omega
      have htl : t.length = len := by
        obtain ⟨xs, hx1, hx2⟩ := asInts_list ht
        rw [hx2, List.length_map, ← hll, hx1, List.length_map]
      refine ⟨.string ⟨t.toArray⟩, fun w' hB _ => ?_, .str t (by simp [maxLen] at hmx; omega)⟩
      by_cases hl0 : len = 0
      · subst hl0
        simp only [List.take_zero, asInts, Option.some.injEq] at ht
        subst ht
        have hz := run_bytesToString (P := P) w' A 0 cap [] (by simp [loadCells, loadCellsFrom])
        have := run_convert_bytes_string (P := P) w' s d el (some A) 0 cap hs hel hd
        rw [hz] at this
        simp only [execOp, ho, h2, Sem.run_bind, this]
        rfl
      obtain ⟨hS, hsp⟩ := hS (.inl (by omega))
      obtain ⟨B, o', sp⟩ := A
      simp only at hsp
      subst hsp
      have := run_bytes (P := P) (S := S) (w := w) (μ := μ) ht (f := f) (fun i x hx => hvv _ _ (get i x hx)) hs hd hel (B := B) (o := o') (cap := cap) w' (fun i x hx => (cell_blk (hB B hS)).trans (hcc _ _ (get i x hx)))
      rw [hll] at this
      simp [execOp, ho, h2, this]
    · cases hz
  · cases hz

/-! ### a value that is built -/
theorem foldl_put (off : Nat) : ∀ (vs : List Value) (k : Nat) (arr : Array Value), ((vs.zipIdx k).foldl (fun cs (c, j) => cs.setIfInBounds (off + j) c) arr).size = arr.size ∧
    ∀ i, i < arr.size → ((vs.zipIdx k).foldl (fun cs (c, j) => cs.setIfInBounds (off + j) c) arr).getD i undef = if off + k ≤ i ∧ i < off + k + vs.length then vs.getD (i - (off + k)) undef else arr.getD i undef
  | [], k, arr => by
    refine ⟨rfl, fun i hi => ?_⟩
    rw [if_neg (by simp)]
    rfl
  | v :: vs, k, arr => by
    obtain ⟨h1, h2⟩ := foldl_put off vs (k + 1) (arr.setIfInBounds (off + k) v)
    rw [List.zipIdx_cons, List.foldl_cons]
    refine ⟨by rw [h1]; simp, fun i hi => ?_⟩
    rw [h2 i (by simpa using hi)]
    by_cases hc : off + (k + 1) ≤ i ∧ i < off + (k + 1) + vs.length
    · rw [if_pos hc, if_pos (by simp only [List.length_cons]; omega)]
      rw [show i - (off + k) = (i - (off + (k + 1))) + 1 by omega]
      rfl
    · rw [if_neg hc]
      by_cases he : i = off + k
      · subst he
        rw [if_pos (by simp only [List.length_cons]; omega)]
        simp [Array.getD_eq_getD_getElem?, hi]
      · rw [if_neg (by simp only [List.length_cons]; omega)]
        simp only [Array.getD_eq_getD_getElem?]
        rw [Array.getElem?_setIfInBounds_ne (by omega)]

theorem over_get {cs new : List AV} {off : Nat} (hl : off + new.length ≤ cs.length) (i : Nat) : (over cs off new)[i]? = if off ≤ i ∧ i < off + new.length then new[i - off]? else cs[i]? := by
  unfold over
  rw [List.append_assoc]
  by_cases h1 : i < off
  · rw [List.getElem?_append_left (by simp; omega), if_neg (by omega), List.getElem?_take, if_pos h1]
  · rw [List.getElem?_append_right (by simp; omega)]
    simp only [List.length_take, Nat.min_eq_left (show off ≤ cs.length by omega)]
    by_cases h2 : i < off + new.length
    · rw [List.getElem?_append_left (by omega), if_pos ⟨by omega, h2⟩]
    · rw [List.getElem?_append_right (by omega), if_neg (by omega), List.getElem?_drop]
      congr 1
      omega

theorem over_len {cs new : List AV} {off : Nat} (hl : off + new.length ≤ cs.length) : (over cs off new).length = cs.length := by
  simp [over]
  omega

theorem cells_at {x v} (hv : VR S w μ x v) : v.cells.size = (cellsOf x).length ∧ (∀ (i : Nat) (y : AV), (cellsOf x)[i]? = some y → VR S w μ y (v.cells.getD i undef)) := by
  by_cases ha : ∃ cs, x = .agg cs
  · obtain ⟨cs, rfl⟩ := ha
    obtain ⟨vs, rfl, hl, hvs⟩ := hv.agg_
    exact ⟨hl, hvs⟩
  · have hx : cellsOf x = [x] := by cases x <;> first | rfl | exact absurd ⟨_, rfl⟩ ha
    have hc : v.cells = #[v] := by
      cases hv <;> first | rfl | exact absurd ⟨_, rfl⟩ ha
    rw [hx, hc]
    refine ⟨rfl, fun i y hy => ?_⟩
    cases i with
    | zero => simp at hy; subst hy; exact hv
    | succ i => simp at hy

theorem fill_sound {place : Nat → Option (Nat × Nat)} : ∀ {ps : List (Nat × Nat × AV)} {vs : List (Nat × Value)} {cs zs : List AV} {arr : Array Value}, fillA cs ps = some zs →
    (∀ (i : Nat) (p : Nat × Nat × AV), ps[i]? = some p → ∃ j v, vs[i]? = some (j, v) ∧ place j = some (p.1, p.2.1) ∧ VR S w μ p.2.2 v) → vs.length = ps.length →
    arr.size = cs.length → (∀ (i : Nat) (x : AV), cs[i]? = some x → VR S w μ x (arr.getD i undef)) →
    ∃ arr', Instr.fill place arr vs = some arr' ∧ arr'.size = zs.length ∧ ∀ (i : Nat) (x : AV), zs[i]? = some x → VR S w μ x (arr'.getD i undef)
  | [], vs, cs, zs, arr, hf, hp, hl, ha, hv => by
    simp only [fillA, Option.some.injEq] at hf
    subst hf
    have : vs = [] := by simpa using hl
    subst this
    exact ⟨arr, rfl, ha, hv⟩
  | (off, sz, x) :: ps, [], cs, zs, arr, hf, hp, hl, ha, hv => by simp at hl
  | (off, sz, x) :: ps, (j, v) :: vs, cs, zs, arr, hf, hp, hl, ha, hv => by
    simp only [fillA] at hf
    split at hf
    · rename_i hc
      obtain ⟨j', v', he, hj, hx⟩ := hp 0 _ rfl
      simp only [List.getElem?_cons_zero, Option.some.injEq, Prod.mk.injEq] at he
      obtain ⟨rfl, rfl⟩ := he
      obtain ⟨c1, c2⟩ := cells_at hx
      obtain ⟨q1, q2⟩ := foldl_put off v.cells.toList 0 arr
      have hlen : off + (cellsOf x).length ≤ cs.length := by omega
      obtain ⟨arr', h1, h2, h3⟩ := fill_sound (place := place) (vs := vs) (arr := (v.cells.zipIdx).foldl (fun cs (c, j) => cs.setIfInBounds (off + j) c) arr) hf (fun i p hi => by simpa using hp (i + 1) p (by simpa using hi)) (by simpa using hl)
        (by rw [← Array.foldl_toList, Array.toList_zipIdx, q1, over_len hlen, ha]) (fun i y hy => by
          rw [← Array.foldl_toList, Array.toList_zipIdx]
          have hi : i < cs.length := by rw [← over_len hlen]; exact (List.getElem?_eq_some_iff.1 hy).1
          rw [q2 i (by omega)]
          rw [over_get hlen] at hy
          simp only [Nat.add_zero, Array.length_toList, c1]
          split at hy
          · rename_i hc
            rw [if_pos hc]
            simpa [List.getD_eq_getElem?_getD] using c2 _ _ hy
          · rename_i hc
            rw [if_neg hc]
            exact hv _ _ hy)
      refine ⟨arr', ?_, h2, h3⟩
      simp only [Instr.fill, hj]
      have hsz : ¬ ((v.cells.size ≠ sz || decide (off + v.cells.size > arr.size)) = true) := by
        have e1 : v.cells.size = sz := c1.trans hc.1
        simp [e1]
        omega
      rw [if_neg hsz]
      exact h1
    · cases hf

theorem mapM_abs {vs : List Value} {zs : List AV} (hz : vs.mapM absV = some zs) : zs.length = vs.length ∧ (∀ (i : Nat) (x : AV), zs[i]? = some x → VR S w μ x (vs.getD i undef)) ∧ zs.all one = true := by
  induction vs generalizing zs with
  | nil => simp at hz; subst hz; simp
  | cons v r ih =>
    simp only [List.mapM_cons, Option.bind_eq_bind, Option.bind_eq_some_iff] at hz
    obtain ⟨y, hy, ys, hys, hr⟩ := hz
    injection hr with hr
    subst hr
    obtain ⟨h1, h2, h3⟩ := ih hys
    obtain ⟨q1, q2⟩ := absV_sound hy S w μ
    refine ⟨by simp [h1], fun i x hx => ?_, by simp [q2]; simpa using h3⟩
    cases i with
    | zero => simp at hx; subst hx; exact q1
    | succ i => simpa using h2 i x (by simpa using hx)

theorem abs_cells {z zs} (hz : absCells z = some zs) : zs.length = z.cells.size ∧ (∀ (i : Nat) (x : AV), zs[i]? = some x → VR S w μ x (z.cells.getD i undef)) ∧ zs.all one = true := by
  obtain ⟨h1, h2, h3⟩ := mapM_abs (S := S) (w := w) (μ := μ) hz
  refine ⟨by simpa using h1, fun i x hx => ?_, h3⟩
  have := h2 i x hx
  simpa [List.getD_eq_getElem?_getD] using this

theorem mapM_parts {pl : List (Nat × Nat)} {xs : List (Nat × Operand)} {ys : List (Nat × Nat × Opd)} (hx : xs.mapM (rPart N pl) = some ys) (he : ER N S w μ e a.tmps) :
    xs.length = ys.length ∧ ∀ (i : Nat) (y : Nat × Nat × Opd), ys[i]? = some y → ∃ j x, xs[i]? = some (j, x) ∧ pl[j]? = some (y.1, y.2.1) ∧ VR S w μ (evO e y.2.2) (a.eval x) := by
  induction xs generalizing ys with
  | nil => simp at hx; subst hx; simp
  | cons v r ih =>
    simp only [List.mapM_cons, Option.bind_eq_bind, Option.bind_eq_some_iff] at hx
    obtain ⟨y, hy, ys', hys, hr⟩ := hx
    injection hr with hr
    subst hr
    obtain ⟨x', hx', hq⟩ := Option.bind_eq_some_iff.1 hy
    obtain ⟨q, hqq, rfl⟩ := Option.map_eq_some_iff.1 hq
    obtain ⟨h1, h2⟩ := ih hys
    refine ⟨by simp [h1], fun i z hz => ?_⟩
    cases i with
    | zero =>
      simp at hz
      subst hz
      exact ⟨v.1, v.2, rfl, hqq, opd_sound hx' he⟩
    | succ i => simpa using h2 i z (by simpa using hz)

theorem yld_bld {t parts it z zs pl ps} (o : Oper) (ho : o.op = .build t parts) (hi : P.info? t = some it) (hz0 : it.zero = some z) (hzs : absCells z = some zs) (hpl : places P t = some pl)
    (hps : parts.toList.mapM (rPart N pl) = some ps) (he : ER N S w μ e a.tmps) {y}
    (hz : ev0 e h (.bld zs ps) = some y) : Yld P S w μ a o [] y := by
  obtain ⟨r, hr, rfl⟩ := Option.map_eq_some_iff.1 hz
  obtain ⟨c1, c2, c3⟩ := abs_cells (S := S) (w := w) (μ := μ) hzs
  obtain ⟨p1, p2⟩ := mapM_parts hps he
  unfold places at hpl
  split at hpl
  · rename_i fields hu
    obtain ⟨arr', h1, h2, h3⟩ := fill_sound (S := S) (w := w) (μ := μ) (place := (pl.toArray[·]?)) (vs := (parts.map fun (i, x) => (i, a.eval x)).toList) (arr := z.cells) hr (fun i p hp => by
      rw [List.getElem?_map, Option.map_eq_some_iff] at hp
      obtain ⟨q, hq, rfl⟩ := hp
      obtain ⟨j, x, hx, hj, hv⟩ := p2 i q hq
      exact ⟨j, a.eval x, by simp [hx] , by simpa using hj, hv⟩) (by simp [← p1]) c1.symm c2
    refine ⟨.agg arr', fun w' _ _ => ?_, .agg h2 h3⟩
    have hb : P.built t (parts.map fun (i, x) => (i, a.eval x)).toList = some arr' := by
      unfold Program.built
      simp only [hi, hu, hz0, hpl]
      exact h1
    have := run_build w' t _ _ hb
    simp only [execOp, ho, Sem.run_bind, this]
    rfl
  · cases hpl

/-! ### maps whose keys are numbers -/
theorem isIntK_ {k : AV} (h : isIntK k = true) : ∃ n, k = .int .i64 n := by
  unfold isIntK at h
  split at h
  · exact ⟨_, rfl⟩
  · cases h

theorem findNow_sound {n : Int} : ∀ {es : List (AV × AV)} {l : List MapEntry}, es.all (fun p => isIntK p.1) = true → l.length = es.length →
    (∀ (i : Nat) (p : AV × AV), es[i]? = some p → ∃ m, l[i]? = some m ∧ VR S w μ p.1 m.key ∧ VR S w μ p.2 m.val) → ∀ i0 : Nat,
    (Instr.findNow (.int .i64) (.int .i64 n) l i0 = some none ∧ mget es (.int .i64 n) = none ∧ ∀ x, mput (.int .i64 n) x es = es ++ [(.int .i64 n, x)]) ∨
    ∃ (j : Nat) (p : AV × AV) (m : MapEntry), es[j]? = some p ∧ l[j]? = some m ∧ m.key = .int .i64 n ∧ Instr.findNow (.int .i64) (.int .i64 n) l i0 = some (some (i0 + j, m.val)) ∧ mget es (.int .i64 n) = some p.2 ∧ ∀ x, mput (.int .i64 n) x es = es.set j (p.1, x)
  | [], l, _, hl, _, i0 => by
    have : l = [] := List.eq_nil_of_length_eq_zero hl
    subst this
    exact .inl ⟨rfl, rfl, fun x => rfl⟩
  | p :: es, [], _, hl, _, i0 => by simp at hl
  | p :: es, m :: l, ha, hl, hv, i0 => by
    simp only [List.all_cons, Bool.and_eq_true] at ha
    obtain ⟨a, hp⟩ := isIntK_ ha.1
    obtain ⟨m', hm', hk, hx⟩ := hv 0 p rfl
    simp at hm'
    subst hm'
    rw [hp] at hk
    have hk := hk.int_
    by_cases hn : n = a
    · subst hn
      refine .inr ⟨0, p, m, rfl, rfl, hk, ?_, ?_, fun x => ?_⟩
      · simp [Instr.findNow, Instr.sameNow, hk]
      · simp [mget, sameKey, hp]
      · simp [mput, sameKey, hp]
    · have hsame : sameKey (.int .i64 n) p.1 = false := by
        rw [hp]
        simp [sameKey, hn]
      have hfn : Instr.findNow (.int .i64) (.int .i64 n) (m :: l) i0 = Instr.findNow (.int .i64) (.int .i64 n) l (i0 + 1) := by
        have hb : (n == a) = false := by simpa using hn
        simp [Instr.findNow, Instr.sameNow, hk, hb]
      rcases findNow_sound ha.2 (by simpa using hl) (fun i q hq => by simpa using hv (i + 1) q (by simpa using hq)) (i0 + 1) with ⟨h1, h2, h3⟩ | ⟨j, q, m2, h1, h2, h3, h4, h5, h6⟩
      · refine .inl ⟨by rw [hfn]; exact h1, ?_, fun x => ?_⟩
        · unfold mget at h2 ⊢
          rw [List.find?_cons, hsame]
          exact h2
        · rw [mput, hsame, h3 x]
          rfl
      · refine .inr ⟨j + 1, q, m2, by simpa using h1, by simpa using h2, h3, ?_, ?_, fun x => ?_⟩
        · rw [hfn, h4]
          congr 3
          omega
        · unfold mget at h5 ⊢
          rw [List.find?_cons, hsame]
          exact h5
        · rw [mput, hsame, h6 x]
          rfl

theorem run_look {t kt el : TypeId} {r : Nat} {arr : Array MapEntry} {clock : Nat} {n : Int} {i : TypeInfo} {z : Value} {ok : Bool} {a : Option (Nat × Value)} {w' : World} (ht : P.underlying t = some (.map kt el)) (hk : P.underlying kt = some (.int .i64)) (hi : P.info? el = some i) (hz : i.zero = some z)
    (hb : w'.heap[r]? = some (.map arr clock)) (hf : Instr.findNow (.int .i64) (.int .i64 n) arr.toList 0 = some a) :
    (Instr.lookup t (.map (some r)) (.int .i64 n) ok).run P w' = .ok (if ok then .tuple #[(a.map (·.2)).getD z, .bool a.isSome] else (a.map (·.2)).getD z) w' := by
  unfold Instr.lookup
  simp only [Sem.run_bind, run_underlying ht, Result.andThen, MapKept.run_getObj_map hb, Sem.run_pure, MapKept.run_checkKey hk (k := .int .i64 n) (by simp [MapKept.IsKey]), MapKept.run_findKey hk hf]
  cases a with
  | none => simp [zeroValue, typeInfo, hi, hz, Result.andThen]
  | some p => simp [Result.andThen]

theorem entries_at {arr : Array MapEntry} {es : List (AV × AV)} (hl : arr.size = es.length) (hv : ∀ (i : Nat) (p : AV × AV), es[i]? = some p → VR S w μ p.1 (arr.getD i default).key ∧ VR S w μ p.2 (arr.getD i default).val) :
    arr.toList.length = es.length ∧ ∀ (i : Nat) (p : AV × AV), es[i]? = some p → ∃ m, arr.toList[i]? = some m ∧ VR S w μ p.1 m.key ∧ VR S w μ p.2 m.val := by
  refine ⟨by simpa using hl, fun i p hp => ?_⟩
  have hlt : i < arr.size := by
    rw [hl]
    exact (List.getElem?_eq_some_iff.1 hp).1
  have := hv i p hp
  refine ⟨arr.getD i default, ?_, this⟩
  simp [Array.getD_eq_getD_getElem?, hlt]

theorem yld_look {t x k ok x' k' kt el i z zv} (o : Oper) (ho : o.op = .lookup t x k ok) (ht : P.underlying t = some (.map kt el)) (hk : P.underlying kt = some (.int .i64)) (hi : P.info? el = some i) (hz0 : i.zero = some z) (hzv : absV z = some zv)
    (hx : rOpd N x = some x') (hkk : rOpd N k = some k') (hr : HR S w μ h) (he : ER N S w μ e a.tmps) {r} (hz : ev0 e h (.look zv x' k' ok) = some r) : Yld P S w μ a o (reads e (.look zv x' k' ok)) r := by
  have hv := opd_sound hx he
  have hkv := opd_sound hkk he
  simp only [ev0] at hz
  split at hz
  · rename_i b hp
    simp only [Option.bind_eq_some_iff] at hz
    obtain ⟨es, hes, hz⟩ := hz
    split at hz
    · rename_i hc
      simp only [Bool.and_eq_true] at hc
      obtain ⟨n, hn⟩ := isIntK_ hc.1
      obtain ⟨m, arr, clock, hm, hg, hl, hvs⟩ := hr.mapOf hes
      rw [hp] at hv
      have h2 := hv.mp_ hm
      rw [hn] at hkv hz
      have h3 := hkv.int_
      obtain ⟨e1, e2⟩ := entries_at hl hvs
      have hzr := (absV_sound hzv S w μ).1
      have hb : ∀ w' : World, (∀ b ∈ reads e (.look zv x' k' ok), ∀ m : MI, μ[b]? = some (some m) → w'.heap[m.B]? = w.heap[m.B]?) → w'.heap[m.B]? = some (.map arr clock) := fun w' hR => (hR b (by simp [reads, hp]) m hm).trans hg
      injection hz with hz
      rcases findNow_sound (n := n) hc.2 e1 e2 0 with ⟨f1, f2, _⟩ | ⟨j, p, q, f1, f2, f3, f4, f5, _⟩
      · rw [f2] at hz
        refine ⟨if ok then .tuple #[z, .bool false] else z, fun w' _ hR => ?_, ?_⟩
        · have hrun := run_look (ok := ok) ht hk hi hz0 (hb w' hR) f1
          simp only [Option.map_none, Option.getD_none, Option.isSome_none] at hrun
          simp [execOp, ho, h2, h3, hrun, Result.andThen]
        · subst hz
          cases ok
          · simpa using hzr
          · simp only [if_true, Option.map_none, Option.getD_none, Option.isSome_none]
            refine .tup rfl (fun i x hx => ?_)
            rcases i with _ | _ | i
            · simp at hx; subst hx; simpa using hzr
            · simp at hx; subst hx; simpa using .bool _
            · simp at hx
      · rw [f5] at hz
        have hpv : VR S w μ p.2 q.val := by
          obtain ⟨m', g1, _, g3⟩ := e2 j p f1
          rw [f2] at g1
          injection g1 with g1
          subst g1
          exact g3
        refine ⟨if ok then .tuple #[q.val, .bool true] else q.val, fun w' _ hR => ?_, ?_⟩
        · have hrun := run_look (ok := ok) ht hk hi hz0 (hb w' hR) f4
          simp only [Option.map_some, Option.getD_some, Option.isSome_some] at hrun
          simp [execOp, ho, h2, h3, hrun, Result.andThen]
        · subst hz
          cases ok
          · simpa using hpv
          · simp only [if_true, Option.map_some, Option.getD_some, Option.isSome_some]
            refine .tup rfl (fun i x hx => ?_)
            rcases i with _ | _ | i
            · simp at hx; subst hx; simpa using hpv
            · simp at hx; subst hx; simpa using .bool _
            · simp at hx
    · cases hz
  · cases hz

theorem sound0 {o : Oper} {r z} (ho : rV P N o.op = some r) (hr : HR S w μ h) (he : ER N S w μ e a.tmps) (hz : ev0 e h r = some z) : Yld P S w μ a o (reads e r) z := by
  unfold rV at ho
  split at ho
  · rename_i x hop
    obtain ⟨y, hy, rfl⟩ := Option.map_eq_some_iff.1 ho
    injection hz with hz; subst hz
    exact yld_move o (.inl hop) hy he
  · rename_i x hop
    obtain ⟨y, hy, rfl⟩ := Option.map_eq_some_iff.1 ho
    injection hz with hz; subst hz
    exact yld_move o (.inr hop) hy he
  · rename_i c x y hop
    obtain ⟨c', hc, ho⟩ := Option.bind_eq_some_iff.1 ho
    obtain ⟨x', hx, ho⟩ := Option.bind_eq_some_iff.1 ho
    obtain ⟨y', hy, rfl⟩ := Option.map_eq_some_iff.1 ho
    exact yld_pick o hop hc hx hy he hz
  · rename_i op t x y ty hop
    obtain ⟨x', hx, ho⟩ := Option.bind_eq_some_iff.1 ho
    obtain ⟨y', hy, ho⟩ := Option.bind_eq_some_iff.1 ho
    split at ho
    · injection ho with ho; subst ho
      exact yld_bin o hop hx hy he hz
    · injection ho with ho; subst ho
      exact yld_bin o hop hx hy he hz
    · rename_i hu
      split at ho <;> first | (injection ho with ho; subst ho; exact yld_beq o hop hu rfl hx hy he hz) | cases ho
    · rename_i hu
      split at ho <;> first | (injection ho with ho; subst ho; exact yld_seq o hop hu rfl hx hy he hz) | cases ho
    · rename_i hu
      split at ho <;> first | (injection ho with ho; subst ho; exact yld_ieq o hop hu rfl hx hy he hz) | cases ho
    · cases ho
  · rename_i op t x hop
    obtain ⟨y, hy, rfl⟩ := Option.map_eq_some_iff.1 ho
    exact yld_un o hop hy he hz
  · rename_i s d x hop
    obtain ⟨x', hx, ho⟩ := Option.bind_eq_some_iff.1 ho
    split at ho
    · rename_i hs hd
      injection ho with ho; subst ho
      exact yld_conv o hop hs hd hx he hz
    · rename_i hs hd
      injection ho with ho; subst ho
      exact yld_cid o hop hs hd hx he hz
    · rename_i hs hd
      split at ho
      · injection ho with ho; subst ho
        rename_i hel
        exact yld_cbs o hop hs hd hel hx hr he hz
      · cases ho
    · cases ho
  · rename_i x hop
    obtain ⟨y, hy, rfl⟩ := Option.map_eq_some_iff.1 ho
    exact yld_nchk o hop hy he hz
  · rename_i s x f hop
    obtain ⟨x', hx, ho⟩ := Option.bind_eq_some_iff.1 ho
    split at ho
    · rename_i hu
      split at ho
      · rename_i hf
        split at ho
        · rename_i hi
          split at ho
          · cases ho
          · rename_i hn
            injection ho with ho; subst ho
            exact yld_faddr o hop hu hf hi hn hx he hz
        · cases ho
      · cases ho
    · cases ho
  · rename_i s x f hop
    obtain ⟨x', hx, ho⟩ := Option.bind_eq_some_iff.1 ho
    split at ho
    · rename_i hu
      split at ho
      · rename_i hf
        split at ho
        · rename_i hd hi
          injection ho with ho; subst ho
          exact yld_fld o hop hu hf hd hi hx he hz
        · cases ho
      · cases ho
    · cases ho
  · rename_i t x i hop
    obtain ⟨x', hx, ho⟩ := Option.bind_eq_some_iff.1 ho
    obtain ⟨i', hi, ho⟩ := Option.bind_eq_some_iff.1 ho
    split at ho
    · rename_i hu
      split at ho
      · rename_i hin
        injection ho with ho; subst ho
        exact yld_iaddr o hop hu hin hx hi he hz
      · cases ho
    · cases ho
  · rename_i t x i hop
    obtain ⟨x', hx, ho⟩ := Option.bind_eq_some_iff.1 ho
    obtain ⟨i', hi, ho⟩ := Option.bind_eq_some_iff.1 ho
    split at ho
    · rename_i hu
      injection ho with ho; subst ho
      exact yld_sidx o hop hu hx hi he hz
    · cases ho
  · rename_i t x lo hi hop
    obtain ⟨x', hx, ho⟩ := Option.bind_eq_some_iff.1 ho
    obtain ⟨lo', hlo, ho⟩ := Option.bind_eq_some_iff.1 ho
    obtain ⟨hi', hhi, ho⟩ := Option.bind_eq_some_iff.1 ho
    split at ho
    · rename_i hu
      injection ho with ho; subst ho
      exact yld_sstr o hop hu hx hlo hhi he hz
    · rename_i hu
      split at ho
      · rename_i hin
        injection ho with ho; subst ho
        exact yld_slc o hop hu hin hx hlo hhi he hz
      · cases ho
    · cases ho
  · rename_i t x hop
    obtain ⟨x', hx, ho⟩ := Option.bind_eq_some_iff.1 ho
    split at ho
    · rename_i hu hi
      injection ho with ho; subst ho
      exact yld_load o hop hu hi hx hr he hz
    · cases ho
  · rename_i x j hop
    obtain ⟨y, hy, rfl⟩ := Option.map_eq_some_iff.1 ho
    exact yld_ext o hop hy he hz
  · rename_i f first caps hop
    split at ho
    · rename_i hf
      obtain ⟨cs, hc, rfl⟩ := Option.map_eq_some_iff.1 ho
      exact yld_mkfn o hop hf hc he hz
    · cases ho
  · rename_i args argTypes hop
    split at ho
    · rename_i x hargs
      split at ho
      · rename_i ht
        obtain ⟨y, hy, rfl⟩ := Option.map_eq_some_iff.1 ho
        exact yld_lens o hop hargs ht hy he hz
      · rename_i el ht
        obtain ⟨y, hy, rfl⟩ := Option.map_eq_some_iff.1 ho
        exact yld_len o hop hargs ht hy he hz
      · cases ho
    · cases ho
  · rename_i hop
    split at ho
    · rename_i x y hargs
      obtain ⟨x', hx, ho⟩ := Option.bind_eq_some_iff.1 ho
      obtain ⟨y', hy, rfl⟩ := Option.map_eq_some_iff.1 ho
      exact yld_mn o hop rfl hargs hx hy he hz
    · cases ho
  · rename_i hop
    split at ho
    · rename_i x y hargs
      obtain ⟨x', hx, ho⟩ := Option.bind_eq_some_iff.1 ho
      obtain ⟨y', hy, rfl⟩ := Option.map_eq_some_iff.1 ho
      exact yld_mx o hop rfl hargs hx hy he hz
    · cases ho
  · rename_i t x k ok hop
    obtain ⟨x', hx, ho⟩ := Option.bind_eq_some_iff.1 ho
    obtain ⟨k', hkk, ho⟩ := Option.bind_eq_some_iff.1 ho
    split at ho
    · rename_i ht
      split at ho
      · rename_i hk hi
        obtain ⟨z, hz0, ho⟩ := Option.bind_eq_some_iff.1 ho
        obtain ⟨zv, hzv, rfl⟩ := Option.map_eq_some_iff.1 ho
        exact yld_look o hop ht hk hi hz0 hzv hx hkk hr he hz
      · cases ho
    · cases ho
  · rename_i t parts hop
    obtain ⟨it, hi, ho⟩ := Option.bind_eq_some_iff.1 ho
    obtain ⟨z', hz', ho⟩ := Option.bind_eq_some_iff.1 ho
    obtain ⟨zs, hzs, ho⟩ := Option.bind_eq_some_iff.1 ho
    obtain ⟨pl, hpl, ho⟩ := Option.bind_eq_some_iff.1 ho
    obtain ⟨ps, hps, rfl⟩ := Option.map_eq_some_iff.1 ho
    exact yld_bld o hop hi hz' hzs hpl hps he hz
  · cases ho
end
end Go.Proofs.YtbkcenkfecndjaaGreatDoor.M
