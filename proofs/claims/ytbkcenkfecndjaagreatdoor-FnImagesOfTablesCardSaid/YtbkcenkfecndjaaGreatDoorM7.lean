/-
  The transformer is sound; a function's contract out of its resolved text.
-/
import Derived.Test.YtbkcenkfecndjaaGreatDoorM6
namespace Go.Proofs.YtbkcenkfecndjaaGreatDoor.M
open Go Go.RowKit
set_option linter.unusedVariables false
set_option linter.unusedSimpArgs false
section
variable {P : Program} {N : Nat} {pm : Nat → Prop}

theorem WP_panic {Q : Ex → Env → H → Prop} {S w μ ds c a' w'} : ¬ WP N pm Q S w μ ds (.panic c) a' w' := by
  rintro ⟨x, e', h', S', μ', h1, _⟩
  cases h1

theorem T_sound : ∀ (c : Code) (rc : RCode) (Q : Ex → Env → H → Prop) (e : Env) (h : H) (S : Nat → Prop) (w : World) (μ : Mu) (a : Act),
    rCode P N c = some rc → T P pm rc Q e h → HR S w μ h → ER N S w μ e a.tmps → c.wp P (WP N pm Q S w μ a.defers) a w := by
  intro c
  induction c with
  | skip =>
    intro rc Q e h S w μ a hc hT hr he
    simp only [rCode, Option.some.injEq] at hc
    subst hc
    exact wp_skip ⟨_, e, h, S, μ, .normal, hT, hr, he, Step.refl _ _ _ _, rfl⟩
  | region id ops dr =>
    intro rc Q e h S w μ a hc hT hr he
    cases dr with
    | false =>
      simp only [rCode, Option.map_eq_some_iff] at hc
      obtain ⟨rs, hrs, rfl⟩ := hc
      exact wp_region (TO_sound (ds := a.defers) _ rs e h S w μ a hrs hT hr he rfl fun e' h' S' w' μ' a' hK hr' he' hs hd => ⟨_, e', h', S', μ', .normal, hK, hr', he', hs, hd⟩)
    | true =>
      simp only [rCode] at hc
      split at hc
      · rename_i hns
        obtain ⟨pl, hpl, rfl⟩ := Option.map_eq_some_iff.1 hc
        refine wp_region_held (S := fun _ => True) hns.2 ?_
        have hs0 : Step pm S w μ S { w with drawn := w.drawn + 1 } μ := Step.drew _ _ _ _ _
        exact TD_sound (ds := a.defers) hns.1 (fun c a w => WP_panic) _ _ pl [] (fun _ => True) e h S _ μ a hpl hT (hr.drew _) (he.fwd hs0.toFwd) rfl (fun _ _ _ _ => trivial)
          fun e' h' S' w' μ' a' hK hr' he' hs hd => ⟨_, e', h', S', μ', .normal, hK, hr', he', hs0.trans hs, hd⟩
      · cases hc
  | seq x y ihx ihy =>
    intro rc Q e h S w μ a hc hT hr he
    simp only [rCode, Option.bind_eq_some_iff, Option.map_eq_some_iff] at hc
    obtain ⟨rx, hx, ry, hy, rfl⟩ := hc
    simp only [T] at hT
    refine wp_seq (wp_mono (ihx rx _ e h S w μ a hx hT hr he) ?_)
    rintro ex a' w' ⟨x', e', h', S', μ', hex, hQ, hr', he', hs, hd⟩
    cases hex with
    | normal =>
      simp only [] at hQ
      refine wp_mono (ihy ry Q e' h' S' w' μ' a' hy hQ hr' he') ?_
      intro ex2 a2 w2 h2
      rw [hd] at h2
      exact h2.start hs
    | exit i => exact ⟨_, e', h', S', μ', .exit i, hQ, hr', he', hs, hd⟩
    | ret => exact ⟨_, e', h', S', μ', .ret, hQ, hr', he', hs, hd⟩
  | cond c x y ihx ihy =>
    intro rc Q e h S w μ a hc hT hr he
    simp only [rCode, Option.bind_eq_some_iff, Option.map_eq_some_iff] at hc
    obtain ⟨c', hc', rx, hx, ry, hy, rfl⟩ := hc
    simp only [T] at hT
    split at hT
    · rename_i t ht
      have hv := (at_ hc' he ht).bool_
      refine wp_cond_split hv (fun h1 => ?_) (fun h1 => ?_)
      · rw [if_pos h1] at hT
        exact ihx rx Q e h S w μ a hx hT hr he
      · rw [if_neg (by simp [h1])] at hT
        exact ihy ry Q e h S w μ a hy hT hr he
    · exact hT.elim
  | block id c ih =>
    intro rc Q e h S w μ a hc hT hr he
    simp only [rCode, Option.map_eq_some_iff] at hc
    obtain ⟨rx, hx, rfl⟩ := hc
    simp only [T] at hT
    refine wp_block (wp_mono (ih rx _ e h S w μ a hx hT hr he) ?_)
    rintro ex a' w' ⟨x', e', h', S', μ', hex, hQ, hr', he', hs, hd⟩
    cases hex with
    | normal => exact ⟨_, e', h', S', μ', .normal, hQ, hr', he', hs, hd⟩
    | exit i =>
      simp only [] at hQ
      simp only [Exit.inBlock]
      split
      · rename_i hi
        rw [if_pos hi] at hQ
        exact ⟨_, e', h', S', μ', .normal, hQ, hr', he', hs, hd⟩
      · rename_i hi
        rw [if_neg hi] at hQ
        exact ⟨_, e', h', S', μ', .exit i, hQ, hr', he', hs, hd⟩
    | ret => exact ⟨_, e', h', S', μ', .ret, hQ, hr', he', hs, hd⟩
  | loop c ih =>
    intro rc Q e h S w μ a hc hT hr he
    simp only [rCode, Option.map_eq_some_iff] at hc
    obtain ⟨rx, hx, rfl⟩ := hc
    simp only [T] at hT
    obtain ⟨I, ⟨n0, hI0⟩, hround⟩ := hT
    let J : Nat → Act → World → Prop := fun n a' w' => ∃ e' h' S' μ', I n e' h' ∧ HR S' w' μ' h' ∧ ER N S' w' μ' e' a'.tmps ∧ Step pm S w μ S' w' μ' ∧ a'.defers = a.defers
    have least : ∀ (a' : Act) (w' : World), (∃ n, J n a' w') → ∃ n, J n a' w' ∧ ∀ m, J m a' w' → n ≤ m := by
      intro a' w' ⟨n, hn⟩
      induction n using Nat.strongRecOn with
      | _ n ihn =>
        by_cases hlt : ∃ m, m < n ∧ J m a' w'
        · obtain ⟨m, hm, hJ⟩ := hlt
          exact ihn m hm hJ
        · exact ⟨n, hn, fun m hm => Nat.le_of_not_lt fun hc => hlt ⟨m, hc, hm⟩⟩
    let mea : Act → World → Nat := fun a' w' => open Classical in if hJ : ∃ n, J n a' w' then Classical.choose (least a' w' hJ) else 0
    have mea_spec : ∀ a' w', (∃ n, J n a' w') → J (mea a' w') a' w' ∧ ∀ m, J m a' w' → mea a' w' ≤ m := by
      intro a' w' hJ
      have := Classical.choose_spec (least a' w' hJ)
      simp only [mea, dif_pos hJ]
      exact this
    refine wp_loop (fun a' w' => ∃ n, J n a' w') mea ⟨n0, e, h, S, μ, hI0, hr, he, Step.refl _ _ _ _, rfl⟩ ?_
    intro a1 w1 hJ1
    obtain ⟨⟨e1, h1, S1, μ1, hI1, hr1, he1, hs1, hd1⟩, _⟩ := mea_spec a1 w1 hJ1
    refine wp_mono (ih rx _ e1 h1 S1 w1 μ1 a1 hx (hround _ _ _ hI1) hr1 he1) ?_
    rintro ex a' w' ⟨x', e', h', S', μ', hex, hQ, hr', he', hs, hd⟩
    cases hex with
    | normal =>
      obtain ⟨m, hm, hIm⟩ := hQ
      have hJm : J m a' w' := ⟨e', h', S', μ', hIm, hr', he', hs1.trans hs, hd.trans hd1⟩
      exact ⟨⟨m, hJm⟩, Nat.lt_of_le_of_lt ((mea_spec a' w' ⟨m, hJm⟩).2 m hJm) hm⟩
    | exit i => exact ⟨_, e', h', S', μ', .exit i, hQ, hr', he', hs1.trans hs, hd.trans hd1⟩
    | ret => exact ⟨_, e', h', S', μ', .ret, hQ, hr', he', hs1.trans hs, hd.trans hd1⟩
  | exit i =>
    intro rc Q e h S w μ a hc hT hr he
    simp only [rCode, Option.some.injEq] at hc
    subst hc
    exact wp_exit ⟨_, e, h, S, μ, .exit i, hT, hr, he, Step.refl _ _ _ _, rfl⟩
  | ret =>
    intro rc Q e h S w μ a hc hT hr he
    simp only [rCode, Option.some.injEq] at hc
    subst hc
    exact wp_ret ⟨_, e, h, S, μ, .ret, hT, hr, he, Step.refl _ _ _ _, rfl⟩
  | _ =>
    intro rc Q e h S w μ a hc hT hr he
    simp only [rCode, Option.some.injEq] at hc
    subst hc
    exact hT.elim

/-! ### functions -/
def rRes (P : Program) (N : Nat) : ResultVar → Option RRes
  | .tmp t => if t < N then some (.t t) else none
  | .cell x t => if x < N then match P.underlying t, P.info? t with | some d, some i => some (.cell (isAggD d) i.size x) | _, _ => none else none

def rFunc (P : Program) (fn : Func) : Option RFunc :=
  fn.body.bind fun c => (fn.results.toList.mapM (rRes P fn.ntmps)).bind fun rs => (rCode P fn.ntmps c).map fun b => ⟨fn.ntmps, rs, b⟩

def resOf (e : Env) (h : H) : RRes → Option AV
  | .t n => some (e n)
  | .cell ag sz n => match e n with
    | .adr b off => (h.cells b).bind fun cs => ld ag sz cs off
    | _ => none

def resV (rs : List RRes) (e : Env) (h : H) : Option AV := (rs.mapM (resOf e h)).map fun
  | [x] => x
  | xs => .tup xs

/-- What a body's end must say. -/
def Ends (rs : List RRes) (Q : AV → H → Prop) : Ex → Env → H → Prop
  | .exit _, _, _ => False
  | _, e, h => match resV rs e h with | some x => Q x h | none => False

theorem run_rRes {S w μ h e} {a : Act} {r r'} (hr : rRes P N r = some r') (hh : HR S w μ h) (he : ER N S w μ e a.tmps) {x} (hx : resOf e h r' = some x) :
    ∃ v, (match r with | .tmp t => pure (a.tmps.getD t undef) | .cell x t => do loadVar t (← asAddr (a.tmps.getD x undef)) : Sem Value).run P w = .ok v w ∧ VR S w μ x v := by
  unfold rRes at hr
  split at hr
  · rename_i t
    split at hr
    · rename_i ht
      injection hr with hr
      subst hr
      simp only [resOf, Option.some.injEq] at hx
      subst hx
      exact ⟨_, rfl, he.at_ t ht⟩
    · cases hr
  · rename_i n t
    split at hr
    · rename_i hn
      split at hr
      · rename_i d i hu hi
        injection hr with hr
        subst hr
        simp only [resOf] at hx
        split at hx
        · rename_i b off hp
          simp only [Option.bind_eq_some_iff] at hx
          obtain ⟨cs, hcs, hx⟩ := hx
          obtain ⟨m, arr, t', hm, hg, hnn, hl, h1, hvs⟩ := hh.cells hcs
          have hv := he.at_ n hn
          rw [hp] at hv
          have h2 := hv.adr_ hm
          obtain ⟨v, hrun, hvr⟩ := ld_run (P := P) (B := m.B) (o0 := m.o) (g := fun i => arr.getD (m.o + i) undef) hvs hx hu hi rfl rfl
          refine ⟨v, ?_, hvr⟩
          have := hrun w (fun i x hx => by
            rw [cell_of hg]
            have hlt : i < cs.length := (List.getElem?_eq_some_iff.1 hx).1
            rw [Array.getD_eq_getD_getElem?, Array.getElem?_eq_getElem (by omega)]
            rfl)
          simp [h2, asAddr, this]
        · cases hx
      · cases hr
    · cases hr

theorem run_results {S w μ h e} {a : Act} : ∀ {rs : List ResultVar} {rs' : List RRes} {xs : List AV}, rs.mapM (rRes P N) = some rs' → HR S w μ h → ER N S w μ e a.tmps → rs'.mapM (resOf e h) = some xs →
    ∃ vs : List Value, (rs.mapM (fun r => (match r with | .tmp t => pure (a.tmps.getD t undef) | .cell x t => do loadVar t (← asAddr (a.tmps.getD x undef)) : Sem Value)) : Sem (List Value)).run P w = .ok vs w ∧ vs.length = xs.length ∧
      ∀ (i : Nat) (x : AV), xs[i]? = some x → VR S w μ x (vs.getD i undef)
  | [], rs', xs, h1, hh, he, h2 => by
    simp at h1
    subst h1
    simp at h2
    subst h2
    exact ⟨[], rfl, rfl, fun i x hx => by simp at hx⟩
  | r :: rs, rs', xs, h1, hh, he, h2 => by
    simp only [List.mapM_cons, Option.bind_eq_bind, Option.bind_eq_some_iff] at h1
    obtain ⟨r', hr', rs2, hrs2, he1⟩ := h1
    injection he1 with he1
    subst he1
    simp only [List.mapM_cons, Option.bind_eq_bind, Option.bind_eq_some_iff] at h2
    obtain ⟨x, hx, xs2, hxs2, he2⟩ := h2
    injection he2 with he2
    subst he2
    obtain ⟨v, hrun, hv⟩ := run_rRes hr' hh he hx
    obtain ⟨vs, hruns, hl, hvs⟩ := run_results hrs2 hh he hxs2
    refine ⟨v :: vs, ?_, by simp [hl], fun i y hy => ?_⟩
    · rw [List.mapM_cons]
      simp only [Sem.run_bind]
      rw [hrun]
      simp only [Result.andThen_ok]
      rw [hruns]
      rfl
    · cases i with
      | zero => simp at hy; subst hy; exact hv
      | succ i => simpa using hvs i y (by simpa using hy)

def initEnv (args : List AV) : Env := fun t => args.getD t unset

theorem call_intro {f : FuncId} {fn : Func} {rf : RFunc} {args : List AV} {h : H} {W : Nat → Prop} {Q : AV → H → Prop} (hf : P.funcs[f]? = some fn) (hrf : rFunc P fn = some rf) (hnm : (fn.name == "runtime.NumGoroutine") = false) (hn : args.length ≤ rf.n)
    (hT : T P (fun b => W b ∨ h.length ≤ b) rf.body (Ends rf.res Q) (initEnv args) h) : Call P f args h W Q := by
  simp only [rFunc, Option.bind_eq_some_iff, Option.map_eq_some_iff] at hrf
  obtain ⟨c, hb, rs, hrs, b, hcode, rfl⟩ := hrf
  refine ⟨⟨fn, hf, by simp [hb], hnm⟩, fun S w μ cargs hr har => ?_⟩
  have hinit : ER fn.ntmps S w μ (initEnv args) (cargs ++ Array.replicate (fn.ntmps - cargs.size) undef) := by
    refine ⟨by rw [Array.size_append, Array.size_replicate, har.1]; simp only at hn; omega, fun t ht => ?_⟩
    unfold initEnv
    by_cases hlt : t < args.length
    · have := har.2 t _ (List.getElem?_eq_getElem hlt)
      simp only [Array.getD_eq_getD_getElem?] at this ⊢
      rw [Array.getElem?_append_left (by rw [har.1]; exact hlt)]
      simpa [List.getD_eq_getElem?_getD, hlt] using this
    · simp only [Array.getD_eq_getD_getElem?]
      rw [Array.getElem?_append_right (by rw [har.1]; omega)]
      have : (Array.replicate (fn.ntmps - cargs.size) undef)[t - cargs.size]? = some undef := by
        rw [Array.getElem?_replicate]
        rw [if_pos (by rw [har.1]; omega)]
      rw [this]
      simp only [List.getD_eq_getElem?_getD, List.getElem?_eq_none (show args.length ≤ t by omega)]
      exact VR.undef_ _ _ _
  refine calls_of_wp hf hb ?_
  have hw := T_sound (N := fn.ntmps) (pm := fun b => W b ∨ h.length ≤ b) c b _ _ h S w μ { tmps := cargs ++ Array.replicate (fn.ntmps - cargs.size) undef, defers := [] } hcode hT hr hinit
  refine wp_mono hw ?_
  have fin : ∀ (x : Ex) (e' : Env) (h' : H) (S' : Nat → Prop) (μ' : Mu) (a' : Act) (w' : World), (x = .normal ∨ x = .ret) → Ends rs Q x e' h' → HR S' w' μ' h' → ER fn.ntmps S' w' μ' e' a'.tmps → Step (fun b => W b ∨ h.length ≤ b) S w μ S' w' μ' → a'.defers = [] →
      a'.defers = [] ∧ ∃ v, (results fn a'.tmps).run P w' = .ok v w' ∧ CPost W S w μ Q (.returned v) w' := by
    intro x e' h' S' μ' a' w' hx hE hr' he' hs hd
    refine ⟨hd, ?_⟩
    have hE' : match resV rs e' h' with | some x => Q x h' | none => False := by
      rcases hx with rfl | rfl <;> exact hE
    split at hE'
    · rename_i y hy
      unfold resV at hy
      simp only [Option.map_eq_some_iff] at hy
      obtain ⟨xs, hxs, hy⟩ := hy
      obtain ⟨vs, hruns, hl, hvs⟩ := run_results (a := a') hrs hr' he' hxs
      have hstep : Step W S w μ S' w' μ' := hs.mono fun b hb hh => hh.resolve_right (by have := hr.len; omega)
      have hrun : (results fn a'.tmps).run P w' = .ok (if hh : vs.length = 1 then vs[0] else .tuple vs.toArray) w' := by
        unfold results
        have hm : fn.results.mapM (fun r => (match r with | .tmp t => pure (a'.tmps.getD t undef) | .cell x t => do loadVar t (← asAddr (a'.tmps.getD x undef)) : Sem Value)) = (fun l : List Value => l.toArray) <$> fn.results.toList.mapM (fun r => (match r with | .tmp t => pure (a'.tmps.getD t undef) | .cell x t => do loadVar t (← asAddr (a'.tmps.getD x undef)) : Sem Value)) := by
          rw [Array.mapM_eq_mapM_toList]
        simp only [Sem.run_bind]
        erw [hm]
        rw [Sem.run_map, hruns]
        simp
      refine ⟨_, hrun, _, y, h', S', μ', rfl, hE', ?_, hr', hstep⟩
      split at hy
      · rename_i z
        subst hy
        have hl1 : vs.length = 1 := by simpa using hl
        rw [dif_pos hl1]
        have := hvs 0 z rfl
        simpa [List.getD_eq_getElem?_getD, hl1] using this
      · rename_i hne
        subst hy
        have hl1 : vs.length ≠ 1 := by
          intro h1
          rw [h1] at hl
          obtain ⟨z, hz⟩ := List.length_eq_one_iff.1 hl.symm
          exact hne z hz
        rw [dif_neg hl1]
        exact .tup (by simpa using hl) (fun i q hq => by simpa [List.getD_eq_getElem?_getD] using hvs i q hq)
    · exact hE'.elim
  rintro ex a' w' ⟨x, e', h', S', μ', hex, hQ, hr', he', hs, hd⟩
  cases hex with
  | normal => exact fin _ e' h' S' μ' a' w' (.inl rfl) hQ hr' he' hs hd
  | ret => exact fin _ e' h' S' μ' a' w' (.inr rfl) hQ hr' he' hs hd
  | exit i => exact hQ.elim
end
end Go.Proofs.YtbkcenkfecndjaaGreatDoor.M
