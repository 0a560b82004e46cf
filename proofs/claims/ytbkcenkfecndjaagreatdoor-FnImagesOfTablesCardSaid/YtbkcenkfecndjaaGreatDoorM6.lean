/-
  Resolved code, the predicate transformer over it, and that it is sound.
-/
import Derived.Test.YtbkcenkfecndjaaGreatDoorM5c
namespace Go.Proofs.YtbkcenkfecndjaaGreatDoor.M
open Go Go.RowKit
set_option linter.unusedVariables false
set_option linter.unusedSimpArgs false

/-! ### calls -/
def CPost (W : Nat → Prop) (S : Nat → Prop) (w : World) (μ : Mu) (Q : AV → H → Prop) : Ending → World → Prop := fun e w' =>
  ∃ v x h' S' μ', e = .returned v ∧ Q x h' ∧ VR S' w' μ' x v ∧ HR S' w' μ' h' ∧ Step W S w μ S' w' μ'

def CanEnter (P : Program) (f : FuncId) : Prop := ∃ fn, P.funcs[f]? = some fn ∧ fn.body.isNone = false ∧ (fn.name == "runtime.NumGoroutine") = false

/-- Called with these arguments, in a heap like this, the function returns what Q says; no block is written but those of W. -/
def Call (P : Program) (f : FuncId) (args : List AV) (h : H) (W : Nat → Prop) (Q : AV → H → Prop) : Prop :=
  CanEnter P f ∧ ∀ S w μ cargs, HR S w μ h → AR S w μ args cargs → Calls P f cargs w (CPost W S w μ Q)

theorem Call.mono {P f args h W W'} {Q Q' : AV → H → Prop} (hc : Call P f args h W Q) (hq : ∀ x h', Q x h' → Q' x h') (hw : ∀ b, b < h.length → W b → W' b) : Call P f args h W' Q' :=
  ⟨hc.1, fun S w μ cargs hr ha => (hc.2 S w μ cargs hr ha).mono fun _ _ ⟨v, x, h', S', μ', he, hQ, hv, hr', hs⟩ => ⟨v, x, h', S', μ', he, hq _ _ hQ, hv, hr', hs.mono fun b hb => hw b (hr.len ▸ hb)⟩⟩

/-! ### the transformer -/
inductive Ex where
  | normal
  | exit (id : Nat)
  | ret

def want (g : Option (Nat × Bool)) (e : Env) : Bool :=
  match g with
  | none => true
  | some (d, b) => match e d with | .bool c => c == b | _ => false

def TOp (P : Program) (pm : Nat → Prop) (e : Env) (h : H) (K : AV → H → Prop) : ROp → Prop
  | .v o => match ev0 e h o with | some x => K x h | none => False
  | .m o => ev1 pm e h K o
  | .dead => False
  | .call f args => Call P f (args.map (evO e)) h pm K
  | .callv x args => match evO e x with | .fn f caps => Call P f (args.map (evO e) ++ caps) h pm K | _ => False

def TO (P : Program) (pm : Nat → Prop) : List RO → (Env → H → Prop) → Env → H → Prop
  | [], K, e, h => K e h
  | o :: r, K, e, h => if want o.guard e = true then TOp P pm e h (fun x h' => TO P pm r K (e.put o.dst x) h') o.op else TO P pm r K (e.put o.dst unset) h

def isV : ROp → Bool
  | .v _ => true
  | _ => false
def readsO (e : Env) : ROp → List Nat
  | .v o => reads e o
  | _ => []

def TD (P : Program) (pm : Nat → Prop) : RT → List Nat → (Env → H → Prop) → Env → H → Prop
  | .done, _, K, e, h => K e h
  | .fl o r, L, K, e, h => if want o.guard e = true then TOp P (fun b => pm b ∧ b ∉ L) e h (fun x h' => TD P pm r (readsO e o.op ++ L) K (e.put o.dst x) h') o.op else TD P pm r L K (e.put o.dst unset) h
  | .nx o r, L, K, e, h => if want o.guard e = true then TOp P (fun b => pm b ∧ b ∉ L) e h (fun x h' => TD P pm r L K (e.put o.dst x) h') o.op else TD P pm r L K (e.put o.dst unset) h
  | .both a b, L, K, e, h => TD P pm a L K e h ∧ TD P pm b L K e h

def T (P : Program) (pm : Nat → Prop) : RCode → (Ex → Env → H → Prop) → Env → H → Prop
  | .skip, Q, e, h => Q .normal e h
  | .dead, _, _, _ => False
  | .reg ops, Q, e, h => TO P pm ops (Q .normal) e h
  | .dreg t, Q, e, h => TD P pm t [] (Q .normal) e h
  | .seq a b, Q, e, h => T P pm a (fun x e' h' => match x with | .normal => T P pm b Q e' h' | .exit i => Q (.exit i) e' h' | .ret => Q .ret e' h') e h
  | .cond c a b, Q, e, h => match evO e c with | .bool t => if t = true then T P pm a Q e h else T P pm b Q e h | _ => False
  | .block id c, Q, e, h => T P pm c (fun x e' h' => match x with | .normal => Q .normal e' h' | .exit i => if i = id then Q .normal e' h' else Q (.exit i) e' h' | .ret => Q .ret e' h') e h
  | .loop c, Q, e, h => ∃ I : Nat → Env → H → Prop, (∃ n, I n e h) ∧ ∀ n e h, I n e h → T P pm c (fun x e' h' => match x with | .normal => ∃ m, m < n ∧ I m e' h' | .exit i => Q (.exit i) e' h' | .ret => Q .ret e' h') e h
  | .exit i, Q, e, h => Q (.exit i) e h
  | .ret, Q, e, h => Q .ret e h

/-! ### what is resolved -/
def rC (N : Nat) : Op → Option ROp
  | .call { callee := .value (.func f), args, .. } => (args.toList.mapM (rOpd N)).map fun as => .call f as
  | .call { callee := .value (.tmp t), args, .. } => (rOpd N (.tmp t)).bind fun x => (args.toList.mapM (rOpd N)).map fun as => .callv x as
  | _ => none

def rO (P : Program) (N : Nat) (op : Op) : Option ROp :=
  match rV P N op with
  | some r => some (.v r)
  | none => match rM P N op with
    | some r => some (.m r)
    | none => match rC N op with
      | some r => some r
      | none => some .dead

def rGuard (N : Nat) (ops : Array Oper) : Option (Nat × Bool) → Option (Option (Nat × Bool))
  | none => some none
  | some (j, b) => match (ops[j]?).bind (·.dst) with
    | some d => if d < N then some (some (d, b)) else none
    | none => none

def dOk (N : Nat) : Option Nat → Bool
  | some d => decide (d < N)
  | none => true

def rOper (P : Program) (N : Nat) (ops : Array Oper) (o : Oper) : Option RO :=
  if dOk N o.dst = true then (rO P N o.op).bind fun r => (rGuard N ops o.guard).map fun g => ⟨o.dst, r, g⟩ else none

def isLd : Op → Bool
  | .load .. => true
  | _ => false
def fromAlloc (ops : Array Oper) : Operand → Bool
  | .tmp t => ops.any fun q => (match q.op with | .alloc _ => true | _ => false) && q.dst == some t
  | _ => false
/-- Which variable an operand is read from. -/
def varOf (ops : Array Oper) : Operand → Option Nat
  | .tmp t => match ops.toList.find? fun q => q.dst == some t with
    | some q => match q.op with
      | .move (.tmp s) => some s
      | .assign (.tmp s) => some s
      | _ => none
    | none => none
  | _ => none
def appVars (ops : Array Oper) : List Nat := ops.toList.filterMap fun o => match o.op with
  | .call { callee := .builtin .append, args, .. } => match args.toList with
    | x :: _ => varOf ops x
    | [] => none
  | _ => none
def ixVars (ops : Array Oper) : List Nat := ops.toList.filterMap fun o => match o.op with
  | .indexAddr _ x _ => varOf ops x
  | _ => none
/-- What is appended to is read, too. -/
def selfApp (ops : Array Oper) : Bool := (appVars ops).any fun t => (ixVars ops).contains t
def hasSt (ops : Array Oper) : Bool := selfApp ops || ops.any fun o => match o.op with | .store _ x _ => !fromAlloc ops x | _ => false
def floats (P : Program) (N : Nat) (ops : Array Oper) (i : Nat) : Bool := match ops[i]? with
  | some o => (rV P N o.op).isSome && !(isLd o.op && hasSt ops)
  | none => false

def allT (f : Nat → Option RT) : List Nat → Option RT
  | [] => none
  | [i] => f i
  | i :: r => (f i).bind fun a => (allT f r).map (.both a)

def planT (P : Program) (N : Nat) (ops : Array Oper) : Nat → Array Bool → Option RT
  | 0, listed => if Region.ready .any ops listed = [] then some .done else none
  | k + 1, listed => match Region.ready .any ops listed with
    | [] => some .done
    | r :: rs => match (r :: rs).find? (fun i => floats P N ops i && Region.free .any ops listed i) with
      | some i => ((ops[i]?).bind (rOper P N ops)).bind fun o => (planT P N ops k (listed.setIfInBounds i true)).map (.fl o)
      | none => allT (fun i => ((ops[i]?).bind (rOper P N ops)).bind fun o => (planT P N ops k (listed.setIfInBounds i true)).map (.nx o)) (r :: rs)

def rCode (P : Program) (N : Nat) : Code → Option RCode
  | .skip => some .skip
  | .region _ ops false => ((List.range ops.size).mapM fun i => (ops[i]?).bind (rOper P N ops)).map .reg
  | .region _ ops true => if Region.noSelect ops = true ∧ P.follows .mixedOrders = true then (planT P N ops ops.size (Array.replicate ops.size false)).map .dreg else none
  | .seq a b => (rCode P N a).bind fun a => (rCode P N b).map fun b => .seq a b
  | .cond c a b => (rOpd N c).bind fun c => (rCode P N a).bind fun a => (rCode P N b).map fun b => .cond c a b
  | .block id c => (rCode P N c).map fun c => .block id c
  | .loop c => (rCode P N c).map .loop
  | .exit i => some (.exit i)
  | .ret => some .ret
  | _ => some .dead

section
variable {P : Program} {N : Nat} {S : Nat → Prop} {w : World} {μ : Mu} {e : Env} {a : Act} {h : H} {pm : Nat → Prop}

theorem put_tmps (a : Act) (d : Option Tmp) (v : Value) : (a.put d v).tmps = putT a.tmps d v := by
  cases d <;> rfl
theorem put_defers (a : Act) (d : Option Tmp) (v : Value) : (a.put d v).defers = a.defers := by
  cases d <;> rfl

theorem want_sound {ops : Array Oper} {o : Oper} {g} (hg : rGuard N ops o.guard = some g) (he : ER N S w μ e a.tmps) : Region.wanted o (yielded ops a.tmps) = want g e := by
  unfold rGuard at hg
  unfold Region.wanted
  split at hg
  · rename_i hgu
    injection hg with hg
    subst hg
    rw [hgu]
    rfl
  · rename_i j b hgu
    rw [hgu]
    split at hg
    · rename_i d hd
      split at hg
      · rename_i hlt0
        have hlt : (d : Nat) < N := hlt0
        injection hg with hg
        subst hg
        have hv := he.at_ d hlt
        have hget : a.tmps[d]? = some (a.tmps.getD d undef) := by
          rw [Array.getD_eq_getD_getElem?, Array.getElem?_eq_getElem (by rw [he.size]; exact hlt)]
          rfl
        simp only [want, yielded, hd, Option.bind_some]
        rw [hget]
        generalize a.tmps.getD d undef = v at hv
        generalize e d = x at hv
        cases hv <;> first | rfl | (cases b <;> rfl) | (rename_i c; cases b <;> cases c <;> rfl)
      · cases hg
    · cases hg

/-- One operation that makes memory. -/
theorem sound1 {o : Oper} {r K} (ho : rM P N o.op = some r) (hr : HR S w μ h) (he : ER N S w μ e a.tmps) (hK : ev1 pm e h K r) : Does P pm S w μ a o K := by
  unfold rM at ho
  split at ho
  · rename_i x hop
    obtain ⟨x', hx, rfl⟩ := Option.map_eq_some_iff.1 ho
    exact do_box o hop hx hr he hK
  · rename_i t hop
    split at ho
    · rename_i i hi
      obtain ⟨z, hz, ho⟩ := Option.bind_eq_some_iff.1 ho
      obtain ⟨zs, hzs, rfl⟩ := Option.map_eq_some_iff.1 ho
      exact do_alloc o hop hi hz hzs hr hK
    · cases ho
  · rename_i t x v hop
    obtain ⟨x', hx, ho⟩ := Option.bind_eq_some_iff.1 ho
    obtain ⟨v', hv, ho⟩ := Option.bind_eq_some_iff.1 ho
    split at ho
    · rename_i i hi
      injection ho with ho; subst ho
      exact do_store o hop hx hv hi hr he hK
    · cases ho
  · rename_i args argTypes hop
    split at ho
    · rename_i x y t u hargs ht0 hu0
      obtain ⟨x', hx, ho⟩ := Option.bind_eq_some_iff.1 ho
      obtain ⟨y', hy, ho⟩ := Option.bind_eq_some_iff.1 ho
      split at ho
      · rename_i el ht
        split at ho
        · rename_i i hi
          split at ho
          · cases ho
          · rename_i hpos
            obtain ⟨z, hz, ho⟩ := Option.bind_eq_some_iff.1 ho
            split at ho
            · rename_i hz0
              split at ho
              · rename_i el' hu
                split at ho
                · injection ho with ho; subst ho
                  exact do_app o hop hargs ht0 hu0 ht hi hz hz0 (fun hc => hpos (.inl hc)) (fun hc => hpos (.inr hc)) (by simpa using ⟨_, hu⟩) hx hy hr he hK
                · cases ho
              · rename_i hu
                split at ho
                · rename_i h1
                  injection ho with ho; subst ho
                  exact do_app o hop hargs ht0 hu0 ht hi hz hz0 (fun hc => hpos (.inl hc)) (fun hc => hpos (.inr hc)) (by simpa using hu) hx hy hr he hK
                · cases ho
              · cases ho
            · cases ho
        · cases ho
      · cases ho
    · cases ho
  · rename_i hop
    split at ho
    · rename_i x y t u hargs ht0 hu0
      obtain ⟨x', hx, ho⟩ := Option.bind_eq_some_iff.1 ho
      obtain ⟨y', hy, ho⟩ := Option.bind_eq_some_iff.1 ho
      split at ho
      · rename_i el el' ht hu
        split at ho
        · rename_i i hi
          split at ho
          · cases ho
          · injection ho with ho; subst ho
            exact do_cpy o hop rfl hargs ht0 hu0 ht hu hi hx hy hr he hK
        · cases ho
      · cases ho
    · cases ho
  · rename_i t len parts hop
    split at ho
    · rename_i el ht
      split at ho
      · rename_i i hi
        split at ho
        · cases ho
        · rename_i hpos
          obtain ⟨z, hz, ho⟩ := Option.bind_eq_some_iff.1 ho
          split at ho
          · rename_i hz0
            obtain ⟨zs, hzs, ho⟩ := Option.bind_eq_some_iff.1 ho
            obtain ⟨ps, hps, rfl⟩ := Option.map_eq_some_iff.1 ho
            exact do_bsl o hop ht hi hz hz0 (fun hc => hpos (.inl hc)) (fun hc => hpos (.inr hc)) hzs hps hr he hK
          · cases ho
      · cases ho
    · cases ho
  · rename_i t l c hop
    obtain ⟨l', hl, ho⟩ := Option.bind_eq_some_iff.1 ho
    obtain ⟨c', hc, ho⟩ := Option.bind_eq_some_iff.1 ho
    split at ho
    · rename_i el ht
      split at ho
      · rename_i i hi
        split at ho
        · cases ho
        · rename_i hpos
          obtain ⟨z, hz, ho⟩ := Option.bind_eq_some_iff.1 ho
          split at ho
          · rename_i hz0
            obtain ⟨zs, hzs, rfl⟩ := Option.map_eq_some_iff.1 ho
            exact do_mks o hop hl hc ht hi hz hz0 (fun hc => hpos (.inl hc)) (fun hc => hpos (.inr hc)) hzs hr he hK
          · cases ho
      · cases ho
    · cases ho
  · injection ho with ho; subst ho
    rename_i hop
    exact do_mkm o hop hr hK
  · rename_i t m k v hop
    obtain ⟨m', hm, ho⟩ := Option.bind_eq_some_iff.1 ho
    obtain ⟨k', hkk, ho⟩ := Option.bind_eq_some_iff.1 ho
    obtain ⟨v', hv, ho⟩ := Option.bind_eq_some_iff.1 ho
    split at ho
    · rename_i ht
      split at ho
      · rename_i hk
        injection ho with ho; subst ho
        exact do_mset o hop ht hk hm hkk hv hr he hK
      · cases ho
    · cases ho
  · cases ho

/-- Arguments of a call. -/
theorem args_sound {xs : Array Operand} {ys : List Opd} (hx : xs.toList.mapM (rOpd N) = some ys) (he : ER N S w μ e a.tmps) : AR S w μ (ys.map (evO e)) (xs.map a.eval) := by
  obtain ⟨h1, h2⟩ := mapM_opd hx he
  refine ⟨by simp [h1], fun i x hx => ?_⟩
  obtain ⟨q, hq, hv⟩ := h2 i x hx
  have : xs[i]? = some q := by simpa using hq
  simpa [this] using hv

/-- One operation, whatever it is: it goes on at a state that the abstract one stands for. -/
theorem op_sound {o : Oper} {r K} {Q : Exit → Act → World → Prop} {next : Act → World → Prop} (ho : rO P N o.op = some r) (hr : HR S w μ h) (he : ER N S w μ e a.tmps) (hK : TOp P pm e h K r)
    (hn : ∀ v x h' S' w' μ', K x h' → VR S' w' μ' x v → HR S' w' μ' h' → Step pm S w μ S' w' μ' → next (a.put o.dst v) w') : o.wp P a w next Q := by
  unfold rO at ho
  split at ho
  · rename_i rv hv
    injection ho with ho
    subst ho
    simp only [TOp] at hK
    split at hK
    · rename_i x hx
      obtain ⟨v, hrun, hvr⟩ := sound0 hv hr he hx
      unfold Oper.wp
      rw [hrun w (fun _ _ => rfl) (fun _ _ _ _ => rfl)]
      exact hn _ _ _ _ _ _ hK hvr hr (Step.refl _ _ _ _)
    · exact hK.elim
  · split at ho
    · rename_i rm hm
      injection ho with ho
      subst ho
      obtain ⟨nx, v, w', μ', x, h', hrun, hnx, hKx, hvr, hr', hs⟩ := sound1 hm hr he hK
      unfold Oper.wp
      rw [hrun]
      rcases hnx with rfl | ⟨rfl, rfl⟩
      · exact hn _ _ _ _ _ _ hKx hvr hr' hs
      · exact hn _ _ _ _ _ _ hKx hvr hr' hs
    · have key : ∀ (f : FuncId) (xs : List AV) (cargs : Array Value), (execOp a.eval o).run P w = (callFunc f cargs).run P w → AR S w μ xs cargs → Call P f xs h pm K → o.wp P a w next Q := by
        intro f xs cargs hrun har hc
        obtain ⟨⟨fn, hf, hb, hnm⟩, hcall⟩ := hc
        unfold Oper.wp
        rw [hrun]
        have h1 : ¬ fn.name = "runtime.NumGoroutine" := by simpa using hnm
        have h2 : ¬ fn.body = none := by cases hq : fn.body <;> simp_all
        have : (callFunc f cargs).run P w = .ok (.enter f cargs) w := by
          simp [callFunc, hf, h1, h2]
        rw [this]
        refine (hcall S w μ cargs hr har).mono ?_
        rintro en w' ⟨v, x, h', S', μ', rfl, hKx, hvr, hr', hs⟩
        exact hn _ _ _ _ _ _ hKx hvr hr' hs
      split at ho
      case h_2 =>
        injection ho with ho
        subst ho
        exact hK.elim
      rename_i rc hrc
      injection ho with ho
      subst ho
      unfold rC at hrc
      split at hrc
      · rename_i f args ats hop
        obtain ⟨as, has, rfl⟩ := Option.map_eq_some_iff.1 hrc
        refine key f _ (args.map a.eval) ?_ (args_sound has he) hK
        simp [execOp, hop, resolve, Act.eval, Deferred.ofValue, invoke]
      · rename_i t args ats hop
        obtain ⟨x', hx, hrc⟩ := Option.bind_eq_some_iff.1 hrc
        obtain ⟨as, has, rfl⟩ := Option.map_eq_some_iff.1 hrc
        simp only [TOp] at hK
        split at hK
        · rename_i f caps hp
          have hv := opd_sound hx he
          rw [hp] at hv
          obtain ⟨vs, hvs, hl, hvv⟩ := hv.fn_
          obtain ⟨g1, g2⟩ := args_sound has he
          refine key f _ (args.map a.eval ++ vs) ?_ ⟨?_, fun i x hx => ?_⟩ hK
          · simp [execOp, hop, resolve, hvs, Deferred.ofValue, invoke]
          · rw [Array.size_append, List.length_append, g1, hl]
          · by_cases hi : i < (as.map (evO e)).length
            · rw [List.getElem?_append_left hi] at hx
              have := g2 i x hx
              simp only [Array.getD_eq_getD_getElem?] at this ⊢
              rw [Array.getElem?_append_left (by omega)]
              exact this
            · rw [List.getElem?_append_right (by omega)] at hx
              have := hvv _ x hx
              simp only [Array.getD_eq_getD_getElem?] at this ⊢
              rw [Array.getElem?_append_right (by omega), g1]
              exact this
        · exact hK.elim
      · cases hrc

/-! ### regions -/
inductive ExR : Ex → Exit → Prop
  | normal : ExR .normal .normal
  | exit (i) : ExR (.exit i) (.exit i)
  | ret : ExR .ret .ret

def WP (N : Nat) (pm : Nat → Prop) (Q : Ex → Env → H → Prop) (S : Nat → Prop) (w : World) (μ : Mu) (ds : List Deferred) : Exit → Act → World → Prop := fun ex a' w' =>
  ∃ x e' h' S' μ', ExR x ex ∧ Q x e' h' ∧ HR S' w' μ' h' ∧ ER N S' w' μ' e' a'.tmps ∧ Step pm S w μ S' w' μ' ∧ a'.defers = ds

theorem WP.start {Q : Ex → Env → H → Prop} {S1 w1 μ1 ds ex a' w'} (hs : Step pm S w μ S1 w1 μ1) (hw : WP N pm Q S1 w1 μ1 ds ex a' w') : WP N pm Q S w μ ds ex a' w' := by
  obtain ⟨x, e', h', S', μ', h1, h2, h3, h4, h5, h6⟩ := hw
  exact ⟨x, e', h', S', μ', h1, h2, h3, h4, hs.trans h5, h6⟩

theorem rOper_parts {ops : Array Oper} {o : Oper} {r} (hr : rOper P N ops o = some r) : (∀ d : Nat, o.dst = some d → d < N) ∧ rO P N o.op = some r.op ∧ rGuard N ops o.guard = some r.guard ∧ r.dst = o.dst := by
  unfold rOper at hr
  split at hr
  · rename_i hd
    obtain ⟨q, hq, hr⟩ := Option.bind_eq_some_iff.1 hr
    obtain ⟨g, hg, rfl⟩ := Option.map_eq_some_iff.1 hr
    refine ⟨fun d hdd => ?_, hq, hg, rfl⟩
    rw [hdd] at hd
    simpa [dOk] using hd
  · cases hr

theorem TO_sound {ops : Array Oper} {Q : Exit → Act → World → Prop} {ds : List Deferred} {K : Env → H → Prop} : ∀ (l : List Nat) (rs : List RO) (e : Env) (h : H) (S : Nat → Prop) (w : World) (μ : Mu) (a : Act),
    l.mapM (fun i => (ops[i]?).bind (rOper P N ops)) = some rs → TO P pm rs K e h → HR S w μ h → ER N S w μ e a.tmps → a.defers = ds →
    (∀ e' h' S' w' μ' a', K e' h' → HR S' w' μ' h' → ER N S' w' μ' e' a'.tmps → Step pm S w μ S' w' μ' → a'.defers = ds → Q .normal a' w') → wpOps P ops Q l a w
  | [], rs, e, h, S, w, μ, a, hm, hT, hr, he, hd, hQ => by
    simp at hm
    subst hm
    exact hQ _ _ _ _ _ _ hT hr he (Step.refl _ _ _ _) hd
  | i :: l, rs, e, h, S, w, μ, a, hm, hT, hr, he, hd, hQ => by
    simp only [List.mapM_cons, Option.bind_eq_bind, Option.bind_eq_some_iff] at hm
    obtain ⟨r, ⟨o, ho, hro⟩, rs', hrs, he2⟩ := hm
    injection he2 with he2
    subst he2
    obtain ⟨p1, p2, p3, p4⟩ := rOper_parts hro
    simp only [wpOps, ho]
    have hwant := want_sound p3 he
    simp only [TO] at hT
    rw [hwant]
    split at hT
    · rename_i hw
      rw [if_pos hw]
      refine .inl (op_sound p2 hr he hT fun v x h' S' w' μ' hT' hv hr' hs => ?_)
      refine TO_sound l rs' _ h' S' w' μ' _ hrs hT' hr' ?_ (by rw [put_defers]; exact hd) fun e'' h'' S'' w'' μ'' a'' hK hr'' he'' hs'' hd'' => hQ _ _ _ _ _ _ hK hr'' he'' (hs.trans hs'') hd''
      rw [put_tmps, p4]
      exact (he.fwd hs.toFwd).put p1 hv
    · rename_i hw
      rw [if_neg hw]
      refine TO_sound l rs' _ h S w μ _ hrs hT hr ?_ (by rw [put_defers]; exact hd) hQ
      rw [put_tmps, p4]
      exact he.put p1 (VR.undef_ _ _ _)

theorem wpAnyH_mono {ops : Array Oper} {Q : Exit → Act → World → Prop} {md : Region.Mode} {S1 S2 : World → Prop} (hS : ∀ w, S2 w → S1 w) : ∀ (fuel : Nat) (listed : Array Bool) (a : Act) (w : World),
    wpAnyH P md ops Q S2 fuel listed a w → wpAnyH P md ops Q S1 fuel listed a w
  | 0, _, _, _, h => h
  | fuel + 1, listed, a, w, h => ⟨h.1, fun i hi => wpOp_mono (fun a' w' h' => ⟨hS _ h'.1, wpAnyH_mono hS fuel _ a' w' h'.2⟩) (h.2 i hi)⟩

theorem floats_v {ops : Array Oper} {i : Nat} {o : Oper} {r} (ho : ops[i]? = some o) (hf : floats P N ops i = true) (hr : rO P N o.op = some r) : ∃ rv, r = .v rv ∧ rV P N o.op = some rv := by
  simp only [floats, ho, Bool.and_eq_true] at hf
  obtain ⟨rv, hrv⟩ := Option.isSome_iff_exists.1 hf.1
  unfold rO at hr
  rw [hrv] at hr
  injection hr with hr
  exact ⟨rv, hr.symm, hrv⟩

theorem allT_mem {f : Nat → Option RT} {pl : RT} {L : List Nat} {K : Env → H → Prop} : ∀ {l : List Nat} {t : RT}, allT f l = some t → TD P pm t L K e h → ∀ i ∈ l, ∃ t', f i = some t' ∧ TD P pm t' L K e h
  | [], t, ha, _, i, hi => by cases hi
  | [j], t, ha, hT, i, hi => by
    simp only [List.mem_singleton] at hi
    subst hi
    exact ⟨t, ha, hT⟩
  | j :: k :: r, t, ha, hT, i, hi => by
    simp only [allT] at ha
    obtain ⟨a, hja, ha⟩ := Option.bind_eq_some_iff.1 ha
    obtain ⟨b, hb, rfl⟩ := Option.map_eq_some_iff.1 ha
    rcases List.mem_cons.1 hi with rfl | hi
    · exact ⟨a, hja, hT.1⟩
    · exact allT_mem (pl := pl) hb hT.2 i hi

theorem TD_sound {ops : Array Oper} {Q : Exit → Act → World → Prop} {ds : List Deferred} {K : Env → H → Prop} (hns : Region.noSelect ops = true) (hpanic : ∀ c a w, ¬ Q (.panic c) a w) :
    ∀ (fuel : Nat) (listed : Array Bool) (t : RT) (L : List Nat) (Sk : World → Prop) (e : Env) (h : H) (S : Nat → Prop) (w : World) (μ : Mu) (a : Act),
    planT P N ops fuel listed = some t → TD P pm t L K e h → HR S w μ h → ER N S w μ e a.tmps → a.defers = ds →
    (∀ S' w' μ', Step (fun b => pm b ∧ b ∉ L) S w μ S' w' μ' → Sk w') →
    (∀ e' h' S' w' μ' a', K e' h' → HR S' w' μ' h' → ER N S' w' μ' e' a'.tmps → Step pm S w μ S' w' μ' → a'.defers = ds → Q .normal a' w') → wpAnyH P .any ops Q Sk fuel listed a w
  | 0, listed, t, L, Sk, e, h, S, w, μ, a, hp, hT, hr, he, hd, hSk, hQ => by
    unfold planT at hp
    split at hp
    · rename_i hrd
      injection hp with hp
      subst hp
      exact ⟨hrd, hQ _ _ _ _ _ _ hT hr he (Step.refl _ _ _ _) hd⟩
    · cases hp
  | fuel + 1, listed, t, L, Sk, e, h, S, w, μ, a, hp, hT, hr, he, hd, hSk, hQ => by
    unfold planT at hp
    split at hp
    · rename_i hrd
      injection hp with hp
      subst hp
      exact wpAnyH_done hrd (hQ _ _ _ _ _ _ hT hr he (Step.refl _ _ _ _) hd) _
    · rename_i r0 rs0 hready
      split at hp
      · rename_i i hfind
        obtain ⟨r, hro, hp⟩ := Option.bind_eq_some_iff.1 hp
        obtain ⟨t', ht', rfl⟩ := Option.map_eq_some_iff.1 hp
        obtain ⟨o, ho, hro⟩ := Option.bind_eq_some_iff.1 hro
        have hmem := List.mem_of_find?_eq_some hfind
        rw [← hready] at hmem
        have hprop := List.find?_some hfind
        simp only [Bool.and_eq_true] at hprop
        obtain ⟨hfl, hfree⟩ := hprop
        obtain ⟨p1, p2, p3, p4⟩ := rOper_parts hro
        obtain ⟨rv, hrv, hrV⟩ := floats_v ho hfl p2
        have hwant := want_sound p3 he
        simp only [TD] at hT
        split at hT
        · rename_i hw
          rw [hrv] at hT
          simp only [TOp, readsO] at hT
          split at hT
          · rename_i x hx
            obtain ⟨v, hrun, hvr⟩ := sound0 hrV hr he hx
            have hSk' : ∀ w', (Sk w' ∧ (∀ B, S B → w'.heap[B]? = w.heap[B]?) ∧ ∀ b ∈ reads e rv, ∀ m : MI, μ[b]? = some (some m) → w'.heap[m.B]? = w.heap[m.B]?) → Sk w' := fun w' hh => hh.1
            refine wpAnyH_mono hSk' _ _ _ _ ?_
            refine wpAnyH_take ho hns hfree (by simpa using hmem) (fun c a w hq => absurd hq (hpanic _ _ _)) (v := v) (.inl ⟨hwant.trans hw, fun w' hh => hrun w' hh.2.1 hh.2.2⟩)
              ⟨hSk _ _ _ (Step.refl _ _ _ _), fun _ _ => rfl, fun _ _ _ _ => rfl⟩ ?_
            refine TD_sound hns hpanic fuel _ t' _ _ _ h S w μ _ ht' hT hr ?_ (by rw [put_defers]; exact hd) (fun S' w' μ' hs => ⟨hSk S' w' μ' (hs.mono fun b _ hb => ⟨hb.1, fun hbl => hb.2 (List.mem_append_right _ hbl)⟩), hs.blk,
              fun b hb m hmm => (hs.kept b (mu_lt hmm) (fun hpm => hpm.2 (List.mem_append_left _ hb))).2 m hmm⟩) hQ
            rw [put_tmps, p4]
            exact he.put p1 hvr
          · exact hT.elim
        · rename_i hw
          refine wpAnyH_take ho hns hfree (by simpa using hmem) (fun c a w hq => absurd hq (hpanic _ _ _)) (v := undef) (.inr ⟨by rw [hwant]; simpa using hw, rfl⟩) (hSk _ _ _ (Step.refl _ _ _ _)) ?_
          refine TD_sound hns hpanic fuel _ t' _ _ _ h S w μ _ ht' hT hr ?_ (by rw [put_defers]; exact hd) hSk hQ
          rw [put_tmps, p4]
          exact he.put p1 (VR.undef_ _ _ _)
      · refine wpAnyH_all (rs := r0 :: rs0) hready (by simp) (fun j hj => ?_)
        obtain ⟨t1, ht1, hT⟩ := allT_mem (pl := t) hp hT j hj
        obtain ⟨r, hro, ht1⟩ := Option.bind_eq_some_iff.1 ht1
        obtain ⟨t', ht', rfl⟩ := Option.map_eq_some_iff.1 ht1
        obtain ⟨o, ho, hro⟩ := Option.bind_eq_some_iff.1 hro
        obtain ⟨p1, p2, p3, p4⟩ := rOper_parts hro
        have hwant := want_sound p3 he
        unfold wpOp
        simp only [ho]
        simp only [TD] at hT
        rw [hwant]
        split at hT
        · rename_i hw
          rw [if_pos hw]
          refine .inl (op_sound p2 hr he hT fun v x h' S' w' μ' hT' hv hr' hs => ⟨hSk _ _ _ hs, ?_⟩)
          refine TD_sound hns hpanic fuel _ t' _ _ _ h' S' w' μ' _ ht' hT' hr' ?_ (by rw [put_defers]; exact hd) (fun S2 w2 μ2 hs2 => hSk _ _ _ (hs.trans hs2))
            (fun e'' h'' S'' w'' μ'' a'' hK hr'' he'' hs'' hd'' => hQ _ _ _ _ _ _ hK hr'' he'' ((hs.mono fun b _ hb => hb.1).trans hs'') hd'')
          rw [put_tmps, p4]
          exact (he.fwd hs.toFwd).put p1 hv
        · rename_i hw
          rw [if_neg hw]
          refine ⟨hSk _ _ _ (Step.refl _ _ _ _), ?_⟩
          refine TD_sound hns hpanic fuel _ t' _ _ _ h S w μ _ ht' hT hr ?_ (by rw [put_defers]; exact hd) hSk hQ
          rw [put_tmps, p4]
          exact he.put p1 (VR.undef_ _ _ _)
end
end Go.Proofs.YtbkcenkfecndjaaGreatDoor.M
