/-
  The equations by which a proof steps through resolved code.
-/
import Derived.Test.YtbkcenkfecndjaaGreatDoorM7
namespace Go.Proofs.YtbkcenkfecndjaaGreatDoor.M
open Go Go.RowKit
set_option linter.unusedVariables false
set_option linter.unusedSimpArgs false

/-! ### more may be said of the end -/
theorem ev1_mono {pm : Nat → Prop} {e : Env} {h : H} {o : MOp} {Q Q' : AV → H → Prop} (hq : ∀ x h', Q x h' → Q' x h') (h1 : ev1 pm e h Q o) : ev1 pm e h Q' o := by
  cases o with
  | box x => exact ⟨h1.1, hq _ _ h1.2⟩
  | alloc z => exact ⟨h1.1, hq _ _ h1.2⟩
  | bsl sz len z ps =>
    simp only [ev1] at h1 ⊢
    split at h1
    · exact ⟨h1.1, hq _ _ h1.2⟩
    · exact h1
  | mks sz by_ z l c =>
    simp only [ev1] at h1 ⊢
    split at h1
    · exact ⟨h1.1, h1.2.1, h1.2.2.1, hq _ _ h1.2.2.2⟩
    · exact h1
  | store sz a v =>
    simp only [ev1] at h1 ⊢
    split at h1
    · refine ⟨h1.1, ?_⟩
      have h2 := h1.2
      split at h2
      · exact ⟨h2.1, h2.2.1, h2.2.2.1, hq _ _ h2.2.2.2⟩
      · exact h2
    · exact h1
  | app st sz by_ a b =>
    simp only [ev1] at h1 ⊢
    split at h1
    · exact h1
    · split at h1
      · split at h1
        · rename_i hn
          rw [if_pos hn]
          exact hq _ _ h1
        · rename_i hn
          rw [if_neg hn]
          exact ⟨h1.1, hq _ _ h1.2⟩
      · refine ⟨h1.1, ?_⟩
        have h2 := h1.2
        split at h2
        · exact h2
        · refine ⟨h2.1, ?_⟩
          have h3 := h2.2
          split at h3
          · rename_i hn
            rw [if_pos hn]
            exact hq _ _ h3
          · rename_i hn
            rw [if_neg hn]
            split at h3
            · rename_i hr
              rw [if_pos hr]
              exact ⟨h3.1, h3.2.1, hq _ _ h3.2.2⟩
            · rename_i hr
              rw [if_neg hr]
              exact ⟨h3.1, h3.2.1, hq _ _ h3.2.2⟩
      · exact h1
      · exact h1
  | cpy st sz a b =>
    simp only [ev1] at h1 ⊢
    split at h1
    · exact h1
    · split at h1
      · exact hq _ _ h1
      · refine ⟨h1.1, h1.2.1, ?_⟩
        have h2 := h1.2.2
        split at h2
        · exact h2
        · exact ⟨h2.1, hq _ _ h2.2⟩
      · exact h1
  | mkm => exact hq _ _ h1
  | mset m k v =>
    simp only [ev1] at h1 ⊢
    split at h1
    · refine ⟨h1.1, ?_⟩
      have h2 := h1.2
      split at h2
      · exact h2
      · exact ⟨h2.1, h2.2.1, hq _ _ h2.2.2⟩
    · exact h1

theorem TOp_mono {P : Program} {pm : Nat → Prop} {e : Env} {h : H} {o : ROp} {Q Q' : AV → H → Prop} (hq : ∀ x h', Q x h' → Q' x h') (h1 : TOp P pm e h Q o) : TOp P pm e h Q' o := by
  cases o with
  | v o =>
    simp only [TOp] at h1 ⊢
    split at h1
    · exact hq _ _ h1
    · exact h1
  | m o => exact ev1_mono hq h1
  | dead => exact h1
  | call f xs => exact Call.mono h1 hq (fun _ _ h => h)
  | callv x xs =>
    simp only [TOp] at h1 ⊢
    split at h1
    · exact Call.mono h1 hq (fun _ _ h => h)
    · exact h1

theorem TO_mono {P : Program} {pm : Nat → Prop} {Q Q' : Env → H → Prop} (hq : ∀ e h, Q e h → Q' e h) : ∀ {l : List RO} {e : Env} {h : H}, TO P pm l Q e h → TO P pm l Q' e h
  | [], _, _, h1 => hq _ _ h1
  | o :: r, e, h, h1 => by
    simp only [TO] at h1 ⊢
    split at h1
    · rename_i hw
      rw [if_pos hw]
      exact TOp_mono (fun _ _ h2 => TO_mono hq h2) h1
    · rename_i hw
      rw [if_neg hw]
      exact TO_mono hq h1

theorem TD_mono {P : Program} {pm : Nat → Prop} {Q Q' : Env → H → Prop} (hq : ∀ e h, Q e h → Q' e h) : ∀ {t : RT} {L : List Nat} {e : Env} {h : H}, TD P pm t L Q e h → TD P pm t L Q' e h
  | .done, _, _, _, h1 => hq _ _ h1
  | .fl o r, L, e, h, h1 => by
    simp only [TD] at h1 ⊢
    split at h1
    · rename_i hw
      rw [if_pos hw]
      exact TOp_mono (fun _ _ h2 => TD_mono hq h2) h1
    · rename_i hw
      rw [if_neg hw]
      exact TD_mono hq h1
  | .nx o r, L, e, h, h1 => by
    simp only [TD] at h1 ⊢
    split at h1
    · rename_i hw
      rw [if_pos hw]
      exact TOp_mono (fun _ _ h2 => TD_mono hq h2) h1
    · rename_i hw
      rw [if_neg hw]
      exact TD_mono hq h1
  | .both a b, L, e, h, h1 => ⟨TD_mono hq h1.1, TD_mono hq h1.2⟩

theorem T_mono {P : Program} {pm : Nat → Prop} : ∀ {c : RCode} {Q Q' : Ex → Env → H → Prop} {e : Env} {h : H}, (∀ x e h, Q x e h → Q' x e h) → T P pm c Q e h → T P pm c Q' e h := by
  intro c
  induction c with
  | skip => exact fun hq h1 => hq _ _ _ h1
  | dead => exact fun _ h1 => h1
  | reg l => exact fun hq h1 => TO_mono (hq _) h1
  | dreg t => exact fun hq h1 => TD_mono (hq _) h1
  | seq a b iha ihb =>
    intro Q Q' e h hq h1
    simp only [T] at h1 ⊢
    refine iha ?_ h1
    intro x e' h' h2
    cases x with
    | normal => exact ihb hq h2
    | exit i => exact hq _ _ _ h2
    | ret => exact hq _ _ _ h2
  | cond c a b iha ihb =>
    intro Q Q' e h hq h1
    simp only [T] at h1 ⊢
    split at h1
    · split at h1
      · rename_i ht
        rw [if_pos ht]
        exact iha hq h1
      · rename_i ht
        rw [if_neg ht]
        exact ihb hq h1
    · exact h1
  | block id c ih =>
    intro Q Q' e h hq h1
    simp only [T] at h1 ⊢
    refine ih ?_ h1
    intro x e' h' h2
    cases x with
    | normal => exact hq _ _ _ h2
    | exit i =>
      simp only [] at h2 ⊢
      split at h2
      · rename_i hi
        rw [if_pos hi]
        exact hq _ _ _ h2
      · rename_i hi
        rw [if_neg hi]
        exact hq _ _ _ h2
    | ret => exact hq _ _ _ h2
  | loop c ih =>
    intro Q Q' e h hq h1
    obtain ⟨I, h0, hs⟩ := h1
    refine ⟨I, h0, fun n e h hI => ih ?_ (hs n e h hI)⟩
    intro x e' h' h2
    cases x with
    | normal => exact h2
    | exit i => exact hq _ _ _ h2
    | ret => exact hq _ _ _ h2
  | exit i => exact fun hq h1 => hq _ _ _ h1
  | ret => exact fun hq h1 => hq _ _ _ h1

/-! ### frames: what is left to do behind the code that is looked at -/
inductive Fr where
  | s (b : RCode)
  | k (id : Nat)

def K (P : Program) (pm : Nat → Prop) : List Fr → (Ex → Env → H → Prop) → Ex → Env → H → Prop
  | [], Q => Q
  | .s b :: F, Q => fun x e h => match x with | .normal => T P pm b (K P pm F Q) e h | .exit i => K P pm F Q (.exit i) e h | .ret => K P pm F Q .ret e h
  | .k id :: F, Q => fun x e h => match x with | .normal => K P pm F Q .normal e h | .exit i => if i = id then K P pm F Q .normal e h else K P pm F Q (.exit i) e h | .ret => K P pm F Q .ret e h

def loadAdr (h : H) (ag : Bool) (sz : Nat) : AV → Option AV
  | .adr b off => (h.cells b).bind fun cs => ld ag sz cs off
  | _ => none
theorem loadAdr_adr {h : H} {a : Bool} {s b o : Nat} : loadAdr h a s (.adr b o) = (h.cells b).bind fun cs => ld a s cs o := (rfl)
def LQ (I : Nat → Env → H → Prop) (n : Nat) (Q : Ex → Env → H → Prop) : Ex → Env → H → Prop := fun x e h => match x with
  | .normal => ∃ m, m < n ∧ I m e h
  | .exit i => Q (.exit i) e h
  | .ret => Q .ret e h
def FQ (R : Nat → Env → H → Prop) (i len : Nat) (Q : Ex → Env → H → Prop) : Ex → Env → H → Prop := fun x e h => match x with
  | .normal => i < len ∧ R (i + 1) e h
  | .exit i => Q (.exit i) e h
  | .ret => Q .ret e h

section
variable {P : Program} {pm : Nat → Prop} {e : Env} {h : H} {Q : Ex → Env → H → Prop} {F : List Fr} {Kn : Env → H → Prop} {r : List RO} {d : Option Nat} {t : RT} {L : List Nat}

/-! ### what goes on behind an operation: all of it data, so that nothing of it is looked at too early -/
def kc (P : Program) (pm : Nat → Prop) (r : List RO) (Kn : Env → H → Prop) (e : Env) (d : Option Nat) (v : AV) (h : H) : Prop := TO P pm r Kn (e.put d v) h
def kd (P : Program) (pm : Nat → Prop) (t : RT) (L : List Nat) (Kn : Env → H → Prop) (e : Env) (d : Option Nat) (v : AV) (h : H) : Prop := TD P pm t L Kn (e.put d v) h
theorem kc_eq {v : AV} : kc P pm r Kn e d v h = TO P pm r Kn (e.put d v) h := (rfl)
theorem kd_eq {v : AV} : kd P pm t L Kn e d v h = TD P pm t L Kn (e.put d v) h := (rfl)
def goV (k : AV → H → Prop) (h : H) (o : Option AV) : Prop := match o with | some v => k v h | none => False
theorem goV_some {k : AV → H → Prop} {v : AV} : goV k h (some v) = k v h := (rfl)
/-- A truth value: both ways. -/
def goC (k : AV → H → Prop) (h : H) (c : Bool) : Prop := k (.bool c) h
theorem goC_true {k : AV → H → Prop} : goC k h true = k (.bool true) h := (rfl)
theorem goC_false {k : AV → H → Prop} : goC k h false = k (.bool false) h := (rfl)
theorem goC_split {k : AV → H → Prop} {c : Bool} (h1 : c = true → k (.bool true) h) (h2 : c = false → k (.bool false) h) : goC k h c := by
  cases c
  · exact h2 rfl
  · exact h1 rfl
def goB (k : AV → H → Prop) (h : H) (o : Option AV) : Prop := match o with | some v => k v h | none => False
theorem goB_bool {k : AV → H → Prop} {c : Bool} : goB k h (some (.bool c)) = goC k h c := (rfl)
def gdO (P : Program) (pm : Nat → Prop) (d : Option Nat) (o : ROp) (b : Bool) (r : List RO) (Kn : Env → H → Prop) (e : Env) (h : H) (v : AV) : Prop :=
  if (match v with | .bool c => c == b | _ => false) = true then TO P pm (⟨d, o, none⟩ :: r) Kn e h else TO P pm r Kn (e.put d unset) h
theorem gdO_tt {o : ROp} : gdO P pm d o true r Kn e h (.bool true) = TO P pm (⟨d, o, none⟩ :: r) Kn e h := (rfl)
theorem gdO_tf {o : ROp} : gdO P pm d o true r Kn e h (.bool false) = TO P pm r Kn (e.put d unset) h := (rfl)
theorem gdO_ft {o : ROp} : gdO P pm d o false r Kn e h (.bool true) = TO P pm r Kn (e.put d unset) h := (rfl)
theorem gdO_ff {o : ROp} : gdO P pm d o false r Kn e h (.bool false) = TO P pm (⟨d, o, none⟩ :: r) Kn e h := (rfl)
theorem gdO_u {o : ROp} {b : Bool} : gdO P pm d o b r Kn e h unset = TO P pm r Kn (e.put d unset) h := (rfl)
def gdF (P : Program) (pm : Nat → Prop) (nx : Bool) (d : Option Nat) (o : ROp) (b : Bool) (t : RT) (L : List Nat) (Kn : Env → H → Prop) (e : Env) (h : H) (v : AV) : Prop :=
  if (match v with | .bool c => c == b | _ => false) = true then TD P pm (if nx then .nx ⟨d, o, none⟩ t else .fl ⟨d, o, none⟩ t) L Kn e h else TD P pm t L Kn (e.put d unset) h
theorem gdF_tt {o : ROp} : gdF P pm false d o true t L Kn e h (.bool true) = TD P pm (.fl ⟨d, o, none⟩ t) L Kn e h := (rfl)
theorem gdF_tf {o : ROp} {nx : Bool} : gdF P pm nx d o true t L Kn e h (.bool false) = TD P pm t L Kn (e.put d unset) h := (rfl)
theorem gdF_ft {o : ROp} {nx : Bool} : gdF P pm nx d o false t L Kn e h (.bool true) = TD P pm t L Kn (e.put d unset) h := (rfl)
theorem gdF_ff {o : ROp} : gdF P pm false d o false t L Kn e h (.bool false) = TD P pm (.fl ⟨d, o, none⟩ t) L Kn e h := (rfl)
theorem gdF_ntt {o : ROp} : gdF P pm true d o true t L Kn e h (.bool true) = TD P pm (.nx ⟨d, o, none⟩ t) L Kn e h := (rfl)
theorem gdF_nff {o : ROp} : gdF P pm true d o false t L Kn e h (.bool false) = TD P pm (.nx ⟨d, o, none⟩ t) L Kn e h := (rfl)
theorem gdF_u {o : ROp} {b nx : Bool} : gdF P pm nx d o b t L Kn e h unset = TD P pm t L Kn (e.put d unset) h := (rfl)
def cnd (P : Program) (pm : Nat → Prop) (a b : RCode) (Q : Ex → Env → H → Prop) (e : Env) (h : H) (v : AV) : Prop := match v with | .bool t => if t = true then T P pm a Q e h else T P pm b Q e h | _ => False
theorem cnd_true {a b : RCode} : cnd P pm a b Q e h (.bool true) = T P pm a Q e h := (rfl)
theorem cnd_false {a b : RCode} : cnd P pm a b Q e h (.bool false) = T P pm b Q e h := (rfl)
theorem cnd_split {a b : RCode} {c : Bool} (h1 : c = true → T P pm a Q e h) (h2 : c = false → T P pm b Q e h) : cnd P pm a b Q e h (.bool c) := by
  cases c
  · exact h2 rfl
  · exact h1 rfl
theorem cnd_not {a b : RCode} {c : Bool} : cnd P pm a b Q e h (.bool !c) = cnd P pm b a Q e h (.bool c) := by cases c <;> rfl
def endC (Q : AV → H → Prop) (h : H) (o : Option AV) : Prop := match o with | some x => Q x h | none => False
theorem endC_some {Q : AV → H → Prop} {x : AV} : endC Q h (some x) = Q x h := (rfl)

theorem T_reg {l : List RO} : T P pm (.reg l) Q e h = TO P pm l (Q .normal) e h := (rfl)
theorem T_dreg : T P pm (.dreg t) Q e h = TD P pm t [] (Q .normal) e h := (rfl)
theorem T_seq {a b : RCode} : T P pm (.seq a b) (K P pm F Q) e h = T P pm a (K P pm (.s b :: F) Q) e h := (rfl)
theorem T_block {i : Nat} {c : RCode} : T P pm (.block i c) (K P pm F Q) e h = T P pm c (K P pm (.k i :: F) Q) e h := (rfl)
theorem T_cond {c : Opd} {a b : RCode} : T P pm (.cond c a b) Q e h = cnd P pm a b Q e h (evO e c) := by
  simp only [T, cnd]
  generalize evO e c = v
  cases v <;> rfl
theorem T_exit {i : Nat} : T P pm (.exit i) Q e h = Q (.exit i) e h := (rfl)
theorem T_ret : T P pm .ret Q e h = Q .ret e h := (rfl)
theorem T_skip : T P pm .skip Q e h = Q .normal e h := (rfl)
theorem K_nil {x : Ex} : K P pm [] Q x e h = Q x e h := (rfl)
theorem K_s_n {b : RCode} : K P pm (.s b :: F) Q .normal e h = T P pm b (K P pm F Q) e h := (rfl)
theorem K_s_x {b : RCode} {i : Nat} : K P pm (.s b :: F) Q (.exit i) e h = K P pm F Q (.exit i) e h := (rfl)
theorem K_s_r {b : RCode} : K P pm (.s b :: F) Q .ret e h = K P pm F Q .ret e h := (rfl)
theorem K_k_n {j : Nat} : K P pm (.k j :: F) Q .normal e h = K P pm F Q .normal e h := (rfl)
theorem K_k_x {i j : Nat} : K P pm (.k j :: F) Q (.exit i) e h = if i = j then K P pm F Q .normal e h else K P pm F Q (.exit i) e h := (rfl)
theorem K_k_r {j : Nat} : K P pm (.k j :: F) Q .ret e h = K P pm F Q .ret e h := (rfl)
theorem LQ_n {I : Nat → Env → H → Prop} {n : Nat} : LQ I n Q .normal e h = ∃ m, m < n ∧ I m e h := (rfl)
theorem LQ_x {I : Nat → Env → H → Prop} {n i : Nat} : LQ I n Q (.exit i) e h = Q (.exit i) e h := (rfl)
theorem LQ_r {I : Nat → Env → H → Prop} {n : Nat} : LQ I n Q .ret e h = Q .ret e h := (rfl)
theorem FQ_n {R : Nat → Env → H → Prop} {i len : Nat} : FQ R i len Q .normal e h = (i < len ∧ R (i + 1) e h) := (rfl)
theorem FQ_x {R : Nat → Env → H → Prop} {i len j : Nat} : FQ R i len Q (.exit j) e h = Q (.exit j) e h := (rfl)
theorem FQ_r {R : Nat → Env → H → Prop} {i len : Nat} : FQ R i len Q .ret e h = Q .ret e h := (rfl)

theorem TO_nil : TO P pm [] Kn e h = Kn e h := (rfl)
theorem TO_g {o : ROp} {g : Nat} {b : Bool} : TO P pm (⟨d, o, some (g, b)⟩ :: r) Kn e h = gdO P pm d o b r Kn e h (e g) := by
  simp only [TO, want, gdO]
  rfl
theorem TO_v {o : VOp} : TO P pm (⟨d, .v o, none⟩ :: r) Kn e h = goV (kc P pm r Kn e d) h (ev0 e h o) := by
  simp only [TO, want, TOp, goV, kc]
  rfl
theorem TO_vb {o : VOp} : TO P pm (⟨d, .v o, none⟩ :: r) Kn e h = goB (kc P pm r Kn e d) h (ev0 e h o) := TO_v
theorem TO_m {o : MOp} : TO P pm (⟨d, .m o, none⟩ :: r) Kn e h = ev1 pm e h (kc P pm r Kn e d) o := by
  simp only [TO, want, TOp]
  rfl
theorem TO_call {f : Nat} {xs : List Opd} : TO P pm (⟨d, .call f xs, none⟩ :: r) Kn e h = Call P f (xs.map (evO e)) h pm (kc P pm r Kn e d) := by
  simp only [TO, want, TOp]
  rfl
def callF (P : Program) (v : AV) (xs : List AV) (h : H) (pm : Nat → Prop) (Q : AV → H → Prop) : Prop := match v with | .fn f caps => Call P f (xs ++ caps) h pm Q | _ => False
theorem callF_fn {f : Nat} {caps xs : List AV} {Q : AV → H → Prop} : callF P (.fn f caps) xs h pm Q = Call P f (xs ++ caps) h pm Q := (rfl)
theorem TO_callv {x : Opd} {xs : List Opd} : TO P pm (⟨d, .callv x xs, none⟩ :: r) Kn e h = callF P (evO e x) (xs.map (evO e)) h pm (kc P pm r Kn e d) := by
  simp only [TO, want, TOp, callF]
  rfl
theorem TD_done : TD P pm .done L Kn e h = Kn e h := (rfl)
theorem TD_both {a b : RT} : TD P pm (.both a b) L Kn e h = (TD P pm a L Kn e h ∧ TD P pm b L Kn e h) := (rfl)
theorem TDf_g {o : ROp} {g : Nat} {b : Bool} : TD P pm (.fl ⟨d, o, some (g, b)⟩ t) L Kn e h = gdF P pm false d o b t L Kn e h (e g) := by
  simp only [TD, want, gdF]
  rfl
theorem TDn_g {o : ROp} {g : Nat} {b : Bool} : TD P pm (.nx ⟨d, o, some (g, b)⟩ t) L Kn e h = gdF P pm true d o b t L Kn e h (e g) := by
  simp only [TD, want, gdF]
  rfl
theorem TDf_v {o : VOp} : TD P pm (.fl ⟨d, .v o, none⟩ t) L Kn e h = goV (kd P pm t (reads e o ++ L) Kn e d) h (ev0 e h o) := by
  simp only [TD, want, TOp, goV, readsO, kd]
  rfl
theorem TDf_vb {o : VOp} : TD P pm (.fl ⟨d, .v o, none⟩ t) L Kn e h = goB (kd P pm t (reads e o ++ L) Kn e d) h (ev0 e h o) := TDf_v
theorem TDn_v {o : VOp} : TD P pm (.nx ⟨d, .v o, none⟩ t) L Kn e h = goV (kd P pm t L Kn e d) h (ev0 e h o) := by
  simp only [TD, want, TOp, goV, kd]
  rfl
theorem TDn_vb {o : VOp} : TD P pm (.nx ⟨d, .v o, none⟩ t) L Kn e h = goB (kd P pm t L Kn e d) h (ev0 e h o) := TDn_v
theorem TDn_m {o : MOp} : TD P pm (.nx ⟨d, .m o, none⟩ t) L Kn e h = ev1 (fun b => pm b ∧ b ∉ L) e h (kd P pm t L Kn e d) o := by
  simp only [TD, want, TOp]
  rfl
theorem TDn_call {f : Nat} {xs : List Opd} : TD P pm (.nx ⟨d, .call f xs, none⟩ t) L Kn e h = Call P f (xs.map (evO e)) h (fun b => pm b ∧ b ∉ L) (kd P pm t L Kn e d) := by
  simp only [TD, want, TOp]
  rfl
theorem TDn_callv {x : Opd} {xs : List Opd} : TD P pm (.nx ⟨d, .callv x xs, none⟩ t) L Kn e h = callF P (evO e x) (xs.map (evO e)) h (fun b => pm b ∧ b ∉ L) (kd P pm t L Kn e d) := by
  simp only [TD, want, TOp, callF]
  rfl
theorem TO_mov (x : Opd) : TO P pm (⟨d, .v (.mov x), none⟩ :: r) Kn e h = goV (kc P pm r Kn e d) h (ev0 e h (.mov x)) := TO_v
theorem TDf_mov (x : Opd) : TD P pm (.fl ⟨d, .v (.mov x), none⟩ t) L Kn e h = goV (kd P pm t (reads e (.mov x) ++ L) Kn e d) h (ev0 e h (.mov x)) := TDf_v
theorem TDn_mov (x : Opd) : TD P pm (.nx ⟨d, .v (.mov x), none⟩ t) L Kn e h = goV (kd P pm t L Kn e d) h (ev0 e h (.mov x)) := TDn_v
theorem TO_pick (c a b : Opd) : TO P pm (⟨d, .v (.pick c a b), none⟩ :: r) Kn e h = goV (kc P pm r Kn e d) h (ev0 e h (.pick c a b)) := TO_v
theorem TDf_pick (c a b : Opd) : TD P pm (.fl ⟨d, .v (.pick c a b), none⟩ t) L Kn e h = goV (kd P pm t (reads e (.pick c a b) ++ L) Kn e d) h (ev0 e h (.pick c a b)) := TDf_v
theorem TDn_pick (c a b : Opd) : TD P pm (.nx ⟨d, .v (.pick c a b), none⟩ t) L Kn e h = goV (kd P pm t L Kn e d) h (ev0 e h (.pick c a b)) := TDn_v
theorem TO_conv (k : IntKind) (x : Opd) : TO P pm (⟨d, .v (.conv k x), none⟩ :: r) Kn e h = goV (kc P pm r Kn e d) h (ev0 e h (.conv k x)) := TO_v
theorem TDf_conv (k : IntKind) (x : Opd) : TD P pm (.fl ⟨d, .v (.conv k x), none⟩ t) L Kn e h = goV (kd P pm t (reads e (.conv k x) ++ L) Kn e d) h (ev0 e h (.conv k x)) := TDf_v
theorem TDn_conv (k : IntKind) (x : Opd) : TD P pm (.nx ⟨d, .v (.conv k x), none⟩ t) L Kn e h = goV (kd P pm t L Kn e d) h (ev0 e h (.conv k x)) := TDn_v
theorem TO_cid (x : Opd) : TO P pm (⟨d, .v (.cid x), none⟩ :: r) Kn e h = goV (kc P pm r Kn e d) h (ev0 e h (.cid x)) := TO_v
theorem TDf_cid (x : Opd) : TD P pm (.fl ⟨d, .v (.cid x), none⟩ t) L Kn e h = goV (kd P pm t (reads e (.cid x) ++ L) Kn e d) h (ev0 e h (.cid x)) := TDf_v
theorem TDn_cid (x : Opd) : TD P pm (.nx ⟨d, .v (.cid x), none⟩ t) L Kn e h = goV (kd P pm t L Kn e d) h (ev0 e h (.cid x)) := TDn_v
theorem TO_cbs (x : Opd) : TO P pm (⟨d, .v (.cbs x), none⟩ :: r) Kn e h = goV (kc P pm r Kn e d) h (ev0 e h (.cbs x)) := TO_v
theorem TDf_cbs (x : Opd) : TD P pm (.fl ⟨d, .v (.cbs x), none⟩ t) L Kn e h = goV (kd P pm t (reads e (.cbs x) ++ L) Kn e d) h (ev0 e h (.cbs x)) := TDf_v
theorem TDn_cbs (x : Opd) : TD P pm (.nx ⟨d, .v (.cbs x), none⟩ t) L Kn e h = goV (kd P pm t L Kn e d) h (ev0 e h (.cbs x)) := TDn_v
theorem TO_nchk (x : Opd) : TO P pm (⟨d, .v (.nchk x), none⟩ :: r) Kn e h = goV (kc P pm r Kn e d) h (ev0 e h (.nchk x)) := TO_v
theorem TDf_nchk (x : Opd) : TD P pm (.fl ⟨d, .v (.nchk x), none⟩ t) L Kn e h = goV (kd P pm t (reads e (.nchk x) ++ L) Kn e d) h (ev0 e h (.nchk x)) := TDf_v
theorem TDn_nchk (x : Opd) : TD P pm (.nx ⟨d, .v (.nchk x), none⟩ t) L Kn e h = goV (kd P pm t L Kn e d) h (ev0 e h (.nchk x)) := TDn_v
theorem TO_faddr (o : Nat) (x : Opd) : TO P pm (⟨d, .v (.faddr o x), none⟩ :: r) Kn e h = goV (kc P pm r Kn e d) h (ev0 e h (.faddr o x)) := TO_v
theorem TDf_faddr (o : Nat) (x : Opd) : TD P pm (.fl ⟨d, .v (.faddr o x), none⟩ t) L Kn e h = goV (kd P pm t (reads e (.faddr o x) ++ L) Kn e d) h (ev0 e h (.faddr o x)) := TDf_v
theorem TDn_faddr (o : Nat) (x : Opd) : TD P pm (.nx ⟨d, .v (.faddr o x), none⟩ t) L Kn e h = goV (kd P pm t L Kn e d) h (ev0 e h (.faddr o x)) := TDn_v
theorem TO_fld (a : Bool) (o s : Nat) (x : Opd) : TO P pm (⟨d, .v (.fld a o s x), none⟩ :: r) Kn e h = goV (kc P pm r Kn e d) h (ev0 e h (.fld a o s x)) := TO_v
theorem TDf_fld (a : Bool) (o s : Nat) (x : Opd) : TD P pm (.fl ⟨d, .v (.fld a o s x), none⟩ t) L Kn e h = goV (kd P pm t (reads e (.fld a o s x) ++ L) Kn e d) h (ev0 e h (.fld a o s x)) := TDf_v
theorem TDn_fld (a : Bool) (o s : Nat) (x : Opd) : TD P pm (.nx ⟨d, .v (.fld a o s x), none⟩ t) L Kn e h = goV (kd P pm t L Kn e d) h (ev0 e h (.fld a o s x)) := TDn_v
theorem TO_iaddr (s : Nat) (x i : Opd) : TO P pm (⟨d, .v (.iaddr s x i), none⟩ :: r) Kn e h = goV (kc P pm r Kn e d) h (ev0 e h (.iaddr s x i)) := TO_v
theorem TDf_iaddr (s : Nat) (x i : Opd) : TD P pm (.fl ⟨d, .v (.iaddr s x i), none⟩ t) L Kn e h = goV (kd P pm t (reads e (.iaddr s x i) ++ L) Kn e d) h (ev0 e h (.iaddr s x i)) := TDf_v
theorem TDn_iaddr (s : Nat) (x i : Opd) : TD P pm (.nx ⟨d, .v (.iaddr s x i), none⟩ t) L Kn e h = goV (kd P pm t L Kn e d) h (ev0 e h (.iaddr s x i)) := TDn_v
theorem TO_sidx (x i : Opd) : TO P pm (⟨d, .v (.sidx x i), none⟩ :: r) Kn e h = goV (kc P pm r Kn e d) h (ev0 e h (.sidx x i)) := TO_v
theorem TDf_sidx (x i : Opd) : TD P pm (.fl ⟨d, .v (.sidx x i), none⟩ t) L Kn e h = goV (kd P pm t (reads e (.sidx x i) ++ L) Kn e d) h (ev0 e h (.sidx x i)) := TDf_v
theorem TDn_sidx (x i : Opd) : TD P pm (.nx ⟨d, .v (.sidx x i), none⟩ t) L Kn e h = goV (kd P pm t L Kn e d) h (ev0 e h (.sidx x i)) := TDn_v
theorem TO_slc (s : Nat) (x : Opd) (l u : Option Opd) : TO P pm (⟨d, .v (.slc s x l u), none⟩ :: r) Kn e h = goV (kc P pm r Kn e d) h (ev0 e h (.slc s x l u)) := TO_v
theorem TDf_slc (s : Nat) (x : Opd) (l u : Option Opd) : TD P pm (.fl ⟨d, .v (.slc s x l u), none⟩ t) L Kn e h = goV (kd P pm t (reads e (.slc s x l u) ++ L) Kn e d) h (ev0 e h (.slc s x l u)) := TDf_v
theorem TDn_slc (s : Nat) (x : Opd) (l u : Option Opd) : TD P pm (.nx ⟨d, .v (.slc s x l u), none⟩ t) L Kn e h = goV (kd P pm t L Kn e d) h (ev0 e h (.slc s x l u)) := TDn_v
theorem TO_sstr (x : Opd) (l u : Option Opd) : TO P pm (⟨d, .v (.sstr x l u), none⟩ :: r) Kn e h = goV (kc P pm r Kn e d) h (ev0 e h (.sstr x l u)) := TO_v
theorem TDf_sstr (x : Opd) (l u : Option Opd) : TD P pm (.fl ⟨d, .v (.sstr x l u), none⟩ t) L Kn e h = goV (kd P pm t (reads e (.sstr x l u) ++ L) Kn e d) h (ev0 e h (.sstr x l u)) := TDf_v
theorem TDn_sstr (x : Opd) (l u : Option Opd) : TD P pm (.nx ⟨d, .v (.sstr x l u), none⟩ t) L Kn e h = goV (kd P pm t L Kn e d) h (ev0 e h (.sstr x l u)) := TDn_v
theorem TO_len (x : Opd) : TO P pm (⟨d, .v (.len x), none⟩ :: r) Kn e h = goV (kc P pm r Kn e d) h (ev0 e h (.len x)) := TO_v
theorem TDf_len (x : Opd) : TD P pm (.fl ⟨d, .v (.len x), none⟩ t) L Kn e h = goV (kd P pm t (reads e (.len x) ++ L) Kn e d) h (ev0 e h (.len x)) := TDf_v
theorem TDn_len (x : Opd) : TD P pm (.nx ⟨d, .v (.len x), none⟩ t) L Kn e h = goV (kd P pm t L Kn e d) h (ev0 e h (.len x)) := TDn_v
theorem TO_lens (x : Opd) : TO P pm (⟨d, .v (.lens x), none⟩ :: r) Kn e h = goV (kc P pm r Kn e d) h (ev0 e h (.lens x)) := TO_v
theorem TDf_lens (x : Opd) : TD P pm (.fl ⟨d, .v (.lens x), none⟩ t) L Kn e h = goV (kd P pm t (reads e (.lens x) ++ L) Kn e d) h (ev0 e h (.lens x)) := TDf_v
theorem TDn_lens (x : Opd) : TD P pm (.nx ⟨d, .v (.lens x), none⟩ t) L Kn e h = goV (kd P pm t L Kn e d) h (ev0 e h (.lens x)) := TDn_v
theorem TO_mn (l : List Opd) : TO P pm (⟨d, .v (.mn l), none⟩ :: r) Kn e h = goV (kc P pm r Kn e d) h (ev0 e h (.mn l)) := TO_v
theorem TDf_mn (l : List Opd) : TD P pm (.fl ⟨d, .v (.mn l), none⟩ t) L Kn e h = goV (kd P pm t (reads e (.mn l) ++ L) Kn e d) h (ev0 e h (.mn l)) := TDf_v
theorem TDn_mn (l : List Opd) : TD P pm (.nx ⟨d, .v (.mn l), none⟩ t) L Kn e h = goV (kd P pm t L Kn e d) h (ev0 e h (.mn l)) := TDn_v
theorem TO_mx (l : List Opd) : TO P pm (⟨d, .v (.mx l), none⟩ :: r) Kn e h = goV (kc P pm r Kn e d) h (ev0 e h (.mx l)) := TO_v
theorem TDf_mx (l : List Opd) : TD P pm (.fl ⟨d, .v (.mx l), none⟩ t) L Kn e h = goV (kd P pm t (reads e (.mx l) ++ L) Kn e d) h (ev0 e h (.mx l)) := TDf_v
theorem TDn_mx (l : List Opd) : TD P pm (.nx ⟨d, .v (.mx l), none⟩ t) L Kn e h = goV (kd P pm t L Kn e d) h (ev0 e h (.mx l)) := TDn_v
theorem TO_load (a : Bool) (s : Nat) (x : Opd) : TO P pm (⟨d, .v (.load a s x), none⟩ :: r) Kn e h = goV (kc P pm r Kn e d) h (ev0 e h (.load a s x)) := TO_v
theorem TDf_load (a : Bool) (s : Nat) (x : Opd) : TD P pm (.fl ⟨d, .v (.load a s x), none⟩ t) L Kn e h = goV (kd P pm t (reads e (.load a s x) ++ L) Kn e d) h (ev0 e h (.load a s x)) := TDf_v
theorem TDn_load (a : Bool) (s : Nat) (x : Opd) : TD P pm (.nx ⟨d, .v (.load a s x), none⟩ t) L Kn e h = goV (kd P pm t L Kn e d) h (ev0 e h (.load a s x)) := TDn_v
theorem TO_ext (x : Opd) (j : Nat) : TO P pm (⟨d, .v (.ext x j), none⟩ :: r) Kn e h = goV (kc P pm r Kn e d) h (ev0 e h (.ext x j)) := TO_v
theorem TDf_ext (x : Opd) (j : Nat) : TD P pm (.fl ⟨d, .v (.ext x j), none⟩ t) L Kn e h = goV (kd P pm t (reads e (.ext x j) ++ L) Kn e d) h (ev0 e h (.ext x j)) := TDf_v
theorem TDn_ext (x : Opd) (j : Nat) : TD P pm (.nx ⟨d, .v (.ext x j), none⟩ t) L Kn e h = goV (kd P pm t L Kn e d) h (ev0 e h (.ext x j)) := TDn_v
theorem TO_mkfn (f : Nat) (c : List Opd) : TO P pm (⟨d, .v (.mkfn f c), none⟩ :: r) Kn e h = goV (kc P pm r Kn e d) h (ev0 e h (.mkfn f c)) := TO_v
theorem TDf_mkfn (f : Nat) (c : List Opd) : TD P pm (.fl ⟨d, .v (.mkfn f c), none⟩ t) L Kn e h = goV (kd P pm t (reads e (.mkfn f c) ++ L) Kn e d) h (ev0 e h (.mkfn f c)) := TDf_v
theorem TDn_mkfn (f : Nat) (c : List Opd) : TD P pm (.nx ⟨d, .v (.mkfn f c), none⟩ t) L Kn e h = goV (kd P pm t L Kn e d) h (ev0 e h (.mkfn f c)) := TDn_v
theorem TO_mkif (x : Opd) : TO P pm (⟨d, .v (.mkif x), none⟩ :: r) Kn e h = goV (kc P pm r Kn e d) h (ev0 e h (.mkif x)) := TO_v
theorem TDf_mkif (x : Opd) : TD P pm (.fl ⟨d, .v (.mkif x), none⟩ t) L Kn e h = goV (kd P pm t (reads e (.mkif x) ++ L) Kn e d) h (ev0 e h (.mkif x)) := TDf_v
theorem TDn_mkif (x : Opd) : TD P pm (.nx ⟨d, .v (.mkif x), none⟩ t) L Kn e h = goV (kd P pm t L Kn e d) h (ev0 e h (.mkif x)) := TDn_v
theorem TO_look (z : AV) (x k : Opd) (ok : Bool) : TO P pm (⟨d, .v (.look z x k ok), none⟩ :: r) Kn e h = goV (kc P pm r Kn e d) h (ev0 e h (.look z x k ok)) := TO_v
theorem TDf_look (z : AV) (x k : Opd) (ok : Bool) : TD P pm (.fl ⟨d, .v (.look z x k ok), none⟩ t) L Kn e h = goV (kd P pm t (reads e (.look z x k ok) ++ L) Kn e d) h (ev0 e h (.look z x k ok)) := TDf_v
theorem TDn_look (z : AV) (x k : Opd) (ok : Bool) : TD P pm (.nx ⟨d, .v (.look z x k ok), none⟩ t) L Kn e h = goV (kd P pm t L Kn e d) h (ev0 e h (.look z x k ok)) := TDn_v
theorem TO_bld (z : List AV) (ps : List (Nat × Nat × Opd)) : TO P pm (⟨d, .v (.bld z ps), none⟩ :: r) Kn e h = goV (kc P pm r Kn e d) h (ev0 e h (.bld z ps)) := TO_v
theorem TDf_bld (z : List AV) (ps : List (Nat × Nat × Opd)) : TD P pm (.fl ⟨d, .v (.bld z ps), none⟩ t) L Kn e h = goV (kd P pm t (reads e (.bld z ps) ++ L) Kn e d) h (ev0 e h (.bld z ps)) := TDf_v
theorem TDn_bld (z : List AV) (ps : List (Nat × Nat × Opd)) : TD P pm (.nx ⟨d, .v (.bld z ps), none⟩ t) L Kn e h = goV (kd P pm t L Kn e d) h (ev0 e h (.bld z ps)) := TDn_v
theorem TO_un (u : UnOp) (x : Opd) : TO P pm (⟨d, .v (.un u x), none⟩ :: r) Kn e h = goV (kc P pm r Kn e d) h (ev0 e h (.un u x)) := TO_v
theorem TDf_un (u : UnOp) (x : Opd) : TD P pm (.fl ⟨d, .v (.un u x), none⟩ t) L Kn e h = goV (kd P pm t (reads e (.un u x) ++ L) Kn e d) h (ev0 e h (.un u x)) := TDf_v
theorem TDn_un (u : UnOp) (x : Opd) : TD P pm (.nx ⟨d, .v (.un u x), none⟩ t) L Kn e h = goV (kd P pm t L Kn e d) h (ev0 e h (.un u x)) := TDn_v
theorem TO_b_add (x y : Opd) : TO P pm (⟨d, .v (.bin .add x y), none⟩ :: r) Kn e h = goV (kc P pm r Kn e d) h (ev0 e h (.bin .add x y)) := TO_v
theorem TDf_b_add (x y : Opd) : TD P pm (.fl ⟨d, .v (.bin .add x y), none⟩ t) L Kn e h = goV (kd P pm t (reads e (.bin .add x y) ++ L) Kn e d) h (ev0 e h (.bin .add x y)) := TDf_v
theorem TDn_b_add (x y : Opd) : TD P pm (.nx ⟨d, .v (.bin .add x y), none⟩ t) L Kn e h = goV (kd P pm t L Kn e d) h (ev0 e h (.bin .add x y)) := TDn_v
theorem TO_b_sub (x y : Opd) : TO P pm (⟨d, .v (.bin .sub x y), none⟩ :: r) Kn e h = goV (kc P pm r Kn e d) h (ev0 e h (.bin .sub x y)) := TO_v
theorem TDf_b_sub (x y : Opd) : TD P pm (.fl ⟨d, .v (.bin .sub x y), none⟩ t) L Kn e h = goV (kd P pm t (reads e (.bin .sub x y) ++ L) Kn e d) h (ev0 e h (.bin .sub x y)) := TDf_v
theorem TDn_b_sub (x y : Opd) : TD P pm (.nx ⟨d, .v (.bin .sub x y), none⟩ t) L Kn e h = goV (kd P pm t L Kn e d) h (ev0 e h (.bin .sub x y)) := TDn_v
theorem TO_b_mul (x y : Opd) : TO P pm (⟨d, .v (.bin .mul x y), none⟩ :: r) Kn e h = goV (kc P pm r Kn e d) h (ev0 e h (.bin .mul x y)) := TO_v
theorem TDf_b_mul (x y : Opd) : TD P pm (.fl ⟨d, .v (.bin .mul x y), none⟩ t) L Kn e h = goV (kd P pm t (reads e (.bin .mul x y) ++ L) Kn e d) h (ev0 e h (.bin .mul x y)) := TDf_v
theorem TDn_b_mul (x y : Opd) : TD P pm (.nx ⟨d, .v (.bin .mul x y), none⟩ t) L Kn e h = goV (kd P pm t L Kn e d) h (ev0 e h (.bin .mul x y)) := TDn_v
theorem TO_b_quo (x y : Opd) : TO P pm (⟨d, .v (.bin .quo x y), none⟩ :: r) Kn e h = goV (kc P pm r Kn e d) h (ev0 e h (.bin .quo x y)) := TO_v
theorem TDf_b_quo (x y : Opd) : TD P pm (.fl ⟨d, .v (.bin .quo x y), none⟩ t) L Kn e h = goV (kd P pm t (reads e (.bin .quo x y) ++ L) Kn e d) h (ev0 e h (.bin .quo x y)) := TDf_v
theorem TDn_b_quo (x y : Opd) : TD P pm (.nx ⟨d, .v (.bin .quo x y), none⟩ t) L Kn e h = goV (kd P pm t L Kn e d) h (ev0 e h (.bin .quo x y)) := TDn_v
theorem TO_b_rem (x y : Opd) : TO P pm (⟨d, .v (.bin .rem x y), none⟩ :: r) Kn e h = goV (kc P pm r Kn e d) h (ev0 e h (.bin .rem x y)) := TO_v
theorem TDf_b_rem (x y : Opd) : TD P pm (.fl ⟨d, .v (.bin .rem x y), none⟩ t) L Kn e h = goV (kd P pm t (reads e (.bin .rem x y) ++ L) Kn e d) h (ev0 e h (.bin .rem x y)) := TDf_v
theorem TDn_b_rem (x y : Opd) : TD P pm (.nx ⟨d, .v (.bin .rem x y), none⟩ t) L Kn e h = goV (kd P pm t L Kn e d) h (ev0 e h (.bin .rem x y)) := TDn_v
theorem TO_b_and (x y : Opd) : TO P pm (⟨d, .v (.bin .and x y), none⟩ :: r) Kn e h = goV (kc P pm r Kn e d) h (ev0 e h (.bin .and x y)) := TO_v
theorem TDf_b_and (x y : Opd) : TD P pm (.fl ⟨d, .v (.bin .and x y), none⟩ t) L Kn e h = goV (kd P pm t (reads e (.bin .and x y) ++ L) Kn e d) h (ev0 e h (.bin .and x y)) := TDf_v
theorem TDn_b_and (x y : Opd) : TD P pm (.nx ⟨d, .v (.bin .and x y), none⟩ t) L Kn e h = goV (kd P pm t L Kn e d) h (ev0 e h (.bin .and x y)) := TDn_v
theorem TO_b_or (x y : Opd) : TO P pm (⟨d, .v (.bin .or x y), none⟩ :: r) Kn e h = goV (kc P pm r Kn e d) h (ev0 e h (.bin .or x y)) := TO_v
theorem TDf_b_or (x y : Opd) : TD P pm (.fl ⟨d, .v (.bin .or x y), none⟩ t) L Kn e h = goV (kd P pm t (reads e (.bin .or x y) ++ L) Kn e d) h (ev0 e h (.bin .or x y)) := TDf_v
theorem TDn_b_or (x y : Opd) : TD P pm (.nx ⟨d, .v (.bin .or x y), none⟩ t) L Kn e h = goV (kd P pm t L Kn e d) h (ev0 e h (.bin .or x y)) := TDn_v
theorem TO_b_xor (x y : Opd) : TO P pm (⟨d, .v (.bin .xor x y), none⟩ :: r) Kn e h = goV (kc P pm r Kn e d) h (ev0 e h (.bin .xor x y)) := TO_v
theorem TDf_b_xor (x y : Opd) : TD P pm (.fl ⟨d, .v (.bin .xor x y), none⟩ t) L Kn e h = goV (kd P pm t (reads e (.bin .xor x y) ++ L) Kn e d) h (ev0 e h (.bin .xor x y)) := TDf_v
theorem TDn_b_xor (x y : Opd) : TD P pm (.nx ⟨d, .v (.bin .xor x y), none⟩ t) L Kn e h = goV (kd P pm t L Kn e d) h (ev0 e h (.bin .xor x y)) := TDn_v
theorem TO_b_shl (x y : Opd) : TO P pm (⟨d, .v (.bin .shl x y), none⟩ :: r) Kn e h = goV (kc P pm r Kn e d) h (ev0 e h (.bin .shl x y)) := TO_v
theorem TDf_b_shl (x y : Opd) : TD P pm (.fl ⟨d, .v (.bin .shl x y), none⟩ t) L Kn e h = goV (kd P pm t (reads e (.bin .shl x y) ++ L) Kn e d) h (ev0 e h (.bin .shl x y)) := TDf_v
theorem TDn_b_shl (x y : Opd) : TD P pm (.nx ⟨d, .v (.bin .shl x y), none⟩ t) L Kn e h = goV (kd P pm t L Kn e d) h (ev0 e h (.bin .shl x y)) := TDn_v
theorem TO_b_shr (x y : Opd) : TO P pm (⟨d, .v (.bin .shr x y), none⟩ :: r) Kn e h = goV (kc P pm r Kn e d) h (ev0 e h (.bin .shr x y)) := TO_v
theorem TDf_b_shr (x y : Opd) : TD P pm (.fl ⟨d, .v (.bin .shr x y), none⟩ t) L Kn e h = goV (kd P pm t (reads e (.bin .shr x y) ++ L) Kn e d) h (ev0 e h (.bin .shr x y)) := TDf_v
theorem TDn_b_shr (x y : Opd) : TD P pm (.nx ⟨d, .v (.bin .shr x y), none⟩ t) L Kn e h = goV (kd P pm t L Kn e d) h (ev0 e h (.bin .shr x y)) := TDn_v
theorem TO_b_andNot (x y : Opd) : TO P pm (⟨d, .v (.bin .andNot x y), none⟩ :: r) Kn e h = goV (kc P pm r Kn e d) h (ev0 e h (.bin .andNot x y)) := TO_v
theorem TDf_b_andNot (x y : Opd) : TD P pm (.fl ⟨d, .v (.bin .andNot x y), none⟩ t) L Kn e h = goV (kd P pm t (reads e (.bin .andNot x y) ++ L) Kn e d) h (ev0 e h (.bin .andNot x y)) := TDf_v
theorem TDn_b_andNot (x y : Opd) : TD P pm (.nx ⟨d, .v (.bin .andNot x y), none⟩ t) L Kn e h = goV (kd P pm t L Kn e d) h (ev0 e h (.bin .andNot x y)) := TDn_v
theorem TO_b_eql (x y : Opd) : TO P pm (⟨d, .v (.bin .eql x y), none⟩ :: r) Kn e h = goB (kc P pm r Kn e d) h (ev0 e h (.bin .eql x y)) := TO_vb
theorem TDf_b_eql (x y : Opd) : TD P pm (.fl ⟨d, .v (.bin .eql x y), none⟩ t) L Kn e h = goB (kd P pm t (reads e (.bin .eql x y) ++ L) Kn e d) h (ev0 e h (.bin .eql x y)) := TDf_vb
theorem TDn_b_eql (x y : Opd) : TD P pm (.nx ⟨d, .v (.bin .eql x y), none⟩ t) L Kn e h = goB (kd P pm t L Kn e d) h (ev0 e h (.bin .eql x y)) := TDn_vb
theorem TO_b_neq (x y : Opd) : TO P pm (⟨d, .v (.bin .neq x y), none⟩ :: r) Kn e h = goB (kc P pm r Kn e d) h (ev0 e h (.bin .neq x y)) := TO_vb
theorem TDf_b_neq (x y : Opd) : TD P pm (.fl ⟨d, .v (.bin .neq x y), none⟩ t) L Kn e h = goB (kd P pm t (reads e (.bin .neq x y) ++ L) Kn e d) h (ev0 e h (.bin .neq x y)) := TDf_vb
theorem TDn_b_neq (x y : Opd) : TD P pm (.nx ⟨d, .v (.bin .neq x y), none⟩ t) L Kn e h = goB (kd P pm t L Kn e d) h (ev0 e h (.bin .neq x y)) := TDn_vb
theorem TO_b_lss (x y : Opd) : TO P pm (⟨d, .v (.bin .lss x y), none⟩ :: r) Kn e h = goB (kc P pm r Kn e d) h (ev0 e h (.bin .lss x y)) := TO_vb
theorem TDf_b_lss (x y : Opd) : TD P pm (.fl ⟨d, .v (.bin .lss x y), none⟩ t) L Kn e h = goB (kd P pm t (reads e (.bin .lss x y) ++ L) Kn e d) h (ev0 e h (.bin .lss x y)) := TDf_vb
theorem TDn_b_lss (x y : Opd) : TD P pm (.nx ⟨d, .v (.bin .lss x y), none⟩ t) L Kn e h = goB (kd P pm t L Kn e d) h (ev0 e h (.bin .lss x y)) := TDn_vb
theorem TO_b_leq (x y : Opd) : TO P pm (⟨d, .v (.bin .leq x y), none⟩ :: r) Kn e h = goB (kc P pm r Kn e d) h (ev0 e h (.bin .leq x y)) := TO_vb
theorem TDf_b_leq (x y : Opd) : TD P pm (.fl ⟨d, .v (.bin .leq x y), none⟩ t) L Kn e h = goB (kd P pm t (reads e (.bin .leq x y) ++ L) Kn e d) h (ev0 e h (.bin .leq x y)) := TDf_vb
theorem TDn_b_leq (x y : Opd) : TD P pm (.nx ⟨d, .v (.bin .leq x y), none⟩ t) L Kn e h = goB (kd P pm t L Kn e d) h (ev0 e h (.bin .leq x y)) := TDn_vb
theorem TO_b_gtr (x y : Opd) : TO P pm (⟨d, .v (.bin .gtr x y), none⟩ :: r) Kn e h = goB (kc P pm r Kn e d) h (ev0 e h (.bin .gtr x y)) := TO_vb
theorem TDf_b_gtr (x y : Opd) : TD P pm (.fl ⟨d, .v (.bin .gtr x y), none⟩ t) L Kn e h = goB (kd P pm t (reads e (.bin .gtr x y) ++ L) Kn e d) h (ev0 e h (.bin .gtr x y)) := TDf_vb
theorem TDn_b_gtr (x y : Opd) : TD P pm (.nx ⟨d, .v (.bin .gtr x y), none⟩ t) L Kn e h = goB (kd P pm t L Kn e d) h (ev0 e h (.bin .gtr x y)) := TDn_vb
theorem TO_b_geq (x y : Opd) : TO P pm (⟨d, .v (.bin .geq x y), none⟩ :: r) Kn e h = goB (kc P pm r Kn e d) h (ev0 e h (.bin .geq x y)) := TO_vb
theorem TDf_b_geq (x y : Opd) : TD P pm (.fl ⟨d, .v (.bin .geq x y), none⟩ t) L Kn e h = goB (kd P pm t (reads e (.bin .geq x y) ++ L) Kn e d) h (ev0 e h (.bin .geq x y)) := TDf_vb
theorem TDn_b_geq (x y : Opd) : TD P pm (.nx ⟨d, .v (.bin .geq x y), none⟩ t) L Kn e h = goB (kd P pm t L Kn e d) h (ev0 e h (.bin .geq x y)) := TDn_vb
theorem TO_beq (n : Bool) (x y : Opd) : TO P pm (⟨d, .v (.beq n x y), none⟩ :: r) Kn e h = goB (kc P pm r Kn e d) h (ev0 e h (.beq n x y)) := TO_vb
theorem TDf_beq (n : Bool) (x y : Opd) : TD P pm (.fl ⟨d, .v (.beq n x y), none⟩ t) L Kn e h = goB (kd P pm t (reads e (.beq n x y) ++ L) Kn e d) h (ev0 e h (.beq n x y)) := TDf_vb
theorem TDn_beq (n : Bool) (x y : Opd) : TD P pm (.nx ⟨d, .v (.beq n x y), none⟩ t) L Kn e h = goB (kd P pm t L Kn e d) h (ev0 e h (.beq n x y)) := TDn_vb
theorem TO_seqn (n : Bool) (x y : Opd) : TO P pm (⟨d, .v (.seq n x y), none⟩ :: r) Kn e h = goB (kc P pm r Kn e d) h (ev0 e h (.seq n x y)) := TO_vb
theorem TDf_seqn (n : Bool) (x y : Opd) : TD P pm (.fl ⟨d, .v (.seq n x y), none⟩ t) L Kn e h = goB (kd P pm t (reads e (.seq n x y) ++ L) Kn e d) h (ev0 e h (.seq n x y)) := TDf_vb
theorem TDn_seqn (n : Bool) (x y : Opd) : TD P pm (.nx ⟨d, .v (.seq n x y), none⟩ t) L Kn e h = goB (kd P pm t L Kn e d) h (ev0 e h (.seq n x y)) := TDn_vb
theorem TO_ieq (n : Bool) (x y : Opd) : TO P pm (⟨d, .v (.ieq n x y), none⟩ :: r) Kn e h = goB (kc P pm r Kn e d) h (ev0 e h (.ieq n x y)) := TO_vb
theorem TDf_ieq (n : Bool) (x y : Opd) : TD P pm (.fl ⟨d, .v (.ieq n x y), none⟩ t) L Kn e h = goB (kd P pm t (reads e (.ieq n x y) ++ L) Kn e d) h (ev0 e h (.ieq n x y)) := TDf_vb
theorem TDn_ieq (n : Bool) (x y : Opd) : TD P pm (.nx ⟨d, .v (.ieq n x y), none⟩ t) L Kn e h = goB (kd P pm t L Kn e d) h (ev0 e h (.ieq n x y)) := TDn_vb

/-! ### temporaries -/
theorem evO_t {n : Nat} : evO e (.t n) = e n := (rfl)
theorem evO_c {v : AV} : evO e (.c v) = v := (rfl)
theorem put_some {n : Nat} {v : AV} : e.put (some n) v = e.set n v := (rfl)
theorem put_none {v : AV} : e.put none v = e := (rfl)
theorem eset {n m : Nat} {v : AV} : (e.set n v) m = if m = n then v else e m := (rfl)
def E0 : Env := fun _ => unset
theorem initEnv_1 {a : AV} : initEnv [a] = E0.set 0 a := by
  funext t
  rcases t with _ | t <;> rfl
theorem initEnv_0 : initEnv [] = E0 := by
  funext t
  rfl
theorem initEnv_2 {a b : AV} : initEnv [a, b] = (E0.set 0 a).set 1 b := by
  funext t
  rcases t with _ | _ | t <;> rfl
theorem initEnv_3 {a b c : AV} : initEnv [a, b, c] = ((E0.set 0 a).set 1 b).set 2 c := by
  funext t
  rcases t with _ | _ | _ | t <;> rfl
theorem initEnv_4 {a b c d : AV} : initEnv [a, b, c, d] = (((E0.set 0 a).set 1 b).set 2 c).set 3 d := by
  funext t
  rcases t with _ | _ | _ | _ | t <;> rfl
theorem initEnv_5 {a b c d f : AV} : initEnv [a, b, c, d, f] = ((((E0.set 0 a).set 1 b).set 2 c).set 3 d).set 4 f := by
  funext t
  rcases t with _ | _ | _ | _ | _ | t <;> rfl
theorem initEnv_6 {a b c d f g : AV} : initEnv [a, b, c, d, f, g] = (((((E0.set 0 a).set 1 b).set 2 c).set 3 d).set 4 f).set 5 g := by
  funext t
  rcases t with _ | _ | _ | _ | _ | _ | t <;> rfl
theorem initEnv_7 {a b c d f g i : AV} : initEnv [a, b, c, d, f, g, i] = ((((((E0.set 0 a).set 1 b).set 2 c).set 3 d).set 4 f).set 5 g).set 6 i := by
  funext t
  rcases t with _ | _ | _ | _ | _ | _ | _ | t <;> rfl

def Pins (e : Env) : List (Nat × AV) → Prop
  | [] => True
  | p :: r => e p.1 = p.2 ∧ Pins e r
theorem Pins_nil : Pins e [] = True := (rfl)
theorem Pins_cons {n : Nat} {v : AV} {l : List (Nat × AV)} : Pins e ((n, v) :: l) = (e n = v ∧ Pins e l) := (rfl)
def sets (e : Env) : List (Nat × AV) → Env
  | [] => e
  | p :: r => (sets e r).set p.1 p.2
theorem sets_nil : sets e [] = e := (rfl)
theorem sets_cons {n : Nat} {v : AV} {l : List (Nat × AV)} : sets e ((n, v) :: l) = (sets e l).set n v := (rfl)
theorem sets_eq : ∀ {l : List (Nat × AV)}, Pins e l → sets e l = e
  | [], _ => rfl
  | (n, v) :: r, h => by
    rw [sets_cons, sets_eq h.2]
    funext m
    rw [eset]
    split
    · rename_i hm
      subst hm
      exact h.1.symm
    · rfl
theorem T_pins {l : List (Nat × AV)} {c : RCode} (hp : Pins e l) (hT : ∀ e, T P pm c Q (sets e l) h) : T P pm c Q e h := by
  have := hT e
  rwa [sets_eq hp] at this
theorem K_pins {l : List (Nat × AV)} {x : Ex} (hp : Pins e l) (hT : ∀ e, K P pm F Q x (sets e l) h) : K P pm F Q x e h := by
  have := hT e
  rwa [sets_eq hp] at this

/-! ### loops -/
theorem T_loop {c : RCode} (I : Nat → Env → H → Prop) (n : Nat) (h0 : I n e h) (hs : ∀ n e h, I n e h → T P pm c (K P pm [] (LQ I n (K P pm F Q))) e h) : T P pm (.loop c) (K P pm F Q) e h :=
  ⟨I, ⟨n, h0⟩, hs⟩
theorem T_for {c : RCode} (len : Nat) (R : Nat → Env → H → Prop) (h0 : R 0 e h) (hs : ∀ i e h, i ≤ len → R i e h → T P pm c (K P pm [] (FQ R i len (K P pm F Q))) e h) : T P pm (.loop c) (K P pm F Q) e h := by
  refine ⟨fun n e h => ∃ i, i ≤ len ∧ n = len - i ∧ R i e h, ⟨len, 0, Nat.zero_le _, rfl, h0⟩, ?_⟩
  rintro n e h ⟨i, hi, rfl, hR⟩
  have := hs i e h hi hR
  have he : K P pm [] (FQ R i len (K P pm F Q)) = FQ R i len (K P pm F Q) := rfl
  rw [he] at this
  refine T_mono ?_ this
  intro x e' h' hq
  cases x with
  | normal => exact ⟨_, by have := hq.1; omega, i + 1, hq.1, rfl, hq.2⟩
  | exit j => exact hq
  | ret => exact hq

/-! ### values -/
theorem abin_add {k : IntKind} {a b : Int} : abin .add (.int k a) (.int k b) = some (.int k (k.wrap (a + b))) := by simp [abin]
theorem abin_sub {k : IntKind} {a b : Int} : abin .sub (.int k a) (.int k b) = some (.int k (k.wrap (a - b))) := by simp [abin]
theorem abin_mul {k : IntKind} {a b : Int} : abin .mul (.int k a) (.int k b) = some (.int k (k.wrap (a * b))) := by simp [abin]
theorem abin_quo {k : IntKind} {a b : Int} (hb : b ≠ 0) : abin .quo (.int k a) (.int k b) = some (.int k (k.wrap (a.tdiv b))) := by simp [abin, hb]
theorem abin_rem {k : IntKind} {a b : Int} (hb : b ≠ 0) : abin .rem (.int k a) (.int k b) = some (.int k (a.tmod b)) := by simp [abin, hb]
theorem abin_and {k : IntKind} {a b : Int} : abin .and (.int k a) (.int k b) = some (.int k (bitsI .and k a b)) := by simp [abin]
theorem abin_or {k : IntKind} {a b : Int} : abin .or (.int k a) (.int k b) = some (.int k (bitsI .or k a b)) := by simp [abin]
theorem abin_xor {k : IntKind} {a b : Int} : abin .xor (.int k a) (.int k b) = some (.int k (bitsI .xor k a b)) := by simp [abin]
theorem abin_andNot {k : IntKind} {a b : Int} : abin .andNot (.int k a) (.int k b) = some (.int k (bitsI .andNot k a b)) := by simp [abin]
theorem abin_shl {k k' : IntKind} {a b : Int} (hb : 0 ≤ b) : abin .shl (.int k a) (.int k' b) = some (.int k (k.wrap (a * 2 ^ (min b.toNat k.bits)))) := by
  simp only [abin]
  rw [if_neg (by omega)]
theorem abin_shr {k k' : IntKind} {a b : Int} (hb : 0 ≤ b) : abin .shr (.int k a) (.int k' b) = some (.int k (a.fdiv (2 ^ (min b.toNat k.bits)))) := by
  simp only [abin]
  rw [if_neg (by omega)]
theorem abin_eql {k : IntKind} {a b : Int} : abin .eql (.int k a) (.int k b) = some (.bool (decide (a = b))) := by simp [abin]
theorem abin_neq {k : IntKind} {a b : Int} : abin .neq (.int k a) (.int k b) = some (.bool (!decide (a = b))) := by simp [abin]
theorem abin_lss {k : IntKind} {a b : Int} : abin .lss (.int k a) (.int k b) = some (.bool (decide (a < b))) := by simp [abin]
theorem abin_leq {k : IntKind} {a b : Int} : abin .leq (.int k a) (.int k b) = some (.bool (decide (a ≤ b))) := by simp [abin]
theorem abin_gtr {k : IntKind} {a b : Int} : abin .gtr (.int k a) (.int k b) = some (.bool (decide (b < a))) := by simp [abin]
theorem abin_geq {k : IntKind} {a b : Int} : abin .geq (.int k a) (.int k b) = some (.bool (decide (b ≤ a))) := by simp [abin]
theorem abin_s_eql {a b : List UInt8} : abin .eql (.str a) (.str b) = some (.bool (decide (a = b))) := (rfl)
theorem abin_s_neq {a b : List UInt8} : abin .neq (.str a) (.str b) = some (.bool (!decide (a = b))) := (rfl)
theorem abin_s_lss {a b : List UInt8} : abin .lss (.str a) (.str b) = some (.bool (Op.bytesLess a b)) := (rfl)
theorem abin_s_leq {a b : List UInt8} : abin .leq (.str a) (.str b) = some (.bool (Op.bytesLess a b || decide (a = b))) := (rfl)
theorem abin_s_gtr {a b : List UInt8} : abin .gtr (.str a) (.str b) = some (.bool (!(Op.bytesLess a b || decide (a = b)))) := (rfl)
theorem abin_s_geq {a b : List UInt8} : abin .geq (.str a) (.str b) = some (.bool (!Op.bytesLess a b)) := (rfl)
theorem abin_s_add {a b : List UInt8} (hl : a.length + b.length ≤ 9223372036854775807) : abin .add (.str a) (.str b) = some (.str (a ++ b)) := if_pos hl
theorem tn_m1 {i : Nat} : ((i : Int) - 1).toNat = i - 1 := by omega
theorem tn_p1 {i : Nat} : ((i : Int) + 1).toNat = i + 1 := by omega
theorem tn_sub {i j : Nat} : ((i : Int) - (j : Int)).toNat = i - j := by omega
theorem tn_add {i j : Nat} : ((i : Int) + (j : Int)).toNat = i + j := by omega
theorem wrap_ok {n : Int} (h1 : -9223372036854775808 ≤ n) (h2 : n ≤ 9223372036854775807) : IntKind.i64.wrap n = n := by rw [IntKind.wrap_i64]; omega

theorem ev0_mov {x : Opd} : ev0 e h (.mov x) = some (evO e x) := (rfl)
def pickA (v a b : AV) : Option AV := match v with | .bool t => some (if t then a else b) | _ => none
theorem ev0_pick {c a b : Opd} : ev0 e h (.pick c a b) = pickA (evO e c) (evO e a) (evO e b) := (rfl)
theorem pickA_t {a b : AV} : pickA (.bool true) a b = some a := (rfl)
theorem pickA_f {a b : AV} : pickA (.bool false) a b = some b := (rfl)
theorem ev0_bin {op : BinOp} {x y : Opd} : ev0 e h (.bin op x y) = abin op (evO e x) (evO e y) := (rfl)
def beqA (n : Bool) : AV → AV → Option AV
  | .bool a, .bool b => some (.bool (if n then !(a == b) else (a == b)))
  | _, _ => none
theorem ev0_beq {n : Bool} {x y : Opd} : ev0 e h (.beq n x y) = beqA n (evO e x) (evO e y) := by
  simp only [ev0]
  generalize evO e x = v
  generalize evO e y = u
  cases v <;> cases u <;> rfl
theorem beqA_t {a b : Bool} : beqA true (.bool a) (.bool b) = some (.bool (!(a == b))) := (rfl)
theorem beqA_f {a b : Bool} : beqA false (.bool a) (.bool b) = some (.bool (a == b)) := (rfl)
def seqA (n : Bool) (x y : AV) : Option AV := (aseq x y).map fun b => .bool (if n then !b else b)
theorem ev0_seq {n : Bool} {x y : Opd} : ev0 e h (.seq n x y) = seqA n (evO e x) (evO e y) := (rfl)
theorem seqA_nil {n : Bool} : seqA n .nils .nils = some (.bool (!n)) := by cases n <;> rfl
theorem seqA_ro {n : Bool} {s l : Nat} {cs : List AV} : seqA n (.ro s cs l) .nils = some (.bool n) := by cases n <;> rfl
theorem seqA_sl {n : Bool} {b o s l k : Nat} : seqA n (.sl b o s l k) .nils = some (.bool n) := by cases n <;> rfl
theorem ev0_un {u : UnOp} {x : Opd} : ev0 e h (.un u x) = aun u (evO e x) := (rfl)
theorem aun_not {b : Bool} : aun .not (.bool b) = some (.bool !b) := (rfl)
theorem aun_neg {k : IntKind} {n : Int} : aun .neg (.int k n) = some (.int k (k.wrap (0 - n))) := (rfl)
theorem aun_xor {k : IntKind} {n : Int} : aun .xor (.int k n) = some (.int k (bitsI .xor k (if k.signed then -1 else k.max) n)) := (rfl)
def convA (k : IntKind) : AV → Option AV | .int _ n => some (.int k (k.wrap n)) | _ => none
theorem ev0_conv {k : IntKind} {x : Opd} : ev0 e h (.conv k x) = convA k (evO e x) := (rfl)
theorem convA_int {k k' : IntKind} {n : Int} : convA k (.int k' n) = some (.int k (k.wrap n)) := (rfl)
def cidA : AV → Option AV | .str s => some (.str s) | _ => none
theorem ev0_cid {x : Opd} : ev0 e h (.cid x) = cidA (evO e x) := (rfl)
theorem cidA_str {s : List UInt8} : cidA (.str s) = some (.str s) := (rfl)
def nchkA : AV → Option AV | .adr b off => some (.adr b off) | .rad cs off => some (.rad cs off) | .fn f c => some (.fn f c) | _ => none
theorem ev0_nchk {x : Opd} : ev0 e h (.nchk x) = nchkA (evO e x) := (rfl)
theorem nchkA_adr {b o : Nat} : nchkA (.adr b o) = some (.adr b o) := (rfl)
theorem nchkA_rad {cs : List AV} {o : Nat} : nchkA (.rad cs o) = some (.rad cs o) := (rfl)
theorem nchkA_fn {f : Nat} {cs : List AV} : nchkA (.fn f cs) = some (.fn f cs) := (rfl)
def faddrA (off : Nat) : AV → Option AV | .adr b o => some (.adr b (o + off)) | .rad cs o => some (.rad cs (o + off)) | _ => none
theorem ev0_faddr {o : Nat} {x : Opd} : ev0 e h (.faddr o x) = faddrA o (evO e x) := (rfl)
theorem faddrA_adr {b o off : Nat} : faddrA off (.adr b o) = some (.adr b (o + off)) := (rfl)
theorem faddrA_rad {cs : List AV} {o off : Nat} : faddrA off (.rad cs o) = some (.rad cs (o + off)) := (rfl)
def fldA (ag : Bool) (off sz : Nat) : AV → Option AV | .agg cs => ld ag sz cs off | _ => none
theorem ev0_fld {a : Bool} {o s : Nat} {x : Opd} : ev0 e h (.fld a o s x) = fldA a o s (evO e x) := (rfl)
theorem fldA_agg {a : Bool} {o s : Nat} {cs : List AV} : fldA a o s (.agg cs) = ld a s cs o := (rfl)
def iaddrA (sz : Nat) : AV → AV → Option AV
  | .sl b off sz' len _, .int _ n => if sz = sz' ∧ 0 ≤ n ∧ n < len then some (.adr b (off + n.toNat * sz)) else none
  | .ro sz' cs len, .int _ n => if sz = sz' ∧ 0 ≤ n ∧ n < len then some (.rad cs (n.toNat * sz)) else none
  | _, _ => none
theorem ev0_iaddr {s : Nat} {x i : Opd} : ev0 e h (.iaddr s x i) = iaddrA s (evO e x) (evO e i) := (rfl)
theorem iaddrA_sl {s b o l kc : Nat} {k : IntKind} {n : Int} (h1 : 0 ≤ n) (h2 : n < l) : iaddrA s (.sl b o s l kc) (.int k n) = some (.adr b (o + n.toNat * s)) := if_pos ⟨rfl, h1, h2⟩
theorem iaddrA_ro {s l : Nat} {cs : List AV} {k : IntKind} {n : Int} (h1 : 0 ≤ n) (h2 : n < l) : iaddrA s (.ro s cs l) (.int k n) = some (.rad cs (n.toNat * s)) := if_pos ⟨rfl, h1, h2⟩
def sidxA : AV → AV → Option AV
  | .str s, .int _ n => if 0 ≤ n then (s[n.toNat]?).map fun c => .int .u8 c.toNat else none
  | _, _ => none
theorem ev0_sidx {x i : Opd} : ev0 e h (.sidx x i) = sidxA (evO e x) (evO e i) := (rfl)
theorem sidxA_str {s : List UInt8} {k : IntKind} {n : Int} (h1 : 0 ≤ n) (h2 : n < s.length) : sidxA (.str s) (.int k n) = some (.int .u8 (s.getD n.toNat 0).toNat) := by
  have : n.toNat < s.length := by omega
  simp [sidxA, h1, this]
def bndA (x : Option AV) (d y : Nat) : Option Nat := match x with
  | none => some d
  | some (.int _ i) => if 0 ≤ i ∧ i ≤ y then some i.toNat else none
  | some _ => none
theorem bnd_eq {x : Option Opd} {d y : Nat} : bnd e x d y = bndA (x.map (evO e)) d y := by
  cases x with
  | none => rfl
  | some o =>
    simp only [bnd, Option.map_some]
    generalize evO e o = v
    cases v <;> rfl
theorem bndA_none {d y : Nat} : bndA none d y = some d := (rfl)
theorem bndA_int {k : IntKind} {i : Int} {d y : Nat} (h1 : 0 ≤ i) (h2 : i ≤ y) : bndA (some (.int k i)) d y = some i.toNat := if_pos ⟨h1, h2⟩
def slcA (sz : Nat) (lo hi : Option AV) : AV → Option AV
  | .nils => (bndA hi 0 0).bind fun hh => (bndA lo 0 hh).bind fun _ => some .nils
  | .sl b off sz' len kc => if sz = sz' then (bndA hi len kc).bind fun hh => (bndA lo 0 hh).bind fun l => some (.sl b (off + l * sz) sz (hh - l) (kc - l)) else none
  | .ro sz' cs len => if sz = sz' then (bndA hi len len).bind fun hh => (bndA lo 0 hh).bind fun l => some (.ro sz ((cs.drop (l * sz)).take ((hh - l) * sz)) (hh - l)) else none
  | _ => none
theorem ev0_slc {s : Nat} {x : Opd} {lo hi : Option Opd} : ev0 e h (.slc s x lo hi) = slcA s (lo.map (evO e)) (hi.map (evO e)) (evO e x) := by
  simp only [ev0, bnd_eq]
  generalize evO e x = v
  cases v <;> rfl
def sstrA (lo hi : Option AV) : AV → Option AV
  | .str s => (bndA hi s.length s.length).bind fun hh => (bndA lo 0 hh).bind fun l => some (.str ((s.drop l).take (hh - l)))
  | _ => none
theorem ev0_sstr {x : Opd} {lo hi : Option Opd} : ev0 e h (.sstr x lo hi) = sstrA (lo.map (evO e)) (hi.map (evO e)) (evO e x) := by
  simp only [ev0, bnd_eq]
  generalize evO e x = v
  cases v <;> rfl
theorem slcA_nil {s : Nat} {lo hi : Option AV} : slcA s lo hi .nils = (bndA hi 0 0).bind fun hh => (bndA lo 0 hh).bind fun _ => some .nils := (rfl)
theorem slcA_sl {s b o l kc : Nat} {lo hi : Option AV} : slcA s lo hi (.sl b o s l kc) = (bndA hi l kc).bind fun hh => (bndA lo 0 hh).bind fun q => some (.sl b (o + q * s) s (hh - q) (kc - q)) := if_pos rfl
theorem slcA_ro {s l : Nat} {cs : List AV} {lo hi : Option AV} : slcA s lo hi (.ro s cs l) = (bndA hi l l).bind fun hh => (bndA lo 0 hh).bind fun q => some (.ro s ((cs.drop (q * s)).take ((hh - q) * s)) (hh - q)) := if_pos rfl
theorem sstrA_str {s : List UInt8} {lo hi : Option AV} : sstrA lo hi (.str s) = (bndA hi s.length s.length).bind fun hh => (bndA lo 0 hh).bind fun l => some (.str ((s.drop l).take (hh - l))) := (rfl)
def lenA : AV → Option AV
  | .nils => some (.int .i64 0)
  | .sl _ _ _ len _ => some (.int .i64 len)
  | .ro _ _ len => some (.int .i64 len)
  | _ => none
theorem ev0_len {x : Opd} : ev0 e h (.len x) = lenA (evO e x) := (rfl)
theorem lenA_nil : lenA .nils = some (.int .i64 0) := (rfl)
theorem lenA_sl {b o s l k : Nat} : lenA (.sl b o s l k) = some (.int .i64 l) := (rfl)
theorem lenA_ro {s l : Nat} {cs : List AV} : lenA (.ro s cs l) = some (.int .i64 l) := (rfl)
def lensA : AV → Option AV | .str s => some (.int .i64 s.length) | _ => none
theorem ev0_lens {x : Opd} : ev0 e h (.lens x) = lensA (evO e x) := (rfl)
theorem lensA_str {s : List UInt8} : lensA (.str s) = some (.int .i64 s.length) := (rfl)
def loadA (h : H) (ag : Bool) (sz : Nat) : AV → Option AV
  | .adr b off => (h.cells b).bind fun cs => ld ag sz cs off
  | .rad cs off => ld ag sz cs off
  | _ => none
theorem ev0_load {a : Bool} {s : Nat} {x : Opd} : ev0 e h (.load a s x) = loadA h a s (evO e x) := (rfl)
theorem loadA_adr {a : Bool} {s b o : Nat} : loadA h a s (.adr b o) = (h.cells b).bind fun cs => ld a s cs o := (rfl)
theorem loadA_rad {a : Bool} {s o : Nat} {cs : List AV} : loadA h a s (.rad cs o) = ld a s cs o := (rfl)
theorem ld_f {s o : Nat} {cs : List AV} : ld false s cs o = cs[o]? := (rfl)
theorem ld_t {s o : Nat} {cs : List AV} (hl : o + s ≤ cs.length) : ld true s cs o = some (.agg ((cs.drop o).take s)) := if_pos hl
def extA (j : Nat) : AV → Option AV | .tup vs => vs[j]? | _ => none
theorem ev0_ext {x : Opd} {j : Nat} : ev0 e h (.ext x j) = extA j (evO e x) := (rfl)
theorem extA_tup {vs : List AV} {j : Nat} : extA j (.tup vs) = vs[j]? := (rfl)
theorem ev0_mkfn {f : Nat} {c : List Opd} : ev0 e h (.mkfn f c) = some (.fn f (c.map (evO e))) := (rfl)
theorem ev0_bld {z : List AV} {ps : List (Nat × Nat × Opd)} : ev0 e h (.bld z ps) = (fillA z (ps.map fun (a, b, o) => (a, b, evO e o))).map .agg := (rfl)

/-! ### memory -/
theorem ev1_box {Q : AV → H → Prop} {x : Opd} : ev1 pm e h Q (.box x) = ((cellsOf (evO e x)).all one = true ∧ Q (.adr h.length 0) (h ++ [some (.cells (cellsOf (evO e x)))])) := (rfl)
theorem ev1_alloc {Q : AV → H → Prop} {z : List AV} : ev1 pm e h Q (.alloc z) = (z.all one = true ∧ Q (.adr h.length 0) (h ++ [some (.cells z)])) := (rfl)

/-! ### ends -/
theorem Ends_1 {n : Nat} {Q : AV → H → Prop} : Ends [.t n] Q .ret e h = Q (e n) h := (rfl)
theorem Ends_2 {n m : Nat} {Q : AV → H → Prop} : Ends [.t n, .t m] Q .ret e h = Q (.tup [e n, e m]) h := (rfl)
theorem Ends_3 {n m k : Nat} {Q : AV → H → Prop} : Ends [.t n, .t m, .t k] Q .ret e h = Q (.tup [e n, e m, e k]) h := (rfl)
theorem Ends_4 {n m k l : Nat} {Q : AV → H → Prop} : Ends [.t n, .t m, .t k, .t l] Q .ret e h = Q (.tup [e n, e m, e k, e l]) h := (rfl)
theorem Ends_0 {Q : AV → H → Prop} : Ends [] Q .ret e h = Q (.tup []) h := (rfl)
theorem Ends_0n {Q : AV → H → Prop} : Ends [] Q .normal e h = Q (.tup []) h := (rfl)
theorem Ends_c {n sz : Nat} {ag : Bool} {Q : AV → H → Prop} : Ends [.cell ag sz n] Q .ret e h = endC Q h (loadAdr h ag sz (e n)) := by
  have hE : Ends [.cell ag sz n] Q .ret e h = (match resV [.cell ag sz n] e h with | some x => Q x h | none => False) := rfl
  rw [hE]
  have hr : resV [.cell ag sz n] e h = resOf e h (.cell ag sz n) := by
    simp only [resV, List.mapM_cons, List.mapM_nil]
    cases resOf e h (.cell ag sz n) <;> rfl
  rw [hr]
  simp only [resOf]
  generalize e n = v
  cases v <;> rfl
end
end Go.Proofs.YtbkcenkfecndjaaGreatDoor.M
