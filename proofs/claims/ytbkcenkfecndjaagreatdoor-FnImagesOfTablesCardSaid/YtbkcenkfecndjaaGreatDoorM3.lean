/-
  Resolved operations that compute a value and leave memory alone: what they are resolved from, and that the machine's operation yields what the abstract one does.
-/
import Derived.Test.YtbkcenkfecndjaaGreatDoorM2
import Derived.Lib.Strings
namespace Go.Proofs.YtbkcenkfecndjaaGreatDoor.M
open Go Go.RowKit
set_option linter.unusedVariables false
set_option linter.unusedSimpArgs false

def absV : Value → Option AV
  | .int k n => some (.int k n)
  | .bool b => some (.bool b)
  | .string s => if s.data.size ≤ 9223372036854775807 then some (.str s.data.toList) else none
  | .slice none 0 0 => some .nils
  | .pointer none => some .nilp
  | .nilFunc => some .nilf
  | .nilIface => some .nili
  | .map none => some .nilm
  | _ => none

theorem absV_sound {v x} (h : absV v = some x) (S w μ) : VR S w μ x v ∧ one x = true := by
  unfold absV at h
  split at h
  case h_3 b =>
    split at h
    · rename_i hl
      injection h with h
      subst h
      exact ⟨VR.str b.data.toList (by simpa using hl), rfl⟩
    · cases h
  all_goals first | (injection h with h; subst h; exact ⟨by constructor, rfl⟩) | cases h

def absCells (v : Value) : Option (List AV) := v.cells.toList.mapM absV

/-- Where the parts of a built value lie. -/
def places (P : Program) (t : TypeId) : Option (List (Nat × Nat)) :=
  match P.underlying t with
  | some (.struct fields) => fields.toList.mapM fun f => (P.info? f.type).map fun i => (f.offset, i.size)
  | _ => none

def rOpd (N : Nat) : Operand → Option Opd
  | .tmp t => if t < N then some (.t t) else none
  | .const v => (absV v).map .c
  | .func f => some (.c (.fn f []))
  | .global _ => none

section
variable {P : Program} {N : Nat} {S : Nat → Prop} {w : World} {μ : Mu} {e : Env} {a : Act} {h : H}

theorem opd_sound {x y} (hx : rOpd N x = some y) (he : ER N S w μ e a.tmps) : VR S w μ (evO e y) (a.eval x) := by
  cases x with
  | tmp t =>
    simp only [rOpd] at hx
    split at hx
    · injection hx with hx; subst hx
      rename_i ht
      exact he.at_ t ht
    · cases hx
  | const v =>
    simp only [rOpd, Option.map_eq_some_iff] at hx
    obtain ⟨z, hz, rfl⟩ := hx
    exact (absV_sound hz S w μ).1
  | func f =>
    simp only [rOpd] at hx
    injection hx with hx; subst hx
    exact .fn (cs := []) (vs := #[]) rfl (fun i x h => by simp at h)
  | global g => cases hx

def rPart (N : Nat) (pl : List (Nat × Nat)) (p : Nat × Operand) : Option (Nat × Nat × Opd) := (rOpd N p.2).bind fun x => (pl[p.1]?).map fun q => (q.1, q.2, x)

def isAggD : TypeDesc → Bool
  | .struct _ => true
  | .array _ _ => true
  | _ => false

def rBnd (N : Nat) : Option Operand → Option (Option Opd)
  | none => some none
  | some x => (rOpd N x).map some

/-- What an operation is, with its types' numbers looked up. -/
def rV (P : Program) (N : Nat) : Op → Option VOp
  | .move x => (rOpd N x).map .mov
  | .assign x => (rOpd N x).map .mov
  | .pick c a b => (rOpd N c).bind fun c => (rOpd N a).bind fun a => (rOpd N b).map fun b => .pick c a b
  | .binOp op t x y _ => (rOpd N x).bind fun x => (rOpd N y).bind fun y =>
    match P.underlying t with
    | some (.int _) => some (.bin op x y)
    | some .string => some (.bin op x y)
    | some .bool => match op with | .eql => some (.beq false x y) | .neq => some (.beq true x y) | _ => none
    | some (.slice _) => match op with | .eql => some (.seq false x y) | .neq => some (.seq true x y) | _ => none
    | some (.interface _) => match op with | .eql => some (.ieq false x y) | .neq => some (.ieq true x y) | _ => none
    | _ => none
  | .unOp op _ x => (rOpd N x).map fun x => .un op x
  | .convert s d x => (rOpd N x).bind fun x => match P.underlying s, P.underlying d with
    | some (.int _), some (.int k) => some (.conv k x)
    | some .string, some .string => some (.cid x)
    | some (.slice e), some .string => match P.underlying e with | some (.int .u8) => some (.cbs x) | _ => none
    | _, _ => none
  | .nilCheck x => (rOpd N x).map .nchk
  | .fieldAddr s x f => (rOpd N x).bind fun x => match P.underlying s with
    | some (.struct fs) => match fs[f]? with
      | some fd => match P.info? fd.type with | some i => if i.size = 0 then none else some (.faddr fd.offset x) | none => none
      | none => none
    | _ => none
  | .field s x f => (rOpd N x).bind fun x => match P.underlying s with
    | some (.struct fs) => match fs[f]? with
      | some fd => match P.underlying fd.type, P.info? fd.type with | some d, some i => some (.fld (isAggD d) fd.offset i.size x) | _, _ => none
      | none => none
    | _ => none
  | .indexAddr t x i => (rOpd N x).bind fun x => (rOpd N i).bind fun i => match P.underlying t with
    | some (.slice el) => match P.info? el with | some inf => some (.iaddr inf.size x i) | none => none
    | _ => none
  | .index t x i => (rOpd N x).bind fun x => (rOpd N i).bind fun i => match P.underlying t with
    | some .string => some (.sidx x i)
    | _ => none
  | .slice t x lo hi none => (rOpd N x).bind fun x => (rBnd N lo).bind fun lo => (rBnd N hi).bind fun hi => match P.underlying t with
    | some .string => some (.sstr x lo hi)
    | some (.slice el) => match P.info? el with | some inf => some (.slc inf.size x lo hi) | none => none
    | _ => none
  | .load t x => (rOpd N x).bind fun x => match P.underlying t, P.info? t with
    | some d, some i => some (.load (isAggD d) i.size x)
    | _, _ => none
  | .extract x j => (rOpd N x).map fun x => .ext x j
  | .makeFunc (.func f) first caps => if first.isEmpty then (caps.toList.mapM (rOpd N)).map fun cs => .mkfn f cs else none
  | .call { callee := .builtin .len, args, argTypes } => match args.toList with
    | [x] => match argTypes[0]?.bind P.underlying with
      | some .string => (rOpd N x).map .lens
      | some (.slice _) => (rOpd N x).map .len
      | _ => none
    | _ => none
  | .call { callee := .builtin .min, args, .. } => match args.toList with
    | [x, y] => (rOpd N x).bind fun x => (rOpd N y).map fun y => .mn [x, y]
    | _ => none
  | .call { callee := .builtin .max, args, .. } => match args.toList with
    | [x, y] => (rOpd N x).bind fun x => (rOpd N y).map fun y => .mx [x, y]
    | _ => none
  | .lookup t x k ok => (rOpd N x).bind fun x => (rOpd N k).bind fun k => match P.underlying t with
    | some (.map kt el) => match P.underlying kt, P.info? el with
      | some (.int .i64), some i => i.zero.bind fun z => (absV z).map fun z => .look z x k ok
      | _, _ => none
    | _ => none
  | .build t parts => (P.info? t).bind fun it => it.zero.bind fun z => (absCells z).bind fun zs => (places P t).bind fun pl =>
      (parts.toList.mapM (rPart N pl)).map fun ps => .bld zs ps
  | _ => none

/-- The operation yields a value that the abstract one stands for, in every world in which what it reads is as it is here. -/
def Yld (P : Program) (S : Nat → Prop) (w : World) (μ : Mu) (a : Act) (o : Oper) (rd : List Nat) (x : AV) : Prop :=
  ∃ v, (∀ w' : World, (∀ B, S B → w'.heap[B]? = w.heap[B]?) → (∀ b ∈ rd, ∀ m : MI, μ[b]? = some (some m) → w'.heap[m.B]? = w.heap[m.B]?) → (execOp a.eval o).run P w' = .ok (.value v) w') ∧ VR S w μ x v

theorem yld_move {x y} (o : Oper) (ho : o.op = .move x ∨ o.op = .assign x) (hx : rOpd N x = some y) (he : ER N S w μ e a.tmps) : Yld P S w μ a o [] (evO e y) := by
  refine ⟨a.eval x, fun w' _ _ => ?_, opd_sound hx he⟩
  rcases ho with ho | ho <;> simp [execOp, ho]

theorem yld_pick {c x y c' x' y'} (o : Oper) (ho : o.op = .pick c x y) (hc : rOpd N c = some c') (hx : rOpd N x = some x') (hy : rOpd N y = some y') (he : ER N S w μ e a.tmps) {z}
    (hz : ev0 e h (.pick c' x' y') = some z) : Yld P S w μ a o [] z := by
  have h1 := opd_sound hc he
  have h2 := opd_sound hx he
  have h3 := opd_sound hy he
  simp only [ev0] at hz
  split at hz
  · rename_i t ht
    rw [ht] at h1
    injection hz with hz
    subst hz
    cases hv : a.eval c with
    | bool b =>
      rw [hv] at h1
      cases h1
      refine ⟨if t then a.eval x else a.eval y, fun w' _ _ => ?_, by cases t <;> simpa⟩
      cases t <;> simp [execOp, ho, hv, asBool]
    | _ => rw [hv] at h1; cases h1
  · cases hz


theorem VR.int_ {k n v} (h : VR S w μ (.int k n) v) : v = .int k n := by cases h; rfl
theorem VR.bool_ {b v} (h : VR S w μ (.bool b) v) : v = .bool b := by cases h; rfl
theorem VR.str_ {s v} (h : VR S w μ (.str s) v) : v = .string ⟨s.toArray⟩ := by cases h; rfl
theorem VR.strLen {s v} (h : VR S w μ (.str s) v) : s.length ≤ 9223372036854775807 := by cases h; assumption
theorem VR.nils_ {v} (h : VR S w μ .nils v) : v = .slice none 0 0 := by cases h; rfl
theorem VR.nili_ {v} (h : VR S w μ .nili v) : v = .nilIface := by cases h; rfl
theorem VR.ifc_ {v} (h : VR S w μ .ifc v) : ∃ t x, v = .iface t x := by cases h; exact ⟨_, _, rfl⟩

theorem toL (s : List UInt8) : (⟨s.toArray⟩ : ByteArray).toList = s := by
  exact ByteArray.toList_eq _
theorem beqL (a b : List UInt8) : (a == b) = decide (a = b) := by rw [Bool.eq_iff_iff]; simp
theorem sizeL (s : List UInt8) : (⟨s.toArray⟩ : ByteArray).size = s.length := rfl
theorem appL (s t : List UInt8) : (⟨s.toArray⟩ : ByteArray) ++ (⟨t.toArray⟩ : ByteArray) = ⟨(s ++ t).toArray⟩ := by
  apply ByteArray.ext
  simp

theorem run_intBits (P : Program) (w : World) (op : BinOp) (k : IntKind) (x y : Int) (h : op = .and ∨ op = .or ∨ op = .xor ∨ op = .andNot) :
    (Op.intBits op k x y).run P w = .ok (.int k (bitsI op k x y)) w := by
  rcases h with rfl | rfl | rfl | rfl <;> simp [Op.intBits, bitsI]

theorem eqGuard_plain {op t x y} {v u : Value} (h1 : v ≠ .nilIface) (h2 : ∀ c, v ≠ .agg c) (w : World) : (eqGuard op t x y v u).run P w = .ok () w := by
  unfold eqGuard
  cases op <;> (try simp; done)
  all_goals
    cases v <;> first | exact absurd rfl h1 | exact absurd rfl (h2 _) | simp

theorem run_abin {op t vx vy x y z} (hx : VR S w μ x vx) (hy : VR S w μ y vy) (hz : abin op x y = some z) :
    ∃ v, (∀ (X Y : Operand) (w' : World), (do eqGuard op t X Y vx vy; binOp op t vx vy : Sem Value).run P w' = .ok v w') ∧ VR S w μ z v := by
  unfold abin at hz
  split at hz
  · rename_i k a k' b
    have e1 := hx.int_
    have e2 := hy.int_
    subst e1 e2
    have hg : ∀ (X Y : Operand) (w' : World), (eqGuard op t X Y (.int k a) (.int k' b)).run P w' = .ok () w' := fun X Y w' => eqGuard_plain (by simp) (by simp) w'
    by_cases hsh : op = .shl ∨ op = .shr
    · rcases hsh with rfl | rfl
      all_goals
        simp only [] at hz
        split at hz
        · cases hz
        · injection hz with hz
          subst hz
          rename_i hb
          refine ⟨_, fun X Y w' => ?_, .int _ _⟩
          simp only [Sem.run_bind, hg, Result.andThen_ok, binOp]
          simp [Op.shift, hb]
    · cases op <;> simp only [] at hz <;> first
        | (exfalso; simp at hsh; done)
        | (split at hz
           · rename_i hk
             subst hk
             first
             | (injection hz with hz
                subst hz
                refine ⟨_, fun X Y w' => ?_, by constructor⟩
                simp only [Sem.run_bind, hg, Result.andThen_ok, binOp, ne_eq, not_true_eq_false, if_false]
                first
                | (simp [Op.intArith]; done)
                | (simp [Op.intCmp]; done)
                | (simp [Op.intCmp]; rfl)
                | exact run_intBits _ _ _ _ _ _ (by simp))
             | (split at hz
                · cases hz
                · injection hz with hz
                  subst hz
                  rename_i hb
                  refine ⟨_, fun X Y w' => ?_, by constructor⟩
                  simp only [Sem.run_bind, hg, Result.andThen_ok, binOp, ne_eq, not_true_eq_false, if_false]
                  simp [Op.intDiv, hb])
             | cases hz
           · cases hz)
  · rename_i a b
    have e1 := hx.str_
    have e2 := hy.str_
    subst e1 e2
    have hg : ∀ (X Y : Operand) (w' : World), (eqGuard op t X Y (.string ⟨a.toArray⟩) (.string ⟨b.toArray⟩)).run P w' = .ok () w' := fun X Y w' => eqGuard_plain (by simp) (by simp) w'
    cases op <;> simp only [] at hz <;> first
      | cases hz; done
      | (split at hz
         · rename_i hl
           injection hz with hz
           subst hz
           refine ⟨_, fun X Y w' => ?_, .str _ (by simpa using hl)⟩
           simp only [Sem.run_bind, hg, Result.andThen_ok, binOp, Op.stringOp, sizeL]
           rw [if_neg (by simp [IntKind.max, IntKind.signed, IntKind.bits]; omega), appL]
           rfl
         · cases hz)
      | (injection hz with hz
         subst hz
         refine ⟨_, fun X Y w' => ?_, by constructor⟩
         simp only [Sem.run_bind, hg, Result.andThen_ok, binOp, Op.stringOp, toL]
         first | (simp; done) | (simp only [beqL]; rfl) | rfl)
  · cases hz

/-- An operand's value, told. -/
theorem at_ {x y} (hx : rOpd N x = some y) (he : ER N S w μ e a.tmps) {z} (hz : evO e y = z) : VR S w μ z (a.eval x) := hz ▸ opd_sound hx he

theorem yld_bin {op t x y x' y' ty} (o : Oper) (ho : o.op = .binOp op t x y ty) (hx : rOpd N x = some x') (hy : rOpd N y = some y') (he : ER N S w μ e a.tmps) {z}
    (hz : ev0 e h (.bin op x' y') = some z) : Yld P S w μ a o [] z := by
  obtain ⟨v, hv, hr⟩ := run_abin (P := P) (t := t) (opd_sound hx he) (opd_sound hy he) hz
  refine ⟨v, fun w' _ _ => ?_, hr⟩
  have := hv x y w'
  simp only [execOp, ho, Sem.run_bind] at this ⊢
  rw [this]
  rfl

theorem equal_bool {t} (hu : P.underlying t = some .bool) (p q : Bool) (w : World) : (Op.equal t (.bool p) (.bool q)).run P w = .ok (p == q) w := by
  show (Op.equalIn (9999 + 1) t _ _).run P w = _
  unfold Op.equalIn
  simp [run_underlying hu]
theorem equal_nils {t el} (hu : P.underlying t = some (.slice el)) (w : World) : (Op.equal t (.slice none 0 0) (.slice none 0 0)).run P w = .ok true w := by
  show (Op.equalIn (9999 + 1) t _ _).run P w = _
  unfold Op.equalIn
  simp [run_underlying hu]
theorem equal_sln {t el} (hu : P.underlying t = some (.slice el)) (A : Addr) (l c : Nat) (w : World) : (Op.equal t (.slice (some A) l c) (.slice none 0 0)).run P w = .ok false w := by
  show (Op.equalIn (9999 + 1) t _ _).run P w = _
  unfold Op.equalIn
  simp [run_underlying hu]
theorem equal_ifn {t ms} (hu : P.underlying t = some (.interface ms)) (u : TypeId) (v : Value) (w : World) : (Op.equal t (.iface u v) .nilIface).run P w = .ok false w := by
  show (Op.equalIn (9999 + 1) t _ _).run P w = _
  unfold Op.equalIn
  simp [run_underlying hu]

theorem equal_nn {t ms} (hu : P.underlying t = some (.interface ms)) (w : World) : (Op.equal t .nilIface .nilIface).run P w = .ok true w := by
  show (Op.equalIn (9999 + 1) t _ _).run P w = _
  unfold Op.equalIn
  simp [run_underlying hu]

theorem yld_beq {op t x y x' y' ty neg} (o : Oper) (ho : o.op = .binOp op t x y ty) (hu : P.underlying t = some .bool) (hop : op = if neg then .neq else .eql)
    (hx : rOpd N x = some x') (hy : rOpd N y = some y') (he : ER N S w μ e a.tmps) {z} (hz : ev0 e h (.beq neg x' y') = some z) : Yld P S w μ a o [] z := by
  simp only [ev0] at hz
  split at hz
  · rename_i p q hp hq
    have e1 := (at_ hx he hp).bool_
    have e2 := (at_ hy he hq).bool_
    injection hz with hz
    subst hz
    refine ⟨_, fun w' _ _ => ?_, .bool _⟩
    have hg : (eqGuard op t x y (.bool p) (.bool q)).run P w' = .ok () w' := eqGuard_plain (by simp) (by simp) w'
    simp only [execOp, ho, Sem.run_bind, e1, e2, hg, Result.andThen_ok]
    cases neg <;> subst hop <;> simp [binOp, equal_bool hu]
  · cases hz

theorem yld_seq {op t x y x' y' ty neg el} (o : Oper) (ho : o.op = .binOp op t x y ty) (hu : P.underlying t = some (.slice el)) (hop : op = if neg then .neq else .eql)
    (hx : rOpd N x = some x') (hy : rOpd N y = some y') (he : ER N S w μ e a.tmps) {z} (hz : ev0 e h (.seq neg x' y') = some z) : Yld P S w μ a o [] z := by
  simp only [ev0, Option.map_eq_some_iff] at hz
  obtain ⟨r, hr, rfl⟩ := hz
  unfold aseq at hr
  have key : ∃ vx, a.eval x = vx ∧ a.eval y = .slice none 0 0 ∧ ((vx = .slice none 0 0 ∧ r = true) ∨ (∃ A l c, vx = .slice (some A) l c) ∧ r = false) := by
    split at hr
    · rename_i hp hq
      injection hr with hr
      exact ⟨_, rfl, (at_ hy he hq).nils_, .inl ⟨(at_ hx he hp).nils_, hr.symm⟩⟩
    · rename_i hp hq
      injection hr with hr
      have := at_ hx he hp
      cases h2 : a.eval x <;> rw [h2] at this <;> cases this
      exact ⟨_, rfl, (at_ hy he hq).nils_, .inr ⟨⟨_, _, _, rfl⟩, hr.symm⟩⟩
    · rename_i hp hq
      injection hr with hr
      have := at_ hx he hp
      cases h2 : a.eval x <;> rw [h2] at this <;> cases this
      exact ⟨_, rfl, (at_ hy he hq).nils_, .inr ⟨⟨_, _, _, rfl⟩, hr.symm⟩⟩
    · cases hr
  obtain ⟨vx, e1, e2, hc⟩ := key
  refine ⟨_, fun w' _ _ => ?_, .bool _⟩
  have hg : (eqGuard op t x y vx (.slice none 0 0)).run P w' = .ok () w' := by
    rcases hc with ⟨rfl, _⟩ | ⟨⟨A, l, c, rfl⟩, _⟩ <;> exact eqGuard_plain (by simp) (by simp) w'
  simp only [execOp, ho, Sem.run_bind, e1, e2, hg, Result.andThen_ok]
  rcases hc with ⟨rfl, rfl⟩ | ⟨⟨A, l, c, rfl⟩, rfl⟩ <;> cases neg <;> subst hop <;> simp [binOp, equal_nils hu, equal_sln hu]

theorem yld_ieq {op t x y x' y' ty neg ms} (o : Oper) (ho : o.op = .binOp op t x y ty) (hu : P.underlying t = some (.interface ms)) (hop : op = if neg then .neq else .eql)
    (hx : rOpd N x = some x') (hy : rOpd N y = some y') (he : ER N S w μ e a.tmps) {z} (hz : ev0 e h (.ieq neg x' y') = some z) : Yld P S w μ a o [] z := by
  simp only [ev0, Option.map_eq_some_iff] at hz
  obtain ⟨r, hr, rfl⟩ := hz
  unfold aieq at hr
  split at hr
  · rename_i hp hq
    injection hr with hr
    obtain ⟨u, v, e1⟩ := (at_ hx he hp).ifc_
    have e2 := (at_ hy he hq).nili_
    refine ⟨_, fun w' _ _ => ?_, .bool _⟩
    have hg : (eqGuard op t x y (.iface u v) .nilIface).run P w' = .ok () w' := eqGuard_plain (by simp) (by simp) w'
    simp only [execOp, ho, Sem.run_bind, e1, e2, hg, Result.andThen_ok]
    subst hr
    cases neg <;> subst hop <;> simp [binOp, equal_ifn hu]
  · rename_i hc hp hq
    injection hr with hr
    have hcy : ∃ v, y = .const v := by
      cases y with
      | const v => exact ⟨v, rfl⟩
      | tmp t =>
        simp only [rOpd] at hy
        split at hy
        · injection hy with hy
          subst hy
          cases hc
        · cases hy
      | func f =>
        injection hy with hy
        subst hy
        cases hq
      | global g => cases hy
    obtain ⟨v, rfl⟩ := hcy
    have e1 := (at_ hx he hp).nili_
    have e2 := (at_ hy he hq).nili_
    refine ⟨_, fun w' _ _ => ?_, .bool _⟩
    have hg : (eqGuard op t x (.const v) .nilIface .nilIface).run P w' = .ok () w' := by
      unfold eqGuard
      cases op <;> simp
    simp only [execOp, ho, Sem.run_bind, e1, e2, hg, Result.andThen_ok]
    subst hr
    cases neg <;> subst hop <;> simp [binOp, equal_nn hu]
  · cases hr

theorem yld_un {op t x x'} (o : Oper) (ho : o.op = .unOp op t x) (hx : rOpd N x = some x') (he : ER N S w μ e a.tmps) {z}
    (hz : ev0 e h (.un op x') = some z) : Yld P S w μ a o [] z := by
  simp only [ev0] at hz
  unfold aun at hz
  split at hz
  · rename_i k n hp
    have e1 := (at_ hx he hp).int_
    cases op <;> simp only [] at hz <;> first
      | (injection hz with hz
         subst hz
         refine ⟨_, fun w' _ _ => ?_, .int _ _⟩
         simp only [execOp, ho, Sem.run_bind, e1, Op.unary]
         first | (simp [Op.intArith]; done) | (rw [run_intBits _ _ _ _ _ _ (by simp)]; rfl))
      | cases hz
  · rename_i b hp
    have e1 := (at_ hx he hp).bool_
    cases op <;> simp only [] at hz <;> first
      | (injection hz with hz
         subst hz
         refine ⟨_, fun w' _ _ => ?_, .bool _⟩
         simp [execOp, ho, e1, Op.unary]; done)
      | cases hz
  · cases hz

theorem yld_conv {s d x x' k k0} (o : Oper) (ho : o.op = .convert s d x) (hs : P.underlying s = some (.int k0)) (hd : P.underlying d = some (.int k)) (hx : rOpd N x = some x') (he : ER N S w μ e a.tmps) {z}
    (hz : ev0 e h (.conv k x') = some z) : Yld P S w μ a o [] z := by
  simp only [ev0] at hz
  split at hz
  · rename_i hp
    have e1 := (at_ hx he hp).int_
    injection hz with hz
    subst hz
    refine ⟨_, fun w' _ _ => ?_, .int _ _⟩
    simp [execOp, ho, e1, convert, run_underlying hs, run_underlying hd, Conv.intToInt]
  · cases hz

theorem yld_cid {s d x x'} (o : Oper) (ho : o.op = .convert s d x) (hs : P.underlying s = some .string) (hd : P.underlying d = some .string) (hx : rOpd N x = some x') (he : ER N S w μ e a.tmps) {z}
    (hz : ev0 e h (.cid x') = some z) : Yld P S w μ a o [] z := by
  simp only [ev0] at hz
  split at hz
  · rename_i hp
    have e1 := (at_ hx he hp).str_
    have e2 := (at_ hx he hp).strLen
    injection hz with hz
    subst hz
    refine ⟨_, fun w' _ _ => ?_, .str _ e2⟩
    simp [execOp, ho, e1, convert, run_underlying hs, run_underlying hd]
  · cases hz

theorem yld_nchk {x x'} (o : Oper) (ho : o.op = .nilCheck x) (hx : rOpd N x = some x') (he : ER N S w μ e a.tmps) {z}
    (hz : ev0 e h (.nchk x') = some z) : Yld P S w μ a o [] z := by
  have hv := opd_sound hx he
  simp only [ev0] at hz
  split at hz
  all_goals first
    | (rename_i hp
       injection hz with hz
       subst hz
       rw [hp] at hv
       refine ⟨a.eval x, fun w' _ _ => ?_, hv⟩
       cases h2 : a.eval x <;> rw [h2] at hv <;> cases hv
       simp [execOp, ho, h2]; done)
    | cases hz
end
end Go.Proofs.YtbkcenkfecndjaaGreatDoor.M
