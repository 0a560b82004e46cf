/-
  The abstract machine of this claim's proofs: values, heap, resolved code, and the predicate transformer T over it. Nothing of a program stands here.
-/
import Derived.OrdersHeld
import Derived.Below
import Derived.Laws.IdiomCopy
import Derived.Laws.Cells
import Derived.Laws.Rows
import Derived.WideLaws
namespace Go.Proofs.YtbkcenkfecndjaaGreatDoor.M
open Go Go.RowKit
set_option linter.unusedVariables false
set_option linter.unusedSimpArgs false

inductive AV where
  | int (k : IntKind) (n : Int)
  | bool (b : Bool)
  | str (s : List UInt8)
  | nils
  | nilp
  | nilf
  | nili
  | nilm
  | adr (b off : Nat)
  | sl (b off sz len kc : Nat)
  | ro (sz : Nat) (cs : List AV) (len : Nat)
  | rad (cs : List AV) (off : Nat)
  | agg (cs : List AV)
  | tup (vs : List AV)
  | fn (f : Nat) (caps : List AV)
  | ifc
  | mp (b : Nat)
  deriving Inhabited

inductive AObj where
  | cells (cs : List AV)
  | map (es : List (AV × AV))
  deriving Inhabited

abbrev H := List (Option AObj)
abbrev Env := Nat → AV
def unset : AV := .tup []
def Env.set (e : Env) (d : Nat) (v : AV) : Env := fun t => if t = d then v else e t
def Env.put (e : Env) (d : Option Nat) (v : AV) : Env := match d with | some d => e.set d v | none => e
def H.cells (h : H) (b : Nat) : Option (List AV) := match h[b]? with | some (some (.cells cs)) => some cs | _ => none
def H.mapOf (h : H) (b : Nat) : Option (List (AV × AV)) := match h[b]? with | some (some (.map es)) => some es | _ => none

/-! ### resolved code -/
inductive Opd where
  | t (n : Nat)
  | c (v : AV)
  deriving Inhabited

inductive VOp where
  | mov (x : Opd)
  | pick (c a b : Opd)
  | bin (op : BinOp) (x y : Opd)
  | beq (neg : Bool) (x y : Opd)
  | seq (neg : Bool) (x y : Opd)
  | ieq (neg : Bool) (x y : Opd)
  | un (op : UnOp) (x : Opd)
  | conv (k : IntKind) (x : Opd)
  | cid (x : Opd)
  | cbs (x : Opd)
  | nchk (x : Opd)
  | faddr (off : Nat) (x : Opd)
  | fld (ag : Bool) (off sz : Nat) (x : Opd)
  | iaddr (sz : Nat) (x i : Opd)
  | sidx (x i : Opd)
  | slc (sz : Nat) (x : Opd) (lo hi : Option Opd)
  | sstr (x : Opd) (lo hi : Option Opd)
  | len (x : Opd)
  | lens (x : Opd)
  | mn (xs : List Opd)
  | mx (xs : List Opd)
  | load (ag : Bool) (sz : Nat) (x : Opd)
  | ext (x : Opd) (j : Nat)
  | mkfn (f : Nat) (caps : List Opd)
  | mkif (x : Opd)
  | look (zero : AV) (x k : Opd) (ok : Bool)
  | bld (zero : List AV) (parts : List (Nat × Nat × Opd))
  deriving Inhabited

inductive MOp where
  | box (x : Opd)
  | alloc (zero : List AV)
  | bsl (sz len : Nat) (zero : List AV) (parts : List (Nat × Nat × Opd))
  | mks (sz bytes : Nat) (zero : List AV) (l c : Opd)
  | store (sz : Nat) (a v : Opd)
  | app (st : Bool) (sz bytes : Nat) (a b : Opd)
  | cpy (st : Bool) (sz : Nat) (a b : Opd)
  | mkm
  | mset (m k v : Opd)
  deriving Inhabited

inductive ROp where
  | v (o : VOp)
  | m (o : MOp)
  | dead
  | call (f : Nat) (args : List Opd)
  | callv (x : Opd) (args : List Opd)
  deriving Inhabited

structure RO where
  dst : Option Nat
  op : ROp
  guard : Option (Nat × Bool)
  deriving Inhabited

/-- The orders of a region whose order is open: 'fl': an operation that only yields a value, and may be taken first; 'nx': one that is taken next; 'both': either way. -/
inductive RT where
  | done
  | fl (o : RO) (r : RT)
  | nx (o : RO) (r : RT)
  | both (a b : RT)
  deriving Inhabited

inductive RCode where
  | skip
  | dead
  | reg (ops : List RO)
  | dreg (t : RT)
  | seq (a b : RCode)
  | cond (c : Opd) (a b : RCode)
  | block (id : Nat) (c : RCode)
  | loop (c : RCode)
  | exit (id : Nat)
  | ret
  deriving Inhabited

inductive RRes where
  | t (n : Nat)
  | cell (ag : Bool) (sz : Nat) (n : Nat)
  deriving Inhabited

structure RFunc where
  n : Nat
  res : List RRes
  body : RCode
  deriving Inhabited

/-! ### what operations compute -/
def evO (e : Env) : Opd → AV
  | .t n => e n
  | .c v => v

def bitsI (op : BinOp) (k : IntKind) (x y : Int) : Int :=
  match op with
  | .and => k.wrap (BitVec.ofInt k.bits x &&& BitVec.ofInt k.bits y).toNat
  | .or => k.wrap (BitVec.ofInt k.bits x ||| BitVec.ofInt k.bits y).toNat
  | .xor => k.wrap (BitVec.ofInt k.bits x ^^^ BitVec.ofInt k.bits y).toNat
  | _ => k.wrap (BitVec.ofInt k.bits x &&& ~~~ BitVec.ofInt k.bits y).toNat

def abin (op : BinOp) : AV → AV → Option AV
  | .int k a, .int k' b =>
    match op with
    | .shl => if b < 0 then none else some (.int k (k.wrap (a * 2 ^ (min b.toNat k.bits))))
    | .shr => if b < 0 then none else some (.int k (a.fdiv (2 ^ (min b.toNat k.bits))))
    | _ =>
      if k = k' then
        match op with
        | .add => some (.int k (k.wrap (a + b)))
        | .sub => some (.int k (k.wrap (a - b)))
        | .mul => some (.int k (k.wrap (a * b)))
        | .quo => if b = 0 then none else some (.int k (k.wrap (a.tdiv b)))
        | .rem => if b = 0 then none else some (.int k (a.tmod b))
        | .and => some (.int k (bitsI .and k a b))
        | .or => some (.int k (bitsI .or k a b))
        | .xor => some (.int k (bitsI .xor k a b))
        | .andNot => some (.int k (bitsI .andNot k a b))
        | .eql => some (.bool (decide (a = b)))
        | .neq => some (.bool (!decide (a = b)))
        | .lss => some (.bool (decide (a < b)))
        | .leq => some (.bool (decide (a ≤ b)))
        | .gtr => some (.bool (decide (b < a)))
        | .geq => some (.bool (decide (b ≤ a)))
        | _ => none
      else none
  | .str a, .str b =>
    match op with
    | .add => if a.length + b.length ≤ 9223372036854775807 then some (.str (a ++ b)) else none
    | .eql => some (.bool (decide (a = b)))
    | .neq => some (.bool (!decide (a = b)))
    | .lss => some (.bool (Op.bytesLess a b))
    | .leq => some (.bool (Op.bytesLess a b || decide (a = b)))
    | .gtr => some (.bool (!(Op.bytesLess a b || decide (a = b))))
    | .geq => some (.bool (!Op.bytesLess a b))
    | _ => none
  | _, _ => none

/-- Is a slice nil: the other operand is the nil slice. -/
def aseq : AV → AV → Option Bool
  | .nils, .nils => some true
  | .sl .., .nils => some false
  | .ro .., .nils => some false
  | _, _ => none
/-- Is the operand a constant: two nil interfaces are compared where one is the literal alone. -/
def opC : Opd → Bool
  | .c _ => true
  | _ => false
def aieq : Bool → AV → AV → Option Bool
  | _, .ifc, .nili => some false
  | true, .nili, .nili => some true
  | _, _, _ => none

def aun (op : UnOp) : AV → Option AV
  | .int k n => match op with
    | .neg => some (.int k (k.wrap (0 - n)))
    | .xor => some (.int k (bitsI .xor k (if k.signed then -1 else k.max) n))
    | _ => none
  | .bool b => match op with
    | .not => some (.bool !b)
    | _ => none
  | _ => none

def bnd (e : Env) (x : Option Opd) (d y : Nat) : Option Nat :=
  match x with
  | none => some d
  | some o => match evO e o with
    | .int _ i => if 0 ≤ i ∧ i ≤ y then some i.toNat else none
    | _ => none

def ld (ag : Bool) (sz : Nat) (cs : List AV) (off : Nat) : Option AV :=
  if ag then (if off + sz ≤ cs.length then some (.agg ((cs.drop off).take sz)) else none) else cs[off]?

/-- A place and its cells put over. -/
def over (cs : List AV) (off : Nat) (new : List AV) : List AV := cs.take off ++ new ++ cs.drop (off + new.length)
def cellsOf : AV → List AV
  | .agg cs => cs
  | v => [v]
/-- One cell of memory can hold it. -/
def one : AV → Bool
  | .agg _ => false
  | .tup _ => false
  | _ => true
def fillA (cs : List AV) : List (Nat × Nat × AV) → Option (List AV)
  | [] => some cs
  | (off, sz, v) :: r =>
    if (cellsOf v).length = sz ∧ off + sz ≤ cs.length then fillA (over cs off (cellsOf v)) r else none
def mn2 : AV → AV → Option AV
  | .int k a, .int k' b => if k = k' then some (.int k (if b < a then b else a)) else none
  | _, _ => none
def mx2 : AV → AV → Option AV
  | .int k a, .int k' b => if k = k' then some (.int k (if a < b then b else a)) else none
  | _, _ => none
def fold1 (f : AV → AV → Option AV) : List AV → Option AV
  | [] => none
  | x :: r => r.foldlM f x
def asInts : List AV → Option (List UInt8)
  | [] => some []
  | .int .u8 n :: r => (asInts r).map (UInt8.ofNat n.toNat :: ·)
  | _ :: _ => none
def sameKey : AV → AV → Bool
  | .int k a, .int k' b => k == k' && a == b
  | _, _ => false
def isIntK : AV → Bool
  | .int .i64 _ => true
  | _ => false
def mput (k v : AV) : List (AV × AV) → List (AV × AV)
  | [] => [(k, v)]
  | p :: r => if sameKey k p.1 then (p.1, v) :: r else p :: mput k v r
def mget (es : List (AV × AV)) (k : AV) : Option AV := (es.find? fun p => sameKey k p.1).map (·.2)

def ev0 (e : Env) (h : H) : VOp → Option AV
  | .mov x => some (evO e x)
  | .pick c a b => match evO e c with | .bool t => some (if t then evO e a else evO e b) | _ => none
  | .bin op x y => abin op (evO e x) (evO e y)
  | .beq neg x y => match evO e x, evO e y with | .bool a, .bool b => some (.bool (if neg then !(a == b) else (a == b))) | _, _ => none
  | .seq neg x y => (aseq (evO e x) (evO e y)).map fun b => .bool (if neg then !b else b)
  | .ieq neg x y => (aieq (opC y) (evO e x) (evO e y)).map fun b => .bool (if neg then !b else b)
  | .un op x => aun op (evO e x)
  | .conv k x => match evO e x with | .int _ n => some (.int k (k.wrap n)) | _ => none
  | .cid x => match evO e x with | .str s => some (.str s) | _ => none
  | .cbs x => match evO e x with
    | .nils => some (.str [])
    | .sl b off sz len _ => if sz = 1 then (h.cells b).bind fun cs => if off + len ≤ cs.length then (asInts ((cs.drop off).take len)).map .str else none else none
    | .ro sz cs len => if sz = 1 ∧ len ≤ cs.length then (asInts (cs.take len)).map .str else none
    | _ => none
  | .nchk x => match evO e x with | .adr b off => some (.adr b off) | .rad cs off => some (.rad cs off) | .fn f c => some (.fn f c) | _ => none
  | .faddr off x => match evO e x with | .adr b o => some (.adr b (o + off)) | .rad cs o => some (.rad cs (o + off)) | _ => none
  | .fld ag off sz x => match evO e x with | .agg cs => ld ag sz cs off | _ => none
  | .iaddr sz x i => match evO e x, evO e i with
    | .sl b off sz' len _, .int _ n => if sz = sz' ∧ 0 ≤ n ∧ n < len then some (.adr b (off + n.toNat * sz)) else none
    | .ro sz' cs len, .int _ n => if sz = sz' ∧ 0 ≤ n ∧ n < len then some (.rad cs (n.toNat * sz)) else none
    | _, _ => none
  | .sidx x i => match evO e x, evO e i with
    | .str s, .int _ n => if 0 ≤ n then (s[n.toNat]?).map fun c => .int .u8 c.toNat else none
    | _, _ => none
  | .slc sz x lo hi => match evO e x with
    | .nils => (bnd e hi 0 0).bind fun hh => (bnd e lo 0 hh).bind fun _ => some .nils
    | .sl b off sz' len kc => if sz = sz' then (bnd e hi len kc).bind fun hh => (bnd e lo 0 hh).bind fun l => some (.sl b (off + l * sz) sz (hh - l) (kc - l)) else none
    | .ro sz' cs len => if sz = sz' then (bnd e hi len len).bind fun hh => (bnd e lo 0 hh).bind fun l => some (.ro sz ((cs.drop (l * sz)).take ((hh - l) * sz)) (hh - l)) else none
    | _ => none
  | .sstr x lo hi => match evO e x with
    | .str s => (bnd e hi s.length s.length).bind fun hh => (bnd e lo 0 hh).bind fun l => some (.str ((s.drop l).take (hh - l)))
    | _ => none
  | .lens x => match evO e x with | .str s => some (.int .i64 s.length) | _ => none
  | .len x => match evO e x with
    | .nils => some (.int .i64 0)
    | .sl _ _ _ len _ => some (.int .i64 len)
    | .ro _ _ len => some (.int .i64 len)
    | _ => none
  | .mn xs => fold1 mn2 (xs.map (evO e))
  | .mx xs => fold1 mx2 (xs.map (evO e))
  | .load ag sz x => match evO e x with
    | .adr b off => (h.cells b).bind fun cs => ld ag sz cs off
    | .rad cs off => ld ag sz cs off
    | _ => none
  | .ext x j => match evO e x with | .tup vs => vs[j]? | _ => none
  | .mkfn f caps => some (.fn f (caps.map (evO e)))
  | .mkif _ => some .ifc
  | .look zero x k ok => match evO e x with
    | .mp b => (h.mapOf b).bind fun es => if isIntK (evO e k) && es.all (fun p => isIntK p.1) then
        (let r := mget es (evO e k); some (if ok then .tup [r.getD zero, .bool r.isSome] else r.getD zero)) else none
    | _ => none
  | .bld zero parts => (fillA zero (parts.map fun (a, b, o) => (a, b, evO e o))).map .agg

/-- The blocks of the heap that an operation reads. -/
def reads (e : Env) : VOp → List Nat
  | .cbs x | .load _ _ x | .look _ x _ _ => match evO e x with | .adr b _ => [b] | .sl b .. => [b] | .mp b => [b] | _ => []
  | _ => []

def rows (zero : List AV) (n : Nat) : List AV := (List.range n).flatMap fun _ => zero
def killed (h : H) (b : Nat) : H := h.set b none
def wr (h : H) (b : Nat) (cs : List AV) : H := h.set b (some (.cells cs))

def srcCells (h : H) (st : Bool) (sz : Nat) : AV → Option (List AV × Nat)
  | .nils => if st then none else some ([], 0)
  | .str s => if st = true ∧ sz = 1 then some (s.map (fun c => .int .u8 c.toNat), s.length) else none
  | .sl b off sz' len _ => if st = false ∧ sz = sz' then (h.cells b).bind fun cs => if off + len * sz ≤ cs.length then some ((cs.drop off).take (len * sz), len) else none else none
  | .ro sz' cs len => if st = false ∧ sz = sz' ∧ len * sz ≤ cs.length then some (cs.take (len * sz), len) else none
  | _ => none

/-- 'pm b': block b may be written. -/
def ev1 (pm : Nat → Prop) (e : Env) (h : H) (K : AV → H → Prop) : MOp → Prop
  | .box x => (cellsOf (evO e x)).all one = true ∧ K (.adr h.length 0) (h ++ [some (.cells (cellsOf (evO e x)))])
  | .alloc zero => zero.all one = true ∧ K (.adr h.length 0) (h ++ [some (.cells zero)])
  | .bsl sz len zero parts => match fillA (rows zero len) (parts.map fun (a, b, o) => (a, b, evO e o)) with
    | some cs => cs.all one = true ∧ K (.sl h.length 0 sz len len) (h ++ [some (.cells cs)])
    | none => False
  | .mks sz bytes zero l c => match evO e l, evO e c with
    | .int _ n, .int _ m => 0 ≤ n ∧ n ≤ m ∧ m * bytes ≤ 140737488355328 ∧ K (.sl h.length 0 sz n.toNat m.toNat) (h ++ [some (.cells (rows zero m.toNat))])
    | _, _ => False
  | .store sz a v => match evO e a with
    | .adr b off => pm b ∧ match h.cells b with
      | some cs => (cellsOf (evO e v)).length = sz ∧ off + sz ≤ cs.length ∧ (cellsOf (evO e v)).all one = true ∧ K unset (wr h b (over cs off (cellsOf (evO e v))))
      | none => False
    | _ => False
  | .app st sz bytes a b => match srcCells h st sz (evO e b) with
    | none => False
    | some (new, n) => match evO e a with
      | .nils => if n = 0 then K .nils h else n * bytes ≤ 140737488355328 ∧ K (.sl h.length 0 sz n n) (h ++ [some (.cells new)])
      | .sl b off sz' len kc => sz = sz' ∧ match h.cells b with
        | none => False
        | some cs => off + len * sz ≤ cs.length ∧
          if n = 0 then K (.sl b off sz len kc) h
          else if len + n ≤ kc then pm b ∧ off + (len + n) * sz ≤ cs.length ∧ K (.sl b off sz (len + n) kc) (wr h b (over cs (off + len * sz) new))
          else pm b ∧ (len + n) * bytes ≤ 140737488355328 ∧ K (.sl h.length 0 sz (len + n) (len + n)) (killed h b ++ [some (.cells ((cs.drop off).take (len * sz) ++ new))])
      | .ro sz' cs len => sz = sz' ∧ len * sz ≤ cs.length ∧ False
      | _ => False
  | .cpy st sz a b => match srcCells h st sz (evO e b) with
    | none => False
    | some (src, n) => match evO e a with
      | .nils => K (.int .i64 0) h
      | .sl b off sz' len _ => sz = sz' ∧ pm b ∧ match h.cells b with
        | none => False
        | some cs => off + len * sz ≤ cs.length ∧ K (.int .i64 (min n len : Nat)) (wr h b (over cs off (src.take (min n len * sz))))
      | _ => False
  | .mkm => K (.mp h.length) (h ++ [some (.map [])])
  | .mset m k v => match evO e m with
    | .mp b => pm b ∧ match h.mapOf b with
      | none => False
      | some es => isIntK (evO e k) = true ∧ es.all (fun p => isIntK p.1) = true ∧
        K unset (h.set b (some (.map (mput (evO e k) (evO e v) es))))
    | _ => False

end Go.Proofs.YtbkcenkfecndjaaGreatDoor.M
