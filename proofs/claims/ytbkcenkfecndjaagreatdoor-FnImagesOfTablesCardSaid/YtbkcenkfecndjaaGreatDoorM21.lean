/-
  Solutions of rows over two elements, as numbers: what a row meets, filling from the last column, and that both ways give one vector.
-/
import Derived.Test.YtbkcenkfecndjaaGreatDoorM20
namespace Go.Proofs.YtbkcenkfecndjaaGreatDoor.M
set_option linter.unusedVariables false
open Go Go.RowKit
/-- Is the number of bits that are on in both odd? -/
def oddN (X x : Nat) : Nat → Bool
  | 0 => false
  | n + 1 => oddN X x n != (X.testBit n && x.testBit n)
theorem oddN_xor {X Y x : Nat} : ∀ {n : Nat}, oddN (X ^^^ Y) x n = (oddN X x n != oddN Y x n)
  | 0 => rfl
  | n + 1 => by
    rw [oddN, oddN, oddN, oddN_xor, Nat.testBit_xor]
    cases oddN X x n <;> cases oddN Y x n <;> cases X.testBit n <;> cases Y.testBit n <;> cases x.testBit n <;> rfl
theorem oddN_none {X x : Nat} : ∀ {n : Nat}, (∀ j, j < n → (X.testBit j && x.testBit j) = false) → oddN X x n = false
  | 0, _ => rfl
  | n + 1, h => by rw [oddN, oddN_none fun j hj => h j (by omega), h n (by omega)]; rfl
/-- A sum of rows that a vector satisfies. -/
def rgt (q : Bool) (n X : Nat) : Bool := q && X.testBit n
theorem rgt_xor {q : Bool} {n X Y : Nat} : rgt q n (X ^^^ Y) = (rgt q n X != rgt q n Y) := by
  unfold rgt
  rw [Nat.testBit_xor]
  cases q <;> cases X.testBit n <;> cases Y.testBit n <;> rfl
theorem Sp.sat {n x : Nat} {q : Bool} {L : List Nat} (h : ∀ l ∈ L, oddN l x n = rgt q n l) {v : Nat} (hv : Sp L v) : oddN v x n = rgt q n v := by
  induction hv with
  | zero =>
    rw [oddN_none fun j _ => by simp]
    simp [rgt]
  | add _ hx ih => rw [oddN_xor, rgt_xor, ih, h _ hx]
/-! ### filling from the last column -/
/-! ### the vector that is told by the pivots -/
structure PivV (n : Nat) (q : Bool) (M : List Nat) (x y : Nat) : Prop where
  free : ∀ c, c < n → c ∉ M.map (lead n) → y.testBit c = x.testBit c
  sat : ∀ e ∈ M, oddN e y n = rgt q n e
/-- A bit put on or off. -/
def setB (y i : Nat) (on : Bool) : Nat := (y ^^^ (y &&& 2 ^ i)) ||| (if on then 2 ^ i else 0)
theorem setB_bit {y i j : Nat} {on : Bool} : (setB y i on).testBit j = if j = i then on else y.testBit j := by
  unfold setB
  rw [Nat.testBit_or, Nat.testBit_xor, Nat.testBit_and, Nat.testBit_two_pow]
  by_cases h : j = i
  · subst h
    cases on <;> cases y.testBit j <;> simp
  · rw [if_neg h]
    cases on
    · cases y.testBit j <;> simp [Ne.symm h]
    · cases y.testBit j <;> simp [Ne.symm h]
theorem bitsI_andNot {x y : Nat} (hx : x < 9223372036854775808) (hy : y < 9223372036854775808) : bitsI .andNot .i64 (x : Int) (y : Int) = ((x ^^^ (x &&& y) : Nat) : Int) := by
  have h0 : x &&& y ≤ x := Nat.and_le_left
  have h1 : x ^^^ (x &&& y) < 2 ^ 63 := Nat.xor_lt_two_pow (by omega) (by omega)
  show IntKind.i64.wrap ((BitVec.ofInt 64 (x : Int) &&& ~~~ BitVec.ofInt 64 (y : Int)).toNat : Int) = _
  have h2 : (BitVec.ofNat 64 x &&& ~~~ BitVec.ofNat 64 y) = BitVec.ofNat 64 (x ^^^ (x &&& y)) := by
    apply BitVec.eq_of_getLsbD_eq
    intro i hi
    simp only [BitVec.getLsbD_and, BitVec.getLsbD_not, BitVec.getLsbD_ofNat, Nat.testBit_xor, Nat.testBit_and, hi, decide_true, Bool.true_and]
    cases x.testBit i <;> cases y.testBit i <;> rfl
  rw [ofInt_nat, ofInt_nat, h2, BitVec.toNat_ofNat, Nat.mod_eq_of_lt (by omega)]
  exact i64_nat (by omega)
theorem wordN_clr {B i k : Nat} : wordN (B ^^^ (B &&& 2 ^ i)) k = if k = i / 16 then wordN B k ^^^ (wordN B k &&& 2 ^ (i % 16)) else wordN B k := by
  have h16 : (65536 : Nat) = 2 ^ 16 := rfl
  apply Nat.eq_of_testBit_eq
  intro j
  by_cases hk : k = i / 16
  · rw [if_pos hk]
    unfold wordN
    rw [h16]
    simp only [Nat.testBit_mod_two_pow, Nat.testBit_shiftRight, Nat.testBit_xor, Nat.testBit_and, Nat.testBit_two_pow]
    by_cases hj : j < 16
    · have : decide (i = 16 * k + j) = decide (i % 16 = j) := by
        rw [decide_eq_decide]
        omega
      simp only [hj, decide_true, Bool.true_and, this]
    · simp [hj]
  · rw [if_neg hk]
    unfold wordN
    rw [h16]
    simp only [Nat.testBit_mod_two_pow, Nat.testBit_shiftRight, Nat.testBit_xor, Nat.testBit_and, Nat.testBit_two_pow]
    by_cases hj : j < 16
    · have : ¬ i = 16 * k + j := by omega
      simp [hj, this]
    · simp [hj]
theorem wordsN_clr {B m i : Nat} (hi : i < 16 * m) : (wordsN B m).set (i / 16) ((wordN B (i / 16) ^^^ (wordN B (i / 16) &&& 2 ^ (i % 16)) : Nat) : Int) = wordsN (B ^^^ (B &&& 2 ^ i)) m := by
  refine List.ext_getElem? fun k => ?_
  rw [List.getElem?_set]
  unfold wordsN
  by_cases hk : i / 16 = k
  · subst hk
    have : i / 16 < m := by omega
    simp [this, wordN_clr]
  · rw [if_neg hk]
    by_cases hm : k < m
    · simp [hm, wordN_clr, Ne.symm hk]
    · simp [hm]
end Go.Proofs.YtbkcenkfecndjaaGreatDoor.M
