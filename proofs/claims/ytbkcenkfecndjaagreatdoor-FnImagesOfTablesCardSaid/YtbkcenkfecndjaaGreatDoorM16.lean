/-
  Vectors of bits as numbers: words of sixteen bits.
-/
import Derived.Test.YtbkcenkfecndjaaGreatDoorM15
namespace Go.Proofs.YtbkcenkfecndjaaGreatDoor.M
open Go Go.RowKit
set_option linter.unusedVariables false
set_option linter.unusedSimpArgs false

theorem ofInt_nat (x : Nat) : BitVec.ofInt 64 (x : Int) = BitVec.ofNat 64 x := by
  apply BitVec.eq_of_toInt_eq
  simp
theorem i64_nat {n : Nat} (h : n < 9223372036854775808) : IntKind.i64.wrap (n : Int) = (n : Int) := wrap_ok (by omega) (by omega)
theorem bitsI_and {x y : Nat} (hx : x < 9223372036854775808) (hy : y < 9223372036854775808) : bitsI .and .i64 (x : Int) (y : Int) = ((x &&& y : Nat) : Int) := by
  have h1 : x &&& y ≤ x := Nat.and_le_left
  show IntKind.i64.wrap ((BitVec.ofInt 64 (x : Int) &&& BitVec.ofInt 64 (y : Int)).toNat : Int) = _
  rw [ofInt_nat, ofInt_nat, BitVec.toNat_and, BitVec.toNat_ofNat, BitVec.toNat_ofNat, Nat.mod_eq_of_lt (by omega), Nat.mod_eq_of_lt (by omega)]
  exact i64_nat (by omega)
theorem bitsI_or {x y : Nat} (hx : x < 9223372036854775808) (hy : y < 9223372036854775808) : bitsI .or .i64 (x : Int) (y : Int) = ((x ||| y : Nat) : Int) := by
  have h1 : x ||| y < 2 ^ 63 := Nat.or_lt_two_pow (by omega) (by omega)
  show IntKind.i64.wrap ((BitVec.ofInt 64 (x : Int) ||| BitVec.ofInt 64 (y : Int)).toNat : Int) = _
  rw [ofInt_nat, ofInt_nat, BitVec.toNat_or, BitVec.toNat_ofNat, BitVec.toNat_ofNat, Nat.mod_eq_of_lt (by omega), Nat.mod_eq_of_lt (by omega)]
  exact i64_nat (by omega)
/-- The words of a number: m of sixteen bits. -/
def wordN (B k : Nat) : Nat := (B >>> (16 * k)) % 65536
def wordsN (B m : Nat) : List Int := (List.range m).map fun k => (wordN B k : Int)
theorem wordsN_len {B m : Nat} : (wordsN B m).length = m := by simp [wordsN]
theorem wordsN_get {B m k : Nat} (hk : k < m) : (wordsN B m).getD k 0 = (wordN B k : Int) := by simp [wordsN, hk]
theorem wordN_lt {B k : Nat} : wordN B k < 65536 := Nat.mod_lt _ (by decide)
theorem wordN_bit {B k j : Nat} (hj : j < 16) : (wordN B k).testBit j = B.testBit (16 * k + j) := by
  unfold wordN
  rw [show (65536 : Nat) = 2 ^ 16 from rfl, Nat.testBit_mod_two_pow, Nat.testBit_shiftRight]
  simp [hj]
/-- Reading a bit. -/
theorem at_bit {x j : Nat} (hx : x < 65536) (hj : j < 16) : decide (bitsI .and .i64 (Int.fdiv (x : Int) (2 ^ (min j IntKind.i64.bits))) 1 = 1) = x.testBit j := by
  have h1 : min j IntKind.i64.bits = j := by
    simp [IntKind.bits]
    omega
  have h2 : Int.fdiv (x : Int) (2 ^ j) = ((x >>> j : Nat) : Int) := by
    rw [Nat.shiftRight_eq_div_pow]
    have : ((2 : Int) ^ j) = ((2 ^ j : Nat) : Int) := by simp
    rw [this]
    exact (Int.ofNat_fdiv x (2 ^ j)).symm
  have h3 : x >>> j < 9223372036854775808 := by
    have : x >>> j ≤ x := Nat.shiftRight_le x j
    omega
  have h4 := bitsI_and (x := x >>> j) (y := 1) h3 (by decide)
  rw [h1, h2]
  rw [show ((1 : Nat) : Int) = 1 from rfl] at h4
  rw [h4, Nat.and_one_is_mod, Nat.testBit_eq_decide_div_mod_eq, Nat.shiftRight_eq_div_pow]
  rw [decide_eq_decide]
  omega
theorem wordsN_all {B m : Nat} : ∀ w ∈ wordsN B m, 0 ≤ w ∧ w ≤ 65535 := by
  intro w hw
  obtain ⟨k, _, rfl⟩ := List.mem_map.1 hw
  have := wordN_lt (B := B) (k := k)
  omega
/-- The number of words. -/
def numW : List Int → Nat
  | [] => 0
  | w :: r => w.toNat + 65536 * numW r
theorem wordN_zero {w : Nat} {r : Nat} (hw : w < 65536) : wordN (w + 65536 * r) 0 = w := by
  unfold wordN
  simp
  omega
theorem wordN_succ {w : Nat} {r k : Nat} (hw : w < 65536) : wordN (w + 65536 * r) (k + 1) = wordN r k := by
  unfold wordN
  rw [show 16 * (k + 1) = 16 + 16 * k by omega, Nat.shiftRight_add]
  congr 2
  rw [Nat.shiftRight_eq_div_pow, show (2 : Nat) ^ 16 = 65536 from rfl]
  omega
theorem wordsN_num : ∀ {ws : List Int}, (∀ w ∈ ws, 0 ≤ w ∧ w ≤ 65535) → wordsN (numW ws) ws.length = ws
  | [], _ => rfl
  | w :: ws, h => by
    have h0 := h w (by simp)
    have ih := wordsN_num fun x hx => h x (List.mem_cons_of_mem _ hx)
    unfold wordsN at ih ⊢
    rw [List.length_cons, List.range_succ_eq_map, List.map_cons, List.map_map]
    have hw : w.toNat < 65536 := by omega
    congr 1
    · rw [numW, wordN_zero hw]
      omega
    · refine Eq.trans (List.map_congr_left fun k _ => ?_) ih
      simp only [Function.comp]
      rw [numW, wordN_succ hw]
/-! ### bits put on, and sums -/
theorem shl16 {j : Nat} (hj : j < 16) : IntKind.i64.wrap (1 * 2 ^ (min j IntKind.i64.bits)) = ((2 ^ j : Nat) : Int) := by
  have h1 : min j IntKind.i64.bits = j := by
    simp [IntKind.bits]
    omega
  have h2 : 2 ^ j < 65536 := by
    have : 2 ^ j < 2 ^ 16 := Nat.pow_lt_pow_right (by decide) hj
    simpa using this
  rw [h1, Int.one_mul]
  have h3 : ((2 : Int) ^ j) = ((2 ^ j : Nat) : Int) := by simp
  rw [h3]
  exact i64_nat (by omega)
theorem wordN_or {B i k : Nat} : wordN (B ||| 2 ^ i) k = if k = i / 16 then wordN B k ||| 2 ^ (i % 16) else wordN B k := by
  have h16 : (65536 : Nat) = 2 ^ 16 := rfl
  by_cases hk : k = i / 16
  · rw [if_pos hk]
    apply Nat.eq_of_testBit_eq
    intro j
    unfold wordN
    rw [h16]
    simp only [Nat.testBit_mod_two_pow, Nat.testBit_shiftRight, Nat.testBit_or, Nat.testBit_two_pow]
    by_cases hj : j < 16
    · simp only [hj, decide_true, Bool.true_and]
      congr 1
      rw [decide_eq_decide]
      omega
    · have : ¬ i % 16 = j := by omega
      simp [hj, this]
  · rw [if_neg hk]
    apply Nat.eq_of_testBit_eq
    intro j
    unfold wordN
    rw [h16]
    simp only [Nat.testBit_mod_two_pow, Nat.testBit_shiftRight, Nat.testBit_or, Nat.testBit_two_pow]
    by_cases hj : j < 16
    · have : ¬ i = 16 * k + j := by omega
      simp [hj, this]
    · simp [hj]
theorem wordsN_set {B m i : Nat} (hi : i < 16 * m) : (wordsN B m).set (i / 16) ((wordN B (i / 16) ||| 2 ^ (i % 16) : Nat) : Int) = wordsN (B ||| 2 ^ i) m := by
  refine List.ext_getElem? fun k => ?_
  rw [List.getElem?_set]
  unfold wordsN
  by_cases hk : i / 16 = k
  · subst hk
    have : i / 16 < m := by omega
    simp [this, wordN_or]
  · rw [if_neg hk]
    by_cases hm : k < m
    · simp [hm, wordN_or, Ne.symm hk]
    · simp [hm]
theorem wordsN_zero {m : Nat} : wordsN 0 m = List.replicate m 0 := by
  refine List.ext_getElem? fun k => ?_
  unfold wordsN wordN
  by_cases hk : k < m <;> simp [hk]
theorem cells_wr2 {h : H} {b : Nat} (hb : b < h.length) {cs : List AV} : H.cells (wr h b cs) b = some cs := by
  rw [cells_eq]
  unfold wr
  rw [List.getElem?_set_self hb]
  rfl
theorem nat_ff {a b : Nat} (h : a ≠ b) : (a = b) = False := eq_false h
end Go.Proofs.YtbkcenkfecndjaaGreatDoor.M
