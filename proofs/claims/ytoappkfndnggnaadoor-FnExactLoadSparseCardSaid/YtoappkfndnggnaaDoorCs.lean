/-
  What the functions return.
-/
import Derived.Test.YtoappkfndnggnaaDoorFs
import Derived.Test.YtoappkfndnggnaaDoorCp
namespace Go.Proofs.YtoappkfndnggnaaDoor.M
open Go Go.RowKit
set_option linter.unusedVariables false
set_option linter.unusedSimpArgs false
set_option maxRecDepth 4000

theorem c_spec_l1Most (a b : Int) : Fn Tryd.prog 119 [.int .i64 a, .int .i64 b] (· = .int .i64 (if b < a then a else b)) := by
  refine Fn.of free_int fun h => ?_
  refine enter (by kernel_rfl) e119 (by kernel_rfl) rfl fun hok => ?_
  simp only [r119, initEnv_2]
  (try (simp (disch := first | omega | (simp <;> omega) | fail) only [push_cast, ↓reduceIte, Nat.reduceEqDiff, Nat.reduceAdd, Nat.reduceMul, Nat.reduceSub, Nat.reduceLT, Int.reduceToNat]))
  first | refine goC_split (fun hc => ?_) (fun hc => ?_) | refine cnd_split (fun hc => ?_) (fun hc => ?_)
  · (try (simp only [decide_eq_true_eq, decide_eq_false_iff_not, Bool.not_eq_true', Bool.not_eq_false', Bool.and_eq_true, Bool.or_eq_true, Int.not_lt, Int.not_le] at hc)); (try (simp (disch := first | omega | (simp <;> omega) | fail) only [push_cast, ↓reduceIte, Nat.reduceEqDiff, Nat.reduceAdd, Nat.reduceMul, Nat.reduceSub, Nat.reduceLT, Int.reduceToNat]))
    all_goals (try rw [if_pos hc])
  · (try (simp only [decide_eq_true_eq, decide_eq_false_iff_not, Bool.not_eq_true', Bool.not_eq_false', Bool.and_eq_true, Bool.or_eq_true, Int.not_lt, Int.not_le] at hc)); (try (simp (disch := first | omega | (simp <;> omega) | fail) only [push_cast, ↓reduceIte, Nat.reduceEqDiff, Nat.reduceAdd, Nat.reduceMul, Nat.reduceSub, Nat.reduceLT, Int.reduceToNat]))
    all_goals (try rw [if_neg (by omega)])

--eng eSp cSp ld7_5 ld7_3 ld7_0
structure Spa where
  count : Int
  limit : Int
  width : Int
  low : Bt
  high : Bt
def cSp (s : Spa) : List AV := [.int .i64 s.count, .int .i64 s.limit, .int .i64 s.width, .int .i64 s.low.size, eI s.low.words, .int .i64 s.high.size, eI s.high.words]
def eSp (s : Spa) : AV := .agg (cSp s)
theorem cSp_len (s : Spa) : (cSp s).length = 7 := rfl
theorem free_cSp {s : Spa} : ∀ c ∈ cSp s, Free c := free_cons_ free_int (free_cons_ free_int (free_cons_ free_int (free_cons_ free_int (free_cons_ free_eI (free_cons_ free_int (free_cons_ free_eI free_nil_))))))
theorem free_eSp {s : Spa} : Free (eSp s) := free_agg free_cSp
theorem ld7_5 {a b c d e f g : AV} : ld true 2 [a, b, c, d, e, f, g] 5 = some (.agg [f, g]) := rfl
theorem ld7_3 {a b c d e f g : AV} : ld true 2 [a, b, c, d, e, f, g] 3 = some (.agg [d, e]) := rfl
theorem ld7_0 {a b c d e f g : AV} : ld true 7 [a, b, c, d, e, f, g] 0 = some (.agg [a, b, c, d, e, f, g]) := rfl
theorem shlN {a b : Nat} (hb : b ≤ 40) (ha : a * 2 ^ b < 4611686018427387904) : IntKind.i64.wrap ((a : Int) * 2 ^ (min b IntKind.i64.bits)) = ((a * 2 ^ b : Nat) : Int) := by
  have e : min b IntKind.i64.bits = b := by
    simp [IntKind.bits]
    omega
  rw [e]
  have h2 : (a : Int) * 2 ^ b = ((a * 2 ^ b : Nat) : Int) := by simp
  rw [h2]
  simp only [IntKind.wrap, IntKind.signed, IntKind.bits]
  simp
  omega
theorem shrN {a b : Nat} (hb : b ≤ 40) : Int.fdiv (a : Int) (2 ^ (min b IntKind.i64.bits)) = ((a / 2 ^ b : Nat) : Int) := by
  have e : min b IntKind.i64.bits = b := by
    simp [IntKind.bits]
    omega
  rw [e]
  have h2 : (2 : Int) ^ b = ((2 ^ b : Nat) : Int) := by simp
  rw [h2, ← Int.ofNat_fdiv]
/-- The width. -/
def widF (m l : Nat) : Nat → Nat → Nat
  | 0, w => w
  | f + 1, w => if m * 2 ^ (w + 1) ≤ l then widF m l f (w + 1) else w
def wid (c l : Nat) : Nat := widF (max c 1) l 20 0
theorem widF_le {m l : Nat} (hm : 1 ≤ m) (hl : l ≤ 100000) : ∀ f w, w ≤ 16 → widF m l f w ≤ 16
  | 0, w, h => h
  | f + 1, w, h => by
    rw [widF]
    split
    · rename_i hc
      refine widF_le hm hl f (w + 1) ?_
      rcases Nat.lt_or_ge w 16 with h5 | h5
      · omega
      · have h6 : w = 16 := by omega
        subst h6
        have : 1 * 2 ^ 17 ≤ m * 2 ^ 17 := Nat.mul_le_mul_right _ hm
        omega
    · exact h
theorem wid_le {c l : Nat} (hl : l ≤ 100000) : wid c l ≤ 16 := widF_le (by omega) hl 20 0 (by omega)
theorem wid_lt {m l w : Nat} (hm : 1 ≤ m) (hl : l ≤ 100000) (h : m * 2 ^ (w + 1) ≤ l) : w < 16 := by
  rcases Nat.lt_or_ge w 16 with h5 | h5
  · exact h5
  · have h1 : 2 ^ 17 ≤ 2 ^ (w + 1) := Nat.pow_le_pow_right (by decide) (by omega)
    have h2 : 1 * 2 ^ (w + 1) ≤ m * 2 ^ (w + 1) := Nat.mul_le_mul_right _ hm
    omega
def limOk (l : Int) : Bool := decide (1 ≤ l) && decide (l ≤ 100000)
/-- A field. -/
def fldN (B a w : Nat) : Nat := (B >>> a) % 2 ^ w
theorem fldN_lt {B a w : Nat} : fldN B a w < 2 ^ w := Nat.mod_lt _ (Nat.two_pow_pos _)
theorem fldN_down {B a k : Nat} : fldN B a (k + 1) = 2 * fldN B (a + 1) k + (if B.testBit a then 1 else 0) := by
  unfold fldN
  have h1 : (if B.testBit a then 1 else 0) = B >>> a % 2 := by
    rw [Nat.testBit_eq_decide_div_mod_eq, Nat.shiftRight_eq_div_pow]
    rcases Nat.mod_two_eq_zero_or_one (B / 2 ^ a) with h | h <;> simp [h]
  rw [h1, Nat.pow_succ, Nat.mul_comm (2 ^ k) 2, Nat.mod_mul, Nat.add_comm]
  rfl
theorem fldN_up {B a k : Nat} : fldN B a (k + 1) = fldN B a k ||| (if B.testBit (a + k) then 2 ^ k else 0) := by
  refine Nat.eq_of_testBit_eq fun j => ?_
  unfold fldN
  rw [Nat.testBit_or, Nat.testBit_mod_two_pow, Nat.testBit_mod_two_pow, Nat.testBit_shiftRight]
  cases hb : B.testBit (a + k)
  · by_cases hj : j = k
    · subst hj
      simp [hb]
    · simp
      have : (j < k + 1) = (j < k) := by rw [eq_iff_iff]; omega
      simp [this]
  · by_cases hj : j = k
    · subst hj
      simp [hb]
    · have h1 : (j < k + 1) = (j < k) := by rw [eq_iff_iff]; omega
      simp [h1, Nat.testBit_two_pow, Ne.symm hj]

attribute [push_cast] eSp cSp ld7_5 ld7_3 ld7_0
theorem c_spec_spWidth (c l : Nat) (hc : c ≤ 60) (hl : l ≤ 100000) : Fn Tryd.prog 90 [.int .i64 c, .int .i64 l] (· = .int .i64 (wid c l)) := by
  refine Fn.of free_int fun h => ?_
  refine enter (by kernel_rfl) e90 (by kernel_rfl) rfl fun hok => ?_
  simp only [r90, initEnv_2]
  have hm : (if (1 : Int) < (c : Int) then (c : Int) else 1) = ((max c 1 : Nat) : Int) := by split <;> omega
  obtain ⟨m, hmd⟩ : ∃ m, m = max c 1 := ⟨_, rfl⟩
  rw [← hmd] at hm
  have hm1 : 1 ≤ m ∧ m ≤ 60 := by omega
  (try (simp (disch := first | omega | (simp <;> omega) | fail) only [push_cast, ↓reduceIte, Nat.reduceEqDiff, Nat.reduceAdd, Nat.reduceMul, Nat.reduceSub, Nat.reduceLT, Int.reduceToNat]))
  refine T_for 17 (fun i e h' => Pins e [(0, .int .i64 c), (1, .int .i64 l), (5, .int .i64 i)] ∧ h' = h ∧ i ≤ 16 ∧ widF m l (20 - i) i = wid c l) ?_ ?_
  · (try (simp (disch := first | omega | (simp <;> omega) | fail) only [push_cast, ↓reduceIte, Nat.reduceEqDiff, Nat.reduceAdd, Nat.reduceMul, Nat.reduceSub, Nat.reduceLT, Int.reduceToNat]))
    all_goals (try (unfold wid; rw [← hmd]))
  rintro i e h' hi ⟨hp, rfl, hi6, hw⟩
  refine T_pins hp fun e => ?_
  have hpw : 2 ^ (i + 1) ≤ 2 ^ 17 := Nat.pow_le_pow_right (by decide) (by omega)
  have hml : m * 2 ^ (i + 1) ≤ 60 * 2 ^ 17 := Nat.mul_le_mul hm1.2 hpw
  have hsh : IntKind.i64.wrap ((m : Int) * 2 ^ (min (i + 1) IntKind.i64.bits)) = ((m * 2 ^ (i + 1) : Nat) : Int) := by
    have := shlN (a := m) (b := i + 1) (by omega) (by omega)
    simpa using this
  (try (simp (disch := first | omega | (simp <;> omega) | fail) only [push_cast, ↓reduceIte, Nat.reduceEqDiff, Nat.reduceAdd, Nat.reduceMul, Nat.reduceSub, Nat.reduceLT, Int.reduceToNat]))
  refine (c_spec_l1Most _ _).call ?_
  rw [hm]
  obtain ⟨g, hg⟩ : ∃ g, g = m * 2 ^ (i + 1) := ⟨_, rfl⟩
  rw [← hg] at hsh hml
  have hwf : widF m l (20 - i) i = if g ≤ l then widF m l (20 - (i + 1)) (i + 1) else i := by
    rw [show 20 - i = (20 - (i + 1)) + 1 by omega, widF, ← hg]
  (try (simp (disch := first | omega | (simp <;> omega) | fail) only [push_cast, ↓reduceIte, Nat.reduceEqDiff, Nat.reduceAdd, Nat.reduceMul, Nat.reduceSub, Nat.reduceLT, Int.reduceToNat, hsh]))
  first | refine goC_split (fun hc => ?_) (fun hc => ?_) | refine cnd_split (fun hc => ?_) (fun hc => ?_)
  · (try (simp only [decide_eq_true_eq, decide_eq_false_iff_not, Bool.not_eq_true', Bool.not_eq_false', Bool.and_eq_true, Bool.or_eq_true, Int.not_lt, Int.not_le] at hc)); (try (simp (disch := first | omega | (simp <;> omega) | fail) only [push_cast, ↓reduceIte, Nat.reduceEqDiff, Nat.reduceAdd, Nat.reduceMul, Nat.reduceSub, Nat.reduceLT, Int.reduceToNat]))
    have hgl : g ≤ l := by omega
    have hlt := wid_lt hm1.1 hl (by rw [← hg]; exact hgl)
    rw [if_pos hgl] at hwf
    (try (simp (disch := first | omega | (simp <;> omega) | fail) only [push_cast, ↓reduceIte, Nat.reduceEqDiff, Nat.reduceAdd, Nat.reduceMul, Nat.reduceSub, Nat.reduceLT, Int.reduceToNat]))
    all_goals (try exact ⟨by omega, hwf.symm.trans hw⟩)
    all_goals (try exact hwf.symm.trans hw)
  · (try (simp only [decide_eq_true_eq, decide_eq_false_iff_not, Bool.not_eq_true', Bool.not_eq_false', Bool.and_eq_true, Bool.or_eq_true, Int.not_lt, Int.not_le] at hc)); (try (simp (disch := first | omega | (simp <;> omega) | fail) only [push_cast, ↓reduceIte, Nat.reduceEqDiff, Nat.reduceAdd, Nat.reduceMul, Nat.reduceSub, Nat.reduceLT, Int.reduceToNat]))
    rw [if_neg (by omega)] at hwf
    rw [← hw, hwf]

theorem c_impl_limitOk (l : Int) : Fn Tryd.prog 121 [.int .i64 l] (· = .bool (limOk l)) := by
  refine Fn.of free_bool fun h => ?_
  refine enter (by kernel_rfl) e121 (by kernel_rfl) rfl fun hok => ?_
  simp only [r121, initEnv_1]
  (try (simp (disch := first | omega | (simp <;> omega) | fail) only [push_cast, ↓reduceIte, Nat.reduceEqDiff, Nat.reduceAdd, Nat.reduceMul, Nat.reduceSub, Nat.reduceLT, Int.reduceToNat]))
  refine (c_impl_in _ _ _).call ?_
  (try (simp (disch := first | omega | (simp <;> omega) | fail) only [push_cast, ↓reduceIte, Nat.reduceEqDiff, Nat.reduceAdd, Nat.reduceMul, Nat.reduceSub, Nat.reduceLT, Int.reduceToNat]))
  all_goals (try rfl)

theorem c_impl_WidthFor (c l : Int) : Fn Tryd.prog 94 [.int .i64 c, .int .i64 l] (· = if (decide (0 ≤ c) && decide (c ≤ 60)) && limOk l then .tup [.int .i64 (wid c.toNat l.toNat), .bool true] else .tup [.int .i64 0, .bool false]) := by
  refine Fn.of (by split <;> exact free_tup (free_cons_ free_int (free_cons_ free_bool free_nil_))) fun h => ?_
  refine enter (by kernel_rfl) e94 (by kernel_rfl) rfl fun hok => ?_
  simp only [r94, initEnv_2]
  (try (simp (disch := first | omega | (simp <;> omega) | fail) only [push_cast, ↓reduceIte, Nat.reduceEqDiff, Nat.reduceAdd, Nat.reduceMul, Nat.reduceSub, Nat.reduceLT, Int.reduceToNat]))
  refine (c_impl_in _ _ _).call ?_
  cases h1 : (decide (0 ≤ c) && decide (c ≤ 60))
  · (try (simp (disch := first | omega | (simp <;> omega) | fail) only [push_cast, ↓reduceIte, Nat.reduceEqDiff, Nat.reduceAdd, Nat.reduceMul, Nat.reduceSub, Nat.reduceLT, Int.reduceToNat]))
    all_goals (try rfl)
  (try (simp (disch := first | omega | (simp <;> omega) | fail) only [push_cast, ↓reduceIte, Nat.reduceEqDiff, Nat.reduceAdd, Nat.reduceMul, Nat.reduceSub, Nat.reduceLT, Int.reduceToNat]))
  refine (c_impl_limitOk l).call ?_
  cases h2 : limOk l
  · (try (simp (disch := first | omega | (simp <;> omega) | fail) only [push_cast, ↓reduceIte, Nat.reduceEqDiff, Nat.reduceAdd, Nat.reduceMul, Nat.reduceSub, Nat.reduceLT, Int.reduceToNat]))
    all_goals (try rfl)
  simp only [limOk, Bool.and_eq_true, decide_eq_true_eq] at h1 h2
  obtain ⟨cn, rfl⟩ : ∃ k : Nat, c = (k : Int) := ⟨c.toNat, by omega⟩
  obtain ⟨ln, rfl⟩ : ∃ k : Nat, l = (k : Int) := ⟨l.toNat, by omega⟩
  simp only [Bool.and_self, if_true, Int.toNat_natCast]
  have hm : (if (cn : Int) < 1 then (1 : Int) else (cn : Int)) = ((max cn 1 : Nat) : Int) := by split <;> omega
  obtain ⟨m, hmd⟩ : ∃ m, m = max cn 1 := ⟨_, rfl⟩
  rw [← hmd] at hm
  have hm1 : 1 ≤ m ∧ m ≤ 60 := by omega
  (try (simp (disch := first | omega | (simp <;> omega) | fail) only [push_cast, ↓reduceIte, Nat.reduceEqDiff, Nat.reduceAdd, Nat.reduceMul, Nat.reduceSub, Nat.reduceLT, Int.reduceToNat]))
  refine T_for 17 (fun i e h' => Pins e [(0, .int .i64 cn), (1, .int .i64 ln), (6, .int .i64 i)] ∧ h' = h ∧ i ≤ 16 ∧ widF m ln (20 - i) i = wid cn ln) ?_ ?_
  · (try (simp (disch := first | omega | (simp <;> omega) | fail) only [push_cast, ↓reduceIte, Nat.reduceEqDiff, Nat.reduceAdd, Nat.reduceMul, Nat.reduceSub, Nat.reduceLT, Int.reduceToNat]))
    all_goals (try (unfold wid; rw [← hmd]))
  rintro i e h' hi ⟨hp, rfl, hi6, hw⟩
  refine T_pins hp fun e => ?_
  have hpw : 2 ^ (i + 1) ≤ 2 ^ 17 := Nat.pow_le_pow_right (by decide) (by omega)
  have hml : m * 2 ^ (i + 1) ≤ 60 * 2 ^ 17 := Nat.mul_le_mul hm1.2 hpw
  have hsh : IntKind.i64.wrap ((m : Int) * 2 ^ (min (i + 1) IntKind.i64.bits)) = ((m * 2 ^ (i + 1) : Nat) : Int) := by
    have := shlN (a := m) (b := i + 1) (by omega) (by omega)
    simpa using this
  obtain ⟨g, hg⟩ : ∃ g, g = m * 2 ^ (i + 1) := ⟨_, rfl⟩
  rw [← hg] at hsh hml
  have hwf : widF m ln (20 - i) i = if g ≤ ln then widF m ln (20 - (i + 1)) (i + 1) else i := by
    rw [show 20 - i = (20 - (i + 1)) + 1 by omega, widF, ← hg]
  (try (simp (disch := first | omega | (simp <;> omega) | fail) only [push_cast, ↓reduceIte, Nat.reduceEqDiff, Nat.reduceAdd, Nat.reduceMul, Nat.reduceSub, Nat.reduceLT, Int.reduceToNat, hm, hsh]))
  first | refine goC_split (fun hc => ?_) (fun hc => ?_) | refine cnd_split (fun hc => ?_) (fun hc => ?_)
  · (try (simp only [decide_eq_true_eq, decide_eq_false_iff_not, Bool.not_eq_true', Bool.not_eq_false', Bool.and_eq_true, Bool.or_eq_true, Int.not_lt, Int.not_le] at hc)); (try (simp (disch := first | omega | (simp <;> omega) | fail) only [push_cast, ↓reduceIte, Nat.reduceEqDiff, Nat.reduceAdd, Nat.reduceMul, Nat.reduceSub, Nat.reduceLT, Int.reduceToNat]))
    have hgl : g ≤ ln := by omega
    have hlt := wid_lt (m := m) (l := ln) (w := i) hm1.1 (by omega) (by rw [← hg]; exact hgl)
    rw [if_pos hgl] at hwf
    (try (simp (disch := first | omega | (simp <;> omega) | fail) only [push_cast, ↓reduceIte, Nat.reduceEqDiff, Nat.reduceAdd, Nat.reduceMul, Nat.reduceSub, Nat.reduceLT, Int.reduceToNat]))
    all_goals (try exact ⟨by omega, hwf.symm.trans hw⟩)
    all_goals (try exact hwf.symm.trans hw)
  · (try (simp only [decide_eq_true_eq, decide_eq_false_iff_not, Bool.not_eq_true', Bool.not_eq_false', Bool.and_eq_true, Bool.or_eq_true, Int.not_lt, Int.not_le] at hc)); (try (simp (disch := first | omega | (simp <;> omega) | fail) only [push_cast, ↓reduceIte, Nat.reduceEqDiff, Nat.reduceAdd, Nat.reduceMul, Nat.reduceSub, Nat.reduceLT, Int.reduceToNat]))
    rw [if_neg (by omega)] at hwf
    rw [← hw, hwf]

theorem c_spec_biField (b : Bt) (B m a w : Nat) (hw : lI b.words = wordsN B m) (ha : a + w ≤ 16 * m) (hm : m ≤ 100000) (hw2 : w ≤ 20) : Fn Tryd.prog 92 [eB b, .int .i64 a, .int .i64 w] (· = .int .i64 (fldN B a w)) := by
  refine Fn.of free_int fun h => ?_
  refine enter (by kernel_rfl) e92 (by kernel_rfl) rfl fun hok => ?_
  simp only [r92, initEnv_3]
  (try (simp (disch := first | omega | (simp <;> omega) | fail) only [push_cast, ↓reduceIte, Nat.reduceEqDiff, Nat.reduceAdd, Nat.reduceMul, Nat.reduceSub, Nat.reduceLT, Int.reduceToNat]))
  refine T_for w (fun i e h' => Pins e [(1, .int .i64 a), (3, .adr h.length 0), (7, .int .i64 (fldN B (a + (w - i)) i)), (8, .int .i64 ((w : Int) - ((i : Int) + 1)))] ∧ h' = h ++ [some (.cells (cB b))]) ?_ ?_
  · (try (simp (disch := first | omega | (simp <;> omega) | fail) only [push_cast, ↓reduceIte, Nat.reduceEqDiff, Nat.reduceAdd, Nat.reduceMul, Nat.reduceSub, Nat.reduceLT, Int.reduceToNat]))
    all_goals (try simp [fldN])
  rintro i e h' hi ⟨hp, rfl⟩
  refine T_pins hp fun e => ?_
  have hbx : ∀ l, H.cells (h ++ ([some (.cells (cB b))] ++ l)) h.length = some (cB b) := fun l => by rw [cells_h0]; rfl
  (try (simp (disch := first | omega | (simp <;> omega) | fail) only [push_cast, ↓reduceIte, Nat.reduceEqDiff, Nat.reduceAdd, Nat.reduceMul, Nat.reduceSub, Nat.reduceLT, Int.reduceToNat]))
  first | refine goC_split (fun hc => ?_) (fun hc => ?_) | refine cnd_split (fun hc => ?_) (fun hc => ?_)
  · (try (simp only [decide_eq_true_eq, decide_eq_false_iff_not, Bool.not_eq_true', Bool.not_eq_false', Bool.and_eq_true, Bool.or_eq_true, Int.not_lt, Int.not_le] at hc)); (try (simp (disch := first | omega | (simp <;> omega) | fail) only [push_cast, ↓reduceIte, Nat.reduceEqDiff, Nat.reduceAdd, Nat.reduceMul, Nat.reduceSub, Nat.reduceLT, Int.reduceToNat]))
    have hi2 : i < w := by omega
    have hdn := fldN_down (B := B) (a := a + (w - (i + 1))) (k := i)
    rw [show a + (w - (i + 1)) + 1 = a + (w - i) by omega] at hdn
    have hfl := fldN_lt (B := B) (a := a + (w - i)) (w := i)
    have hpw : 2 ^ i ≤ 2 ^ 20 := Nat.pow_le_pow_right (by decide) (by omega)
    obtain ⟨q, hq⟩ : ∃ q : Nat, q = a + (w - (i + 1)) := ⟨_, rfl⟩
    have hat : (a : Int) + ((w : Int) - ((i : Int) + 1)) = (q : Int) := by omega
    have hq2 : q + 1 = a + (w - i) := by omega
    rw [← hq] at hdn
    obtain ⟨V, hV⟩ : ∃ V, V = fldN B (a + (w - i)) i := ⟨_, rfl⟩
    rw [← hV] at hdn hfl ⊢
    (try (simp (disch := first | omega | (simp <;> omega) | fail) only [push_cast, ↓reduceIte, Nat.reduceEqDiff, Nat.reduceAdd, Nat.reduceMul, Nat.reduceSub, Nat.reduceLT, Int.reduceToNat, hat]))
    refine (c_spec_biAt b B m q hw (by omega) (by omega)).call ?_
    cases hb : B.testBit q
    · rw [hb] at hdn
      have hdi : ((fldN B (a + (w - (i + 1))) (i + 1) : Nat) : Int) = (V : Int) * 2 := by rw [← hq, hdn]; simp; omega
      (try (simp (disch := first | omega | (simp <;> omega) | fail) only [push_cast, ↓reduceIte, Nat.reduceEqDiff, Nat.reduceAdd, Nat.reduceMul, Nat.reduceSub, Nat.reduceLT, Int.reduceToNat]))
      all_goals (try exact ⟨hdi.symm, by omega⟩)
      all_goals (try (rw [hdi]))
      all_goals (try omega)
    · rw [hb] at hdn
      have hdi : ((fldN B (a + (w - (i + 1))) (i + 1) : Nat) : Int) = (V : Int) * 2 + 1 := by rw [← hq, hdn]; simp; omega
      (try (simp (disch := first | omega | (simp <;> omega) | fail) only [push_cast, ↓reduceIte, Nat.reduceEqDiff, Nat.reduceAdd, Nat.reduceMul, Nat.reduceSub, Nat.reduceLT, Int.reduceToNat]))
      all_goals (try exact ⟨hdi.symm, by omega⟩)
      all_goals (try (rw [hdi]))
      all_goals (try omega)
  · (try (simp only [decide_eq_true_eq, decide_eq_false_iff_not, Bool.not_eq_true', Bool.not_eq_false', Bool.and_eq_true, Bool.or_eq_true, Int.not_lt, Int.not_le] at hc)); (try (simp (disch := first | omega | (simp <;> omega) | fail) only [push_cast, ↓reduceIte, Nat.reduceEqDiff, Nat.reduceAdd, Nat.reduceMul, Nat.reduceSub, Nat.reduceLT, Int.reduceToNat]))
    have hie : i = w := by omega
    subst hie
    have e0 : a + (i - i) = a := by omega
    rw [e0]

theorem c_impl_Bits_field (ws : Option (List Int)) (B m a w : Nat) (cs : List AV) (off : Nat) (h1 : cs[off + 1]? = some (eI ws)) (hw : lI ws = wordsN B m) (ha : a + w ≤ 16 * m) (hm : m ≤ 100000) (hw2 : w ≤ 20) : Fn Tryd.prog 95 [.rad cs off, .int .i64 a, .int .i64 w] (· = .int .i64 (fldN B a w)) := by
  refine Fn.of free_int fun h => ?_
  refine enter (by kernel_rfl) e95 (by kernel_rfl) rfl fun hok => ?_
  simp only [r95, initEnv_3]
  (try (simp (disch := first | omega | (simp <;> omega) | fail) only [push_cast, ↓reduceIte, Nat.reduceEqDiff, Nat.reduceAdd, Nat.reduceMul, Nat.reduceSub, Nat.reduceLT, Int.reduceToNat]))
  refine T_for w (fun i e h' => Pins e [(0, .rad cs off), (1, .int .i64 a), (7, .int .i64 (fldN B a i)), (9, .int .i64 w), (10, .int .i64 i)] ∧ h' = h) ?_ ?_
  · (try (simp (disch := first | omega | (simp <;> omega) | fail) only [push_cast, ↓reduceIte, Nat.reduceEqDiff, Nat.reduceAdd, Nat.reduceMul, Nat.reduceSub, Nat.reduceLT, Int.reduceToNat]))
    all_goals (try simp [fldN])
    all_goals (try (rw [Nat.mod_one]))
  rintro i e h' hi ⟨hp, rfl⟩
  refine T_pins hp fun e => ?_
  (try (simp (disch := first | omega | (simp <;> omega) | fail) only [push_cast, ↓reduceIte, Nat.reduceEqDiff, Nat.reduceAdd, Nat.reduceMul, Nat.reduceSub, Nat.reduceLT, Int.reduceToNat]))
  first | refine goC_split (fun hc => ?_) (fun hc => ?_) | refine cnd_split (fun hc => ?_) (fun hc => ?_)
  · (try (simp only [decide_eq_true_eq, decide_eq_false_iff_not, Bool.not_eq_true', Bool.not_eq_false', Bool.and_eq_true, Bool.or_eq_true, Int.not_lt, Int.not_le] at hc)); (try (simp (disch := first | omega | (simp <;> omega) | fail) only [push_cast, ↓reduceIte, Nat.reduceEqDiff, Nat.reduceAdd, Nat.reduceMul, Nat.reduceSub, Nat.reduceLT, Int.reduceToNat]))
    have hi2 : i < w := by omega
    have hup := fldN_up (B := B) (a := a) (k := i)
    have hfl := fldN_lt (B := B) (a := a) (w := i)
    have hpw : 2 ^ i ≤ 2 ^ 20 := Nat.pow_le_pow_right (by decide) (by omega)
    have hsh : IntKind.i64.wrap (1 * 2 ^ (min i IntKind.i64.bits)) = ((2 ^ i : Nat) : Int) := by
      have := shlN (a := 1) (b := i) (by omega) (by omega)
      simpa using this
    obtain ⟨g, hg⟩ : ∃ g, g = 2 ^ i := ⟨_, rfl⟩
    rw [← hg] at hsh hup hfl hpw
    obtain ⟨V, hV⟩ : ∃ V, V = fldN B a i := ⟨_, rfl⟩
    rw [← hV] at hup hfl ⊢
    have hor := bitsI_or (x := V) (y := g) (by omega) (by omega)
    (try (simp (disch := first | omega | (simp <;> omega) | fail) only [push_cast, ↓reduceIte, Nat.reduceEqDiff, Nat.reduceAdd, Nat.reduceMul, Nat.reduceSub, Nat.reduceLT, Int.reduceToNat]))
    refine (c_impl_Bits_at ws B m (a + i) cs off h1 hw (by omega) (by omega)).call ?_
    cases hb : B.testBit (a + i)
    · rw [hb] at hup
      have hui : fldN B a (i + 1) = V := by rw [hup]; simp
      (try (simp (disch := first | omega | (simp <;> omega) | fail) only [push_cast, ↓reduceIte, Nat.reduceEqDiff, Nat.reduceAdd, Nat.reduceMul, Nat.reduceSub, Nat.reduceLT, Int.reduceToNat]))
      all_goals (try (rw [hui]))
    · rw [hb] at hup
      have hui : fldN B a (i + 1) = V ||| g := by rw [hup]; simp
      (try (simp (disch := first | omega | (simp <;> omega) | fail) only [push_cast, ↓reduceIte, Nat.reduceEqDiff, Nat.reduceAdd, Nat.reduceMul, Nat.reduceSub, Nat.reduceLT, Int.reduceToNat, hsh, hor]))
      all_goals (try (rw [hui]))
  · (try (simp only [decide_eq_true_eq, decide_eq_false_iff_not, Bool.not_eq_true', Bool.not_eq_false', Bool.and_eq_true, Bool.or_eq_true, Int.not_lt, Int.not_le] at hc)); (try (simp (disch := first | omega | (simp <;> omega) | fail) only [push_cast, ↓reduceIte, Nat.reduceEqDiff, Nat.reduceAdd, Nat.reduceMul, Nat.reduceSub, Nat.reduceLT, Int.reduceToNat]))
    have hie : i = w := by omega
    subst hie
    rfl

theorem c_spec_spLimit (l : Int) : Fn Tryd.prog 89 [.int .i64 l] (· = .bool (limOk l)) := by
  refine Fn.of free_bool fun h => ?_
  refine enter (by kernel_rfl) e89 (by kernel_rfl) rfl fun hok => ?_
  simp only [r89, initEnv_1]
  (try (simp (disch := first | omega | (simp <;> omega) | fail) only [push_cast, ↓reduceIte, Nat.reduceEqDiff, Nat.reduceAdd, Nat.reduceMul, Nat.reduceSub, Nat.reduceLT, Int.reduceToNat]))
  refine (c_spec_l1In _ _ _).call ?_
  (try (simp (disch := first | omega | (simp <;> omega) | fail) only [push_cast, ↓reduceIte, Nat.reduceEqDiff, Nat.reduceAdd, Nat.reduceMul, Nat.reduceSub, Nat.reduceLT, Int.reduceToNat]))
  all_goals (try rfl)

def srtP (L : List Int) (lim : Int) (i : Nat) : Bool := (List.range i).all fun j => (decide (0 ≤ L.getD j 0) && decide (L.getD j 0 ≤ lim - 1)) && !(decide (0 < (j : Int)) && decide (L.getD j 0 < L.getD (j - 1) 0))
theorem srtP_succ {L : List Int} {lim : Int} {i : Nat} : srtP L lim (i + 1) = (srtP L lim i && ((decide (0 ≤ L.getD i 0) && decide (L.getD i 0 ≤ lim - 1)) && !(decide (0 < (i : Int)) && decide (L.getD i 0 < L.getD (i - 1) 0)))) := by
  unfold srtP
  rw [List.range_succ, List.all_append]
  simp
theorem srtP_no {L : List Int} {lim : Int} {i n : Nat} (hi : i < n) (hf : srtP L lim (i + 1) = false) : srtP L lim n = false := by
  unfold srtP at hf ⊢
  rw [List.all_eq_false] at hf ⊢
  obtain ⟨x, hx, hp⟩ := hf
  exact ⟨x, by simp at hx ⊢; omega, hp⟩
def srt (L : List Int) (lim : Int) : Bool := srtP L lim L.length && (decide ((L.length : Int) ≤ 60) && limOk lim)
theorem srt_in {L : List Int} {lim : Int} (h : srt L lim = true) : L.length ≤ 60 ∧ 1 ≤ lim ∧ lim ≤ 100000 ∧ ∀ i, i < L.length → 0 ≤ L.getD i 0 ∧ L.getD i 0 ≤ lim - 1 := by
  simp only [srt, limOk, Bool.and_eq_true, decide_eq_true_eq] at h
  refine ⟨by omega, h.2.2.1, h.2.2.2, fun i hi => ?_⟩
  have := h.1
  unfold srtP at this
  rw [List.all_eq_true] at this
  have := this i (List.mem_range.2 hi)
  simp only [Bool.and_eq_true, decide_eq_true_eq] at this
  exact this.1

theorem c_spec_spSorted (o : Option (List Int)) (lim : Int) (h0 : -1000000000000 ≤ lim) (h9 : lim ≤ 9223372036854775807) : Fn Tryd.prog 62 [eI o, .int .i64 lim] (· = .bool (srt (lI o) lim)) := by
  refine Fn.of free_bool fun h => ?_
  refine enter (by kernel_rfl) e62 (by kernel_rfl) rfl fun hok => ?_
  simp only [r62, initEnv_2]
  have hlen := ok_eI (okV_0 hok)
  (try (simp (disch := first | omega | (simp <;> omega) | fail) only [push_cast, ↓reduceIte, Nat.reduceEqDiff, Nat.reduceAdd, Nat.reduceMul, Nat.reduceSub, Nat.reduceLT, Int.reduceToNat]))
  refine T_for (lI o).length (fun i e h' => Pins e [(0, eI o), (1, .int .i64 lim), (7, eI o), (8, .int .i64 (lI o).length), (9, .int .i64 i)] ∧ h' = h ∧ srtP (lI o) lim i = true) ?_ ?_
  · (try (simp (disch := first | omega | (simp <;> omega) | fail) only [push_cast, ↓reduceIte, Nat.reduceEqDiff, Nat.reduceAdd, Nat.reduceMul, Nat.reduceSub, Nat.reduceLT, Int.reduceToNat]))
    all_goals (try rfl)
  rintro i e h' hi ⟨hp, rfl, ha⟩
  refine T_pins hp fun e => ?_
  (try (simp (disch := first | omega | (simp <;> omega) | fail) only [push_cast, ↓reduceIte, Nat.reduceEqDiff, Nat.reduceAdd, Nat.reduceMul, Nat.reduceSub, Nat.reduceLT, Int.reduceToNat]))
  first | refine goC_split (fun hc => ?_) (fun hc => ?_) | refine cnd_split (fun hc => ?_) (fun hc => ?_)
  · (try (simp only [decide_eq_true_eq, decide_eq_false_iff_not, Bool.not_eq_true', Bool.not_eq_false', Bool.and_eq_true, Bool.or_eq_true, Int.not_lt, Int.not_le] at hc)); (try (simp (disch := first | omega | (simp <;> omega) | fail) only [push_cast, ↓reduceIte, Nat.reduceEqDiff, Nat.reduceAdd, Nat.reduceMul, Nat.reduceSub, Nat.reduceLT, Int.reduceToNat]))
    have hi2 : i < (lI o).length := by omega
    have hsu := srtP_succ (L := lI o) (lim := lim) (i := i)
    rw [ha] at hsu
    have hbad : srtP (lI o) lim (i + 1) = false → srt (lI o) lim = false := fun h5 => by
      unfold srt
      rw [srtP_no hi2 h5]
      rfl
    (try (simp (disch := first | omega | (simp <;> omega) | fail) only [push_cast, ↓reduceIte, Nat.reduceEqDiff, Nat.reduceAdd, Nat.reduceMul, Nat.reduceSub, Nat.reduceLT, Int.reduceToNat]))
    refine (c_spec_l1In _ _ _).call ?_
    cases hin : (decide (0 ≤ (lI o).getD i 0) && decide ((lI o).getD i 0 ≤ lim - 1))
    · rw [hin] at hsu
      rw [hbad (by rw [hsu]; rfl)]
      (try (simp (disch := first | omega | (simp <;> omega) | fail) only [push_cast, ↓reduceIte, Nat.reduceEqDiff, Nat.reduceAdd, Nat.reduceMul, Nat.reduceSub, Nat.reduceLT, Int.reduceToNat]))
    rw [hin] at hsu
    by_cases h0i : 0 < i
    · have e1 : ((i : Int) - 1).toNat = i - 1 := by omega
      have hd1 : decide (0 < (i : Int)) = true := by simp [h0i]
      rw [hd1] at hsu
      by_cases hlt : (lI o).getD i 0 < (lI o).getD (i - 1) 0
      · rw [hbad (by rw [hsu, decide_eq_true hlt]; rfl)]
        (try (simp (disch := first | omega | (simp <;> omega) | fail) only [push_cast, ↓reduceIte, Nat.reduceEqDiff, Nat.reduceAdd, Nat.reduceMul, Nat.reduceSub, Nat.reduceLT, Int.reduceToNat, e1, hlt]))
      · have hgo : srtP (lI o) lim (i + 1) = true := by rw [hsu, decide_eq_false hlt]; rfl
        (try (simp (disch := first | omega | (simp <;> omega) | fail) only [push_cast, ↓reduceIte, Nat.reduceEqDiff, Nat.reduceAdd, Nat.reduceMul, Nat.reduceSub, Nat.reduceLT, Int.reduceToNat, e1, hlt]))
        all_goals (try exact hgo)
    · have h0 : i = 0 := by omega
      have hd1 : decide (0 < (i : Int)) = false := by simp; omega
      have hgo : srtP (lI o) lim (i + 1) = true := by rw [hsu, hd1]; rfl
      (try (simp (disch := first | omega | (simp <;> omega) | fail) only [push_cast, ↓reduceIte, Nat.reduceEqDiff, Nat.reduceAdd, Nat.reduceMul, Nat.reduceSub, Nat.reduceLT, Int.reduceToNat]))
      all_goals (try exact hgo)
  · (try (simp only [decide_eq_true_eq, decide_eq_false_iff_not, Bool.not_eq_true', Bool.not_eq_false', Bool.and_eq_true, Bool.or_eq_true, Int.not_lt, Int.not_le] at hc)); (try (simp (disch := first | omega | (simp <;> omega) | fail) only [push_cast, ↓reduceIte, Nat.reduceEqDiff, Nat.reduceAdd, Nat.reduceMul, Nat.reduceSub, Nat.reduceLT, Int.reduceToNat]))
    have hie : i = (lI o).length := by omega
    subst hie
    unfold srt
    rw [ha]
    by_cases h60 : ((lI o).length : Int) ≤ 60
    · (try (simp (disch := first | omega | (simp <;> omega) | fail) only [push_cast, ↓reduceIte, Nat.reduceEqDiff, Nat.reduceAdd, Nat.reduceMul, Nat.reduceSub, Nat.reduceLT, Int.reduceToNat, h60]))
      refine (c_spec_spLimit lim).call ?_
      (try (simp (disch := first | omega | (simp <;> omega) | fail) only [push_cast, ↓reduceIte, Nat.reduceEqDiff, Nat.reduceAdd, Nat.reduceMul, Nat.reduceSub, Nat.reduceLT, Int.reduceToNat]))
    · rw [decide_eq_false h60]
      (try (simp (disch := first | omega | (simp <;> omega) | fail) only [push_cast, ↓reduceIte, Nat.reduceEqDiff, Nat.reduceAdd, Nat.reduceMul, Nat.reduceSub, Nat.reduceLT, Int.reduceToNat, h60]))

theorem c_impl_sortedOk (o : Option (List Int)) (lim : Int) (h0 : -1000000000000 ≤ lim) (h9 : lim ≤ 9223372036854775807) : Fn Tryd.prog 96 [eI o, .int .i64 lim] (· = .bool (srt (lI o) lim)) := by
  refine Fn.of free_bool fun h => ?_
  refine enter (by kernel_rfl) e96 (by kernel_rfl) rfl fun hok => ?_
  simp only [r96, initEnv_2]
  have hlen := ok_eI (okV_0 hok)
  (try (simp (disch := first | omega | (simp <;> omega) | fail) only [push_cast, ↓reduceIte, Nat.reduceEqDiff, Nat.reduceAdd, Nat.reduceMul, Nat.reduceSub, Nat.reduceLT, Int.reduceToNat]))
  refine T_for (lI o).length (fun i e h' => Pins e [(0, eI o), (1, .int .i64 lim), (7, eI o), (8, .int .i64 (lI o).length), (9, .int .i64 i)] ∧ h' = h ∧ srtP (lI o) lim i = true) ?_ ?_
  · (try (simp (disch := first | omega | (simp <;> omega) | fail) only [push_cast, ↓reduceIte, Nat.reduceEqDiff, Nat.reduceAdd, Nat.reduceMul, Nat.reduceSub, Nat.reduceLT, Int.reduceToNat]))
    all_goals (try rfl)
  rintro i e h' hi ⟨hp, rfl, ha⟩
  refine T_pins hp fun e => ?_
  (try (simp (disch := first | omega | (simp <;> omega) | fail) only [push_cast, ↓reduceIte, Nat.reduceEqDiff, Nat.reduceAdd, Nat.reduceMul, Nat.reduceSub, Nat.reduceLT, Int.reduceToNat]))
  first | refine goC_split (fun hc => ?_) (fun hc => ?_) | refine cnd_split (fun hc => ?_) (fun hc => ?_)
  · (try (simp only [decide_eq_true_eq, decide_eq_false_iff_not, Bool.not_eq_true', Bool.not_eq_false', Bool.and_eq_true, Bool.or_eq_true, Int.not_lt, Int.not_le] at hc)); (try (simp (disch := first | omega | (simp <;> omega) | fail) only [push_cast, ↓reduceIte, Nat.reduceEqDiff, Nat.reduceAdd, Nat.reduceMul, Nat.reduceSub, Nat.reduceLT, Int.reduceToNat]))
    have hi2 : i < (lI o).length := by omega
    have hsu := srtP_succ (L := lI o) (lim := lim) (i := i)
    rw [ha] at hsu
    have hbad : srtP (lI o) lim (i + 1) = false → srt (lI o) lim = false := fun h5 => by
      unfold srt
      rw [srtP_no hi2 h5]
      rfl
    (try (simp (disch := first | omega | (simp <;> omega) | fail) only [push_cast, ↓reduceIte, Nat.reduceEqDiff, Nat.reduceAdd, Nat.reduceMul, Nat.reduceSub, Nat.reduceLT, Int.reduceToNat]))
    refine (c_impl_in _ _ _).call ?_
    cases hin : (decide (0 ≤ (lI o).getD i 0) && decide ((lI o).getD i 0 ≤ lim - 1))
    · rw [hin] at hsu
      rw [hbad (by rw [hsu]; rfl)]
      (try (simp (disch := first | omega | (simp <;> omega) | fail) only [push_cast, ↓reduceIte, Nat.reduceEqDiff, Nat.reduceAdd, Nat.reduceMul, Nat.reduceSub, Nat.reduceLT, Int.reduceToNat]))
    rw [hin] at hsu
    by_cases h0i : 0 < i
    · have e1 : ((i : Int) - 1).toNat = i - 1 := by omega
      have hd1 : decide (0 < (i : Int)) = true := by simp [h0i]
      rw [hd1] at hsu
      by_cases hlt : (lI o).getD i 0 < (lI o).getD (i - 1) 0
      · rw [hbad (by rw [hsu, decide_eq_true hlt]; rfl)]
        (try (simp (disch := first | omega | (simp <;> omega) | fail) only [push_cast, ↓reduceIte, Nat.reduceEqDiff, Nat.reduceAdd, Nat.reduceMul, Nat.reduceSub, Nat.reduceLT, Int.reduceToNat, e1, hlt]))
      · have hgo : srtP (lI o) lim (i + 1) = true := by rw [hsu, decide_eq_false hlt]; rfl
        (try (simp (disch := first | omega | (simp <;> omega) | fail) only [push_cast, ↓reduceIte, Nat.reduceEqDiff, Nat.reduceAdd, Nat.reduceMul, Nat.reduceSub, Nat.reduceLT, Int.reduceToNat, e1, hlt]))
        all_goals (try exact hgo)
    · have h0 : i = 0 := by omega
      have hd1 : decide (0 < (i : Int)) = false := by simp; omega
      have hgo : srtP (lI o) lim (i + 1) = true := by rw [hsu, hd1]; rfl
      (try (simp (disch := first | omega | (simp <;> omega) | fail) only [push_cast, ↓reduceIte, Nat.reduceEqDiff, Nat.reduceAdd, Nat.reduceMul, Nat.reduceSub, Nat.reduceLT, Int.reduceToNat]))
      all_goals (try exact hgo)
  · (try (simp only [decide_eq_true_eq, decide_eq_false_iff_not, Bool.not_eq_true', Bool.not_eq_false', Bool.and_eq_true, Bool.or_eq_true, Int.not_lt, Int.not_le] at hc)); (try (simp (disch := first | omega | (simp <;> omega) | fail) only [push_cast, ↓reduceIte, Nat.reduceEqDiff, Nat.reduceAdd, Nat.reduceMul, Nat.reduceSub, Nat.reduceLT, Int.reduceToNat]))
    have hie : i = (lI o).length := by omega
    subst hie
    unfold srt
    rw [ha]
    (try (simp (disch := first | omega | (simp <;> omega) | fail) only [push_cast, ↓reduceIte, Nat.reduceEqDiff, Nat.reduceAdd, Nat.reduceMul, Nat.reduceSub, Nat.reduceLT, Int.reduceToNat]))
    refine (c_impl_limitOk lim).call ?_
    cases hlo : limOk lim
    · (try (simp (disch := first | omega | (simp <;> omega) | fail) only [push_cast, ↓reduceIte, Nat.reduceEqDiff, Nat.reduceAdd, Nat.reduceMul, Nat.reduceSub, Nat.reduceLT, Int.reduceToNat]))
      all_goals (try simp)
    · by_cases h60 : ((lI o).length : Int) ≤ 60
      · (try (simp (disch := first | omega | (simp <;> omega) | fail) only [push_cast, ↓reduceIte, Nat.reduceEqDiff, Nat.reduceAdd, Nat.reduceMul, Nat.reduceSub, Nat.reduceLT, Int.reduceToNat, h60]))
      · (try (simp (disch := first | omega | (simp <;> omega) | fail) only [push_cast, ↓reduceIte, Nat.reduceEqDiff, Nat.reduceAdd, Nat.reduceMul, Nat.reduceSub, Nat.reduceLT, Int.reduceToNat, h60]))

def natI (L : List Nat) : List Int := L.map fun n : Nat => (n : Int)
theorem natI_len {L : List Nat} : (natI L).length = L.length := by simp [natI]
/-- The numbers that are told by the first so many bits. -/
def spL (hb lb w cnt : Nat) : Nat → List Nat
  | 0 => []
  | p + 1 => if hb.testBit p = true ∧ (spL hb lb w cnt p).length < cnt then spL hb lb w cnt p ++ [(p - (spL hb lb w cnt p).length) * 2 ^ w + fldN lb ((spL hb lb w cnt p).length * w) w] else spL hb lb w cnt p
theorem spL_len {hb lb w cnt : Nat} : ∀ p, (spL hb lb w cnt p).length ≤ p ∧ (spL hb lb w cnt p).length ≤ cnt
  | 0 => by simp [spL]
  | p + 1 => by
    have := spL_len (hb := hb) (lb := lb) (w := w) (cnt := cnt) p
    rw [spL]
    split
    · rename_i h
      simp
      omega
    · omega
theorem spL_full {hb lb w cnt p : Nat} (h : ¬ (spL hb lb w cnt p).length < cnt) : ∀ q, spL hb lb w cnt (p + q) = spL hb lb w cnt p
  | 0 => rfl
  | q + 1 => by
    have ih := spL_full h q
    rw [show p + (q + 1) = (p + q) + 1 by omega, spL, ih, if_neg (fun h5 => h h5.2)]
/-- A list of numbers that grows, in memory of the call's own from n0 on. -/
def LsI (n0 : Nat) (h' : H) (v : AV) (L : List Nat) : Prop := n0 ≤ h'.length ∧ ∃ B, S1 h' 1 v L.length ((natI L).map (.int .i64)) B ∧ ∀ k ∈ B, n0 ≤ k
theorem LsI.len {n0 : Nat} {h' : H} {v : AV} {L : List Nat} (hs : LsI n0 h' v L) : lenA v = some (.int .i64 L.length) := by
  obtain ⟨_, B, hs, _⟩ := hs
  rcases hs.2 with ⟨rfl, h0, _⟩ | ⟨b, rfl, _⟩
  · rw [h0]
    rfl
  · rfl
theorem LsI.app {n0 : Nat} {h' : H} {v : AV} {L : List Nat} {x : Nat} {pm : Nat → Prop} {Q : AV → H → Prop} (hs : LsI n0 h' v L) (hpm : ∀ c, n0 ≤ c → pm c) (hL : L.length ≤ 1000000)
    (hQ : ∀ v' h'', LsI n0 h'' v' (L ++ [x]) → (∀ c, c < n0 → h''[c]? = h'[c]?) → h'.length ≤ h''.length → Q v' h'') : apA pm (h' ++ [some (.cells [.int .i64 (x : Int)])]) Q 1 8 (some ([.int .i64 (x : Int)], 1)) v := by
  obtain ⟨hn, B, hs, hB⟩ := hs
  have hs2 := hs.frame (h' := h' ++ [some (.cells [.int .i64 (x : Int)])]) fun c hc => List.getElem?_append_left (hs.lt c hc)
  refine hs2.app (fun c hc => hpm c (hB c hc)) rfl (by decide) (by omega) fun v' h'' B' q1 q2 q3 q4 => ?_
  simp only [List.length_append, List.length_cons, List.length_nil] at q2 q4
  refine hQ v' h'' ⟨by omega, B', by simpa [natI] using q1, fun k hk => ?_⟩ (fun c hc => ?_) (by omega)
  · rcases q4 k hk with h5 | h5
    · exact hB k h5
    · omega
  · rw [q3 c (by simp; omega) (fun hb => by have := hB c hb; omega)]
    exact List.getElem?_append_left (by omega)
theorem LsI.vw {n0 n : Nat} {h' : H} {v : AV} {L : List Nat} (hs : LsI n0 h' v L) (hn : n ≤ n0) : ∃ o, Vw h' n v (eI o) ∧ lI o = natI L := by
  obtain ⟨_, B, hs, hB⟩ := hs
  rcases hs.2 with ⟨rfl, h0, _⟩ | ⟨b, rfl, hb, hcb⟩
  · have : L = [] := List.length_eq_zero_iff.1 h0
    subst this
    exact ⟨none, .free free_nils, rfl⟩
  · refine ⟨some (natI L), ?_, rfl⟩
    have := vw_all (n := n) (kc := L.length) (sz := 1) (len := L.length) (by have := hB b (by rw [hb]; simp); omega) hcb (by simp [natI]) (one_map fun _ => rfl) (free_map_ fun _ => free_int)
    simpa [eI, natI] using this
/-- What is right of the counts and sizes of such a vector. -/
structure SpO (s : Spa) (lb ml hb mh cnt w n : Nat) : Prop where
  low : lI s.low.words = wordsN lb ml
  high : lI s.high.words = wordsN hb mh
  count : s.count = (cnt : Int)
  width : s.width = (w : Int)
  hsize : s.high.size = (n : Int)
  cw : cnt * w ≤ 16 * ml
  nh : n ≤ 16 * mh
  c60 : cnt ≤ 60
  w16 : w ≤ 16
  n4 : n ≤ 4096
  ml1 : ml ≤ 1000
  mh1 : mh ≤ 1000

theorem c_spec_spList (s : Spa) (lb ml hb mh cnt w n : Nat) (ho : SpO s lb ml hb mh cnt w n) : Fn Tryd.prog 58 [eSp s] (fun x => ∃ o, x = eI o ∧ lI o = natI (spL hb lb w cnt n)) := by
  refine Fn.froze_ fun h => ?_
  refine enter (by kernel_rfl) e58 (by kernel_rfl) rfl fun hok => ?_
  simp only [r58, initEnv_1]
  obtain ⟨sc, sl, sw, ⟨ls, lws⟩, ⟨hsz, hws⟩⟩ := s
  obtain ⟨o1, o2, o3, o4, o5, o6, o7, o8, o9, o10, o11, o12⟩ := ho
  simp only at o1 o2 o3 o4 o5
  subst o3 o4 o5
  (try (simp (disch := first | omega | (simp <;> omega) | fail) only [push_cast, ↓reduceIte, Nat.reduceEqDiff, Nat.reduceAdd, Nat.reduceMul, Nat.reduceSub, Nat.reduceLT, Int.reduceToNat]))
  refine T_for n (fun i e h' => ∃ v, Pins e [(1, .adr h.length 0), (3, v), (4, .int .i64 i)] ∧ LsI (h.length + 1) h' v (spL hb lb w cnt i) ∧ H.cells h' h.length = some (cSp ⟨cnt, sl, w, ⟨ls, lws⟩, ⟨n, hws⟩⟩)) ?_ ?_
  · refine ⟨.nils, ?_⟩
    (try (simp (disch := first | omega | (simp <;> omega) | fail) only [push_cast, ↓reduceIte, Nat.reduceEqDiff, Nat.reduceAdd, Nat.reduceMul, Nat.reduceSub, Nat.reduceLT, Int.reduceToNat]))
    all_goals (try exact ⟨⟨by simp, [], S1.nil, by simp⟩, by rw [cells_h0]; rfl⟩)
    all_goals (try exact ⟨by simp, [], S1.nil, by simp⟩)
  rintro i e h' hi ⟨v, hp, hs, hbx⟩
  refine T_pins hp fun e => ?_
  have hlen := hs.len
  obtain ⟨l1, l2⟩ := spL_len (hb := hb) (lb := lb) (w := w) (cnt := cnt) i
  have hbx' : ∀ l, H.cells (h' ++ l) h.length = some (cSp ⟨cnt, sl, w, ⟨ls, lws⟩, ⟨n, hws⟩⟩) := fun l => cells_app hbx
  have hfin : ∀ m, m = n ∨ ¬ (spL hb lb w cnt i).length < cnt → i ≤ n → (m = i ∨ ¬ (spL hb lb w cnt i).length < cnt) → ∃ t, Vw h' h.length v t ∧ ∃ o, t = eI o ∧ lI o = natI (spL hb lb w cnt n) := fun m h1 h2 h3 => by
    obtain ⟨o, v1, v2⟩ := hs.vw (n := h.length) (by omega)
    refine ⟨_, v1, o, rfl, ?_⟩
    rw [v2]
    congr 1
    by_cases hf : (spL hb lb w cnt i).length < cnt
    · have : i = n := by rcases h1 with h1 | h1 <;> rcases h3 with h3 | h3 <;> first | omega | exact absurd hf h1 | exact absurd hf h3
      rw [this]
    · have := spL_full hf (n - i)
      rw [show i + (n - i) = n by omega] at this
      exact this.symm
  obtain ⟨L, hL⟩ : ∃ L, L = spL hb lb w cnt i := ⟨_, rfl⟩
  have hsu : spL hb lb w cnt (i + 1) = if hb.testBit i = true ∧ L.length < cnt then L ++ [(i - L.length) * 2 ^ w + fldN lb (L.length * w) w] else L := by rw [spL, ← hL]
  rw [← hL] at hs hlen l1 l2 hfin
  by_cases hin : i < n
  · by_cases hlc : L.length < cnt
    · have hlw : L.length * w ≤ 60 * 16 := Nat.mul_le_mul (by omega) o9
      have hlw2 : L.length * w + w ≤ 16 * ml := by
        have : (L.length + 1) * w ≤ cnt * w := Nat.mul_le_mul_right _ (by omega)
        rw [Nat.add_mul, Nat.one_mul] at this
        omega
      have hmul : (L.length : Int) * (w : Int) = ((L.length * w : Nat) : Int) := by simp
      have hpw : 2 ^ w ≤ 2 ^ 16 := Nat.pow_le_pow_right (by decide) o9
      have hgl : (i - L.length) * 2 ^ w ≤ 4096 * 2 ^ 16 := Nat.mul_le_mul (by omega) hpw
      have hsh : IntKind.i64.wrap (((i : Int) - (L.length : Int)) * 2 ^ (min w IntKind.i64.bits)) = (((i - L.length) * 2 ^ w : Nat) : Int) := by
        have := shlN (a := i - L.length) (b := w) (by omega) (by omega)
        rw [← this]
        congr 2
        omega
      have hfl := fldN_lt (B := lb) (a := L.length * w) (w := w)
      obtain ⟨lw, hlwd⟩ : ∃ lw, lw = L.length * w := ⟨_, rfl⟩
      obtain ⟨g, hg⟩ : ∃ g, g = (i - L.length) * 2 ^ w := ⟨_, rfl⟩
      rw [← hlwd] at hlw hlw2 hmul hfl hsu
      rw [← hg] at hgl hsh hsu
      have hc1 : decide ((i : Int) < (n : Int)) = true := by simp [hin]
      have hc2 : decide ((L.length : Int) < (cnt : Int)) = true := by simp [hlc]
      (try (simp (disch := first | omega | (simp <;> omega) | fail) only [push_cast, ↓reduceIte, Nat.reduceEqDiff, Nat.reduceAdd, Nat.reduceMul, Nat.reduceSub, Nat.reduceLT, Int.reduceToNat, hbx, hlen, hc1, hc2]))
      refine (c_spec_biAt ⟨n, hws⟩ hb mh i o2 (by omega) (by omega)).call ?_
      cases hbt : hb.testBit i
      · rw [hbt] at hsu
        have hsu2 : spL hb lb w cnt (i + 1) = L := by rw [hsu]; simp
        (try (simp (disch := first | omega | (simp <;> omega) | fail) only [push_cast, ↓reduceIte, Nat.reduceEqDiff, Nat.reduceAdd, Nat.reduceMul, Nat.reduceSub, Nat.reduceLT, Int.reduceToNat]))
        all_goals (try (rw [hsu2]))
        all_goals (try exact ⟨_, rfl, hs, hbx⟩)
        all_goals (try exact ⟨hs, hbx⟩)
      · rw [hbt] at hsu
        have hsu2 : spL hb lb w cnt (i + 1) = L ++ [g + fldN lb lw w] := by rw [hsu, if_pos ⟨rfl, hlc⟩]
        (try (simp (disch := first | omega | (simp <;> omega) | fail) only [push_cast, ↓reduceIte, Nat.reduceEqDiff, Nat.reduceAdd, Nat.reduceMul, Nat.reduceSub, Nat.reduceLT, Int.reduceToNat, hbx, hlen, hsh, hmul]))
        refine (c_spec_biField ⟨ls, lws⟩ lb ml lw w o1 (by omega) (by omega) (by omega)).call ?_
        obtain ⟨f, hf⟩ : ∃ f, f = fldN lb lw w := ⟨_, rfl⟩
        obtain ⟨y, hy⟩ : ∃ y, y = g + f := ⟨_, rfl⟩
        rw [← hf] at hsu2 hfl ⊢
        rw [← hy] at hsu2
        have hadd : (g : Int) + (f : Int) = (y : Int) := by omega
        (try (simp (disch := first | omega | (simp <;> omega) | fail) only [push_cast, ↓reduceIte, Nat.reduceEqDiff, Nat.reduceAdd, Nat.reduceMul, Nat.reduceSub, Nat.reduceLT, Int.reduceToNat, hadd, reads, List.mem_cons, List.mem_append, List.not_mem_nil, nat_ff, or_self, or_false, false_or, not_false_eq_true]))
        refine hs.app (fun c hc => by first | exact Or.inr (by omega) | exact ⟨Or.inr (by omega), by omega⟩ | exact ⟨Or.inr (by omega), by simp; omega⟩) (by omega) fun v' h'' q1 q2 q3 => ?_
        rw [← hsu2] at q1
        have hbx2 := cells_keep (q2 h.length (by omega)) hbx
        (try (simp (disch := first | omega | (simp <;> omega) | fail) only [push_cast, ↓reduceIte, Nat.reduceEqDiff, Nat.reduceAdd, Nat.reduceMul, Nat.reduceSub, Nat.reduceLT, Int.reduceToNat]))
        all_goals (try exact ⟨_, rfl, q1, hbx2⟩)
        all_goals (try exact ⟨q1, hbx2⟩)
    · have hc1 : decide ((i : Int) < (n : Int)) = true := by simp [hin]
      have hc2 : decide ((L.length : Int) < (cnt : Int)) = false := by simp; omega
      (try (simp (disch := first | omega | (simp <;> omega) | fail) only [push_cast, ↓reduceIte, Nat.reduceEqDiff, Nat.reduceAdd, Nat.reduceMul, Nat.reduceSub, Nat.reduceLT, Int.reduceToNat, hbx, hlen, hc1, hc2]))
      all_goals (try exact hfin i (.inr hlc) (by omega) (.inr hlc))
  · have hie : i = n := by omega
    subst hie
    have hc1 : decide ((i : Int) < (i : Int)) = false := by simp
    (try (simp (disch := first | omega | (simp <;> omega) | fail) only [push_cast, ↓reduceIte, Nat.reduceEqDiff, Nat.reduceAdd, Nat.reduceMul, Nat.reduceSub, Nat.reduceLT, Int.reduceToNat, hbx, hc1]))
    all_goals (try exact hfin i (.inl rfl) (by omega) (.inl rfl))

def lowG (L : List Nat) (w p : Nat) : Bool := (L.getD (p / w) 0).testBit (p % w)
def hiG (L : List Nat) (w i p : Nat) : Bool := (List.range i).any fun j => decide (L.getD j 0 / 2 ^ w + j = p)
def hiS (n lim w : Nat) : Nat := n + (lim - 1) / 2 ^ w + 1
def lowB (L : List Nat) (w : Nat) : Bt := ⟨((L.length * w : Nat) : Int), some (wordsN (mkN (L.length * w) (lowG L w)) ((L.length * w + 15) / 16))⟩
def hiB (L : List Nat) (lim w : Nat) : Bt := ⟨((hiS L.length lim w : Nat) : Int), some (wordsN (mkN (hiS L.length lim w) (hiG L w L.length)) ((hiS L.length lim w + 15) / 16))⟩
def spV (L : List Nat) (lim : Nat) : Spa := ⟨L.length, lim, wid L.length lim, lowB L (wid L.length lim), hiB L lim (wid L.length lim)⟩
theorem lowG_at {L : List Nat} {w i j : Nat} (hj : j < w) : lowG L w (i * w + j) = (L.getD i 0).testBit j := by
  unfold lowG
  have h1 : (i * w + j) / w = i := by
    rw [Nat.mul_comm, Nat.mul_add_div (by omega), Nat.div_eq_of_lt hj]
    rfl
  have h2 : (i * w + j) % w = j := by
    rw [Nat.mul_comm, Nat.mul_add_mod, Nat.mod_eq_of_lt hj]
  rw [h1, h2]
/-- The numbers' low parts serve as well as the numbers. -/
theorem lowG_mod {L : List Nat} {w p : Nat} (h0 : 0 < w) : lowG (L.map (· % 2 ^ w)) w p = lowG L w p := by
  unfold lowG
  have h1 : (L.map (· % 2 ^ w)).getD (p / w) 0 = L.getD (p / w) 0 % 2 ^ w := by
    simp only [List.getD_eq_getElem?_getD, List.getElem?_map]
    cases L[p / w]? <;> simp
  rw [h1, Nat.testBit_mod_two_pow]
  have := Nat.mod_lt p h0
  simp [this]
theorem hiG_succ {L : List Nat} {w i p : Nat} : hiG L w (i + 1) p = (hiG L w i p || decide (L.getD i 0 / 2 ^ w + i = p)) := by
  unfold hiG
  rw [List.range_succ, List.any_append]
  simp
theorem hi_step {L : List Nat} {w i hs : Nat} (hq : L.getD i 0 / 2 ^ w + i < hs) : setB (mkN hs (hiG L w i)) (L.getD i 0 / 2 ^ w + i) true = mkN hs (hiG L w (i + 1)) := by
  refine Nat.eq_of_testBit_eq fun j => ?_
  rw [setB_bit, mkN_bit, mkN_bit, hiG_succ]
  generalize L.getD i 0 / 2 ^ w + i = q at *
  by_cases hj : j = q
  · subst hj
    simp [hq]
  · rw [if_neg hj, decide_eq_false (Ne.symm hj)]
    simp
theorem hi_zero {L : List Nat} {w hs : Nat} : mkN hs (hiG L w 0) = 0 := by
  refine Nat.eq_of_testBit_eq fun j => ?_
  rw [mkN_bit]
  simp [hiG]
theorem hi_lt {L : List Nat} {lim w i : Nat} (hi : i < L.length) (hn : L.getD i 0 < lim) : L.getD i 0 / 2 ^ w + i < hiS L.length lim w := by
  have : L.getD i 0 / 2 ^ w ≤ (lim - 1) / 2 ^ w := Nat.div_le_div_right (by omega)
  unfold hiS
  omega
theorem widF_stop {m l : Nat} (hm : 1 ≤ m) (hl : l ≤ 100000) : ∀ f w, w ≤ 16 → 17 ≤ f + w → l < m * 2 ^ (widF m l f w + 1)
  | 0, w, h1, h2 => by omega
  | f + 1, w, h1, h2 => by
    rw [widF]
    split
    · rename_i hc
      have := wid_lt hm hl hc
      exact widF_stop hm hl f (w + 1) (by omega) (by omega)
    · rename_i hc
      omega
theorem hiS_le {n lim : Nat} (hn : n ≤ 60) (hl : lim ≤ 100000) : hiS n lim (wid n lim) ≤ 200 := by
  have h1 := widF_stop (m := max n 1) (l := lim) (by omega) hl 20 0 (by omega) (by omega)
  have h2 : (lim - 1) / 2 ^ wid n lim < 2 * max n 1 := by
    refine Nat.div_lt_of_lt_mul ?_
    have h3 : 2 ^ (wid n lim + 1) = 2 ^ wid n lim * 2 := Nat.pow_succ _ _
    have h4 : lim < max n 1 * (2 ^ wid n lim * 2) := by rw [← h3]; exact h1
    have h5 : max n 1 * (2 ^ wid n lim * 2) = 2 ^ wid n lim * (2 * max n 1) := by
      rw [Nat.mul_comm 2 (max n 1), ← Nat.mul_assoc, ← Nat.mul_assoc, Nat.mul_comm (max n 1)]
    omega
  unfold hiS
  omega

theorem c_impl_Bits_setField (m a w v b5 o bb : Nat) (cs : List AV) (g : Nat → Bool) (h : H) (h5 : h.cells b5 = some cs) (h1 : cs[o + 1]? = some (.sl bb 0 1 m m)) (hb : h.cells bb = some ((wordsN (mkN a g) m).map (.int .i64))) (hv : v < 65536) (hw : w ≤ 16) (hg : ∀ j, j < w → v.testBit j = g (a + j)) (ha : a + w ≤ 16 * m) (hm : m ≤ 1000) (hne : b5 ≠ bb) :
    Call Tryd.prog 141 [.adr b5 o, .int .i64 a, .int .i64 w, .int .i64 v] h (fun b' => b' = bb) (fun x h' => h'.length = h.length ∧ (∀ c, c ≠ bb → h'[c]? = h[c]?) ∧ h'.cells bb = some ((wordsN (mkN (a + w) g) m).map (.int .i64))) := by
  refine enter (by kernel_rfl) e141 (by kernel_rfl) rfl fun hok => ?_
  simp only [r141, initEnv_4]
  (try (simp (disch := first | omega | (simp <;> omega) | fail) only [push_cast, ↓reduceIte, Nat.reduceEqDiff, Nat.reduceAdd, Nat.reduceMul, Nat.reduceSub, Nat.reduceLT, Int.reduceToNat]))
  refine T_for w (fun i e h' => Pins e [(0, .adr b5 o), (1, .int .i64 a), (3, .int .i64 v), (9, .int .i64 w), (10, .int .i64 i)] ∧ (h'.length = h.length ∧ (∀ c, c ≠ bb → h'[c]? = h[c]?)) ∧ h'.cells bb = some ((wordsN (mkN (a + i) g) m).map (.int .i64))) ?_ ?_
  · (try (simp (disch := first | omega | (simp <;> omega) | fail) only [push_cast, ↓reduceIte, Nat.reduceEqDiff, Nat.reduceAdd, Nat.reduceMul, Nat.reduceSub, Nat.reduceLT, Int.reduceToNat]))
    all_goals (try exact hb)
    all_goals (try exact ⟨fun _ _ => trivial, hb⟩)
  rintro i e h' hi ⟨hp, ⟨q1, q2⟩, q3⟩
  refine T_pins hp fun e => ?_
  (try (simp (disch := first | omega | (simp <;> omega) | fail) only [push_cast, ↓reduceIte, Nat.reduceEqDiff, Nat.reduceAdd, Nat.reduceMul, Nat.reduceSub, Nat.reduceLT, Int.reduceToNat]))
  first | refine goC_split (fun hc => ?_) (fun hc => ?_) | refine cnd_split (fun hc => ?_) (fun hc => ?_)
  · (try (simp only [decide_eq_true_eq, decide_eq_false_iff_not, Bool.not_eq_true', Bool.not_eq_false', Bool.and_eq_true, Bool.or_eq_true, Int.not_lt, Int.not_le] at hc)); (try (simp (disch := first | omega | (simp <;> omega) | fail) only [push_cast, ↓reduceIte, Nat.reduceEqDiff, Nat.reduceAdd, Nat.reduceMul, Nat.reduceSub, Nat.reduceLT, Int.reduceToNat]))
    have hi2 : i < w := by omega
    have hab := at_bit (x := v) (j := i) hv (by omega)
    have h5' := cells_keep (q2 b5 hne) h5
    have hbb := cells_lt q3
    rw [hg i hi2] at hab
    (try (simp (disch := first | omega | (simp <;> omega) | fail) only [push_cast, ↓reduceIte, Nat.reduceEqDiff, Nat.reduceAdd, Nat.reduceMul, Nat.reduceSub, Nat.reduceLT, Int.reduceToNat, hab]))
    refine (c_impl_Bits_set m (mkN (a + i) g) (a + i) b5 o bb (g (a + i)) cs _ h5' h1 q3 (by omega) hm hne).mono (fun y h2 hy => ?_) (fun b' _ hb' => Or.inl hb')
    obtain ⟨y1, y2, y3⟩ := hy
    rw [← mkN_succ] at y3
    have f1 : h2.length = h.length := by omega
    have f2 : ∀ c, c ≠ bb → h2[c]? = h[c]? := fun c hc => (y2 c hc).trans (q2 c hc)
    (try (simp (disch := first | omega | (simp <;> omega) | fail) only [push_cast, ↓reduceIte, Nat.reduceEqDiff, Nat.reduceAdd, Nat.reduceMul, Nat.reduceSub, Nat.reduceLT, Int.reduceToNat]))
    all_goals (try exact ⟨⟨f1, f2⟩, y3⟩)
    all_goals (try exact ⟨f1, f2, y3⟩)
  · (try (simp only [decide_eq_true_eq, decide_eq_false_iff_not, Bool.not_eq_true', Bool.not_eq_false', Bool.and_eq_true, Bool.or_eq_true, Int.not_lt, Int.not_le] at hc)); (try (simp (disch := first | omega | (simp <;> omega) | fail) only [push_cast, ↓reduceIte, Nat.reduceEqDiff, Nat.reduceAdd, Nat.reduceMul, Nat.reduceSub, Nat.reduceLT, Int.reduceToNat]))
    have hie : i = w := by omega
    subst hie
    first | exact ⟨q1, q2, q3⟩ | exact ⟨⟨q1, q2⟩, q3⟩

theorem natI_get {L : List Nat} {i : Nat} : (natI L).getD i 0 = ((L.getD i 0 : Nat) : Int) := by
  unfold natI
  simp only [List.getD_eq_getElem?_getD, List.getElem?_map]
  cases L[i]? <;> simp
theorem c_impl_fields (L : List Nat) (o : Option (List Int)) (w m : Nat) (ho : lI o = natI L) (hL : L.length ≤ 60) (hv : ∀ i, L.getD i 0 < 65536) (hw : w ≤ 16) (hm : ((((L.length * w : Nat) : Int) + 15) / 16) = (m : Int)) (h : H) :
    Call Tryd.prog 122 [eI o, .int .i64 w] h Nowhere (fun x h' => ∃ bb, x = .agg [.int .i64 ((L.length * w : Nat) : Int), .sl bb 0 1 m m] ∧ h.length ≤ bb ∧ h.length ≤ h'.length ∧ (∀ c, c < h.length → h'[c]? = h[c]?) ∧ h'.cells bb = some ((wordsN (mkN (L.length * w) (lowG L w)) m).map (.int .i64))) := by
  refine enter (by kernel_rfl) e122 (by kernel_rfl) rfl fun hok => ?_
  simp only [r122, initEnv_2]
  have hln : (lI o).length = L.length := by rw [ho, natI_len]
  have hlw : L.length * w ≤ 60 * 16 := Nat.mul_le_mul hL hw
  have hmul : (L.length : Int) * (w : Int) = ((L.length * w : Nat) : Int) := by simp
  obtain ⟨n, hn⟩ : ∃ n, n = L.length * w := ⟨_, rfl⟩
  have hnw : ∀ i, i < L.length → i * w + w ≤ n := fun i hi => by
    have : (i + 1) * w ≤ L.length * w := Nat.mul_le_mul_right _ hi
    rw [Nat.add_mul, Nat.one_mul] at this
    omega
  rw [← hn] at hlw hmul hm ⊢
  (try (simp (disch := first | omega | (simp <;> omega) | fail) only [push_cast, ↓reduceIte, Nat.reduceEqDiff, Nat.reduceAdd, Nat.reduceMul, Nat.reduceSub, Nat.reduceLT, Int.reduceToNat, hln, hmul]))
  refine (c_impl_blank_own n m (by omega) hm _).mono (fun x h1 hx => ?_) (fun _ _ h => h.elim)
  obtain ⟨bb, rfl, hbb, ⟨p, hp1⟩, hcb⟩ := hx
  simp only [List.length_append, List.length_cons, List.length_nil] at hbb
  have hl1 : h.length + 1 ≤ h1.length := by rw [hp1]; simp
  have hk1 : ∀ c, c < h.length → h1[c]? = h[c]? := fun c hc => by
    rw [hp1, List.append_assoc]
    exact List.getElem?_append_left hc
  have hc0 : h1.cells h.length = some [.int .i64 0, .nils] := by
    rw [hp1]
    refine cells_app ?_
    rw [cells_h0]
    rfl
  have hbl1 := cells_lt hcb
  clear hp1
  have hne : h1.length ≠ bb := by omega
  have hM0 : MdI h (h1 ++ [some (.cells [.int .i64 n, .sl bb 0 1 m m])]) n m h1.length bb (mkN (0 * w) (lowG L w)) := ⟨by simp; omega, fun c hc => (List.getElem?_append_left (by omega)).trans (hk1 c hc), by rw [cells_h0]; rfl, by rw [Nat.zero_mul]; exact cells_app hcb, hbb, hl1, hne, cells_app hc0⟩
  (try (simp (disch := first | omega | (simp <;> omega) | fail) only [push_cast, ↓reduceIte, Nat.reduceEqDiff, Nat.reduceAdd, Nat.reduceMul, Nat.reduceSub, Nat.reduceLT, Int.reduceToNat, hln]))
  refine T_for L.length (fun i e h' => Pins e [(1, .int .i64 w), (4, .adr h.length 0), (5, .adr h1.length 0), (13, eI o), (14, .int .i64 L.length), (15, .int .i64 i)] ∧ MdI h h' n m h1.length bb (mkN (i * w) (lowG L w))) ?_ ?_
  · have hM1 := hM0
    rw [Nat.zero_mul] at hM1
    (try (simp (disch := first | omega | (simp <;> omega) | fail) only [push_cast, ↓reduceIte, Nat.reduceEqDiff, Nat.reduceAdd, Nat.reduceMul, Nat.reduceSub, Nat.reduceLT, Int.reduceToNat, hln]))
    all_goals (try exact hM1)
  clear hM0
  rintro i e h' hi ⟨hp, hr⟩
  refine T_pins hp fun e => ?_
  obtain ⟨r1, r2, r3, r4, r5, r6, r7, r8⟩ := id hr
  (try (simp (disch := first | omega | (simp <;> omega) | fail) only [push_cast, ↓reduceIte, Nat.reduceEqDiff, Nat.reduceAdd, Nat.reduceMul, Nat.reduceSub, Nat.reduceLT, Int.reduceToNat]))
  first | refine goC_split (fun hc => ?_) (fun hc => ?_) | refine cnd_split (fun hc => ?_) (fun hc => ?_)
  · (try (simp only [decide_eq_true_eq, decide_eq_false_iff_not, Bool.not_eq_true', Bool.not_eq_false', Bool.and_eq_true, Bool.or_eq_true, Int.not_lt, Int.not_le] at hc)); (try (simp (disch := first | omega | (simp <;> omega) | fail) only [push_cast, ↓reduceIte, Nat.reduceEqDiff, Nat.reduceAdd, Nat.reduceMul, Nat.reduceSub, Nat.reduceLT, Int.reduceToNat]))
    have hi2 : i < L.length := by omega
    have hgi : (lI o).getD i 0 = ((L.getD i 0 : Nat) : Int) := by rw [ho, natI_get]
    have hiw := hnw i hi2
    have hmi : (i : Int) * (w : Int) = ((i * w : Nat) : Int) := by simp
    have hvi := hv i
    have hgb : ∀ j, j < w → (L.getD i 0).testBit j = lowG L w (i * w + j) := fun j hj => (lowG_at hj).symm
    have hsu : (i + 1) * w = i * w + w := by rw [Nat.add_mul, Nat.one_mul]
    obtain ⟨v, hvd⟩ : ∃ v, v = L.getD i 0 := ⟨_, rfl⟩
    obtain ⟨a, had⟩ : ∃ a, a = i * w := ⟨_, rfl⟩
    rw [← hvd] at hgi hvi hgb
    rw [← had] at hiw hmi hgb hsu r4 hr
    (try (simp (disch := first | omega | (simp <;> omega) | fail) only [push_cast, ↓reduceIte, Nat.reduceEqDiff, Nat.reduceAdd, Nat.reduceMul, Nat.reduceSub, Nat.reduceLT, Int.reduceToNat, hln, hgi, hmi]))
    refine (c_impl_Bits_setField m a w v h1.length 0 bb _ (lowG L w) _ r3 rfl r4 hvi hw hgb (by omega) (by omega) r7).mono (fun y h2 hy => ?_) (fun b' _ hb' => Or.inr (by omega))
    obtain ⟨y1, y2, y3⟩ := hy
    rw [← hsu] at y3
    have hfin := hr.put y1 y2 y3
    (try (simp (disch := first | omega | (simp <;> omega) | fail) only [push_cast, ↓reduceIte, Nat.reduceEqDiff, Nat.reduceAdd, Nat.reduceMul, Nat.reduceSub, Nat.reduceLT, Int.reduceToNat]))
    all_goals (try exact hfin)
  · (try (simp only [decide_eq_true_eq, decide_eq_false_iff_not, Bool.not_eq_true', Bool.not_eq_false', Bool.and_eq_true, Bool.or_eq_true, Int.not_lt, Int.not_le] at hc)); (try (simp (disch := first | omega | (simp <;> omega) | fail) only [push_cast, ↓reduceIte, Nat.reduceEqDiff, Nat.reduceAdd, Nat.reduceMul, Nat.reduceSub, Nat.reduceLT, Int.reduceToNat]))
    have hie : i = L.length := by omega
    subst hie
    rw [← hn] at r4 hr
    have hw2 := cells_wr2 (h := h') (b := h.length) (cells_lt r8) (cs := [AV.int .i64 (n : Int), .sl bb 0 1 m m])
    have hpm : (h.length ≤ h.length) = True := by simp
    have f2 : ∀ c, c < h.length → (wr h' h.length [AV.int .i64 (n : Int), .sl bb 0 1 m m])[c]? = h[c]? := fun c hc => by
      unfold wr
      rw [List.getElem?_set_ne (by omega)]
      exact r2 c hc
    have f3 : (wr h' h.length [AV.int .i64 (n : Int), .sl bb 0 1 m m]).cells bb = some ((wordsN (mkN n (lowG L w)) m).map (.int .i64)) := by
      rw [cells_eq]
      unfold wr
      rw [List.getElem?_set_ne (by omega), ← cells_eq]
      exact r4
    (try (simp (disch := first | omega | (simp <;> omega) | fail) only [push_cast, ↓reduceIte, Nat.reduceEqDiff, Nat.reduceAdd, Nat.reduceMul, Nat.reduceSub, Nat.reduceLT, Int.reduceToNat, r3, r8, hpm, hw2]))
    all_goals (try exact ⟨bb, rfl, by omega, f2, f3⟩)
    all_goals (try exact ⟨bb, rfl, by omega, by simp [wr]; omega, f2, f3⟩)

def zero7 : List AV := [.int .i64 0, .int .i64 0, .int .i64 0, .int .i64 0, .nils, .int .i64 0, .nils]
/-- While the vector is made: the box of the result, the low parts so far, the high bits so far. -/
def SzI (h h' : H) (v : AV) (L : List Nat) (b8 bb hs mh X : Nat) : Prop :=
  H.cells h' h.length = some zero7 ∧ H.cells h' b8 = some [.int .i64 (hs : Int), .sl bb 0 1 mh mh] ∧ H.cells h' bb = some ((wordsN X mh).map (.int .i64)) ∧ h.length + 1 ≤ b8 ∧ h.length + 1 ≤ bb ∧ b8 ≠ bb ∧
  ∃ B, S1 h' 1 v L.length ((natI L).map (.int .i64)) B ∧ ∀ k ∈ B, h.length + 1 ≤ k ∧ k ≠ b8 ∧ k ≠ bb
theorem SzI.app {h h' : H} {v : AV} {L : List Nat} {b8 bb hs mh X x : Nat} {pm : Nat → Prop} {Q : AV → H → Prop} (hz : SzI h h' v L b8 bb hs mh X) (hpm : ∀ c, h.length ≤ c → pm c) (hL : L.length ≤ 1000000)
    (hQ : ∀ v' h'', SzI h h'' v' (L ++ [x]) b8 bb hs mh X → h'.length ≤ h''.length → Q v' h'') : apA pm (h' ++ [some (.cells [.int .i64 (x : Int)])]) Q 1 8 (some ([.int .i64 (x : Int)], 1)) v := by
  obtain ⟨z1, z2, z3, z4, z5, z6, B, hs, hB⟩ := hz
  have l1 := cells_lt z1
  have l2 := cells_lt z2
  have l3 := cells_lt z3
  have hs2 := hs.frame (h' := h' ++ [some (.cells [.int .i64 (x : Int)])]) fun c hc => List.getElem?_append_left (hs.lt c hc)
  refine hs2.app (fun c hc => hpm c (by have := (hB c hc).1; omega)) rfl (by decide) (by omega) fun v' h'' B' q1 q2 q3 q4 => ?_
  simp only [List.length_append, List.length_cons, List.length_nil] at q2 q4
  have hk : ∀ c, c < h'.length → c ∉ B → h''[c]? = h'[c]? := fun c hc hb => (q3 c (by simp; omega) hb).trans (List.getElem?_append_left hc)
  refine hQ v' h'' ⟨cells_keep (hk _ l1 fun hb => by have := (hB _ hb).1; omega) z1, cells_keep (hk _ l2 fun hb => (hB _ hb).2.1 rfl) z2, cells_keep (hk _ l3 fun hb => (hB _ hb).2.2 rfl) z3, z4, z5, z6, B', by simpa [natI] using q1, fun k hk => ?_⟩ (by omega)
  rcases q4 k hk with h5 | h5
  · exact hB k h5
  · exact ⟨by omega, by omega, by omega⟩
theorem SzI.set {h h' h2 : H} {v : AV} {L : List Nat} {b8 bb hs mh X Y : Nat} (hz : SzI h h' v L b8 bb hs mh X) (hf : ∀ c, c ≠ bb → h2[c]? = h'[c]?) (hc : H.cells h2 bb = some ((wordsN Y mh).map (.int .i64))) : SzI h h2 v L b8 bb hs mh Y := by
  obtain ⟨z1, z2, z3, z4, z5, z6, B, hs, hB⟩ := hz
  exact ⟨cells_keep (hf _ (by omega)) z1, cells_keep (hf _ z6) z2, hc, z4, z5, z6, B, hs.frame fun c hc => hf c (hB c hc).2.2, hB⟩
theorem SzI.vw {h h' : H} {v : AV} {L : List Nat} {b8 bb hs mh X : Nat} (hz : SzI h h' v L b8 bb hs mh X) : ∃ o, Vw h' 0 v (eI o) ∧ lI o = natI L := by
  obtain ⟨_, _, _, _, _, _, B, hs, hB⟩ := hz
  exact (show LsI 0 h' v L from ⟨Nat.zero_le _, B, hs, fun _ _ => Nat.zero_le _⟩).vw (Nat.le_refl _)
theorem ow7 {h : H} {n l w a c : Int} {b2 m2 : Nat} {x1 : AV} {w1 : Option (List Int)} {w2 : List Int} {n0 : Nat} {F : Nat → Prop} (h1 : Ow h [x1] [eI w1] F) (h2 : H.cells h b2 = some (w2.map (.int .i64))) (l2 : w2.length = m2) (hF : ∀ c, F c → n0 ≤ c ∧ c ≠ b2) (hb2 : n0 ≤ b2) :
    Ow h [.agg [.int .i64 n, .int .i64 l, .int .i64 w, .int .i64 a, x1, .int .i64 c, .sl b2 0 1 m2 m2]] [eSp ⟨n, l, w, ⟨a, w1⟩, ⟨c, some w2⟩⟩] fun c => n0 ≤ c := by
  subst l2
  refine Ow.aggOf (ts := cSp ⟨n, l, w, ⟨a, w1⟩, ⟨c, some w2⟩⟩) (.atom rfl (.atom rfl (.atom rfl (.atom rfl ?_))))
  have o2 : Ow h [.sl b2 0 1 w2.length w2.length] [.ro 1 (w2.map (.int .i64)) w2.length] (fun c => c = b2) := ow_map (f := AV.int .i64) (fun _ => rfl) h2 rfl rfl
  exact h1.cons (F' := fun c => c = b2) (.atom rfl o2) (fun c hc => (hF c hc).1) (fun c hc => ⟨by rw [hc]; exact hb2, fun h5 => (hF c h5).2 hc⟩)

theorem c_impl_sparse_o (L : List Nat) (lim : Nat) (o : Option (List Int)) (ho : lI o = natI L) (hL : L.length ≤ 60) (h1 : 1 ≤ lim) (hl : lim ≤ 100000) (hlt : ∀ i, i < L.length → L.getD i 0 < lim) : FnO Tryd.prog 97 [eI o, .int .i64 lim] (· = eSp (spV L lim)) := by
  intro h
  refine enter (by kernel_rfl) e97 (by kernel_rfl) rfl fun hok => ?_
  simp only [r97, initEnv_2]
  have hln : (lI o).length = L.length := by rw [ho, natI_len]
  have hw16 := wid_le (c := L.length) hl
  have hsl := hiS_le hL hl
  have hWF := c_impl_WidthFor (L.length : Int) (lim : Int)
  have hcond : ((decide (0 ≤ (L.length : Int)) && decide ((L.length : Int) ≤ 60)) && limOk (lim : Int)) = true := by
    simp only [limOk, Bool.and_eq_true, decide_eq_true_eq]
    omega
  rw [hcond] at hWF
  simp only [if_true, Int.toNat_natCast] at hWF
  obtain ⟨w, hwd⟩ : ∃ w, w = wid L.length lim := ⟨_, rfl⟩
  have hsv : spV L lim = ⟨L.length, lim, w, lowB L w, hiB L lim w⟩ := by rw [hwd]; rfl
  rw [← hwd] at hWF hw16 hsl
  obtain ⟨hs, hhs⟩ : ∃ hs, hs = hiS L.length lim w := ⟨_, rfl⟩
  rw [← hhs] at hsl
  have hsh : Int.fdiv ((lim : Int) - 1) (2 ^ (min w IntKind.i64.bits)) = (((lim - 1) / 2 ^ w : Nat) : Int) := by
    rw [← shrN (a := lim - 1) (b := w) (by omega)]
    congr 1
    omega
  obtain ⟨sq, hsq⟩ : ∃ sq, sq = (lim - 1) / 2 ^ w := ⟨_, rfl⟩
  rw [← hsq] at hsh
  have hhs2 : hs = L.length + sq + 1 := by rw [hhs, hsq]; rfl
  have hsi : (L.length : Int) + (sq : Int) + 1 = (hs : Int) := by omega
  (try (simp (disch := first | omega | (simp <;> omega) | fail) only [push_cast, ↓reduceIte, Nat.reduceEqDiff, Nat.reduceAdd, Nat.reduceMul, Nat.reduceSub, Nat.reduceLT, Int.reduceToNat, hln]))
  refine hWF.call ?_
  (try (simp (disch := first | omega | (simp <;> omega) | fail) only [push_cast, ↓reduceIte, Nat.reduceEqDiff, Nat.reduceAdd, Nat.reduceMul, Nat.reduceSub, Nat.reduceLT, Int.reduceToNat, hln, hsh, hsi]))
  refine (c_impl_blank_own hs ((hs + 15) / 16) (by omega) (by omega) _).mono (fun x h1 hx => ?_) (fun _ _ h => h.elim)
  obtain ⟨bb, rfl, hbb, ⟨p, hp1⟩, hcb⟩ := hx
  simp only [List.length_append, List.length_cons, List.length_nil] at hbb
  have hl1 : h.length + 2 ≤ h1.length := by rw [hp1]; simp
  have hc0 : H.cells h1 h.length = some zero7 := by
    rw [hp1]
    refine cells_app ?_
    rw [cells_h0]
    rfl
  have hc1 : H.cells h1 (h.length + 1) = some [] := by
    rw [hp1]
    refine cells_app ?_
    rw [cells_hk]
    rfl
  have hbl1 := cells_lt hcb
  clear hp1
  obtain ⟨L', hL'⟩ : ∃ L', L' = L.map (· % 2 ^ w) := ⟨_, rfl⟩
  have hM0 : SzI h (h1 ++ [some (.cells [.int .i64 hs, .sl bb 0 1 ((hs + 15) / 16) ((hs + 15) / 16)])]) (.sl (h.length + 1) 0 1 0 0) (L'.take 0) h1.length bb hs ((hs + 15) / 16) (mkN hs (hiG L w 0)) := ⟨cells_app hc0, by rw [cells_h0]; rfl, by rw [hi_zero]; exact cells_app hcb, by omega, by omega, by omega, [h.length + 1], ⟨by simp [natI], .inr ⟨h.length + 1, rfl, rfl, by simpa [natI] using cells_app hc1⟩⟩, fun k hk => by simp at hk; omega⟩
  (try (simp (disch := first | omega | (simp <;> omega) | fail) only [push_cast, ↓reduceIte, Nat.reduceEqDiff, Nat.reduceAdd, Nat.reduceMul, Nat.reduceSub, Nat.reduceLT, Int.reduceToNat, hln]))
  refine T_for L.length (fun i e h' => ∃ v, Pins e [(0, eI o), (1, .int .i64 lim), (4, .adr h.length 0), (5, .int .i64 w), (7, v), (8, .adr h1.length 0), (28, eI o), (29, .int .i64 L.length), (30, .int .i64 i)] ∧ SzI h h' v (L'.take i) h1.length bb hs ((hs + 15) / 16) (mkN hs (hiG L w i))) ?_ ?_
  · refine ⟨.sl (h.length + 1) 0 1 0 0, ?_⟩
    (try (simp (disch := first | omega | (simp <;> omega) | fail) only [push_cast, ↓reduceIte, Nat.reduceEqDiff, Nat.reduceAdd, Nat.reduceMul, Nat.reduceSub, Nat.reduceLT, Int.reduceToNat, hln]))
    all_goals (try exact hM0)
  clear hM0
  rintro i e h' hi ⟨v, hp, hz⟩
  refine T_pins hp fun e => ?_
  (try (simp (disch := first | omega | (simp <;> omega) | fail) only [push_cast, ↓reduceIte, Nat.reduceEqDiff, Nat.reduceAdd, Nat.reduceMul, Nat.reduceSub, Nat.reduceLT, Int.reduceToNat]))
  first | refine goC_split (fun hc => ?_) (fun hc => ?_) | refine cnd_split (fun hc => ?_) (fun hc => ?_)
  · (try (simp only [decide_eq_true_eq, decide_eq_false_iff_not, Bool.not_eq_true', Bool.not_eq_false', Bool.and_eq_true, Bool.or_eq_true, Int.not_lt, Int.not_le] at hc)); (try (simp (disch := first | omega | (simp <;> omega) | fail) only [push_cast, ↓reduceIte, Nat.reduceEqDiff, Nat.reduceAdd, Nat.reduceMul, Nat.reduceSub, Nat.reduceLT, Int.reduceToNat]))
    have hi2 : i < L.length := by omega
    have hgi : (lI o).getD i 0 = ((L.getD i 0 : Nat) : Int) := by rw [ho, natI_get]
    have hni := hlt i hi2
    have hq := hi_lt (w := w) hi2 hni
    rw [← hhs] at hq
    have hst := hi_step (L := L) (w := w) (i := i) (hs := hs) hq
    have htk : L'.take (i + 1) = L'.take i ++ [L.getD i 0 % 2 ^ w] := by
      rw [List.take_add_one, hL']
      congr 1
      simp [hi2]
    have hpw : 2 ^ w ≤ 2 ^ 16 := Nat.pow_le_pow_right (by decide) hw16
    have hp0 : 1 ≤ 2 ^ w := Nat.pow_pos (by decide)
    have hsh1 : IntKind.i64.wrap (1 * 2 ^ (min w IntKind.i64.bits)) = ((2 ^ w : Nat) : Int) := by
      have := shlN (a := 1) (b := w) (by omega) (by omega)
      simpa using this
    have hand : bitsI .and .i64 ((L.getD i 0 : Nat) : Int) (((2 ^ w - 1 : Nat)) : Int) = ((L.getD i 0 % 2 ^ w : Nat) : Int) := by
      rw [bitsI_and (by omega) (by omega), Nat.and_two_pow_sub_one_eq_mod]
    have hshr := shrN (a := L.getD i 0) (b := w) (by omega)
    have hLl : (L'.take i).length ≤ 1000000 := by rw [List.length_take, hL', List.length_map]; omega
    obtain ⟨n, hn⟩ : ∃ n, n = L.getD i 0 := ⟨_, rfl⟩
    rw [← hn] at hgi hni hq hst htk hand hshr
    obtain ⟨P, hP⟩ : ∃ P, P = 2 ^ w := ⟨_, rfl⟩
    rw [← hP] at hpw hp0 hsh1 hand hshr hst hq htk
    have hP1 : (P : Int) - 1 = ((P - 1 : Nat) : Int) := by omega
    obtain ⟨P1, hP1d⟩ : ∃ P1, P1 = P - 1 := ⟨_, rfl⟩
    obtain ⟨md, hmd⟩ : ∃ md, md = n % P := ⟨_, rfl⟩
    obtain ⟨dv, hdv⟩ : ∃ dv, dv = n / P := ⟨_, rfl⟩
    rw [← hP1d] at hP1 hand
    rw [← hmd] at hand htk
    rw [← hdv] at hshr hst hq
    (try (simp (disch := first | omega | (simp <;> omega) | fail) only [push_cast, ↓reduceIte, Nat.reduceEqDiff, Nat.reduceAdd, Nat.reduceMul, Nat.reduceSub, Nat.reduceLT, Int.reduceToNat, hln, hgi, hsh1, hP1, hand]))
    refine hz.app (x := md) (fun c hc => Or.inr hc) hLl fun v' h'' q1 q2 => ?_
    rw [← htk] at q1
    obtain ⟨z1, z2, z3, z4, z5, z6, _⟩ := id q1
    (try (simp (disch := first | omega | (simp <;> omega) | fail) only [push_cast, ↓reduceIte, Nat.reduceEqDiff, Nat.reduceAdd, Nat.reduceMul, Nat.reduceSub, Nat.reduceLT, Int.reduceToNat, hshr]))
    refine (c_impl_Bits_set ((hs + 15) / 16) (mkN hs (hiG L w i)) (dv + i) h1.length 0 bb true _ _ z2 rfl z3 (by omega) (by omega) z6).mono (fun y h2 hy => ?_) (fun b' _ hb' => Or.inr (by omega))
    obtain ⟨y1, y2, y3⟩ := hy
    rw [hst] at y3
    have hfin := q1.set y2 y3
    (try (simp (disch := first | omega | (simp <;> omega) | fail) only [push_cast, ↓reduceIte, Nat.reduceEqDiff, Nat.reduceAdd, Nat.reduceMul, Nat.reduceSub, Nat.reduceLT, Int.reduceToNat]))
    all_goals (try exact ⟨_, rfl, hfin⟩)
    all_goals (try exact ⟨_, hfin⟩)
  · (try (simp only [decide_eq_true_eq, decide_eq_false_iff_not, Bool.not_eq_true', Bool.not_eq_false', Bool.and_eq_true, Bool.or_eq_true, Int.not_lt, Int.not_le] at hc)); (try (simp (disch := first | omega | (simp <;> omega) | fail) only [push_cast, ↓reduceIte, Nat.reduceEqDiff, Nat.reduceAdd, Nat.reduceMul, Nat.reduceSub, Nat.reduceLT, Int.reduceToNat]))
    have hie : i = L.length := by omega
    subst hie
    have hL'l : L'.length = L.length := by rw [hL', List.length_map]
    rw [show L'.take L.length = L' from List.take_of_length_le (by omega)] at hz
    obtain ⟨z1, z2, z3, z4, z5, z6, _⟩ := id hz
    obtain ⟨oo, hvo, hlo⟩ := hz.vw
    have hlb : lowB L w = ⟨((L'.length * w : Nat) : Int), some (wordsN (mkN (L'.length * w) (lowG L' w)) ((L'.length * w + 15) / 16))⟩ := by
      unfold lowB
      rw [hL'l]
      congr 3
      refine mkN_congr fun p hp => ?_
      have hw0 : 0 < w := by
        rcases Nat.eq_zero_or_pos w with h0 | h0
        · rw [h0] at hp
          simp at hp
        · exact h0
      rw [hL', lowG_mod hw0]
    have hfo : FnO Tryd.prog 122 [eI oo, .int .i64 w] (· = eB (lowB L w)) := fun g => (c_impl_fields L' oo w ((L'.length * w + 15) / 16) hlo (by omega) (fun j => by
      rw [hL']
      simp only [List.getD_eq_getElem?_getD, List.getElem?_map]
      have hpw : 2 ^ w ≤ 2 ^ 16 := Nat.pow_le_pow_right (by decide) hw16
      cases L[j]? with
      | none => simp
      | some y =>
        simp
        have := Nat.mod_lt y (Nat.two_pow_pos w)
        omega) hw16 (by omega) g).mono (fun x g1 hx => by
      obtain ⟨b2, rfl, q1, q2, q3, q4⟩ := hx
      rw [hlb]
      exact ⟨_, ow_B (G := fun c => g.length ≤ c) q1 q4 (by rw [wordsN_len]), rfl⟩) (fun _ _ h => h.elim)
    have hpm : (h.length ≤ h.length) = True := by simp
    have hbl := cells_lt z3
    have hlt0 := cells_lt z1
    have hend : ∀ (g1 : H) (w1 : AV) (F : Nat → Prop) cs, Ext h' g1 → Ow g1 [w1] [eI (lowB L w).words] F → (∀ c, F c → Seg h'.length g1 c) → ∃ t, Ow (wr g1 h.length cs) [.agg [.int .i64 L.length, .int .i64 lim, .int .i64 w, .int .i64 ((L.length * w : Nat) : Int), w1, .int .i64 hs, .sl bb 0 1 ((hs + 15) / 16) ((hs + 15) / 16)]] [t] (fun c => h.length ≤ c) ∧ t = eSp (spV L lim) := fun g1 w1 F cs hx ho hF => by
      have hwr : ∀ c, c ≠ h.length → (wr g1 h.length cs)[c]? = g1[c]? := fun c hc => by
        unfold wr
        rw [List.getElem?_set_ne (Ne.symm hc)]
      have hb3 := cells_keep (hwr bb (by omega)) (hx.cells z3)
      refine ⟨_, ow7 (n0 := h.length) (ho.frame fun c hc => hwr c (by have := (hF c hc).1; omega)) hb3 (by rw [wordsN_len]) (fun c hc => ⟨by have := (hF c hc).1; omega, by have := (hF c hc).1; omega⟩) (by omega), ?_⟩
      rw [hsv]
      unfold lowB hiB
      rw [← hhs]
    have hlb1 : (lowB L w).size = ((L.length * w : Nat) : Int) := rfl
    obtain ⟨lw, hlw⟩ : ∃ lw, lw = L.length * w := ⟨_, rfl⟩
    rw [← hlw] at hend hlb1
    (try (simp (disch := first | omega | (simp <;> omega) | fail) only [push_cast, ↓reduceIte, Nat.reduceEqDiff, Nat.reduceAdd, Nat.reduceMul, Nat.reduceSub, Nat.reduceLT, Int.reduceToNat, hln, z2, reads, List.mem_cons, List.mem_append, List.not_mem_nil, nat_ff, or_self, or_false, false_or, not_false_eq_true]))
    repeat' (with_reducible refine And.intro ?_ ?_)
    all_goals
      refine hfo.goL (.cons hvo (.free free_int .nil)) fun x t g1 hR hx how => ?_
      subst hR
      obtain ⟨w1, F, rfl, f1, f2, f3, f4, f5⟩ := ow_bt how
      have y1 := hx.cells z1
      have y2 := hx.cells z2
      have hw1 : ∀ cs, H.cells (wr g1 h.length cs) h.length = some cs := fun cs => cells_wr2 (cells_lt y1)
      have hfin := fun cs => hend g1 w1 F cs hx f1 f2
      rw [hlb1]
      unfold zero7 at y1
      (try (simp (disch := first | omega | (simp <;> omega) | fail) only [push_cast, ↓reduceIte, Nat.reduceEqDiff, Nat.reduceAdd, Nat.reduceMul, Nat.reduceSub, Nat.reduceLT, Int.reduceToNat, y1, y2, hpm, hw1, f3, f4, reads, List.mem_cons, List.mem_append, List.not_mem_nil, nat_ff, or_self, or_false, false_or, not_false_eq_true]))
      all_goals (try exact hfin _)

theorem c_spec_l1Same (a b : Option (List Int)) : Fn Tryd.prog 120 [eI a, eI b] (· = .bool (decide (lI a = lI b))) := by
  refine Fn.of free_bool fun h => ?_
  refine enter (by kernel_rfl) e120 (by kernel_rfl) rfl fun hok => ?_
  simp only [r120, initEnv_2]
  have ha := ok_eI (okV_0 hok)
  have hb := ok_eI (okV_1 hok)
  (try (simp (disch := first | omega | (simp <;> omega) | fail) only [push_cast, ↓reduceIte, Nat.reduceEqDiff, Nat.reduceAdd, Nat.reduceMul, Nat.reduceSub, Nat.reduceLT, Int.reduceToNat]))
  first | refine goC_split (fun hc => ?_) (fun hc => ?_) | refine cnd_split (fun hc => ?_) (fun hc => ?_)
  · (try (simp only [decide_eq_true_eq, decide_eq_false_iff_not, Bool.not_eq_true', Bool.not_eq_false', Bool.and_eq_true, Bool.or_eq_true, Int.not_lt, Int.not_le] at hc)); (try (simp (disch := first | omega | (simp <;> omega) | fail) only [push_cast, ↓reduceIte, Nat.reduceEqDiff, Nat.reduceAdd, Nat.reduceMul, Nat.reduceSub, Nat.reduceLT, Int.reduceToNat]))
    symm
    rw [decide_eq_false_iff_not]
    intro he
    rw [he] at hc
    exact hc rfl
  have hlen : (lI a).length = (lI b).length := by (try (simp only [decide_eq_true_eq, decide_eq_false_iff_not, Bool.not_eq_true', Bool.not_eq_false', Bool.and_eq_true, Bool.or_eq_true, Int.not_lt, Int.not_le] at hc)); (try (simp (disch := first | omega | (simp <;> omega) | fail) only [push_cast, ↓reduceIte, Nat.reduceEqDiff, Nat.reduceAdd, Nat.reduceMul, Nat.reduceSub, Nat.reduceLT, Int.reduceToNat])); omega
  (try (simp (disch := first | omega | (simp <;> omega) | fail) only [push_cast, ↓reduceIte, Nat.reduceEqDiff, Nat.reduceAdd, Nat.reduceMul, Nat.reduceSub, Nat.reduceLT, Int.reduceToNat]))
  refine T_for (lI a).length (fun i e h' => Pins e [(0, eI a), (1, eI b), (12, .int .i64 (lI a).length), (13, .int .i64 i)] ∧ h' = h ∧ (lI a).take i = (lI b).take i) ?_ ?_
  · (try (simp (disch := first | omega | (simp <;> omega) | fail) only [push_cast, ↓reduceIte, Nat.reduceEqDiff, Nat.reduceAdd, Nat.reduceMul, Nat.reduceSub, Nat.reduceLT, Int.reduceToNat]))
    simp
  rintro i e h' hi ⟨hp, rfl, he⟩
  refine T_pins hp fun e => ?_
  (try (simp (disch := first | omega | (simp <;> omega) | fail) only [push_cast, ↓reduceIte, Nat.reduceEqDiff, Nat.reduceAdd, Nat.reduceMul, Nat.reduceSub, Nat.reduceLT, Int.reduceToNat]))
  first | refine goC_split (fun hc => ?_) (fun hc => ?_) | refine cnd_split (fun hc => ?_) (fun hc => ?_)
  · (try (simp only [decide_eq_true_eq, decide_eq_false_iff_not, Bool.not_eq_true', Bool.not_eq_false', Bool.and_eq_true, Bool.or_eq_true, Int.not_lt, Int.not_le] at hc)); (try (simp (disch := first | omega | (simp <;> omega) | fail) only [push_cast, ↓reduceIte, Nat.reduceEqDiff, Nat.reduceAdd, Nat.reduceMul, Nat.reduceSub, Nat.reduceLT, Int.reduceToNat]))
    have hi : i < (lI a).length := by omega
    (try (simp (disch := first | omega | (simp <;> omega) | fail) only [push_cast, ↓reduceIte, Nat.reduceEqDiff, Nat.reduceAdd, Nat.reduceMul, Nat.reduceSub, Nat.reduceLT, Int.reduceToNat]))
    first | refine goC_split (fun hc => ?_) (fun hc => ?_) | refine cnd_split (fun hc => ?_) (fun hc => ?_)
    · (try (simp only [decide_eq_true_eq, decide_eq_false_iff_not, Bool.not_eq_true', Bool.not_eq_false', Bool.and_eq_true, Bool.or_eq_true, Int.not_lt, Int.not_le] at hc)); (try (simp (disch := first | omega | (simp <;> omega) | fail) only [push_cast, ↓reduceIte, Nat.reduceEqDiff, Nat.reduceAdd, Nat.reduceMul, Nat.reduceSub, Nat.reduceLT, Int.reduceToNat]))
      symm
      rw [decide_eq_false_iff_not]
      intro he
      rw [he] at hc
      exact hc rfl
    · (try (simp only [decide_eq_true_eq, decide_eq_false_iff_not, Bool.not_eq_true', Bool.not_eq_false', Bool.and_eq_true, Bool.or_eq_true, Int.not_lt, Int.not_le] at hc)); (try (simp (disch := first | omega | (simp <;> omega) | fail) only [push_cast, ↓reduceIte, Nat.reduceEqDiff, Nat.reduceAdd, Nat.reduceMul, Nat.reduceSub, Nat.reduceLT, Int.reduceToNat]))
      have h1 : i < (lI b).length := by omega
      simp [hi, h1] at hc
      rw [List.take_add_one, List.take_add_one, he]
      simp [hi, h1, hc]
  · (try (simp only [decide_eq_true_eq, decide_eq_false_iff_not, Bool.not_eq_true', Bool.not_eq_false', Bool.and_eq_true, Bool.or_eq_true, Int.not_lt, Int.not_le] at hc)); (try (simp (disch := first | omega | (simp <;> omega) | fail) only [push_cast, ↓reduceIte, Nat.reduceEqDiff, Nat.reduceAdd, Nat.reduceMul, Nat.reduceSub, Nat.reduceLT, Int.reduceToNat]))
    have hi2 : i = (lI a).length := by omega
    symm
    rw [decide_eq_true_iff]
    rw [hi2, List.take_length] at he
    rw [he, hlen, List.take_length]

def sameB (a b : Bt) : Bool := decide (a.size = b.size) && decide (lI a.words = lI b.words)

theorem c_spec_biSame (a b : Bt) : Fn Tryd.prog 91 [eB a, eB b] (· = .bool (sameB a b)) := by
  refine Fn.of free_bool fun h => ?_
  refine enter (by kernel_rfl) e91 (by kernel_rfl) rfl fun hok => ?_
  simp only [r91, initEnv_2]
  unfold sameB
  cases hs : decide (a.size = b.size)
  · (try (simp (disch := first | omega | (simp <;> omega) | fail) only [push_cast, ↓reduceIte, Nat.reduceEqDiff, Nat.reduceAdd, Nat.reduceMul, Nat.reduceSub, Nat.reduceLT, Int.reduceToNat, hs]))
  (try (simp (disch := first | omega | (simp <;> omega) | fail) only [push_cast, ↓reduceIte, Nat.reduceEqDiff, Nat.reduceAdd, Nat.reduceMul, Nat.reduceSub, Nat.reduceLT, Int.reduceToNat, hs]))
  refine (c_spec_l1Same a.words b.words).call ?_
  (try (simp (disch := first | omega | (simp <;> omega) | fail) only [push_cast, ↓reduceIte, Nat.reduceEqDiff, Nat.reduceAdd, Nat.reduceMul, Nat.reduceSub, Nat.reduceLT, Int.reduceToNat, hs]))

theorem c_slices_Equal_int (a b : Option (List Int)) : Fn Tryd.prog 123 [eI a, eI b] (· = .bool (decide (lI a = lI b))) := by
  refine Fn.of free_bool fun h => ?_
  refine enter (by kernel_rfl) e123 (by kernel_rfl) rfl fun hok => ?_
  simp only [r123, initEnv_2]
  have ha := ok_eI (okV_0 hok)
  have hb := ok_eI (okV_1 hok)
  (try (simp (disch := first | omega | (simp <;> omega) | fail) only [push_cast, ↓reduceIte, Nat.reduceEqDiff, Nat.reduceAdd, Nat.reduceMul, Nat.reduceSub, Nat.reduceLT, Int.reduceToNat]))
  first | refine goC_split (fun hc => ?_) (fun hc => ?_) | refine cnd_split (fun hc => ?_) (fun hc => ?_)
  · (try (simp only [decide_eq_true_eq, decide_eq_false_iff_not, Bool.not_eq_true', Bool.not_eq_false', Bool.and_eq_true, Bool.or_eq_true, Int.not_lt, Int.not_le] at hc)); (try (simp (disch := first | omega | (simp <;> omega) | fail) only [push_cast, ↓reduceIte, Nat.reduceEqDiff, Nat.reduceAdd, Nat.reduceMul, Nat.reduceSub, Nat.reduceLT, Int.reduceToNat]))
    symm
    rw [decide_eq_false_iff_not]
    intro he
    rw [he] at hc
    exact hc rfl
  have hlen : (lI a).length = (lI b).length := by (try (simp only [decide_eq_true_eq, decide_eq_false_iff_not, Bool.not_eq_true', Bool.not_eq_false', Bool.and_eq_true, Bool.or_eq_true, Int.not_lt, Int.not_le] at hc)); (try (simp (disch := first | omega | (simp <;> omega) | fail) only [push_cast, ↓reduceIte, Nat.reduceEqDiff, Nat.reduceAdd, Nat.reduceMul, Nat.reduceSub, Nat.reduceLT, Int.reduceToNat])); omega
  (try (simp (disch := first | omega | (simp <;> omega) | fail) only [push_cast, ↓reduceIte, Nat.reduceEqDiff, Nat.reduceAdd, Nat.reduceMul, Nat.reduceSub, Nat.reduceLT, Int.reduceToNat]))
  refine T_for (lI a).length (fun i e h' => Pins e [(0, eI a), (1, eI b), (11, eI a), (12, .int .i64 (lI a).length), (13, .int .i64 i)] ∧ h' = h ∧ (lI a).take i = (lI b).take i) ?_ ?_
  · (try (simp (disch := first | omega | (simp <;> omega) | fail) only [push_cast, ↓reduceIte, Nat.reduceEqDiff, Nat.reduceAdd, Nat.reduceMul, Nat.reduceSub, Nat.reduceLT, Int.reduceToNat]))
    simp
  rintro i e h' hi ⟨hp, rfl, he⟩
  refine T_pins hp fun e => ?_
  (try (simp (disch := first | omega | (simp <;> omega) | fail) only [push_cast, ↓reduceIte, Nat.reduceEqDiff, Nat.reduceAdd, Nat.reduceMul, Nat.reduceSub, Nat.reduceLT, Int.reduceToNat]))
  first | refine goC_split (fun hc => ?_) (fun hc => ?_) | refine cnd_split (fun hc => ?_) (fun hc => ?_)
  · (try (simp only [decide_eq_true_eq, decide_eq_false_iff_not, Bool.not_eq_true', Bool.not_eq_false', Bool.and_eq_true, Bool.or_eq_true, Int.not_lt, Int.not_le] at hc)); (try (simp (disch := first | omega | (simp <;> omega) | fail) only [push_cast, ↓reduceIte, Nat.reduceEqDiff, Nat.reduceAdd, Nat.reduceMul, Nat.reduceSub, Nat.reduceLT, Int.reduceToNat]))
    have hi : i < (lI a).length := by omega
    (try (simp (disch := first | omega | (simp <;> omega) | fail) only [push_cast, ↓reduceIte, Nat.reduceEqDiff, Nat.reduceAdd, Nat.reduceMul, Nat.reduceSub, Nat.reduceLT, Int.reduceToNat]))
    first | refine goC_split (fun hc => ?_) (fun hc => ?_) | refine cnd_split (fun hc => ?_) (fun hc => ?_)
    · (try (simp only [decide_eq_true_eq, decide_eq_false_iff_not, Bool.not_eq_true', Bool.not_eq_false', Bool.and_eq_true, Bool.or_eq_true, Int.not_lt, Int.not_le] at hc)); (try (simp (disch := first | omega | (simp <;> omega) | fail) only [push_cast, ↓reduceIte, Nat.reduceEqDiff, Nat.reduceAdd, Nat.reduceMul, Nat.reduceSub, Nat.reduceLT, Int.reduceToNat]))
      symm
      rw [decide_eq_false_iff_not]
      intro he
      rw [he] at hc
      exact hc rfl
    · (try (simp only [decide_eq_true_eq, decide_eq_false_iff_not, Bool.not_eq_true', Bool.not_eq_false', Bool.and_eq_true, Bool.or_eq_true, Int.not_lt, Int.not_le] at hc)); (try (simp (disch := first | omega | (simp <;> omega) | fail) only [push_cast, ↓reduceIte, Nat.reduceEqDiff, Nat.reduceAdd, Nat.reduceMul, Nat.reduceSub, Nat.reduceLT, Int.reduceToNat]))
      have h1 : i < (lI b).length := by omega
      simp [hi, h1] at hc
      rw [List.take_add_one, List.take_add_one, he]
      simp [hi, h1, hc]
  · (try (simp only [decide_eq_true_eq, decide_eq_false_iff_not, Bool.not_eq_true', Bool.not_eq_false', Bool.and_eq_true, Bool.or_eq_true, Int.not_lt, Int.not_le] at hc)); (try (simp (disch := first | omega | (simp <;> omega) | fail) only [push_cast, ↓reduceIte, Nat.reduceEqDiff, Nat.reduceAdd, Nat.reduceMul, Nat.reduceSub, Nat.reduceLT, Int.reduceToNat]))
    have hi2 : i = (lI a).length := by omega
    symm
    rw [decide_eq_true_iff]
    rw [hi2, List.take_length] at he
    rw [he, hlen, List.take_length]

theorem c_impl_sameBits (a b : Bt) : Fn Tryd.prog 98 [eB a, eB b] (· = .bool (sameB a b)) := by
  refine Fn.of free_bool fun h => ?_
  refine enter (by kernel_rfl) e98 (by kernel_rfl) rfl fun hok => ?_
  simp only [r98, initEnv_2]
  unfold sameB
  cases hs : decide (a.size = b.size)
  · (try (simp (disch := first | omega | (simp <;> omega) | fail) only [push_cast, ↓reduceIte, Nat.reduceEqDiff, Nat.reduceAdd, Nat.reduceMul, Nat.reduceSub, Nat.reduceLT, Int.reduceToNat, hs]))
  (try (simp (disch := first | omega | (simp <;> omega) | fail) only [push_cast, ↓reduceIte, Nat.reduceEqDiff, Nat.reduceAdd, Nat.reduceMul, Nat.reduceSub, Nat.reduceLT, Int.reduceToNat, hs]))
  refine (c_slices_Equal_int a.words b.words).call ?_
  (try (simp (disch := first | omega | (simp <;> omega) | fail) only [push_cast, ↓reduceIte, Nat.reduceEqDiff, Nat.reduceAdd, Nat.reduceMul, Nat.reduceSub, Nat.reduceLT, Int.reduceToNat, hs]))

def spLs (s : Spa) : List Nat := spL (numW (lI s.high.words)) (numW (lI s.low.words)) s.width.toNat s.count.toNat s.high.size.toNat
def preSp (s : Spa) : Bool := ((decide (0 ≤ s.count) && decide (s.count ≤ 60)) && limOk s.limit) && (decide (s.width = wid s.count.toNat s.limit.toNat) && ((okBt s.low && okBt s.high) && decide (s.low.size = s.width * s.count)))
def midSp (s : Spa) : Bool := decide ((spLs s).length = s.count.toNat) && srt (natI (spLs s)) s.limit
def finSp (s : Spa) : Bool := sameB (lowB (spLs s) s.width.toNat) s.low && sameB (hiB (spLs s) s.limit.toNat s.width.toNat) s.high
def okSp (s : Spa) : Bool := preSp s && (midSp s && finSp s)
theorem preSp_of {s : Spa} (h : preSp s = true) : ∃ cnt lim n : Nat, s.count = (cnt : Int) ∧ s.limit = (lim : Int) ∧ s.width = ((wid cnt lim : Nat) : Int) ∧ s.high.size = (n : Int) ∧ 1 ≤ lim ∧ lim ≤ 100000 ∧ okBt s.low = true ∧ okBt s.high = true ∧ s.low.size = ((cnt * wid cnt lim : Nat) : Int) ∧
    SpO s (numW (lI s.low.words)) (lI s.low.words).length (numW (lI s.high.words)) (lI s.high.words).length cnt (wid cnt lim) n ∧ spLs s = spL (numW (lI s.high.words)) (numW (lI s.low.words)) (wid cnt lim) cnt n := by
  simp only [preSp, limOk, Bool.and_eq_true, decide_eq_true_eq] at h
  obtain ⟨⟨⟨c0, c1⟩, l0, l1⟩, hw, ⟨k1, k2⟩, hls⟩ := h
  obtain ⟨cnt, hc⟩ : ∃ k : Nat, s.count = (k : Int) := ⟨s.count.toNat, by omega⟩
  obtain ⟨lim, hl⟩ : ∃ k : Nat, s.limit = (k : Int) := ⟨s.limit.toNat, by omega⟩
  obtain ⟨a1, a2, a3, a4⟩ := okBt_num k1
  obtain ⟨b1, b2, b3, b4⟩ := okBt_num k2
  obtain ⟨n, hn⟩ : ∃ k : Nat, s.high.size = (k : Int) := ⟨s.high.size.toNat, by omega⟩
  have hw2 : s.width = ((wid cnt lim : Nat) : Int) := by rw [hw, hc, hl]; rfl
  have hcw : s.width * s.count = ((cnt * wid cnt lim : Nat) : Int) := by rw [hw2, hc, Nat.mul_comm]; simp
  have hw16 := wid_le (c := cnt) (l := lim) (by omega)
  refine ⟨cnt, lim, n, hc, hl, hw2, hn, by omega, by omega, k1, k2, by rw [hls, hcw], ⟨a1, b1, hc, hw2, hn, by rw [hls, hcw] at a4; omega, by omega, by omega, hw16, by omega, by omega, by omega⟩, ?_⟩
  unfold spLs
  rw [hc, hw2, hn]
  rfl
theorem or_add {a f w : Nat} (hf : f < 2 ^ w) : a * 2 ^ w ||| f = a * 2 ^ w + f := by
  have := Nat.shiftLeft_add_eq_or_of_lt hf a
  rw [Nat.shiftLeft_eq] at this
  exact this.symm
theorem spL_lt {hb lb w cnt : Nat} : ∀ p, ∀ x ∈ spL hb lb w cnt p, x < p * 2 ^ w + 2 ^ w
  | 0, x, hx => by simp [spL] at hx
  | p + 1, x, hx => by
    rw [spL] at hx
    have hp : (p + 1) * 2 ^ w = p * 2 ^ w + 2 ^ w := by rw [Nat.add_mul, Nat.one_mul]
    have hpos : 0 < 2 ^ w := Nat.two_pow_pos w
    rw [hp]
    split at hx
    · rcases List.mem_append.1 hx with hx | hx
      · have := spL_lt p x hx
        omega
      · simp at hx
        have h1 := fldN_lt (B := lb) (a := (spL hb lb w cnt p).length * w) (w := w)
        have h2 : (p - (spL hb lb w cnt p).length) * 2 ^ w ≤ p * 2 ^ w := Nat.mul_le_mul_right _ (by omega)
        omega
    · have := spL_lt p x hx
      omega

theorem ow_eI {h : H} {x : AV} {w : Option (List Int)} {F : Nat → Prop} (ho : Ow h [x] [eI w] F) : one x = true ∧ cellsOf x = [x] := by
  cases w with
  | none =>
    have : x = .nils := ho.atomOf rfl
    rw [this]
    exact ⟨rfl, rfl⟩
  | some ws =>
    obtain ⟨b, rfl⟩ := Ow.sl1 (show Ow h [x] [.ro 1 _ _] F from ho)
    exact ⟨rfl, rfl⟩
theorem ow_sp {h : H} {x : AV} {s : Spa} {G : Nat → Prop} (ho : Ow h [x] [eSp s] G) : ∃ x5 x7 F5 F7, x = .agg [.int .i64 s.count, .int .i64 s.limit, .int .i64 s.width, .int .i64 s.low.size, x5, .int .i64 s.high.size, x7] ∧ Ow h [x5] [eI s.low.words] F5 ∧ Ow h [x7] [eI s.high.words] F7 ∧ (∀ c, F5 c → G c) ∧ (∀ c, F7 c → G c ∧ ¬ F5 c) ∧
    ∀ h' w5 w7, Ow h' [x5] [eI w5] F5 → Ow h' [x7] [eI w7] F7 → Ow h' [x] [eSp ⟨s.count, s.limit, s.width, ⟨s.low.size, w5⟩, ⟨s.high.size, w7⟩⟩] G := by
  obtain ⟨cs, rfl, h1⟩ := Ow.openAgg (show Ow h [x] [.agg (cSp s)] G from ho)
  have hl : cs.length = 7 := h1.len.symm
  match cs, hl, h1 with
  | [x1, x2, x3, x4, x5, x6, x7], _, h1 =>
    obtain ⟨_, G2, f1, h2, _, g2⟩ := h1.uncons
    obtain ⟨_, G3, f2, h3, _, g3⟩ := h2.uncons
    obtain ⟨_, G4, f3, h4, _, g4⟩ := h3.uncons
    obtain ⟨_, G5, f4, h5, _, g5⟩ := h4.uncons
    obtain ⟨F5, G6, f5, h6, e5, g6⟩ := h5.uncons
    obtain ⟨_, G7, f6, h7, _, g7⟩ := h6.uncons
    have a1 : x1 = .int .i64 s.count := f1.atomOf rfl
    have a2 : x2 = .int .i64 s.limit := f2.atomOf rfl
    have a3 : x3 = .int .i64 s.width := f3.atomOf rfl
    have a4 : x4 = .int .i64 s.low.size := f4.atomOf rfl
    have a6 : x6 = .int .i64 s.high.size := f6.atomOf rfl
    subst a1 a2 a3 a4 a6
    have up : ∀ c, G5 c → G c := fun c hc => (g2 c (g3 c (g4 c (g5 c hc).1).1).1).1
    refine ⟨x5, x7, F5, G7, rfl, f5, h7, fun c hc => up c (e5 c hc), fun c hc => ?_, fun h' w5 w7 o5 o7 => ?_⟩
    · have h8 := g6 c (g7 c hc).1
      exact ⟨up c h8.1, h8.2⟩
    · refine Ow.aggOf (ts := cSp ⟨s.count, s.limit, s.width, ⟨s.low.size, w5⟩, ⟨s.high.size, w7⟩⟩) (.atom rfl (.atom rfl (.atom rfl (.atom rfl ?_))))
      exact o5.cons (F' := G7) (.atom rfl o7) (fun c hc => up c (e5 c hc)) (fun c hc => by
        have h8 := g6 c (g7 c hc).1
        exact ⟨up c h8.1, h8.2⟩)

theorem c_impl_Sparse_numbers_o (s : Spa) : FnO Tryd.prog 60 [.rad (cSp s) 0] (fun x => ∃ o, x = .tup [eI o, .bool (okSp s)] ∧ (okSp s = true → lI o = natI (spLs s)) ∧ (lI o).length ≤ 60 ∧ ∀ m ∈ lI o, inR m) := by
  intro h
  obtain ⟨sc, sl, sw, ⟨ls, lws⟩, ⟨hz, hws⟩⟩ := s
  refine enter (by kernel_rfl) e60 (by kernel_rfl) rfl fun hok => ?_
  simp only [r60, initEnv_1]
  have hnone : ∀ {hh : H}, okSp ⟨sc, sl, sw, ⟨ls, lws⟩, ⟨hz, hws⟩⟩ = false → ∃ t, Ow hh [.tup [.nils, .bool false]] [t] (fun c => h.length ≤ c) ∧ ∃ o, t = .tup [eI o, .bool (okSp ⟨sc, sl, sw, ⟨ls, lws⟩, ⟨hz, hws⟩⟩)] ∧ (okSp ⟨sc, sl, sw, ⟨ls, lws⟩, ⟨hz, hws⟩⟩ = true → lI o = natI (spLs ⟨sc, sl, sw, ⟨ls, lws⟩, ⟨hz, hws⟩⟩)) ∧ (lI o).length ≤ 60 ∧ ∀ m ∈ lI o, inR m := fun h1 => ⟨.tup [.nils, .bool false], (Ow.two (F := fun _ => False) (F' := fun _ => False) (.atom rfl .nil) (.atom rfl .nil) (fun c (hc : False) => hc.elim) (fun _ h => h.elim)).tupOf, none, by rw [h1]; rfl, (fun h5 => by rw [h1] at h5; cases h5), by simp [lI], fun m hm => by simp [lI] at hm⟩
  have hpre : preSp ⟨sc, sl, sw, ⟨ls, lws⟩, ⟨hz, hws⟩⟩ = false → okSp ⟨sc, sl, sw, ⟨ls, lws⟩, ⟨hz, hws⟩⟩ = false := fun h1 => by unfold okSp; rw [h1]; rfl
  have hWF := c_impl_WidthFor sc sl
  (try (simp (disch := first | omega | (simp <;> omega) | fail) only [push_cast, ↓reduceIte, Nat.reduceEqDiff, Nat.reduceAdd, Nat.reduceMul, Nat.reduceSub, Nat.reduceLT, Int.reduceToNat]))
  refine hWF.call ?_
  cases h1 : ((decide (0 ≤ sc) && decide (sc ≤ 60)) && limOk sl)
  · have hl := hpre (by unfold preSp; rw [h1]; rfl)
    (try (simp (disch := first | omega | (simp <;> omega) | fail) only [push_cast, ↓reduceIte, Nat.reduceEqDiff, Nat.reduceAdd, Nat.reduceMul, Nat.reduceSub, Nat.reduceLT, Int.reduceToNat]))
    all_goals (try exact hnone hl)
  simp only [if_true]
  by_cases hw : sw = ((wid sc.toNat sl.toNat : Nat) : Int)
  · have hweq : ((wid sc.toNat sl.toNat : Nat) : Int) = sw := hw.symm
    have hw16 := wid_le (c := sc.toNat) (l := sl.toNat) (by simp only [limOk, Bool.and_eq_true, decide_eq_true_eq] at h1; omega)
    rw [hweq]
    (try (simp (disch := first | omega | (simp <;> omega) | fail) only [push_cast, ↓reduceIte, Nat.reduceEqDiff, Nat.reduceAdd, Nat.reduceMul, Nat.reduceSub, Nat.reduceLT, Int.reduceToNat, reads, List.mem_cons, List.mem_append, List.not_mem_nil, nat_ff, or_self, or_false, false_or, not_false_eq_true]))
    refine (c_impl_IsBits ⟨ls, lws⟩).call ?_
    cases k1 : okBt ⟨ls, lws⟩
    · have hl := hpre (by unfold preSp; rw [k1]; simp)
      (try (simp (disch := first | omega | (simp <;> omega) | fail) only [push_cast, ↓reduceIte, Nat.reduceEqDiff, Nat.reduceAdd, Nat.reduceMul, Nat.reduceSub, Nat.reduceLT, Int.reduceToNat]))
      all_goals (try exact hnone hl)
    (try (simp (disch := first | omega | (simp <;> omega) | fail) only [push_cast, ↓reduceIte, Nat.reduceEqDiff, Nat.reduceAdd, Nat.reduceMul, Nat.reduceSub, Nat.reduceLT, Int.reduceToNat, reads, List.mem_cons, List.mem_append, List.not_mem_nil, nat_ff, or_self, or_false, false_or, not_false_eq_true]))
    refine (c_impl_IsBits ⟨hz, hws⟩).call ?_
    cases k2 : okBt ⟨hz, hws⟩
    · have hl := hpre (by unfold preSp; rw [k2]; simp)
      (try (simp (disch := first | omega | (simp <;> omega) | fail) only [push_cast, ↓reduceIte, Nat.reduceEqDiff, Nat.reduceAdd, Nat.reduceMul, Nat.reduceSub, Nat.reduceLT, Int.reduceToNat]))
      all_goals (try exact hnone hl)
    have hcb : 0 ≤ sc ∧ sc ≤ 60 := by simp only [Bool.and_eq_true, decide_eq_true_eq] at h1; omega
    have hmb := mul_bd (x := sw) (y := sc) (a := 16) (b := 60) (by omega) (by omega) (by omega) (by omega)
    by_cases hsz : ls = sw * sc
    · have hp : preSp ⟨sc, sl, sw, ⟨ls, lws⟩, ⟨hz, hws⟩⟩ = true := by unfold preSp; rw [h1, k1, k2, decide_eq_true hw, decide_eq_true hsz]; rfl
      obtain ⟨cnt, lim, n, e1, e2, e3, e4, e5, e6, e7, e8, e9, ho, hls⟩ := preSp_of hp
      simp only at e1 e2 e3 e4 e7 e8 e9
      obtain ⟨w, hwd⟩ : ∃ w, w = wid cnt lim := ⟨_, rfl⟩
      rw [← hwd] at e3 e9 ho hls
      subst e1 e2 e3 e4
      obtain ⟨o1, o2, o3, o4, o5, o6, o7, o8, o9, o10, o11, o12⟩ := ho
      simp only at o1 o2
      obtain ⟨lb, hlb⟩ : ∃ lb, lb = numW (lI lws) := ⟨_, rfl⟩
      obtain ⟨hb, hhb⟩ : ∃ hb, hb = numW (lI hws) := ⟨_, rfl⟩
      obtain ⟨ml, hml⟩ : ∃ ml, ml = (lI lws).length := ⟨_, rfl⟩
      obtain ⟨mh, hmh⟩ : ∃ mh, mh = (lI hws).length := ⟨_, rfl⟩
      simp only at hls o6 o7 o11 o12
      rw [← hlb, ← hml] at o1
      rw [← hhb, ← hmh] at o2
      rw [← hml] at o6 o11
      rw [← hmh] at o7 o12
      rw [← hlb, ← hhb] at hls
      have hws5 : (cSp ⟨(cnt : Int), (lim : Int), (w : Int), ⟨ls, lws⟩, ⟨(n : Int), hws⟩⟩)[5 + 1]? = some (eI hws) := rfl
      have hws3 : (cSp ⟨(cnt : Int), (lim : Int), (w : Int), ⟨ls, lws⟩, ⟨(n : Int), hws⟩⟩)[3 + 1]? = some (eI lws) := rfl
      have hdz : decide (ls = (w : Int) * (cnt : Int)) = true := decide_eq_true hsz
      (try (simp (disch := first | omega | (simp <;> omega) | fail) only [push_cast, ↓reduceIte, Nat.reduceEqDiff, Nat.reduceAdd, Nat.reduceMul, Nat.reduceSub, Nat.reduceLT, Int.reduceToNat, hdz]))
      refine T_for n (fun i e h' => ∃ v, Pins e [(0, .rad (cSp ⟨(cnt : Int), (lim : Int), (w : Int), ⟨ls, lws⟩, ⟨(n : Int), hws⟩⟩) 0), (4, .int .i64 w), (6, v), (67, .int .i64 n), (68, .int .i64 i)] ∧ LsI h.length h' v (spL hb lb w cnt i)) ?_ ?_
      · refine ⟨.sl h.length 0 1 0 0, ?_⟩
        have hini : LsI h.length (h ++ [some (.cells [])]) (.sl h.length 0 1 0 0) (spL hb lb w cnt 0) := ⟨by simp, [h.length], ⟨by simp [spL, natI], .inr ⟨h.length, rfl, rfl, by rw [cells_h0]; rfl⟩⟩, by simp⟩
        (try (simp (disch := first | omega | (simp <;> omega) | fail) only [push_cast, ↓reduceIte, Nat.reduceEqDiff, Nat.reduceAdd, Nat.reduceMul, Nat.reduceSub, Nat.reduceLT, Int.reduceToNat]))
        all_goals (try exact hini)
      rintro i e h' hi ⟨v, hp2, hs⟩
      refine T_pins hp2 fun e => ?_
      have hlen := hs.len
      obtain ⟨l1, l2⟩ := spL_len (hb := hb) (lb := lb) (w := w) (cnt := cnt) i
      obtain ⟨L, hL⟩ : ∃ L, L = spL hb lb w cnt i := ⟨_, rfl⟩
      have hsu : spL hb lb w cnt (i + 1) = if hb.testBit i = true ∧ L.length < cnt then L ++ [(i - L.length) * 2 ^ w + fldN lb (L.length * w) w] else L := by rw [spL, ← hL]
      rw [← hL] at hs hlen l1 l2
      (try (simp (disch := first | omega | (simp <;> omega) | fail) only [push_cast, ↓reduceIte, Nat.reduceEqDiff, Nat.reduceAdd, Nat.reduceMul, Nat.reduceSub, Nat.reduceLT, Int.reduceToNat]))
      first | refine goC_split (fun hc => ?_) (fun hc => ?_) | refine cnd_split (fun hc => ?_) (fun hc => ?_)
      · (try (simp only [decide_eq_true_eq, decide_eq_false_iff_not, Bool.not_eq_true', Bool.not_eq_false', Bool.and_eq_true, Bool.or_eq_true, Int.not_lt, Int.not_le] at hc)); (try (simp (disch := first | omega | (simp <;> omega) | fail) only [push_cast, ↓reduceIte, Nat.reduceEqDiff, Nat.reduceAdd, Nat.reduceMul, Nat.reduceSub, Nat.reduceLT, Int.reduceToNat]))
        have hin : i < n := by omega
        (try (simp (disch := first | omega | (simp <;> omega) | fail) only [push_cast, ↓reduceIte, Nat.reduceEqDiff, Nat.reduceAdd, Nat.reduceMul, Nat.reduceSub, Nat.reduceLT, Int.reduceToNat, hlen]))
        refine (c_impl_Bits_at hws hb mh i _ 5 hws5 o2 (by omega) (by omega)).call ?_
        cases hbt : hb.testBit i
        · rw [hbt] at hsu
          have hsu2 : spL hb lb w cnt (i + 1) = L := by rw [hsu]; simp
          (try (simp (disch := first | omega | (simp <;> omega) | fail) only [push_cast, ↓reduceIte, Nat.reduceEqDiff, Nat.reduceAdd, Nat.reduceMul, Nat.reduceSub, Nat.reduceLT, Int.reduceToNat]))
          all_goals (try (rw [hsu2]))
          all_goals (try exact ⟨_, rfl, hs⟩)
          all_goals (try exact ⟨_, hs⟩)
          all_goals (try exact hs)
        by_cases hlc : L.length < cnt
        · have hlw : L.length * w ≤ 60 * 16 := Nat.mul_le_mul (by omega) o9
          have hlw2 : L.length * w + w ≤ 16 * ml := by
            have : (L.length + 1) * w ≤ cnt * w := Nat.mul_le_mul_right _ (by omega)
            rw [Nat.add_mul, Nat.one_mul] at this
            omega
          have hmul : (L.length : Int) * (w : Int) = ((L.length * w : Nat) : Int) := by simp
          have hpw : 2 ^ w ≤ 2 ^ 16 := Nat.pow_le_pow_right (by decide) o9
          have hgl : (i - L.length) * 2 ^ w ≤ 4096 * 2 ^ 16 := Nat.mul_le_mul (by omega) hpw
          have hsh : IntKind.i64.wrap (((i : Int) - (L.length : Int)) * 2 ^ (min w IntKind.i64.bits)) = (((i - L.length) * 2 ^ w : Nat) : Int) := by
            have := shlN (a := i - L.length) (b := w) (by omega) (by omega)
            rw [← this]
            congr 2
            omega
          have hfl := fldN_lt (B := lb) (a := L.length * w) (w := w)
          have hora := or_add (a := i - L.length) (f := fldN lb (L.length * w) w) (w := w) hfl
          have horb := bitsI_or (x := (i - L.length) * 2 ^ w) (y := fldN lb (L.length * w) w) (by omega) (by omega)
          rw [hora] at horb
          obtain ⟨lw, hlwd⟩ : ∃ lw, lw = L.length * w := ⟨_, rfl⟩
          obtain ⟨g, hg⟩ : ∃ g, g = (i - L.length) * 2 ^ w := ⟨_, rfl⟩
          rw [← hlwd] at hlw hlw2 hmul hfl hsu horb
          rw [← hg] at hgl hsh hsu horb
          obtain ⟨f, hf⟩ : ∃ f, f = fldN lb lw w := ⟨_, rfl⟩
          have hfd := c_impl_Bits_field lws lb ml lw w _ 3 hws3 o1 hlw2 (by omega) (by omega)
          rw [← hf] at hfl hsu horb hfd
          obtain ⟨y, hy⟩ : ∃ y, y = g + f := ⟨_, rfl⟩
          rw [← hy] at hsu horb
          rw [hbt] at hsu
          have hsu2 : spL hb lb w cnt (i + 1) = L ++ [y] := by rw [hsu, if_pos ⟨rfl, hlc⟩]
          have hc2 : decide ((L.length : Int) < (cnt : Int)) = true := by simp [hlc]
          (try (simp (disch := first | omega | (simp <;> omega) | fail) only [push_cast, ↓reduceIte, Nat.reduceEqDiff, Nat.reduceAdd, Nat.reduceMul, Nat.reduceSub, Nat.reduceLT, Int.reduceToNat, hc2, hsh, hmul]))
          refine hfd.call ?_
          (try (simp (disch := first | omega | (simp <;> omega) | fail) only [push_cast, ↓reduceIte, Nat.reduceEqDiff, Nat.reduceAdd, Nat.reduceMul, Nat.reduceSub, Nat.reduceLT, Int.reduceToNat, horb, reads, List.mem_cons, List.mem_append, List.not_mem_nil, nat_ff, or_self, or_false, false_or, not_false_eq_true]))
          refine hs.app (fun c hc => by first | exact Or.inr (by omega) | exact ⟨Or.inr (by omega), by omega⟩ | exact ⟨Or.inr (by omega), by simp; omega⟩) (by omega) fun v' h'' q1 q2 q3 => ?_
          rw [← hsu2] at q1
          (try (simp (disch := first | omega | (simp <;> omega) | fail) only [push_cast, ↓reduceIte, Nat.reduceEqDiff, Nat.reduceAdd, Nat.reduceMul, Nat.reduceSub, Nat.reduceLT, Int.reduceToNat]))
          all_goals (try exact ⟨_, rfl, q1⟩)
          all_goals (try exact ⟨_, q1⟩)
          all_goals (try exact q1)
        · have hc2 : decide ((L.length : Int) < (cnt : Int)) = false := by simp; omega
          rw [if_neg (fun h5 => hlc h5.2)] at hsu
          (try (simp (disch := first | omega | (simp <;> omega) | fail) only [push_cast, ↓reduceIte, Nat.reduceEqDiff, Nat.reduceAdd, Nat.reduceMul, Nat.reduceSub, Nat.reduceLT, Int.reduceToNat, hc2]))
          all_goals (try (rw [hsu]))
          all_goals (try exact ⟨_, rfl, hs⟩)
          all_goals (try exact ⟨_, hs⟩)
          all_goals (try exact hs)
      · (try (simp only [decide_eq_true_eq, decide_eq_false_iff_not, Bool.not_eq_true', Bool.not_eq_false', Bool.and_eq_true, Bool.or_eq_true, Int.not_lt, Int.not_le] at hc)); (try (simp (disch := first | omega | (simp <;> omega) | fail) only [push_cast, ↓reduceIte, Nat.reduceEqDiff, Nat.reduceAdd, Nat.reduceMul, Nat.reduceSub, Nat.reduceLT, Int.reduceToNat]))
        have hie : i = n := by omega
        subst hie
        rw [← hL] at hls
        obtain ⟨oo, hvo, hlo⟩ := hs.vw (n := 0) (Nat.zero_le _)
        obtain ⟨o2', hvo2, hlo2⟩ := hs.vw (n := h.length) (Nat.le_refl _)
        have hxL : ∀ x ∈ L, x < 100000000000 := fun x hx => by
          have h5 := spL_lt i x (by rw [← hL]; exact hx)
          have h6 : 2 ^ w ≤ 2 ^ 16 := Nat.pow_le_pow_right (by decide) o9
          have h7 : i * 2 ^ w ≤ 4096 * 2 ^ 16 := Nat.mul_le_mul o10 h6
          omega
        have hrng : ∀ m ∈ natI L, inR m := fun m hm => by
          obtain ⟨x, hx, rfl⟩ := List.mem_map.1 hm
          have := hxL x hx
          unfold inR
          omega
        have hl60 : (natI L).length ≤ 60 := by rw [natI_len]; omega
        have hres : ∀ (hh : H) (b : Bool), (∀ c, h.length ≤ c → c < h'.length → hh[c]? = h'[c]?) → okSp ⟨(cnt : Int), (lim : Int), (w : Int), ⟨ls, lws⟩, ⟨(i : Int), hws⟩⟩ = b → ∃ t, Ow hh [.tup [v, .bool b]] [t] (fun c => h.length ≤ c) ∧ ∃ o, t = .tup [eI o, .bool (okSp ⟨(cnt : Int), (lim : Int), (w : Int), ⟨ls, lws⟩, ⟨(i : Int), hws⟩⟩)] ∧ (okSp ⟨(cnt : Int), (lim : Int), (w : Int), ⟨ls, lws⟩, ⟨(i : Int), hws⟩⟩ = true → lI o = natI (spLs ⟨(cnt : Int), (lim : Int), (w : Int), ⟨ls, lws⟩, ⟨(i : Int), hws⟩⟩)) ∧ (lI o).length ≤ 60 ∧ ∀ m ∈ lI o, inR m := fun hh b hk hb2 => by
          have hs3 : LsI h.length hh v L ∨ True := .inr trivial
          obtain ⟨_, B, hS, hB⟩ := id hs
          have hS2 := hS.frame (h' := hh) fun c hc => hk c (hB c hc) (hS.lt c hc)
          rcases hS2.2 with ⟨rfl, h0, _⟩ | ⟨b2, rfl, hbb, hcb⟩
          · have hL0 : L = [] := List.length_eq_zero_iff.1 h0
            refine ⟨.tup [eI none, .bool b], (Ow.two (F := fun _ => False) (F' := fun _ => False) (.atom rfl .nil) (.atom rfl .nil) (fun c (hc : False) => hc.elim) (fun _ h => h.elim)).tupOf, none, by rw [hb2], fun _ => by rw [hls, hL0]; rfl, by simp [lI], fun m hm => by simp [lI] at hm⟩
          · have ho2 : Ow hh [.sl b2 0 1 L.length L.length] [.ro 1 ((natI L).map (.int .i64)) L.length] (fun c => h.length ≤ c) := ow_map (f := AV.int .i64) (fun _ => rfl) hcb natI_len (hB b2 (by rw [hbb]; simp))
            refine ⟨_, (Ow.two (F' := fun _ => False) ho2 (.atom rfl .nil) (fun c hc => hc) (fun _ h => h.elim)).tupOf, some (natI L), ?_, fun _ => by rw [hls]; rfl, hl60, hrng⟩
            rw [hb2]
            show AV.tup [.ro 1 ((natI L).map (.int .i64)) L.length, .bool b] = AV.tup [.ro 1 ((natI L).map (.int .i64)) (natI L).length, .bool b]
            rw [natI_len]
        have hmid : midSp ⟨(cnt : Int), (lim : Int), (w : Int), ⟨ls, lws⟩, ⟨(i : Int), hws⟩⟩ = (decide (L.length = cnt) && srt (natI L) lim) := by
          unfold midSp
          rw [hls]
          rfl
        have hfin : finSp ⟨(cnt : Int), (lim : Int), (w : Int), ⟨ls, lws⟩, ⟨(i : Int), hws⟩⟩ = (sameB (lowB L w) ⟨ls, lws⟩ && sameB (hiB L lim w) ⟨(i : Int), hws⟩) := by
          unfold finSp
          rw [hls]
          rfl
        have hok2 : okSp ⟨(cnt : Int), (lim : Int), (w : Int), ⟨ls, lws⟩, ⟨(i : Int), hws⟩⟩ = ((decide (L.length = cnt) && srt (natI L) lim) && (sameB (lowB L w) ⟨ls, lws⟩ && sameB (hiB L lim w) ⟨(i : Int), hws⟩)) := by
          unfold okSp
          rw [hp, hmid, hfin]
          rfl
        by_cases hlc : L.length = cnt
        · have hd1 : decide ((L.length : Int) = (cnt : Int)) = true := by simp [hlc]
          rw [decide_eq_true hlc, Bool.true_and] at hok2
          (try (simp (disch := first | omega | (simp <;> omega) | fail) only [push_cast, ↓reduceIte, Nat.reduceEqDiff, Nat.reduceAdd, Nat.reduceMul, Nat.reduceSub, Nat.reduceLT, Int.reduceToNat, hlen, hd1]))
          refine (c_impl_sortedOk oo lim (by omega) (by omega)).lendL (.cons hvo (.free free_int .nil)) own_bool ?_
          rw [hlo]
          cases hsr : srt (natI L) lim
          · rw [hsr] at hok2
            have hl := hok2
            simp only [Bool.false_and] at hl
            (try (simp (disch := first | omega | (simp <;> omega) | fail) only [push_cast, ↓reduceIte, Nat.reduceEqDiff, Nat.reduceAdd, Nat.reduceMul, Nat.reduceSub, Nat.reduceLT, Int.reduceToNat]))
            all_goals (try exact hnone hl)
          · rw [hsr, Bool.true_and] at hok2
            obtain ⟨s1, s2, s3, s4⟩ := srt_in hsr
            rw [natI_len] at s1 s4
            have hlt : ∀ j, j < L.length → L.getD j 0 < lim := fun j hj => by
              have := (s4 j hj).2
              rw [natI_get] at this
              omega
            have hwl : wid L.length lim = w := by rw [hlc, hwd]
            have hspo := c_impl_sparse_o L lim oo hlo s1 e5 e6 hlt
            have hsv : spV L lim = ⟨L.length, lim, w, lowB L w, hiB L lim w⟩ := by unfold spV; rw [hwl]
            rw [hsv] at hspo
            (try (simp (disch := first | omega | (simp <;> omega) | fail) only [push_cast, ↓reduceIte, Nat.reduceEqDiff, Nat.reduceAdd, Nat.reduceMul, Nat.reduceSub, Nat.reduceLT, Int.reduceToNat]))
            refine hspo.goL (.cons hvo (.free free_int .nil)) fun x t g1 hR hx how => ?_
            subst hR
            obtain ⟨x5, x7, F5, F7, rfl, p5, p7, u5, u7, _⟩ := ow_sp how
            obtain ⟨c1, c2⟩ := ow_eI p5
            obtain ⟨c3, c4⟩ := ow_eI p7
            have v5 : ∀ l, Vw (g1 ++ l) 0 (.agg [.int .i64 (lowB L w).size, x5]) (eB (lowB L w)) := fun l => .agg rfl fun j y t hy ht => by
              rcases j with _ | _ | j
              · simp [cB] at hy ht
                subst hy ht
                exact .free free_int
              · simp [cB] at hy ht
                subst hy ht
                exact (p5.frame (h' := g1 ++ l) fun c hc => List.getElem?_append_left (u5 c hc).2).vw0
              · simp at hy
            have v7 : ∀ l, Vw (g1 ++ l) 0 (.agg [.int .i64 (hiB L lim w).size, x7]) (eB (hiB L lim w)) := fun l => .agg rfl fun j y t hy ht => by
              rcases j with _ | _ | j
              · simp [cB] at hy ht
                subst hy ht
                exact .free free_int
              · simp [cB] at hy ht
                subst hy ht
                exact (p7.frame (h' := g1 ++ l) fun c hc => List.getElem?_append_left (u7 c hc).1.2).vw0
              · simp at hy
            have hl1 := hx.len
            simp only
            generalize (lowB L w) = lB at *
            generalize (hiB L lim w) = hB2 at *
            have hkk : ∀ l : H, ∀ c, h.length ≤ c → c < h'.length → (g1 ++ l)[c]? = h'[c]? := fun l c _ hc => (List.getElem?_append_left (by omega)).trans (hx.at_ hc)
            have hlg : h.length ≤ g1.length := by have := hs.1; omega
            have hpm9 : (h.length ≤ g1.length) = True := eq_true hlg
            (try (simp (disch := first | omega | (simp <;> omega) | fail) only [push_cast, ↓reduceIte, Nat.reduceEqDiff, Nat.reduceAdd, Nat.reduceMul, Nat.reduceSub, Nat.reduceLT, Int.reduceToNat, c1, c2, c3, c4, hpm9, or_true, true_and, reads, List.mem_cons, List.mem_append, List.not_mem_nil, nat_ff, or_self, or_false, false_or, not_false_eq_true]))
            refine (c_impl_sameBits lB ⟨ls, lws⟩).lendL (.cons (v5 _) (.free (free_eB (b := ⟨ls, lws⟩)) .nil)) own_bool ?_
            cases hs1 : sameB lB ⟨ls, lws⟩
            · rw [hs1, Bool.false_and] at hok2
              have hfn := fun l => hres (g1 ++ l) false (hkk l) hok2
              (try (simp (disch := first | omega | (simp <;> omega) | fail) only [push_cast, ↓reduceIte, Nat.reduceEqDiff, Nat.reduceAdd, Nat.reduceMul, Nat.reduceSub, Nat.reduceLT, Int.reduceToNat, c1, c2, c3, c4, reads, List.mem_cons, List.mem_append, List.not_mem_nil, nat_ff, or_self, or_false, false_or, not_false_eq_true]))
              all_goals (try exact hfn _)
            · rw [hs1, Bool.true_and] at hok2
              (try (simp (disch := first | omega | (simp <;> omega) | fail) only [push_cast, ↓reduceIte, Nat.reduceEqDiff, Nat.reduceAdd, Nat.reduceMul, Nat.reduceSub, Nat.reduceLT, Int.reduceToNat, c1, c2, c3, c4, reads, List.mem_cons, List.mem_append, List.not_mem_nil, nat_ff, or_self, or_false, false_or, not_false_eq_true]))
              refine (c_impl_sameBits hB2 ⟨(i : Int), hws⟩).lendL (.cons (v7 _) (.free (free_eB (b := ⟨(i : Int), hws⟩)) .nil)) own_bool ?_
              have hfn := fun l => hres (g1 ++ l) _ (hkk l) hok2
              (try (simp (disch := first | omega | (simp <;> omega) | fail) only [push_cast, ↓reduceIte, Nat.reduceEqDiff, Nat.reduceAdd, Nat.reduceMul, Nat.reduceSub, Nat.reduceLT, Int.reduceToNat, c1, c2, c3, c4, reads, List.mem_cons, List.mem_append, List.not_mem_nil, nat_ff, or_self, or_false, false_or, not_false_eq_true]))
              all_goals (try exact hfn _)
        · have hd1 : decide ((L.length : Int) = (cnt : Int)) = false := by simp; omega
          rw [decide_eq_false hlc] at hok2
          have hl := hok2
          simp only [Bool.false_and] at hl
          (try (simp (disch := first | omega | (simp <;> omega) | fail) only [push_cast, ↓reduceIte, Nat.reduceEqDiff, Nat.reduceAdd, Nat.reduceMul, Nat.reduceSub, Nat.reduceLT, Int.reduceToNat, hlen, hd1]))
          all_goals (try exact hnone hl)
    · have hl := hpre (by unfold preSp; rw [decide_eq_false hsz]; simp)
      (try (simp (disch := first | omega | (simp <;> omega) | fail) only [push_cast, ↓reduceIte, Nat.reduceEqDiff, Nat.reduceAdd, Nat.reduceMul, Nat.reduceSub, Nat.reduceLT, Int.reduceToNat, hsz]))
      all_goals (try exact hnone hl)
  · have hl := hpre (by unfold preSp; rw [decide_eq_false hw]; simp)
    have hw2 : ¬ ((wid sc.toNat sl.toNat : Nat) : Int) = sw := fun h5 => hw h5.symm
    (try (simp (disch := first | omega | (simp <;> omega) | fail) only [push_cast, ↓reduceIte, Nat.reduceEqDiff, Nat.reduceAdd, Nat.reduceMul, Nat.reduceSub, Nat.reduceLT, Int.reduceToNat, hw2, reads, List.mem_cons, List.mem_append, List.not_mem_nil, nat_ff, or_self, or_false, false_or, not_false_eq_true]))
    all_goals (try exact hnone hl)

end Go.Proofs.YtoappkfndnggnaaDoor.M
