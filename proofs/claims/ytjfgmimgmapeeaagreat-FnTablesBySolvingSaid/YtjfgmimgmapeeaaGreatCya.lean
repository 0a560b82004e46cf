/-
  What the functions return.
-/
import Derived.Test.YtjfgmimgmapeeaaGreatFya
import Derived.Lib.ItoaLen
namespace Go.Proofs.YtjfgmimgmapeeaaGreat.M
open Go Go.RowKit
set_option linter.unusedVariables false
set_option linter.unusedSimpArgs false
set_option maxRecDepth 4000

theorem c_spec_l1In (n lo hi : Int) : Fn Tryz.prog 57 [.int .i64 n, .int .i64 lo, .int .i64 hi] (· = .bool (decide (lo ≤ n) && decide (n ≤ hi))) := by
  refine Fn.of free_bool fun h => ?_
  refine enter (by kernel_rfl) e57 (by kernel_rfl) rfl fun hok => ?_
  simp only [r57, initEnv_3]
  (try (simp (disch := first | omega | (simp <;> omega) | fail) only [push_cast, ↓reduceIte, Nat.reduceEqDiff, Nat.reduceAdd, Nat.reduceMul, Nat.reduceSub, Nat.reduceLT, Int.reduceToNat]))
  first | refine goC_split (fun hc => ?_) (fun hc => ?_) | refine cnd_split (fun hc => ?_) (fun hc => ?_)
  · (try (simp only [decide_eq_true_eq, decide_eq_false_iff_not, Bool.not_eq_true', Bool.not_eq_false', Bool.and_eq_true, Bool.or_eq_true, Int.not_lt, Int.not_le] at hc)); (try (simp (disch := first | omega | (simp <;> omega) | fail) only [push_cast, ↓reduceIte, Nat.reduceEqDiff, Nat.reduceAdd, Nat.reduceMul, Nat.reduceSub, Nat.reduceLT, Int.reduceToNat]))
    first | refine goC_split (fun hd => ?_) (fun hd => ?_) | refine cnd_split (fun hd => ?_) (fun hd => ?_)
    · (try (simp only [decide_eq_true_eq, decide_eq_false_iff_not, Bool.not_eq_true', Bool.not_eq_false', Bool.and_eq_true, Bool.or_eq_true, Int.not_lt, Int.not_le] at hd)); (try (simp (disch := first | omega | (simp <;> omega) | fail) only [push_cast, ↓reduceIte, Nat.reduceEqDiff, Nat.reduceAdd, Nat.reduceMul, Nat.reduceSub, Nat.reduceLT, Int.reduceToNat]))
    · (try (simp only [decide_eq_true_eq, decide_eq_false_iff_not, Bool.not_eq_true', Bool.not_eq_false', Bool.and_eq_true, Bool.or_eq_true, Int.not_lt, Int.not_le] at hd)); (try (simp (disch := first | omega | (simp <;> omega) | fail) only [push_cast, ↓reduceIte, Nat.reduceEqDiff, Nat.reduceAdd, Nat.reduceMul, Nat.reduceSub, Nat.reduceLT, Int.reduceToNat]))
  · (try (simp only [decide_eq_true_eq, decide_eq_false_iff_not, Bool.not_eq_true', Bool.not_eq_false', Bool.and_eq_true, Bool.or_eq_true, Int.not_lt, Int.not_le] at hc)); (try (simp (disch := first | omega | (simp <;> omega) | fail) only [push_cast, ↓reduceIte, Nat.reduceEqDiff, Nat.reduceAdd, Nat.reduceMul, Nat.reduceSub, Nat.reduceLT, Int.reduceToNat]))
    try simp

def okByte (c : UInt8) : Bool := decide (33 ≤ (c.toNat : Int)) && decide ((c.toNat : Int) ≤ 125)
def okKey (s : Str) : Bool := s.all okByte && (decide (1 ≤ (s.length : Int)) && decide ((s.length : Int) ≤ 12))
/-- Sorted, each a key. -/
def okKeysFrom (l : List Str) : Nat → Bool
  | 0 => true
  | i + 1 => okKeysFrom l i && (okKey (l.getD i []) && (decide (i = 0) || Op.bytesLess (l.getD (i - 1) []) (l.getD i [])))
def okKeys (l : List Str) : Bool := okKeysFrom l l.length && decide ((l.length : Int) ≤ 40)
theorem okKeysFrom_false {l : List Str} {i : Nat} : ∀ {j}, i ≤ j → okKeysFrom l i = false → okKeysFrom l j = false
  | 0, h, hf => by
    rw [show i = 0 by omega] at hf
    exact hf
  | j + 1, h, hf => by
    by_cases hi : i = j + 1
    · rw [← hi]
      exact hf
    · simp [okKeysFrom, okKeysFrom_false (show i ≤ j by omega) hf]

theorem c_spec_IsKey (s : Str) : Fn Tryz.prog 75 [.str s] (· = .bool (okKey s)) := by
  refine Fn.of free_bool fun h => ?_
  refine enter (by kernel_rfl) e75 (by kernel_rfl) rfl fun hok => ?_
  simp only [r75, initEnv_1]
  have hlen := (okV_0 hok).str
  (try (simp (disch := first | omega | (simp <;> omega) | fail) only [push_cast, ↓reduceIte, Nat.reduceEqDiff, Nat.reduceAdd, Nat.reduceMul, Nat.reduceSub, Nat.reduceLT, Int.reduceToNat]))
  refine T_for s.length (fun i e h' => Pins e [(0, .str s), (3, .int .i64 i)] ∧ h' = h ∧ (s.take i).all okByte = true) ?_ ?_
  · (try (simp (disch := first | omega | (simp <;> omega) | fail) only [push_cast, ↓reduceIte, Nat.reduceEqDiff, Nat.reduceAdd, Nat.reduceMul, Nat.reduceSub, Nat.reduceLT, Int.reduceToNat]))
    simp
  rintro i e h' hi ⟨hp, rfl, ha⟩
  refine T_pins hp fun e => ?_
  (try (simp (disch := first | omega | (simp <;> omega) | fail) only [push_cast, ↓reduceIte, Nat.reduceEqDiff, Nat.reduceAdd, Nat.reduceMul, Nat.reduceSub, Nat.reduceLT, Int.reduceToNat]))
  first | refine goC_split (fun hc => ?_) (fun hc => ?_) | refine cnd_split (fun hc => ?_) (fun hc => ?_)
  · (try (simp only [decide_eq_true_eq, decide_eq_false_iff_not, Bool.not_eq_true', Bool.not_eq_false', Bool.and_eq_true, Bool.or_eq_true, Int.not_lt, Int.not_le] at hc)); (try (simp (disch := first | omega | (simp <;> omega) | fail) only [push_cast, ↓reduceIte, Nat.reduceEqDiff, Nat.reduceAdd, Nat.reduceMul, Nat.reduceSub, Nat.reduceLT, Int.reduceToNat]))
    have hi : i < s.length := by omega
    have hn : (s.take (i + 1)).all okByte = okByte (s.getD i 0) := by
      rw [List.take_add_one, List.all_append, ha]
      simp [hi]
    have hf : okByte (s.getD i 0) = false → okKey s = false := fun hf => by
      unfold okKey
      rw [Bool.and_eq_false_iff]
      left
      rw [List.all_eq_false]
      refine ⟨s.getD i 0, by simp [hi], by rw [hf]; simp⟩
    (try (simp (disch := first | omega | (simp <;> omega) | fail) only [push_cast, ↓reduceIte, Nat.reduceEqDiff, Nat.reduceAdd, Nat.reduceMul, Nat.reduceSub, Nat.reduceLT, Int.reduceToNat]))
    first | refine goC_split (fun hc => ?_) (fun hc => ?_) | refine cnd_split (fun hc => ?_) (fun hc => ?_)
    · (try (simp only [decide_eq_true_eq, decide_eq_false_iff_not, Bool.not_eq_true', Bool.not_eq_false', Bool.and_eq_true, Bool.or_eq_true, Int.not_lt, Int.not_le] at hc)); (try (simp (disch := first | omega | (simp <;> omega) | fail) only [push_cast, ↓reduceIte, Nat.reduceEqDiff, Nat.reduceAdd, Nat.reduceMul, Nat.reduceSub, Nat.reduceLT, Int.reduceToNat]))
      rw [hf (by unfold okByte; simp only [Bool.and_eq_false_iff, decide_eq_false_iff_not]; omega)]
    · (try (simp only [decide_eq_true_eq, decide_eq_false_iff_not, Bool.not_eq_true', Bool.not_eq_false', Bool.and_eq_true, Bool.or_eq_true, Int.not_lt, Int.not_le] at hc)); (try (simp (disch := first | omega | (simp <;> omega) | fail) only [push_cast, ↓reduceIte, Nat.reduceEqDiff, Nat.reduceAdd, Nat.reduceMul, Nat.reduceSub, Nat.reduceLT, Int.reduceToNat]))
      (try (simp (disch := first | omega | (simp <;> omega) | fail) only [push_cast, ↓reduceIte, Nat.reduceEqDiff, Nat.reduceAdd, Nat.reduceMul, Nat.reduceSub, Nat.reduceLT, Int.reduceToNat]))
      first | refine goC_split (fun hd => ?_) (fun hd => ?_) | refine cnd_split (fun hd => ?_) (fun hd => ?_)
      · (try (simp only [decide_eq_true_eq, decide_eq_false_iff_not, Bool.not_eq_true', Bool.not_eq_false', Bool.and_eq_true, Bool.or_eq_true, Int.not_lt, Int.not_le] at hd)); (try (simp (disch := first | omega | (simp <;> omega) | fail) only [push_cast, ↓reduceIte, Nat.reduceEqDiff, Nat.reduceAdd, Nat.reduceMul, Nat.reduceSub, Nat.reduceLT, Int.reduceToNat]))
        rw [hf (by unfold okByte; simp only [Bool.and_eq_false_iff, decide_eq_false_iff_not]; omega)]
      · (try (simp only [decide_eq_true_eq, decide_eq_false_iff_not, Bool.not_eq_true', Bool.not_eq_false', Bool.and_eq_true, Bool.or_eq_true, Int.not_lt, Int.not_le] at hd)); (try (simp (disch := first | omega | (simp <;> omega) | fail) only [push_cast, ↓reduceIte, Nat.reduceEqDiff, Nat.reduceAdd, Nat.reduceMul, Nat.reduceSub, Nat.reduceLT, Int.reduceToNat]))
        (try (simp (disch := first | omega | (simp <;> omega) | fail) only [push_cast, ↓reduceIte, Nat.reduceEqDiff, Nat.reduceAdd, Nat.reduceMul, Nat.reduceSub, Nat.reduceLT, Int.reduceToNat]))
        rw [hn]
        unfold okByte
        simp only [Bool.and_eq_true, decide_eq_true_eq]
        omega
  · (try (simp only [decide_eq_true_eq, decide_eq_false_iff_not, Bool.not_eq_true', Bool.not_eq_false', Bool.and_eq_true, Bool.or_eq_true, Int.not_lt, Int.not_le] at hc)); (try (simp (disch := first | omega | (simp <;> omega) | fail) only [push_cast, ↓reduceIte, Nat.reduceEqDiff, Nat.reduceAdd, Nat.reduceMul, Nat.reduceSub, Nat.reduceLT, Int.reduceToNat]))
    have he : s.take i = s := List.take_of_length_le (by omega)
    rw [he] at ha
    have hk : okKey s = (decide (1 ≤ (s.length : Int)) && decide ((s.length : Int) ≤ 12)) := by
      unfold okKey
      rw [ha, Bool.true_and]
    rw [hk]
    refine (c_spec_l1In _ _ _).call ?_
    (try (simp (disch := first | omega | (simp <;> omega) | fail) only [push_cast, ↓reduceIte, Nat.reduceEqDiff, Nat.reduceAdd, Nat.reduceMul, Nat.reduceSub, Nat.reduceLT, Int.reduceToNat]))

theorem c_spec_biKeys (a : Option (List Str)) : Fn Tryz.prog 56 [eS a] (· = .bool (okKeys (lS a))) := by
  refine Fn.of free_bool fun h => ?_
  refine enter (by kernel_rfl) e56 (by kernel_rfl) rfl fun hok => ?_
  simp only [r56, initEnv_1]
  have hlen := ok_eS (okV_0 hok)
  (try (simp (disch := first | omega | (simp <;> omega) | fail) only [push_cast, ↓reduceIte, Nat.reduceEqDiff, Nat.reduceAdd, Nat.reduceMul, Nat.reduceSub, Nat.reduceLT, Int.reduceToNat]))
  refine T_for (lS a).length (fun i e h' => Pins e [(0, eS a), (5, eS a), (6, .int .i64 (lS a).length), (7, .int .i64 i)] ∧ h' = h ∧ okKeysFrom (lS a) i = true) ?_ ?_
  · (try (simp (disch := first | omega | (simp <;> omega) | fail) only [push_cast, ↓reduceIte, Nat.reduceEqDiff, Nat.reduceAdd, Nat.reduceMul, Nat.reduceSub, Nat.reduceLT, Int.reduceToNat]))
    simp [okKeysFrom]
  rintro i e h' hi ⟨hp, rfl, ha⟩
  refine T_pins hp fun e => ?_
  (try (simp (disch := first | omega | (simp <;> omega) | fail) only [push_cast, ↓reduceIte, Nat.reduceEqDiff, Nat.reduceAdd, Nat.reduceMul, Nat.reduceSub, Nat.reduceLT, Int.reduceToNat]))
  first | refine goC_split (fun hc => ?_) (fun hc => ?_) | refine cnd_split (fun hc => ?_) (fun hc => ?_)
  · (try (simp only [decide_eq_true_eq, decide_eq_false_iff_not, Bool.not_eq_true', Bool.not_eq_false', Bool.and_eq_true, Bool.or_eq_true, Int.not_lt, Int.not_le] at hc)); (try (simp (disch := first | omega | (simp <;> omega) | fail) only [push_cast, ↓reduceIte, Nat.reduceEqDiff, Nat.reduceAdd, Nat.reduceMul, Nat.reduceSub, Nat.reduceLT, Int.reduceToNat]))
    have hi : i < (lS a).length := by omega
    have hf : okKeysFrom (lS a) (i + 1) = false → okKeys (lS a) = false := fun hf => by
      unfold okKeys
      rw [okKeysFrom_false (show i + 1 ≤ (lS a).length by omega) hf, Bool.false_and]
    (try (simp (disch := first | omega | (simp <;> omega) | fail) only [push_cast, ↓reduceIte, Nat.reduceEqDiff, Nat.reduceAdd, Nat.reduceMul, Nat.reduceSub, Nat.reduceLT, Int.reduceToNat]))
    refine (c_spec_IsKey _).call ?_
    (try (simp (disch := first | omega | (simp <;> omega) | fail) only [push_cast, ↓reduceIte, Nat.reduceEqDiff, Nat.reduceAdd, Nat.reduceMul, Nat.reduceSub, Nat.reduceLT, Int.reduceToNat]))
    cases hk : okKey ((lS a).getD i [])
    · (try (simp (disch := first | omega | (simp <;> omega) | fail) only [push_cast, ↓reduceIte, Nat.reduceEqDiff, Nat.reduceAdd, Nat.reduceMul, Nat.reduceSub, Nat.reduceLT, Int.reduceToNat]))
      rw [hf (by simp only [okKeysFrom, hk, Bool.false_and, Bool.and_false])]
    · (try (simp (disch := first | omega | (simp <;> omega) | fail) only [push_cast, ↓reduceIte, Nat.reduceEqDiff, Nat.reduceAdd, Nat.reduceMul, Nat.reduceSub, Nat.reduceLT, Int.reduceToNat]))
      first | refine goC_split (fun hc => ?_) (fun hc => ?_) | refine cnd_split (fun hc => ?_) (fun hc => ?_)
      · (try (simp only [decide_eq_true_eq, decide_eq_false_iff_not, Bool.not_eq_true', Bool.not_eq_false', Bool.and_eq_true, Bool.or_eq_true, Int.not_lt, Int.not_le] at hc)); (try (simp (disch := first | omega | (simp <;> omega) | fail) only [push_cast, ↓reduceIte, Nat.reduceEqDiff, Nat.reduceAdd, Nat.reduceMul, Nat.reduceSub, Nat.reduceLT, Int.reduceToNat]))
        (try (simp (disch := first | omega | (simp <;> omega) | fail) only [push_cast, ↓reduceIte, Nat.reduceEqDiff, Nat.reduceAdd, Nat.reduceMul, Nat.reduceSub, Nat.reduceLT, Int.reduceToNat]))
        first | refine goC_split (fun hd => ?_) (fun hd => ?_) | refine cnd_split (fun hd => ?_) (fun hd => ?_)
        · (try (simp (disch := first | omega | (simp <;> omega) | fail) only [push_cast, ↓reduceIte, Nat.reduceEqDiff, Nat.reduceAdd, Nat.reduceMul, Nat.reduceSub, Nat.reduceLT, Int.reduceToNat]))
          rw [hf (by
            rw [Bool.not_eq_true'] at hd
            simp only [okKeysFrom, hk, Bool.true_and, show i ≠ 0 by omega, decide_false, Bool.false_or, hd, Bool.and_false])]
        · (try (simp (disch := first | omega | (simp <;> omega) | fail) only [push_cast, ↓reduceIte, Nat.reduceEqDiff, Nat.reduceAdd, Nat.reduceMul, Nat.reduceSub, Nat.reduceLT, Int.reduceToNat]))
          rw [Bool.not_eq_false'] at hd
          simp only [okKeysFrom, ha, hk, Bool.true_and, hd, Bool.or_true]
      · (try (simp only [decide_eq_true_eq, decide_eq_false_iff_not, Bool.not_eq_true', Bool.not_eq_false', Bool.and_eq_true, Bool.or_eq_true, Int.not_lt, Int.not_le] at hc)); (try (simp (disch := first | omega | (simp <;> omega) | fail) only [push_cast, ↓reduceIte, Nat.reduceEqDiff, Nat.reduceAdd, Nat.reduceMul, Nat.reduceSub, Nat.reduceLT, Int.reduceToNat]))
        (try (simp (disch := first | omega | (simp <;> omega) | fail) only [push_cast, ↓reduceIte, Nat.reduceEqDiff, Nat.reduceAdd, Nat.reduceMul, Nat.reduceSub, Nat.reduceLT, Int.reduceToNat]))
        have : i = 0 := by omega
        subst this
        simp only [okKeysFrom, hk, Bool.true_and, decide_true, Bool.true_or]
  · (try (simp only [decide_eq_true_eq, decide_eq_false_iff_not, Bool.not_eq_true', Bool.not_eq_false', Bool.and_eq_true, Bool.or_eq_true, Int.not_lt, Int.not_le] at hc)); (try (simp (disch := first | omega | (simp <;> omega) | fail) only [push_cast, ↓reduceIte, Nat.reduceEqDiff, Nat.reduceAdd, Nat.reduceMul, Nat.reduceSub, Nat.reduceLT, Int.reduceToNat]))
    have he : i = (lS a).length := by omega
    subst he
    have hk : okKeys (lS a) = decide (((lS a).length : Int) ≤ 40) := by
      unfold okKeys
      rw [ha, Bool.true_and]
    rw [hk]
    (first | refine goC_split (fun hc => ?_) (fun hc => ?_) | refine cnd_split (fun hc => ?_) (fun hc => ?_)) <;> ((try (simp (disch := first | omega | (simp <;> omega) | fail) only [push_cast, ↓reduceIte, Nat.reduceEqDiff, Nat.reduceAdd, Nat.reduceMul, Nat.reduceSub, Nat.reduceLT, Int.reduceToNat]))) <;> (try rw [hc])

theorem c_impl_in (n lo hi : Int) : Fn Tryz.prog 63 [.int .i64 n, .int .i64 lo, .int .i64 hi] (· = .bool (decide (lo ≤ n) && decide (n ≤ hi))) := by
  refine Fn.of free_bool fun h => ?_
  refine enter (by kernel_rfl) e63 (by kernel_rfl) rfl fun hok => ?_
  simp only [r63, initEnv_3]
  (try (simp (disch := first | omega | (simp <;> omega) | fail) only [push_cast, ↓reduceIte, Nat.reduceEqDiff, Nat.reduceAdd, Nat.reduceMul, Nat.reduceSub, Nat.reduceLT, Int.reduceToNat]))
  first | refine goC_split (fun hc => ?_) (fun hc => ?_) | refine cnd_split (fun hc => ?_) (fun hc => ?_)
  · (try (simp only [decide_eq_true_eq, decide_eq_false_iff_not, Bool.not_eq_true', Bool.not_eq_false', Bool.and_eq_true, Bool.or_eq_true, Int.not_lt, Int.not_le] at hc)); (try (simp (disch := first | omega | (simp <;> omega) | fail) only [push_cast, ↓reduceIte, Nat.reduceEqDiff, Nat.reduceAdd, Nat.reduceMul, Nat.reduceSub, Nat.reduceLT, Int.reduceToNat]))
    first | refine goC_split (fun hd => ?_) (fun hd => ?_) | refine cnd_split (fun hd => ?_) (fun hd => ?_)
    · (try (simp only [decide_eq_true_eq, decide_eq_false_iff_not, Bool.not_eq_true', Bool.not_eq_false', Bool.and_eq_true, Bool.or_eq_true, Int.not_lt, Int.not_le] at hd)); (try (simp (disch := first | omega | (simp <;> omega) | fail) only [push_cast, ↓reduceIte, Nat.reduceEqDiff, Nat.reduceAdd, Nat.reduceMul, Nat.reduceSub, Nat.reduceLT, Int.reduceToNat]))
    · (try (simp only [decide_eq_true_eq, decide_eq_false_iff_not, Bool.not_eq_true', Bool.not_eq_false', Bool.and_eq_true, Bool.or_eq_true, Int.not_lt, Int.not_le] at hd)); (try (simp (disch := first | omega | (simp <;> omega) | fail) only [push_cast, ↓reduceIte, Nat.reduceEqDiff, Nat.reduceAdd, Nat.reduceMul, Nat.reduceSub, Nat.reduceLT, Int.reduceToNat]))
  · (try (simp only [decide_eq_true_eq, decide_eq_false_iff_not, Bool.not_eq_true', Bool.not_eq_false', Bool.and_eq_true, Bool.or_eq_true, Int.not_lt, Int.not_le] at hc)); (try (simp (disch := first | omega | (simp <;> omega) | fail) only [push_cast, ↓reduceIte, Nat.reduceEqDiff, Nat.reduceAdd, Nat.reduceMul, Nat.reduceSub, Nat.reduceLT, Int.reduceToNat]))
    try simp

theorem c_impl_IsKey (s : Str) : Fn Tryz.prog 74 [.str s] (· = .bool (okKey s)) := by
  refine Fn.of free_bool fun h => ?_
  refine enter (by kernel_rfl) e74 (by kernel_rfl) rfl fun hok => ?_
  simp only [r74, initEnv_1]
  have hlen := (okV_0 hok).str
  (try (simp (disch := first | omega | (simp <;> omega) | fail) only [push_cast, ↓reduceIte, Nat.reduceEqDiff, Nat.reduceAdd, Nat.reduceMul, Nat.reduceSub, Nat.reduceLT, Int.reduceToNat]))
  refine T_for s.length (fun i e h' => Pins e [(0, .str s), (5, .int .i64 s.length), (6, .int .i64 i)] ∧ h' = h ∧ (s.take i).all okByte = true) ?_ ?_
  · (try (simp (disch := first | omega | (simp <;> omega) | fail) only [push_cast, ↓reduceIte, Nat.reduceEqDiff, Nat.reduceAdd, Nat.reduceMul, Nat.reduceSub, Nat.reduceLT, Int.reduceToNat]))
    simp
  rintro i e h' hi ⟨hp, rfl, ha⟩
  refine T_pins hp fun e => ?_
  (try (simp (disch := first | omega | (simp <;> omega) | fail) only [push_cast, ↓reduceIte, Nat.reduceEqDiff, Nat.reduceAdd, Nat.reduceMul, Nat.reduceSub, Nat.reduceLT, Int.reduceToNat]))
  first | refine goC_split (fun hc => ?_) (fun hc => ?_) | refine cnd_split (fun hc => ?_) (fun hc => ?_)
  · (try (simp only [decide_eq_true_eq, decide_eq_false_iff_not, Bool.not_eq_true', Bool.not_eq_false', Bool.and_eq_true, Bool.or_eq_true, Int.not_lt, Int.not_le] at hc)); (try (simp (disch := first | omega | (simp <;> omega) | fail) only [push_cast, ↓reduceIte, Nat.reduceEqDiff, Nat.reduceAdd, Nat.reduceMul, Nat.reduceSub, Nat.reduceLT, Int.reduceToNat]))
    have hi : i < s.length := by omega
    have hn : (s.take (i + 1)).all okByte = okByte (s.getD i 0) := by
      rw [List.take_add_one, List.all_append, ha]
      simp [hi]
    have hf : okByte (s.getD i 0) = false → okKey s = false := fun hf => by
      unfold okKey
      rw [Bool.and_eq_false_iff]
      left
      rw [List.all_eq_false]
      refine ⟨s.getD i 0, by simp [hi], by rw [hf]; simp⟩
    (try (simp (disch := first | omega | (simp <;> omega) | fail) only [push_cast, ↓reduceIte, Nat.reduceEqDiff, Nat.reduceAdd, Nat.reduceMul, Nat.reduceSub, Nat.reduceLT, Int.reduceToNat]))
    first | refine goC_split (fun hc => ?_) (fun hc => ?_) | refine cnd_split (fun hc => ?_) (fun hc => ?_)
    · (try (simp only [decide_eq_true_eq, decide_eq_false_iff_not, Bool.not_eq_true', Bool.not_eq_false', Bool.and_eq_true, Bool.or_eq_true, Int.not_lt, Int.not_le] at hc)); (try (simp (disch := first | omega | (simp <;> omega) | fail) only [push_cast, ↓reduceIte, Nat.reduceEqDiff, Nat.reduceAdd, Nat.reduceMul, Nat.reduceSub, Nat.reduceLT, Int.reduceToNat]))
      rw [hf (by unfold okByte; simp only [Bool.and_eq_false_iff, decide_eq_false_iff_not]; omega)]
    · (try (simp only [decide_eq_true_eq, decide_eq_false_iff_not, Bool.not_eq_true', Bool.not_eq_false', Bool.and_eq_true, Bool.or_eq_true, Int.not_lt, Int.not_le] at hc)); (try (simp (disch := first | omega | (simp <;> omega) | fail) only [push_cast, ↓reduceIte, Nat.reduceEqDiff, Nat.reduceAdd, Nat.reduceMul, Nat.reduceSub, Nat.reduceLT, Int.reduceToNat]))
      (try (simp (disch := first | omega | (simp <;> omega) | fail) only [push_cast, ↓reduceIte, Nat.reduceEqDiff, Nat.reduceAdd, Nat.reduceMul, Nat.reduceSub, Nat.reduceLT, Int.reduceToNat]))
      first | refine goC_split (fun hd => ?_) (fun hd => ?_) | refine cnd_split (fun hd => ?_) (fun hd => ?_)
      · (try (simp only [decide_eq_true_eq, decide_eq_false_iff_not, Bool.not_eq_true', Bool.not_eq_false', Bool.and_eq_true, Bool.or_eq_true, Int.not_lt, Int.not_le] at hd)); (try (simp (disch := first | omega | (simp <;> omega) | fail) only [push_cast, ↓reduceIte, Nat.reduceEqDiff, Nat.reduceAdd, Nat.reduceMul, Nat.reduceSub, Nat.reduceLT, Int.reduceToNat]))
        rw [hf (by unfold okByte; simp only [Bool.and_eq_false_iff, decide_eq_false_iff_not]; omega)]
      · (try (simp only [decide_eq_true_eq, decide_eq_false_iff_not, Bool.not_eq_true', Bool.not_eq_false', Bool.and_eq_true, Bool.or_eq_true, Int.not_lt, Int.not_le] at hd)); (try (simp (disch := first | omega | (simp <;> omega) | fail) only [push_cast, ↓reduceIte, Nat.reduceEqDiff, Nat.reduceAdd, Nat.reduceMul, Nat.reduceSub, Nat.reduceLT, Int.reduceToNat]))
        (try (simp (disch := first | omega | (simp <;> omega) | fail) only [push_cast, ↓reduceIte, Nat.reduceEqDiff, Nat.reduceAdd, Nat.reduceMul, Nat.reduceSub, Nat.reduceLT, Int.reduceToNat]))
        rw [hn]
        unfold okByte
        simp only [Bool.and_eq_true, decide_eq_true_eq]
        omega
  · (try (simp only [decide_eq_true_eq, decide_eq_false_iff_not, Bool.not_eq_true', Bool.not_eq_false', Bool.and_eq_true, Bool.or_eq_true, Int.not_lt, Int.not_le] at hc)); (try (simp (disch := first | omega | (simp <;> omega) | fail) only [push_cast, ↓reduceIte, Nat.reduceEqDiff, Nat.reduceAdd, Nat.reduceMul, Nat.reduceSub, Nat.reduceLT, Int.reduceToNat]))
    have he : s.take i = s := List.take_of_length_le (by omega)
    rw [he] at ha
    have hk : okKey s = (decide (1 ≤ (s.length : Int)) && decide ((s.length : Int) ≤ 12)) := by
      unfold okKey
      rw [ha, Bool.true_and]
    rw [hk]
    refine (c_impl_in _ _ _).call ?_
    (try (simp (disch := first | omega | (simp <;> omega) | fail) only [push_cast, ↓reduceIte, Nat.reduceEqDiff, Nat.reduceAdd, Nat.reduceMul, Nat.reduceSub, Nat.reduceLT, Int.reduceToNat]))

theorem c_impl_AreKeys (a : Option (List Str)) : Fn Tryz.prog 62 [eS a] (· = .bool (okKeys (lS a))) := by
  refine Fn.of free_bool fun h => ?_
  refine enter (by kernel_rfl) e62 (by kernel_rfl) rfl fun hok => ?_
  simp only [r62, initEnv_1]
  have hlen := ok_eS (okV_0 hok)
  (try (simp (disch := first | omega | (simp <;> omega) | fail) only [push_cast, ↓reduceIte, Nat.reduceEqDiff, Nat.reduceAdd, Nat.reduceMul, Nat.reduceSub, Nat.reduceLT, Int.reduceToNat]))
  refine T_for (lS a).length (fun i e h' => Pins e [(0, eS a), (5, eS a), (6, .int .i64 (lS a).length), (7, .int .i64 i)] ∧ h' = h ∧ okKeysFrom (lS a) i = true) ?_ ?_
  · (try (simp (disch := first | omega | (simp <;> omega) | fail) only [push_cast, ↓reduceIte, Nat.reduceEqDiff, Nat.reduceAdd, Nat.reduceMul, Nat.reduceSub, Nat.reduceLT, Int.reduceToNat]))
    simp [okKeysFrom]
  rintro i e h' hi ⟨hp, rfl, ha⟩
  refine T_pins hp fun e => ?_
  (try (simp (disch := first | omega | (simp <;> omega) | fail) only [push_cast, ↓reduceIte, Nat.reduceEqDiff, Nat.reduceAdd, Nat.reduceMul, Nat.reduceSub, Nat.reduceLT, Int.reduceToNat]))
  first | refine goC_split (fun hc => ?_) (fun hc => ?_) | refine cnd_split (fun hc => ?_) (fun hc => ?_)
  · (try (simp only [decide_eq_true_eq, decide_eq_false_iff_not, Bool.not_eq_true', Bool.not_eq_false', Bool.and_eq_true, Bool.or_eq_true, Int.not_lt, Int.not_le] at hc)); (try (simp (disch := first | omega | (simp <;> omega) | fail) only [push_cast, ↓reduceIte, Nat.reduceEqDiff, Nat.reduceAdd, Nat.reduceMul, Nat.reduceSub, Nat.reduceLT, Int.reduceToNat]))
    have hi : i < (lS a).length := by omega
    have hf : okKeysFrom (lS a) (i + 1) = false → okKeys (lS a) = false := fun hf => by
      unfold okKeys
      rw [okKeysFrom_false (show i + 1 ≤ (lS a).length by omega) hf, Bool.false_and]
    (try (simp (disch := first | omega | (simp <;> omega) | fail) only [push_cast, ↓reduceIte, Nat.reduceEqDiff, Nat.reduceAdd, Nat.reduceMul, Nat.reduceSub, Nat.reduceLT, Int.reduceToNat]))
    refine (c_impl_IsKey _).call ?_
    (try (simp (disch := first | omega | (simp <;> omega) | fail) only [push_cast, ↓reduceIte, Nat.reduceEqDiff, Nat.reduceAdd, Nat.reduceMul, Nat.reduceSub, Nat.reduceLT, Int.reduceToNat]))
    cases hk : okKey ((lS a).getD i [])
    · (try (simp (disch := first | omega | (simp <;> omega) | fail) only [push_cast, ↓reduceIte, Nat.reduceEqDiff, Nat.reduceAdd, Nat.reduceMul, Nat.reduceSub, Nat.reduceLT, Int.reduceToNat]))
      rw [hf (by simp only [okKeysFrom, hk, Bool.false_and, Bool.and_false])]
    · (try (simp (disch := first | omega | (simp <;> omega) | fail) only [push_cast, ↓reduceIte, Nat.reduceEqDiff, Nat.reduceAdd, Nat.reduceMul, Nat.reduceSub, Nat.reduceLT, Int.reduceToNat]))
      first | refine goC_split (fun hc => ?_) (fun hc => ?_) | refine cnd_split (fun hc => ?_) (fun hc => ?_)
      · (try (simp only [decide_eq_true_eq, decide_eq_false_iff_not, Bool.not_eq_true', Bool.not_eq_false', Bool.and_eq_true, Bool.or_eq_true, Int.not_lt, Int.not_le] at hc)); (try (simp (disch := first | omega | (simp <;> omega) | fail) only [push_cast, ↓reduceIte, Nat.reduceEqDiff, Nat.reduceAdd, Nat.reduceMul, Nat.reduceSub, Nat.reduceLT, Int.reduceToNat]))
        (try (simp (disch := first | omega | (simp <;> omega) | fail) only [push_cast, ↓reduceIte, Nat.reduceEqDiff, Nat.reduceAdd, Nat.reduceMul, Nat.reduceSub, Nat.reduceLT, Int.reduceToNat]))
        first | refine goC_split (fun hd => ?_) (fun hd => ?_) | refine cnd_split (fun hd => ?_) (fun hd => ?_)
        · (try (simp (disch := first | omega | (simp <;> omega) | fail) only [push_cast, ↓reduceIte, Nat.reduceEqDiff, Nat.reduceAdd, Nat.reduceMul, Nat.reduceSub, Nat.reduceLT, Int.reduceToNat]))
          rw [hf (by
            rw [Bool.not_eq_true'] at hd
            simp only [okKeysFrom, hk, Bool.true_and, show i ≠ 0 by omega, decide_false, Bool.false_or, hd, Bool.and_false])]
        · (try (simp (disch := first | omega | (simp <;> omega) | fail) only [push_cast, ↓reduceIte, Nat.reduceEqDiff, Nat.reduceAdd, Nat.reduceMul, Nat.reduceSub, Nat.reduceLT, Int.reduceToNat]))
          rw [Bool.not_eq_false'] at hd
          simp only [okKeysFrom, ha, hk, Bool.true_and, hd, Bool.or_true]
      · (try (simp only [decide_eq_true_eq, decide_eq_false_iff_not, Bool.not_eq_true', Bool.not_eq_false', Bool.and_eq_true, Bool.or_eq_true, Int.not_lt, Int.not_le] at hc)); (try (simp (disch := first | omega | (simp <;> omega) | fail) only [push_cast, ↓reduceIte, Nat.reduceEqDiff, Nat.reduceAdd, Nat.reduceMul, Nat.reduceSub, Nat.reduceLT, Int.reduceToNat]))
        (try (simp (disch := first | omega | (simp <;> omega) | fail) only [push_cast, ↓reduceIte, Nat.reduceEqDiff, Nat.reduceAdd, Nat.reduceMul, Nat.reduceSub, Nat.reduceLT, Int.reduceToNat]))
        have : i = 0 := by omega
        subst this
        simp only [okKeysFrom, hk, Bool.true_and, decide_true, Bool.true_or]
  · (try (simp only [decide_eq_true_eq, decide_eq_false_iff_not, Bool.not_eq_true', Bool.not_eq_false', Bool.and_eq_true, Bool.or_eq_true, Int.not_lt, Int.not_le] at hc)); (try (simp (disch := first | omega | (simp <;> omega) | fail) only [push_cast, ↓reduceIte, Nat.reduceEqDiff, Nat.reduceAdd, Nat.reduceMul, Nat.reduceSub, Nat.reduceLT, Int.reduceToNat]))
    have he : i = (lS a).length := by omega
    subst he
    have hk : okKeys (lS a) = decide (((lS a).length : Int) ≤ 40) := by
      unfold okKeys
      rw [ha, Bool.true_and]
    rw [hk]
    (first | refine goC_split (fun hc => ?_) (fun hc => ?_) | refine cnd_split (fun hc => ?_) (fun hc => ?_)) <;> ((try (simp (disch := first | omega | (simp <;> omega) | fail) only [push_cast, ↓reduceIte, Nat.reduceEqDiff, Nat.reduceAdd, Nat.reduceMul, Nat.reduceSub, Nat.reduceLT, Int.reduceToNat]))) <;> (try rw [hc])

def hk (seed part : Int) (s : Str) : Int := s.foldl (fun h c => (263 * h + (c.toNat : Int)) % 65521) ((31 * seed + 977 * part + 7) % 65521)
theorem hk_bd (seed part : Int) : ∀ s : Str, 0 ≤ hk seed part s ∧ hk seed part s < 65521 := by
  intro s
  have key : ∀ (s : Str) (h : Int), 0 ≤ h ∧ h < 65521 → 0 ≤ s.foldl (fun h c => (263 * h + (c.toNat : Int)) % 65521) h ∧ s.foldl (fun h c => (263 * h + (c.toNat : Int)) % 65521) h < 65521 := by
    intro s
    induction s with
    | nil => exact fun h hh => hh
    | cons c s ih =>
      intro h hh
      rw [List.foldl_cons]
      refine ih _ ?_
      show 0 ≤ (263 * h + (c.toNat : Int)) % 65521 ∧ (263 * h + (c.toNat : Int)) % 65521 < 65521
      omega
  exact key s _ ⟨by omega, by omega⟩
theorem hk_take {seed part : Int} {s : Str} {i : Nat} (hi : i < s.length) : hk seed part (s.take (i + 1)) = (263 * hk seed part (s.take i) + ((s.getD i 0).toNat : Int)) % 65521 := by
  unfold hk
  rw [List.take_add_one, List.foldl_append]
  simp [hi]
/-- The hash. -/
def hashV (seed part : Int) (s : Str) : Int := hk seed part s ^ 11 % 65521
theorem hashV_bd (seed part : Int) (s : Str) : 0 ≤ hashV seed part s ∧ hashV seed part s < 65521 := by
  unfold hashV
  exact ⟨by omega, by omega⟩
def placeV (seed part : Int) (s : Str) (n : Int) : Int := hashV seed part s * n / 65521
theorem pow_step (h : Int) (i : Nat) : h ^ i % 65521 * h % 65521 = h ^ (i + 1) % 65521 := by
  rw [Int.pow_succ, Int.mul_emod (h ^ i % 65521) h, Int.emod_emod_of_dvd _ (Int.dvd_refl _), ← Int.mul_emod]
theorem pow_join (h : Int) (i j : Nat) : (h ^ i % 65521) * (h ^ j % 65521) % 65521 = h ^ (i + j) % 65521 := by
  rw [← Int.mul_emod, Int.pow_add]

theorem c_spec_biHash (seed part : Int) (s : Str) (h1 : 0 ≤ seed) (h2 : seed ≤ 9999) (h3 : 0 ≤ part) (h4 : part ≤ 9999) : Fn Tryz.prog 186 [.int .i64 seed, .int .i64 part, .str s] (· = .int .i64 (hashV seed part s)) := by
  refine Fn.of free_int fun h => ?_
  refine enter (by kernel_rfl) e186 (by kernel_rfl) rfl fun hok => ?_
  simp only [r186, initEnv_3]
  have hlen := (okV_2 hok).str
  (try (simp (disch := first | omega | (simp <;> omega) | fail) only [push_cast, ↓reduceIte, Nat.reduceEqDiff, Nat.reduceAdd, Nat.reduceMul, Nat.reduceSub, Nat.reduceLT, Int.reduceToNat]))
  refine T_for s.length (fun i e h' => Pins e [(2, .str s), (7, .int .i64 (hk seed part (s.take i))), (8, .int .i64 i)] ∧ h' = h) ?_ ?_
  · (try (simp (disch := first | omega | (simp <;> omega) | fail) only [push_cast, ↓reduceIte, Nat.reduceEqDiff, Nat.reduceAdd, Nat.reduceMul, Nat.reduceSub, Nat.reduceLT, Int.reduceToNat]))
    all_goals (try simp [hk])
  rintro i e h' hi ⟨hp, rfl⟩
  refine T_pins hp fun e => ?_
  have hb := hk_bd seed part (s.take i)
  (try (simp (disch := first | omega | (simp <;> omega) | fail) only [push_cast, ↓reduceIte, Nat.reduceEqDiff, Nat.reduceAdd, Nat.reduceMul, Nat.reduceSub, Nat.reduceLT, Int.reduceToNat]))
  first | refine goC_split (fun hc => ?_) (fun hc => ?_) | refine cnd_split (fun hc => ?_) (fun hc => ?_)
  · (try (simp only [decide_eq_true_eq, decide_eq_false_iff_not, Bool.not_eq_true', Bool.not_eq_false', Bool.and_eq_true, Bool.or_eq_true, Int.not_lt, Int.not_le] at hc)); (try (simp (disch := first | omega | (simp <;> omega) | fail) only [push_cast, ↓reduceIte, Nat.reduceEqDiff, Nat.reduceAdd, Nat.reduceMul, Nat.reduceSub, Nat.reduceLT, Int.reduceToNat]))
    have hi : i < s.length := by omega
    have hcb : (s.getD i 0).toNat < 256 := UInt8.toNat_lt _
    have hn := hk_take (seed := seed) (part := part) hi
    (try (simp (disch := first | omega | (simp <;> omega) | fail) only [push_cast, ↓reduceIte, Nat.reduceEqDiff, Nat.reduceAdd, Nat.reduceMul, Nat.reduceSub, Nat.reduceLT, Int.reduceToNat]))
    all_goals (try (rw [hn]))
  · (try (simp only [decide_eq_true_eq, decide_eq_false_iff_not, Bool.not_eq_true', Bool.not_eq_false', Bool.and_eq_true, Bool.or_eq_true, Int.not_lt, Int.not_le] at hc)); (try (simp (disch := first | omega | (simp <;> omega) | fail) only [push_cast, ↓reduceIte, Nat.reduceEqDiff, Nat.reduceAdd, Nat.reduceMul, Nat.reduceSub, Nat.reduceLT, Int.reduceToNat]))
    have he : s.take i = s := List.take_of_length_le (by omega)
    rw [he] at hb ⊢
    unfold hashV
    generalize hk seed part s = x at hb ⊢
    have m2 := mul_bd (x := x) (y := x) (a := 65521) (b := 65521) (by omega) (by omega) (by omega) (by omega)
    have m4 := mul_bd (x := x * x % 65521) (y := x * x % 65521) (a := 65521) (b := 65521) (by omega) (by omega) (by omega) (by omega)
    have m5 := mul_bd (x := x * x % 65521 * (x * x % 65521) % 65521) (y := x) (a := 65521) (b := 65521) (by omega) (by omega) (by omega) (by omega)
    have m10 := mul_bd (x := x * x % 65521 * (x * x % 65521) % 65521 * x % 65521) (y := x * x % 65521 * (x * x % 65521) % 65521 * x % 65521) (a := 65521) (b := 65521) (by omega) (by omega) (by omega) (by omega)
    have m11 := mul_bd (x := x * x % 65521 * (x * x % 65521) % 65521 * x % 65521 * (x * x % 65521 * (x * x % 65521) % 65521 * x % 65521) % 65521) (y := x) (a := 65521) (b := 65521) (by omega) (by omega) (by omega) (by omega)
    have e2 : x * x % 65521 = x ^ 2 % 65521 := by rw [Int.pow_succ, Int.pow_succ, Int.pow_zero, Int.one_mul]
    have e11 : x * x % 65521 * (x * x % 65521) % 65521 * x % 65521 * (x * x % 65521 * (x * x % 65521) % 65521 * x % 65521) % 65521 * x % 65521 = x ^ 11 % 65521 := by
      rw [e2, pow_join, pow_step, pow_join, pow_step]
    (try (simp (disch := first | omega | (simp <;> omega) | fail) only [push_cast, ↓reduceIte, Nat.reduceEqDiff, Nat.reduceAdd, Nat.reduceMul, Nat.reduceSub, Nat.reduceLT, Int.reduceToNat]))
    all_goals (try exact e11)

theorem c_spec_biPlace (seed part : Int) (s : Str) (n : Int) (h1 : 0 ≤ seed) (h2 : seed ≤ 9999) (h3 : 0 ≤ part) (h4 : part ≤ 9999) (h5 : 0 ≤ n) (h6 : n ≤ 1048576) : Fn Tryz.prog 165 [.int .i64 seed, .int .i64 part, .str s, .int .i64 n] (· = .int .i64 (placeV seed part s n)) := by
  refine Fn.of free_int fun h => ?_
  refine enter (by kernel_rfl) e165 (by kernel_rfl) rfl fun hok => ?_
  simp only [r165, initEnv_4]
  (try (simp (disch := first | omega | (simp <;> omega) | fail) only [push_cast, ↓reduceIte, Nat.reduceEqDiff, Nat.reduceAdd, Nat.reduceMul, Nat.reduceSub, Nat.reduceLT, Int.reduceToNat]))
  refine (c_spec_biHash seed part s h1 h2 h3 h4).call ?_
  have hb := hashV_bd seed part s
  have hm := mul_bd (x := hashV seed part s) (y := n) (a := 65521) (b := 1048576) (by omega) (by omega) h5 h6
  (try (simp (disch := first | omega | (simp <;> omega) | fail) only [push_cast, ↓reduceIte, Nat.reduceEqDiff, Nat.reduceAdd, Nat.reduceMul, Nat.reduceSub, Nat.reduceLT, Int.reduceToNat]))
  all_goals (try rfl)

structure Pd where
  seed : Int
  seg : Int
  marks : Option (List Int)
  deriving Inhabited
def cP (p : Pd) : List AV := [.int .i64 p.seed, .int .i64 p.seg, eI p.marks]
theorem cP_len (p : Pd) : (cP p).length = 3 := rfl
def eP (p : Pd) : AV := .agg (cP p)
def ePS : Option (List Pd) → AV
  | none => .nils
  | some l => .ro 3 (l.flatMap cP) l.length
def lP : Option (List Pd) → List Pd
  | none => []
  | some l => l
theorem lenA_ePS {l : Option (List Pd)} : lenA (ePS l) = some (.int .i64 (lP l).length) := by cases l <;> rfl
theorem iaddr_ePS {l : Option (List Pd)} {k : IntKind} {n : Int} (h1 : 0 ≤ n) (h2 : n < (lP l).length) : iaddrA 3 (ePS l) (.int k n) = some (.rad ((lP l).flatMap cP) (n.toNat * 3)) := by
  cases l with
  | none => simp [lP] at h2; omega
  | some l => exact iaddrA_ro h1 h2
theorem ld_P {l : List Pd} {i : Nat} (hi : i < l.length) : ld true 3 (l.flatMap cP) (i * 3) = some (.agg (cP (l.getD i default))) := ld_row cP_len default hi
theorem get_P0 {l : List Pd} {i : Nat} (hi : i < l.length) : (l.flatMap cP)[i * 3]? = some (.int .i64 (l.getD i default).seed) := flatMap_get cP_len default (k := 0) hi (by omega)
theorem get_P1 {l : List Pd} {i : Nat} (hi : i < l.length) : (l.flatMap cP)[i * 3 + 1]? = some (.int .i64 (l.getD i default).seg) := flatMap_get cP_len default (k := 1) hi (by omega)
theorem get_P2 {l : List Pd} {i : Nat} (hi : i < l.length) : (l.flatMap cP)[i * 3 + 2]? = some (eI (l.getD i default).marks) := flatMap_get cP_len default (k := 2) hi (by omega)
theorem one_ePS {l : Option (List Pd)} : one (ePS l) = true := by cases l <;> rfl
theorem cellsOf_ePS {l : Option (List Pd)} : cellsOf (ePS l) = [ePS l] := by cases l <;> rfl
attribute [push_cast] lenA_ePS iaddr_ePS eP ld_P get_P0 get_P1 get_P2 cellsOf_ePS one_ePS cP
def okMarks (l : List Int) : Bool := l.all fun m => decide (0 ≤ m) && decide (m ≤ 3)
structure Sh_ where
  seed : Int
  parts : Option (List Pd)
  offs : Option (List Int)
def eSh (s : Sh_) : AV := .agg [.int .i64 s.seed, ePS s.parts, eI s.offs]
attribute [push_cast] eSh
theorem placeV_bd {seed part : Int} {s : Str} {n : Int} (hn : 0 < n) : 0 ≤ placeV seed part s n ∧ placeV seed part s n < n := by
  obtain ⟨h1, h2⟩ := hashV_bd seed part s
  unfold placeV
  have h3 : 0 ≤ hashV seed part s * n := Int.mul_nonneg h1 (by omega)
  have h4 : hashV seed part s * n < 65521 * n := Int.mul_lt_mul_of_pos_right h2 hn
  constructor
  · omega
  · omega
/-- The places of a key. -/
def tri (seed : Int) (key : Str) (seg : Int) (n : Nat) : List Int := (List.range n).map fun j : Nat => placeV seed (j : Int) key seg + (j : Int) * seg
theorem tri_succ {seed : Int} {key : Str} {seg : Int} {n : Nat} : tri seed key seg (n + 1) = tri seed key seg n ++ [placeV seed (n : Int) key seg + (n : Int) * seg] := by simp [tri, List.range_succ]
theorem tri_len {seed : Int} {key : Str} {seg : Int} {n : Nat} : (tri seed key seg n).length = n := by simp [tri]
theorem tri_get {seed : Int} {key : Str} {seg : Int} {n i : Nat} (hi : i < n) : (tri seed key seg n).getD i 0 = placeV seed (i : Int) key seg + (i : Int) * seg := by simp [tri, hi]
theorem tri_bd {seed : Int} {key : Str} {seg : Int} {i : Nat} (hs : 0 < seg) (hi : i < 3) : 0 ≤ (tri seed key seg 3).getD i 0 ∧ (tri seed key seg 3).getD i 0 < 3 * seg := by
  rw [tri_get hi]
  have := placeV_bd (seed := seed) (part := (i : Int)) (s := key) hs
  have h3 : i = 0 ∨ i = 1 ∨ i = 2 := by omega
  rcases h3 with rfl | rfl | rfl <;> omega
structure OkP (p : Pd) : Prop where
  s0 : 0 ≤ p.seed
  s1 : p.seed ≤ 9999
  g0 : 1 ≤ p.seg
  g1 : p.seg ≤ 24
  ml : ((lI p.marks).length : Int) = 3 * p.seg
  mo : okMarks (lI p.marks) = true
theorem c_spec_peTriple (seed : Int) (key : Str) (seg : Int) (h1 : 0 ≤ seed) (h2 : seed ≤ 9999) (h3 : 1 ≤ seg) (h4 : seg ≤ 24) : Fn Tryz.prog 127 [.int .i64 seed, .str key, .int .i64 seg] (fun x => ∃ o, x = eI o ∧ lI o = tri seed key seg 3) := by
  refine Fn.froze_ fun h => ?_
  refine enter (by kernel_rfl) e127 (by kernel_rfl) rfl fun hok => ?_
  simp only [r127, initEnv_3]
  (try (simp (disch := first | omega | (simp <;> omega) | fail) only [push_cast, ↓reduceIte, Nat.reduceEqDiff, Nat.reduceAdd, Nat.reduceMul, Nat.reduceSub, Nat.reduceLT, Int.reduceToNat]))
  refine T_for 3 (fun i e h' => ∃ v, Pins e [(0, .int .i64 seed), (1, .str key), (2, .int .i64 seg), (7, v), (8, .int .i64 i)] ∧ Gr h h' 1 v i ((tri seed key seg i).map (.int .i64))) ?_ ?_
  · refine ⟨.nils, ?_, Gr.refl⟩
    (try (simp (disch := first | omega | (simp <;> omega) | fail) only [push_cast, ↓reduceIte, Nat.reduceEqDiff, Nat.reduceAdd, Nat.reduceMul, Nat.reduceSub, Nat.reduceLT, Int.reduceToNat]))
  rintro i e h' hi ⟨v, hp, hg⟩
  refine T_pins hp fun e => ?_
  (try (simp (disch := first | omega | (simp <;> omega) | fail) only [push_cast, ↓reduceIte, Nat.reduceEqDiff, Nat.reduceAdd, Nat.reduceMul, Nat.reduceSub, Nat.reduceLT, Int.reduceToNat]))
  first | refine goC_split (fun hc => ?_) (fun hc => ?_) | refine cnd_split (fun hc => ?_) (fun hc => ?_)
  · (try (simp only [decide_eq_true_eq, decide_eq_false_iff_not, Bool.not_eq_true', Bool.not_eq_false', Bool.and_eq_true, Bool.or_eq_true, Int.not_lt, Int.not_le] at hc)); (try (simp (disch := first | omega | (simp <;> omega) | fail) only [push_cast, ↓reduceIte, Nat.reduceEqDiff, Nat.reduceAdd, Nat.reduceMul, Nat.reduceSub, Nat.reduceLT, Int.reduceToNat]))
    have hb := placeV_bd (seed := seed) (part := (i : Int)) (s := key) (n := seg) (by omega)
    have hm := mul_bd (x := (i : Int)) (y := seg) (a := 3) (b := 24) (by omega) (by omega) (by omega) (by omega)
    refine (c_spec_biPlace seed i key seg (by omega) (by omega) (by omega) (by omega) (by omega) (by omega)).call ?_
    (try (simp (disch := first | omega | (simp <;> omega) | fail) only [push_cast, ↓reduceIte, Nat.reduceEqDiff, Nat.reduceAdd, Nat.reduceMul, Nat.reduceSub, Nat.reduceLT, Int.reduceToNat]))
    refine Gr.app2 hg (fun b hb => .inr hb) (new := [.int .i64 (placeV seed i key seg + i * seg)]) rfl (by decide) (by omega) ?_
    intro v' p' q hpl _ hg'
    (try (simp (disch := first | omega | (simp <;> omega) | fail) only [push_cast, ↓reduceIte, Nat.reduceEqDiff, Nat.reduceAdd, Nat.reduceMul, Nat.reduceSub, Nat.reduceLT, Int.reduceToNat]))
    refine ⟨v', rfl, ?_⟩
    rw [tri_succ, List.map_append]
    exact hg'
  · (try (simp only [decide_eq_true_eq, decide_eq_false_iff_not, Bool.not_eq_true', Bool.not_eq_false', Bool.and_eq_true, Bool.or_eq_true, Int.not_lt, Int.not_le] at hc)); (try (simp (disch := first | omega | (simp <;> omega) | fail) only [push_cast, ↓reduceIte, Nat.reduceEqDiff, Nat.reduceAdd, Nat.reduceMul, Nat.reduceSub, Nat.reduceLT, Int.reduceToNat]))
    have : i = 3 := by omega
    subst this
    obtain ⟨o, h5, h6⟩ := Gr.vwI (h := h) (h' := h') (v := v) (l := tri seed key seg 3) (by rw [tri_len]; exact hg)
    exact ⟨eI o, h5, o, rfl, h6⟩

theorem c_impl_hash (seed part : Int) (s : Str) (h1 : 0 ≤ seed) (h2 : seed ≤ 9999) (h3 : 0 ≤ part) (h4 : part ≤ 9999) : Fn Tryz.prog 188 [.int .i64 seed, .int .i64 part, .str s] (· = .int .i64 (hashV seed part s)) := by
  refine Fn.of free_int fun h => ?_
  refine enter (by kernel_rfl) e188 (by kernel_rfl) rfl fun hok => ?_
  simp only [r188, initEnv_3]
  have hlen := (okV_2 hok).str
  (try (simp (disch := first | omega | (simp <;> omega) | fail) only [push_cast, ↓reduceIte, Nat.reduceEqDiff, Nat.reduceAdd, Nat.reduceMul, Nat.reduceSub, Nat.reduceLT, Int.reduceToNat]))
  refine T_for s.length (fun i e h' => Pins e [(2, .str s), (7, .int .i64 (hk seed part (s.take i))), (18, .int .i64 s.length), (19, .int .i64 i)] ∧ h' = h) ?_ ?_
  · (try (simp (disch := first | omega | (simp <;> omega) | fail) only [push_cast, ↓reduceIte, Nat.reduceEqDiff, Nat.reduceAdd, Nat.reduceMul, Nat.reduceSub, Nat.reduceLT, Int.reduceToNat]))
    all_goals (try simp [hk])
  rintro i e h' hi ⟨hp, rfl⟩
  refine T_pins hp fun e => ?_
  have hb := hk_bd seed part (s.take i)
  (try (simp (disch := first | omega | (simp <;> omega) | fail) only [push_cast, ↓reduceIte, Nat.reduceEqDiff, Nat.reduceAdd, Nat.reduceMul, Nat.reduceSub, Nat.reduceLT, Int.reduceToNat]))
  first | refine goC_split (fun hc => ?_) (fun hc => ?_) | refine cnd_split (fun hc => ?_) (fun hc => ?_)
  · (try (simp only [decide_eq_true_eq, decide_eq_false_iff_not, Bool.not_eq_true', Bool.not_eq_false', Bool.and_eq_true, Bool.or_eq_true, Int.not_lt, Int.not_le] at hc)); (try (simp (disch := first | omega | (simp <;> omega) | fail) only [push_cast, ↓reduceIte, Nat.reduceEqDiff, Nat.reduceAdd, Nat.reduceMul, Nat.reduceSub, Nat.reduceLT, Int.reduceToNat]))
    have hi : i < s.length := by omega
    have hcb : (s.getD i 0).toNat < 256 := UInt8.toNat_lt _
    have hn := hk_take (seed := seed) (part := part) hi
    (try (simp (disch := first | omega | (simp <;> omega) | fail) only [push_cast, ↓reduceIte, Nat.reduceEqDiff, Nat.reduceAdd, Nat.reduceMul, Nat.reduceSub, Nat.reduceLT, Int.reduceToNat]))
    all_goals (try (rw [hn]))
  · (try (simp only [decide_eq_true_eq, decide_eq_false_iff_not, Bool.not_eq_true', Bool.not_eq_false', Bool.and_eq_true, Bool.or_eq_true, Int.not_lt, Int.not_le] at hc)); (try (simp (disch := first | omega | (simp <;> omega) | fail) only [push_cast, ↓reduceIte, Nat.reduceEqDiff, Nat.reduceAdd, Nat.reduceMul, Nat.reduceSub, Nat.reduceLT, Int.reduceToNat]))
    have he : s.take i = s := List.take_of_length_le (by omega)
    rw [he] at hb ⊢
    refine T_for 11 (fun j e h'' => Pins e [(7, .int .i64 (hk seed part s)), (9, .int .i64 (hk seed part s ^ j % 65521)), (31, .int .i64 j)] ∧ h'' = h') ?_ ?_
    · (try (simp (disch := first | omega | (simp <;> omega) | fail) only [push_cast, ↓reduceIte, Nat.reduceEqDiff, Nat.reduceAdd, Nat.reduceMul, Nat.reduceSub, Nat.reduceLT, Int.reduceToNat]))
      all_goals (try simp)
    rintro j e h'' hj ⟨hp, rfl⟩
    refine T_pins hp fun e => ?_
    have hm := mul_bd (x := hk seed part s ^ j % 65521) (y := hk seed part s) (a := 65521) (b := 65521) (by omega) (by omega) (by omega) (by omega)
    have hst := pow_step (hk seed part s) j
    (try (simp (disch := first | omega | (simp <;> omega) | fail) only [push_cast, ↓reduceIte, Nat.reduceEqDiff, Nat.reduceAdd, Nat.reduceMul, Nat.reduceSub, Nat.reduceLT, Int.reduceToNat]))
    first | refine goC_split (fun hd => ?_) (fun hd => ?_) | refine cnd_split (fun hd => ?_) (fun hd => ?_)
    · (try (simp only [decide_eq_true_eq, decide_eq_false_iff_not, Bool.not_eq_true', Bool.not_eq_false', Bool.and_eq_true, Bool.or_eq_true, Int.not_lt, Int.not_le] at hd)); (try (simp (disch := first | omega | (simp <;> omega) | fail) only [push_cast, ↓reduceIte, Nat.reduceEqDiff, Nat.reduceAdd, Nat.reduceMul, Nat.reduceSub, Nat.reduceLT, Int.reduceToNat]))
      all_goals (try omega)
    · (try (simp only [decide_eq_true_eq, decide_eq_false_iff_not, Bool.not_eq_true', Bool.not_eq_false', Bool.and_eq_true, Bool.or_eq_true, Int.not_lt, Int.not_le] at hd)); (try (simp (disch := first | omega | (simp <;> omega) | fail) only [push_cast, ↓reduceIte, Nat.reduceEqDiff, Nat.reduceAdd, Nat.reduceMul, Nat.reduceSub, Nat.reduceLT, Int.reduceToNat]))
      have : j = 11 := by omega
      subst this
      rfl

theorem c_impl_place (seed part : Int) (s : Str) (n : Int) (h1 : 0 ≤ seed) (h2 : seed ≤ 9999) (h3 : 0 ≤ part) (h4 : part ≤ 9999) (h5 : 0 ≤ n) (h6 : n ≤ 1048576) : Fn Tryz.prog 167 [.int .i64 seed, .int .i64 part, .str s, .int .i64 n] (· = .int .i64 (placeV seed part s n)) := by
  refine Fn.of free_int fun h => ?_
  refine enter (by kernel_rfl) e167 (by kernel_rfl) rfl fun hok => ?_
  simp only [r167, initEnv_4]
  (try (simp (disch := first | omega | (simp <;> omega) | fail) only [push_cast, ↓reduceIte, Nat.reduceEqDiff, Nat.reduceAdd, Nat.reduceMul, Nat.reduceSub, Nat.reduceLT, Int.reduceToNat]))
  refine (c_impl_hash seed part s h1 h2 h3 h4).call ?_
  have hb := hashV_bd seed part s
  have hm := mul_bd (x := hashV seed part s) (y := n) (a := 65521) (b := 1048576) (by omega) (by omega) h5 h6
  (try (simp (disch := first | omega | (simp <;> omega) | fail) only [push_cast, ↓reduceIte, Nat.reduceEqDiff, Nat.reduceAdd, Nat.reduceMul, Nat.reduceSub, Nat.reduceLT, Int.reduceToNat]))
  all_goals (try rfl)

theorem c_impl_threePlaces (seed : Int) (key : Str) (seg : Int) (h1 : 0 ≤ seed) (h2 : seed ≤ 9999) (h3 : 1 ≤ seg) (h4 : seg ≤ 24) : Fn Tryz.prog 129 [.int .i64 seed, .str key, .int .i64 seg] (fun x => ∃ o, x = eI o ∧ lI o = tri seed key seg 3) := by
  refine Fn.froze_ fun h => ?_
  refine enter (by kernel_rfl) e129 (by kernel_rfl) rfl fun hok => ?_
  simp only [r129, initEnv_3]
  (try (simp (disch := first | omega | (simp <;> omega) | fail) only [push_cast, ↓reduceIte, Nat.reduceEqDiff, Nat.reduceAdd, Nat.reduceMul, Nat.reduceSub, Nat.reduceLT, Int.reduceToNat]))
  refine T_for 3 (fun i e h' => ∃ v, Pins e [(0, .int .i64 seed), (1, .str key), (2, .int .i64 seg), (7, v), (10, .int .i64 i)] ∧ Gr h h' 1 v i ((tri seed key seg i).map (.int .i64))) ?_ ?_
  · refine ⟨.sl h.length 0 1 0 0, ?_, ⟨⟨_, rfl⟩, rfl, .inr ⟨h.length, 0, [], Nat.le_refl _, rfl, Nat.le_refl _, by simp, ?_, rfl⟩⟩⟩
    · (try (simp (disch := first | omega | (simp <;> omega) | fail) only [push_cast, ↓reduceIte, Nat.reduceEqDiff, Nat.reduceAdd, Nat.reduceMul, Nat.reduceSub, Nat.reduceLT, Int.reduceToNat]))
    · rw [cells_h0]
      rfl
  rintro i e h' hi ⟨v, hp, hg⟩
  refine T_pins hp fun e => ?_
  (try (simp (disch := first | omega | (simp <;> omega) | fail) only [push_cast, ↓reduceIte, Nat.reduceEqDiff, Nat.reduceAdd, Nat.reduceMul, Nat.reduceSub, Nat.reduceLT, Int.reduceToNat]))
  first | refine goC_split (fun hc => ?_) (fun hc => ?_) | refine cnd_split (fun hc => ?_) (fun hc => ?_)
  · (try (simp only [decide_eq_true_eq, decide_eq_false_iff_not, Bool.not_eq_true', Bool.not_eq_false', Bool.and_eq_true, Bool.or_eq_true, Int.not_lt, Int.not_le] at hc)); (try (simp (disch := first | omega | (simp <;> omega) | fail) only [push_cast, ↓reduceIte, Nat.reduceEqDiff, Nat.reduceAdd, Nat.reduceMul, Nat.reduceSub, Nat.reduceLT, Int.reduceToNat]))
    have hb := placeV_bd (seed := seed) (part := (i : Int)) (s := key) (n := seg) (by omega)
    have hm := mul_bd (x := (i : Int)) (y := seg) (a := 3) (b := 24) (by omega) (by omega) (by omega) (by omega)
    refine (c_impl_place seed i key seg (by omega) (by omega) (by omega) (by omega) (by omega) (by omega)).call ?_
    (try (simp (disch := first | omega | (simp <;> omega) | fail) only [push_cast, ↓reduceIte, Nat.reduceEqDiff, Nat.reduceAdd, Nat.reduceMul, Nat.reduceSub, Nat.reduceLT, Int.reduceToNat]))
    refine Gr.app2 hg (fun b hb => .inr hb) (new := [.int .i64 (placeV seed i key seg + i * seg)]) rfl (by decide) (by omega) ?_
    intro v' p' q hpl _ hg'
    (try (simp (disch := first | omega | (simp <;> omega) | fail) only [push_cast, ↓reduceIte, Nat.reduceEqDiff, Nat.reduceAdd, Nat.reduceMul, Nat.reduceSub, Nat.reduceLT, Int.reduceToNat]))
    refine ⟨v', rfl, ?_⟩
    rw [tri_succ, List.map_append]
    exact hg'
  · (try (simp only [decide_eq_true_eq, decide_eq_false_iff_not, Bool.not_eq_true', Bool.not_eq_false', Bool.and_eq_true, Bool.or_eq_true, Int.not_lt, Int.not_le] at hc)); (try (simp (disch := first | omega | (simp <;> omega) | fail) only [push_cast, ↓reduceIte, Nat.reduceEqDiff, Nat.reduceAdd, Nat.reduceMul, Nat.reduceSub, Nat.reduceLT, Int.reduceToNat]))
    have : i = 3 := by omega
    subst this
    obtain ⟨o, h5, h6⟩ := Gr.vwI (h := h) (h' := h') (v := v) (l := tri seed key seg 3) (by rw [tri_len]; exact hg)
    exact ⟨eI o, h5, o, rfl, h6⟩

end Go.Proofs.YtjfgmimgmapeeaaGreat.M
