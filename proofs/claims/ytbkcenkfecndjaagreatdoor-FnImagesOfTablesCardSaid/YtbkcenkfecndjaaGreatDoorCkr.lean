/-
  What the functions return.
-/
import Derived.Test.YtbkcenkfecndjaaGreatDoorFkr
import Derived.Test.YtbkcenkfecndjaaGreatDoorCkq
namespace Go.Proofs.YtbkcenkfecndjaaGreatDoor.M
open Go Go.RowKit
set_option linter.unusedVariables false
set_option linter.unusedSimpArgs false
set_option maxRecDepth 4000

theorem c_spec_l1In (n lo hi : Int) : Fn Tryz.prog 53 [.int .i64 n, .int .i64 lo, .int .i64 hi] (· = .bool (decide (lo ≤ n) && decide (n ≤ hi))) := by
  refine Fn.of free_bool fun h => ?_
  refine enter (by kernel_rfl) e53 (by kernel_rfl) rfl fun hok => ?_
  simp only [r53, initEnv_3]
  (try (simp (disch := first | omega | (simp <;> omega) | fail) only [push_cast, ↓reduceIte, Nat.reduceEqDiff, Nat.reduceAdd, Nat.reduceMul, Nat.reduceSub, Nat.reduceLT, Int.reduceToNat]))
  first | refine goC_split (fun hc => ?_) (fun hc => ?_) | refine cnd_split (fun hc => ?_) (fun hc => ?_)
  · (try (simp only [decide_eq_true_eq, decide_eq_false_iff_not, Bool.not_eq_true', Bool.not_eq_false', Bool.and_eq_true, Bool.or_eq_true, Int.not_lt, Int.not_le] at hc)); (try (simp (disch := first | omega | (simp <;> omega) | fail) only [push_cast, ↓reduceIte, Nat.reduceEqDiff, Nat.reduceAdd, Nat.reduceMul, Nat.reduceSub, Nat.reduceLT, Int.reduceToNat]))
    first | refine goC_split (fun hd => ?_) (fun hd => ?_) | refine cnd_split (fun hd => ?_) (fun hd => ?_)
    · (try (simp only [decide_eq_true_eq, decide_eq_false_iff_not, Bool.not_eq_true', Bool.not_eq_false', Bool.and_eq_true, Bool.or_eq_true, Int.not_lt, Int.not_le] at hd)); (try (simp (disch := first | omega | (simp <;> omega) | fail) only [push_cast, ↓reduceIte, Nat.reduceEqDiff, Nat.reduceAdd, Nat.reduceMul, Nat.reduceSub, Nat.reduceLT, Int.reduceToNat]))
    · (try (simp only [decide_eq_true_eq, decide_eq_false_iff_not, Bool.not_eq_true', Bool.not_eq_false', Bool.and_eq_true, Bool.or_eq_true, Int.not_lt, Int.not_le] at hd)); (try (simp (disch := first | omega | (simp <;> omega) | fail) only [push_cast, ↓reduceIte, Nat.reduceEqDiff, Nat.reduceAdd, Nat.reduceMul, Nat.reduceSub, Nat.reduceLT, Int.reduceToNat]))
  · (try (simp only [decide_eq_true_eq, decide_eq_false_iff_not, Bool.not_eq_true', Bool.not_eq_false', Bool.and_eq_true, Bool.or_eq_true, Int.not_lt, Int.not_le] at hc)); (try (simp (disch := first | omega | (simp <;> omega) | fail) only [push_cast, ↓reduceIte, Nat.reduceEqDiff, Nat.reduceAdd, Nat.reduceMul, Nat.reduceSub, Nat.reduceLT, Int.reduceToNat]))
    try simp

theorem c_spec_IsKey (s : Str) : Fn Tryz.prog 121 [.str s] (· = .bool (okKey s)) := by
  refine Fn.of free_bool fun h => ?_
  refine enter (by kernel_rfl) e121 (by kernel_rfl) rfl fun hok => ?_
  simp only [r121, initEnv_1]
  have hlen := (okV_0 hok).str
  (try (simp (disch := first | omega | (simp <;> omega) | fail) only [push_cast, ↓reduceIte, Nat.reduceEqDiff, Nat.reduceAdd, Nat.reduceMul, Nat.reduceSub, Nat.reduceLT, Int.reduceToNat]))
  refine T_for s.length (fun i e h' => Pins e [(0, .str s), (3, .int .i64 i)] ∧ h' = h ∧ (s.take i).all okByte = true) ?_ ?_
  · (try (simp (disch := first | omega | (simp <;> omega) | fail) only [push_cast, ↓reduceIte, Nat.reduceEqDiff, Nat.reduceAdd, Nat.reduceMul, Nat.reduceSub, Nat.reduceLT, Int.reduceToNat]))
    simp
  rintro i e h' hi ⟨hp, rfl, ha⟩
  refine T_pins hp fun e => ?_
  (try (simp (disch := first | omega | (simp <;> omega) | fail) only [push_cast, ↓reduceIte, Nat.reduceEqDiff, Nat.reduceAdd, Nat.reduceMul, Nat.reduceSub, Nat.reduceLT, Int.reduceToNat]))
  first | refine goC_split (fun hc => ?_) (fun hc => ?_) | refine cnd_split (fun hc => ?_) (fun hc => ?_)
  · (try (simp only [decide_eq_true_eq, decide_eq_false_iff_not, Bool.not_eq_true', Bool.not_eq_false', Bool.and_eq_true, Bool.or_eq_true, Int.not_lt, Int.not_le] at hc)); (try (simp (disch := first | omega | (simp <;> omega) | fail) only [push_cast, ↓reduceIte, Nat.reduceEqDiff, Nat.reduceAdd, Nat.reduceMul, Nat.reduceSub, Nat.reduceLT, Int.reduceToNat]))
    have hi : i < s.length := by omega
    have hn : (s.take (i + 1)).all okByte = okByte (s.getD i 0) := by
      rw [List.take_add_one, List.all_append, ha]
      simp [hi]
    have hf : okByte (s.getD i 0) = false → okKey s = false := fun hf => by
      unfold okKey
      rw [Bool.and_eq_false_iff]
      left
      rw [List.all_eq_false]
      refine ⟨s.getD i 0, by simp [hi], by rw [hf]; simp⟩
    (try (simp (disch := first | omega | (simp <;> omega) | fail) only [push_cast, ↓reduceIte, Nat.reduceEqDiff, Nat.reduceAdd, Nat.reduceMul, Nat.reduceSub, Nat.reduceLT, Int.reduceToNat]))
    first | refine goC_split (fun hc => ?_) (fun hc => ?_) | refine cnd_split (fun hc => ?_) (fun hc => ?_)
    · (try (simp only [decide_eq_true_eq, decide_eq_false_iff_not, Bool.not_eq_true', Bool.not_eq_false', Bool.and_eq_true, Bool.or_eq_true, Int.not_lt, Int.not_le] at hc)); (try (simp (disch := first | omega | (simp <;> omega) | fail) only [push_cast, ↓reduceIte, Nat.reduceEqDiff, Nat.reduceAdd, Nat.reduceMul, Nat.reduceSub, Nat.reduceLT, Int.reduceToNat]))
      rw [hf (by unfold okByte; simp only [Bool.and_eq_false_iff, decide_eq_false_iff_not]; omega)]
    · (try (simp only [decide_eq_true_eq, decide_eq_false_iff_not, Bool.not_eq_true', Bool.not_eq_false', Bool.and_eq_true, Bool.or_eq_true, Int.not_lt, Int.not_le] at hc)); (try (simp (disch := first | omega | (simp <;> omega) | fail) only [push_cast, ↓reduceIte, Nat.reduceEqDiff, Nat.reduceAdd, Nat.reduceMul, Nat.reduceSub, Nat.reduceLT, Int.reduceToNat]))
      (try (simp (disch := first | omega | (simp <;> omega) | fail) only [push_cast, ↓reduceIte, Nat.reduceEqDiff, Nat.reduceAdd, Nat.reduceMul, Nat.reduceSub, Nat.reduceLT, Int.reduceToNat]))
      first | refine goC_split (fun hd => ?_) (fun hd => ?_) | refine cnd_split (fun hd => ?_) (fun hd => ?_)
      · (try (simp only [decide_eq_true_eq, decide_eq_false_iff_not, Bool.not_eq_true', Bool.not_eq_false', Bool.and_eq_true, Bool.or_eq_true, Int.not_lt, Int.not_le] at hd)); (try (simp (disch := first | omega | (simp <;> omega) | fail) only [push_cast, ↓reduceIte, Nat.reduceEqDiff, Nat.reduceAdd, Nat.reduceMul, Nat.reduceSub, Nat.reduceLT, Int.reduceToNat]))
        rw [hf (by unfold okByte; simp only [Bool.and_eq_false_iff, decide_eq_false_iff_not]; omega)]
      · (try (simp only [decide_eq_true_eq, decide_eq_false_iff_not, Bool.not_eq_true', Bool.not_eq_false', Bool.and_eq_true, Bool.or_eq_true, Int.not_lt, Int.not_le] at hd)); (try (simp (disch := first | omega | (simp <;> omega) | fail) only [push_cast, ↓reduceIte, Nat.reduceEqDiff, Nat.reduceAdd, Nat.reduceMul, Nat.reduceSub, Nat.reduceLT, Int.reduceToNat]))
        (try (simp (disch := first | omega | (simp <;> omega) | fail) only [push_cast, ↓reduceIte, Nat.reduceEqDiff, Nat.reduceAdd, Nat.reduceMul, Nat.reduceSub, Nat.reduceLT, Int.reduceToNat]))
        rw [hn]
        unfold okByte
        simp only [Bool.and_eq_true, decide_eq_true_eq]
        omega
  · (try (simp only [decide_eq_true_eq, decide_eq_false_iff_not, Bool.not_eq_true', Bool.not_eq_false', Bool.and_eq_true, Bool.or_eq_true, Int.not_lt, Int.not_le] at hc)); (try (simp (disch := first | omega | (simp <;> omega) | fail) only [push_cast, ↓reduceIte, Nat.reduceEqDiff, Nat.reduceAdd, Nat.reduceMul, Nat.reduceSub, Nat.reduceLT, Int.reduceToNat]))
    have he : s.take i = s := List.take_of_length_le (by omega)
    rw [he] at ha
    have hk : okKey s = (decide (1 ≤ (s.length : Int)) && decide ((s.length : Int) ≤ 12)) := by
      unfold okKey
      rw [ha, Bool.true_and]
    rw [hk]
    refine (c_spec_l1In _ _ _).call ?_
    (try (simp (disch := first | omega | (simp <;> omega) | fail) only [push_cast, ↓reduceIte, Nat.reduceEqDiff, Nat.reduceAdd, Nat.reduceMul, Nat.reduceSub, Nat.reduceLT, Int.reduceToNat]))

theorem c_spec_biKeys (a : Option (List Str)) : Fn Tryz.prog 100 [eS a] (· = .bool (okKeys (lS a))) := by
  refine Fn.of free_bool fun h => ?_
  refine enter (by kernel_rfl) e100 (by kernel_rfl) rfl fun hok => ?_
  simp only [r100, initEnv_1]
  have hlen := ok_eS (okV_0 hok)
  (try (simp (disch := first | omega | (simp <;> omega) | fail) only [push_cast, ↓reduceIte, Nat.reduceEqDiff, Nat.reduceAdd, Nat.reduceMul, Nat.reduceSub, Nat.reduceLT, Int.reduceToNat]))
  refine T_for (lS a).length (fun i e h' => Pins e [(0, eS a), (5, eS a), (6, .int .i64 (lS a).length), (7, .int .i64 i)] ∧ h' = h ∧ okKeysFrom (lS a) i = true) ?_ ?_
  · (try (simp (disch := first | omega | (simp <;> omega) | fail) only [push_cast, ↓reduceIte, Nat.reduceEqDiff, Nat.reduceAdd, Nat.reduceMul, Nat.reduceSub, Nat.reduceLT, Int.reduceToNat]))
    simp [okKeysFrom]
  rintro i e h' hi ⟨hp, rfl, ha⟩
  refine T_pins hp fun e => ?_
  (try (simp (disch := first | omega | (simp <;> omega) | fail) only [push_cast, ↓reduceIte, Nat.reduceEqDiff, Nat.reduceAdd, Nat.reduceMul, Nat.reduceSub, Nat.reduceLT, Int.reduceToNat]))
  first | refine goC_split (fun hc => ?_) (fun hc => ?_) | refine cnd_split (fun hc => ?_) (fun hc => ?_)
  · (try (simp only [decide_eq_true_eq, decide_eq_false_iff_not, Bool.not_eq_true', Bool.not_eq_false', Bool.and_eq_true, Bool.or_eq_true, Int.not_lt, Int.not_le] at hc)); (try (simp (disch := first | omega | (simp <;> omega) | fail) only [push_cast, ↓reduceIte, Nat.reduceEqDiff, Nat.reduceAdd, Nat.reduceMul, Nat.reduceSub, Nat.reduceLT, Int.reduceToNat]))
    have hi : i < (lS a).length := by omega
    have hf : okKeysFrom (lS a) (i + 1) = false → okKeys (lS a) = false := fun hf => by
      unfold okKeys
      rw [okKeysFrom_false (show i + 1 ≤ (lS a).length by omega) hf, Bool.false_and]
    (try (simp (disch := first | omega | (simp <;> omega) | fail) only [push_cast, ↓reduceIte, Nat.reduceEqDiff, Nat.reduceAdd, Nat.reduceMul, Nat.reduceSub, Nat.reduceLT, Int.reduceToNat]))
    refine (c_spec_IsKey _).call ?_
    (try (simp (disch := first | omega | (simp <;> omega) | fail) only [push_cast, ↓reduceIte, Nat.reduceEqDiff, Nat.reduceAdd, Nat.reduceMul, Nat.reduceSub, Nat.reduceLT, Int.reduceToNat]))
    cases hk : okKey ((lS a).getD i [])
    · (try (simp (disch := first | omega | (simp <;> omega) | fail) only [push_cast, ↓reduceIte, Nat.reduceEqDiff, Nat.reduceAdd, Nat.reduceMul, Nat.reduceSub, Nat.reduceLT, Int.reduceToNat]))
      rw [hf (by simp only [okKeysFrom, hk, Bool.false_and, Bool.and_false])]
    · (try (simp (disch := first | omega | (simp <;> omega) | fail) only [push_cast, ↓reduceIte, Nat.reduceEqDiff, Nat.reduceAdd, Nat.reduceMul, Nat.reduceSub, Nat.reduceLT, Int.reduceToNat]))
      first | refine goC_split (fun hc => ?_) (fun hc => ?_) | refine cnd_split (fun hc => ?_) (fun hc => ?_)
      · (try (simp only [decide_eq_true_eq, decide_eq_false_iff_not, Bool.not_eq_true', Bool.not_eq_false', Bool.and_eq_true, Bool.or_eq_true, Int.not_lt, Int.not_le] at hc)); (try (simp (disch := first | omega | (simp <;> omega) | fail) only [push_cast, ↓reduceIte, Nat.reduceEqDiff, Nat.reduceAdd, Nat.reduceMul, Nat.reduceSub, Nat.reduceLT, Int.reduceToNat]))
        (try (simp (disch := first | omega | (simp <;> omega) | fail) only [push_cast, ↓reduceIte, Nat.reduceEqDiff, Nat.reduceAdd, Nat.reduceMul, Nat.reduceSub, Nat.reduceLT, Int.reduceToNat]))
        first | refine goC_split (fun hd => ?_) (fun hd => ?_) | refine cnd_split (fun hd => ?_) (fun hd => ?_)
        · (try (simp (disch := first | omega | (simp <;> omega) | fail) only [push_cast, ↓reduceIte, Nat.reduceEqDiff, Nat.reduceAdd, Nat.reduceMul, Nat.reduceSub, Nat.reduceLT, Int.reduceToNat]))
          rw [hf (by
            rw [Bool.not_eq_true'] at hd
            simp only [okKeysFrom, hk, Bool.true_and, show i ≠ 0 by omega, decide_false, Bool.false_or, hd, Bool.and_false])]
        · (try (simp (disch := first | omega | (simp <;> omega) | fail) only [push_cast, ↓reduceIte, Nat.reduceEqDiff, Nat.reduceAdd, Nat.reduceMul, Nat.reduceSub, Nat.reduceLT, Int.reduceToNat]))
          rw [Bool.not_eq_false'] at hd
          simp only [okKeysFrom, ha, hk, Bool.true_and, hd, Bool.or_true]
      · (try (simp only [decide_eq_true_eq, decide_eq_false_iff_not, Bool.not_eq_true', Bool.not_eq_false', Bool.and_eq_true, Bool.or_eq_true, Int.not_lt, Int.not_le] at hc)); (try (simp (disch := first | omega | (simp <;> omega) | fail) only [push_cast, ↓reduceIte, Nat.reduceEqDiff, Nat.reduceAdd, Nat.reduceMul, Nat.reduceSub, Nat.reduceLT, Int.reduceToNat]))
        (try (simp (disch := first | omega | (simp <;> omega) | fail) only [push_cast, ↓reduceIte, Nat.reduceEqDiff, Nat.reduceAdd, Nat.reduceMul, Nat.reduceSub, Nat.reduceLT, Int.reduceToNat]))
        have : i = 0 := by omega
        subst this
        simp only [okKeysFrom, hk, Bool.true_and, decide_true, Bool.true_or]
  · (try (simp only [decide_eq_true_eq, decide_eq_false_iff_not, Bool.not_eq_true', Bool.not_eq_false', Bool.and_eq_true, Bool.or_eq_true, Int.not_lt, Int.not_le] at hc)); (try (simp (disch := first | omega | (simp <;> omega) | fail) only [push_cast, ↓reduceIte, Nat.reduceEqDiff, Nat.reduceAdd, Nat.reduceMul, Nat.reduceSub, Nat.reduceLT, Int.reduceToNat]))
    have he : i = (lS a).length := by omega
    subst he
    have hk : okKeys (lS a) = decide (((lS a).length : Int) ≤ 40) := by
      unfold okKeys
      rw [ha, Bool.true_and]
    rw [hk]
    (first | refine goC_split (fun hc => ?_) (fun hc => ?_) | refine cnd_split (fun hc => ?_) (fun hc => ?_)) <;> ((try (simp (disch := first | omega | (simp <;> omega) | fail) only [push_cast, ↓reduceIte, Nat.reduceEqDiff, Nat.reduceAdd, Nat.reduceMul, Nat.reduceSub, Nat.reduceLT, Int.reduceToNat]))) <;> (try rw [hc])

theorem c_spec_peKeyed (n m : Int) (a : Option (List Str)) : Fn Tryz.prog 81 [.int .i64 n, eS a, .int .i64 m] (· = .bool ((decide (0 ≤ n) && decide (n ≤ 9999)) && (okKeys (lS a) && (decide (1 ≤ m) && decide (m ≤ 24))))) := by
  refine Fn.of free_bool fun h => ?_
  refine enter (by kernel_rfl) e81 (by kernel_rfl) rfl fun hok => ?_
  simp only [r81, initEnv_3]
  (try (simp (disch := first | omega | (simp <;> omega) | fail) only [push_cast, ↓reduceIte, Nat.reduceEqDiff, Nat.reduceAdd, Nat.reduceMul, Nat.reduceSub, Nat.reduceLT, Int.reduceToNat]))
  refine (c_spec_l1In _ _ _).call ?_
  cases h1 : (decide (0 ≤ n) && decide (n ≤ 9999))
  · (try (simp (disch := first | omega | (simp <;> omega) | fail) only [push_cast, ↓reduceIte, Nat.reduceEqDiff, Nat.reduceAdd, Nat.reduceMul, Nat.reduceSub, Nat.reduceLT, Int.reduceToNat]))
  (try (simp (disch := first | omega | (simp <;> omega) | fail) only [push_cast, ↓reduceIte, Nat.reduceEqDiff, Nat.reduceAdd, Nat.reduceMul, Nat.reduceSub, Nat.reduceLT, Int.reduceToNat]))
  refine (c_spec_biKeys _).call ?_
  cases h2 : okKeys (lS a)
  · (try (simp (disch := first | omega | (simp <;> omega) | fail) only [push_cast, ↓reduceIte, Nat.reduceEqDiff, Nat.reduceAdd, Nat.reduceMul, Nat.reduceSub, Nat.reduceLT, Int.reduceToNat]))
  (try (simp (disch := first | omega | (simp <;> omega) | fail) only [push_cast, ↓reduceIte, Nat.reduceEqDiff, Nat.reduceAdd, Nat.reduceMul, Nat.reduceSub, Nat.reduceLT, Int.reduceToNat]))
  refine (c_spec_l1In _ _ _).call ?_
  (try (simp (disch := first | omega | (simp <;> omega) | fail) only [push_cast, ↓reduceIte, Nat.reduceEqDiff, Nat.reduceAdd, Nat.reduceMul, Nat.reduceSub, Nat.reduceLT, Int.reduceToNat]))

theorem c_spec_pfSum (m l : Option (List Int)) (hm : okMarks (lI m) = true) (hl : (lI l).length ≤ 100) (hp : ∀ i, i < (lI l).length → 0 ≤ (lI l).getD i 0 ∧ (lI l).getD i 0 < (lI m).length) : Fn Tryz.prog 86 [eI m, eI l] (· = .int .i64 (sumAt (lI m) (lI l))) := by
  refine Fn.of free_int fun h => ?_
  refine enter (by kernel_rfl) e86 (by kernel_rfl) rfl fun hok => ?_
  simp only [r86, initEnv_2]
  (try (simp (disch := first | omega | (simp <;> omega) | fail) only [push_cast, ↓reduceIte, Nat.reduceEqDiff, Nat.reduceAdd, Nat.reduceMul, Nat.reduceSub, Nat.reduceLT, Int.reduceToNat]))
  refine T_for (lI l).length (fun i e h' => Pins e [(0, eI m), (5, .int .i64 (sumAt (lI m) ((lI l).take i))), (8, eI l), (9, .int .i64 (lI l).length), (10, .int .i64 i)] ∧ h' = h) ?_ ?_
  · (try (simp (disch := first | omega | (simp <;> omega) | fail) only [push_cast, ↓reduceIte, Nat.reduceEqDiff, Nat.reduceAdd, Nat.reduceMul, Nat.reduceSub, Nat.reduceLT, Int.reduceToNat]))
    all_goals (try simp [sumAt])
  rintro i e h' hi ⟨hq, rfl⟩
  refine T_pins hq fun e => ?_
  have hs := sumAt_bd hm ((lI l).take i)
  have hsl : ((lI l).take i).length = i := by simp; omega
  (try (simp (disch := first | omega | (simp <;> omega) | fail) only [push_cast, ↓reduceIte, Nat.reduceEqDiff, Nat.reduceAdd, Nat.reduceMul, Nat.reduceSub, Nat.reduceLT, Int.reduceToNat]))
  first | refine goC_split (fun hc => ?_) (fun hc => ?_) | refine cnd_split (fun hc => ?_) (fun hc => ?_)
  · (try (simp only [decide_eq_true_eq, decide_eq_false_iff_not, Bool.not_eq_true', Bool.not_eq_false', Bool.and_eq_true, Bool.or_eq_true, Int.not_lt, Int.not_le] at hc)); (try (simp (disch := first | omega | (simp <;> omega) | fail) only [push_cast, ↓reduceIte, Nat.reduceEqDiff, Nat.reduceAdd, Nat.reduceMul, Nat.reduceSub, Nat.reduceLT, Int.reduceToNat]))
    have hi2 : i < (lI l).length := by omega
    obtain ⟨p1, p2⟩ := hp i hi2
    have hg := okMarks_get hm ((lI l).getD i 0).toNat
    have hst := sumAt_take (m := lI m) hi2
    (try (simp (disch := first | omega | (simp <;> omega) | fail) only [push_cast, ↓reduceIte, Nat.reduceEqDiff, Nat.reduceAdd, Nat.reduceMul, Nat.reduceSub, Nat.reduceLT, Int.reduceToNat]))
    all_goals (try (rw [hst]))
  · (try (simp only [decide_eq_true_eq, decide_eq_false_iff_not, Bool.not_eq_true', Bool.not_eq_false', Bool.and_eq_true, Bool.or_eq_true, Int.not_lt, Int.not_le] at hc)); (try (simp (disch := first | omega | (simp <;> omega) | fail) only [push_cast, ↓reduceIte, Nat.reduceEqDiff, Nat.reduceAdd, Nat.reduceMul, Nat.reduceSub, Nat.reduceLT, Int.reduceToNat]))
    have : (lI l).take i = lI l := List.take_of_length_le (by omega)
    rw [this]

theorem ow_eI {h : H} {x : AV} {w : Option (List Int)} {F : Nat → Prop} (ho : Ow h [x] [eI w] F) : one x = true ∧ cellsOf x = [x] := by
  cases w with
  | none =>
    have : x = .nils := ho.atomOf rfl
    rw [this]
    exact ⟨rfl, rfl⟩
  | some ws =>
    obtain ⟨b, rfl⟩ := Ow.sl1 (show Ow h [x] [.ro 1 _ _] F from ho)
    exact ⟨rfl, rfl⟩

/-- A box with a growing list of marks. -/
def MkJ (g : H) (n0 bx : Nat) (r1 r2 : Int) (v : AV) (L : List Int) : Prop := bx < n0 ∧ n0 ≤ g.length ∧ g.cells bx = some [.int .i64 r1, .int .i64 r2, v] ∧ ∃ B, S1 g 1 v L.length (L.map (.int .i64)) B ∧ ∀ k ∈ B, n0 ≤ k
theorem MkJ.one {g : H} {n0 bx : Nat} {r1 r2 : Int} {v : AV} {L : List Int} (hm : MkJ g n0 bx r1 r2 v L) : M.one v = true ∧ cellsOf v = [v] := by
  obtain ⟨_, _, _, B, hs, _⟩ := hm
  exact hs.one_
theorem MkJ.app {g : H} {n0 bx : Nat} {r1 r2 x : Int} {v : AV} {L : List Int} {pm : Nat → Prop} {Q : AV → H → Prop} (hm : MkJ g n0 bx r1 r2 v L) (hpm : ∀ c, n0 ≤ c → pm c) (hL : L.length ≤ 1000000)
    (hQ : ∀ v' g2, M.one v' = true → cellsOf v' = [v'] → g2.cells bx = some [.int .i64 r1, .int .i64 r2, v] → (∀ c, c < n0 → c ≠ bx → (wr g2 bx [.int .i64 r1, .int .i64 r2, v'])[c]? = g[c]?) → MkJ (wr g2 bx [.int .i64 r1, .int .i64 r2, v']) n0 bx r1 r2 v' (L ++ [x]) → Q v' g2) : apA pm (g ++ [some (.cells [.int .i64 x])]) Q 1 8 (some ([.int .i64 x], 1)) v := by
  obtain ⟨m0, m1, m2, B, hs, hB⟩ := hm
  refine (hs.frame (h' := g ++ [some (.cells [.int .i64 x])]) fun c hc => List.getElem?_append_left (hs.lt c hc)).app0 (new := [.int .i64 x]) (k := 1) (by_ := 8) (fun c hc => hpm c (hB c hc)) rfl (by omega) fun v' g2 B' q1 q2 q3 q4 q5 => ?_
  simp only [List.length_append, List.length_cons, List.length_nil] at q2 q3 q4
  have hk : ∀ c, c < n0 → g2[c]? = g[c]? := fun c hc => (q3 c (by omega) fun h5 => by have := hB c h5; omega).trans (List.getElem?_append_left (by omega))
  have hw : ∀ cs c, c ≠ bx → (wr g2 bx cs)[c]? = g2[c]? := fun cs c hc => by
    unfold wr
    rw [List.getElem?_set_ne (Ne.symm hc)]
  have hB' : ∀ k ∈ B', n0 ≤ k := fun k hk => by
    rcases q4 k hk with h5 | h5
    · exact hB k h5
    · omega
  have ho := q1.one_
  refine hQ v' g2 ho.1 ho.2 (cells_keep (hk bx m0) m2) (fun c hc hn => (hw _ c hn).trans (hk c hc)) ⟨m0, by simp [wr]; omega, cells_wr2 (by omega), B', ?_, hB'⟩
  have := q1.frame (h' := wr g2 bx [.int .i64 r1, .int .i64 r2, v']) fun c hc => hw _ c (by have := hB' c hc; omega)
  simpa using this
/-- Marks in a block of their own, as they are seen from outside. -/
theorem ow_pd {g : H} {n0 b : Nat} {seed seg : Int} {q : Bool} {L : List Int} (hc : g.cells b = some (L.map (.int .i64))) (hb : n0 ≤ b) : Ow g [.tup [.agg [.int .i64 seed, .int .i64 seg, .sl b 0 1 L.length L.length], .bool q]] [.tup [eP ⟨seed, seg, some L⟩, .bool q]] (fun c => n0 ≤ c) := by
  have h1 : Ow g [.sl b 0 1 L.length L.length] [eI (some L)] (fun c => n0 ≤ c) := ow_map (f := AV.int .i64) (fun _ => rfl) hc rfl hb
  have h2 : Ow g [.agg [.int .i64 seed, .int .i64 seg, .sl b 0 1 L.length L.length]] [.agg [.int .i64 seed, .int .i64 seg, eI (some L)]] (fun c => n0 ≤ c) := Ow.aggOf (.atom rfl (.atom rfl h1))
  exact Ow.tupOf (h2.cons (F' := fun _ => False) (.atom rfl .nil) (fun _ h => h) (fun _ h => h.elim))

theorem MkJ.sl {g : H} {n0 bx : Nat} {r1 r2 : Int} {v : AV} {L : List Int} (hm : MkJ g n0 bx r1 r2 v L) (hL : 0 < L.length) : ∃ b, v = .sl b 0 1 L.length L.length ∧ n0 ≤ b ∧ g.cells b = some (L.map (.int .i64)) := by
  obtain ⟨_, _, _, B, hs, hB⟩ := hm
  rcases hs.2 with ⟨_, h0, _⟩ | ⟨b, rfl, hb, hc⟩
  · omega
  · exact ⟨b, rfl, hB b (by rw [hb]; simp), hc⟩
theorem MkJ.put {g : H} {n0 bx b : Nat} {r1 r2 : Int} {L L2 : List Int} (hm : MkJ g n0 bx r1 r2 (.sl b 0 1 L.length L.length) L) (hb : n0 ≤ b) (hl : L2.length = L.length) (hL : 0 < L.length) (hbl : b < g.length) : MkJ (wr g b (L2.map (.int .i64))) n0 bx r1 r2 (.sl b 0 1 L2.length L2.length) L2 ∧ ∀ c, c < n0 → (wr g b (L2.map (.int .i64)))[c]? = g[c]? := by
  obtain ⟨m0, m1, m2, B, hs, hB⟩ := hm
  have hw : ∀ c, c ≠ b → (wr g b (L2.map (.int .i64)))[c]? = g[c]? := fun c hc => by
    unfold wr
    rw [List.getElem?_set_ne (Ne.symm hc)]
  refine ⟨⟨m0, by simpa [wr] using m1, by rw [hl]; exact cells_keep (hw bx (by omega)) m2, [b], ⟨by simp, .inr ⟨b, rfl, rfl, cells_wr2 hbl⟩⟩, by simpa using hb⟩, fun c hc => hw c (by omega)⟩
theorem lenA_st {st : List (Nat × Nat)} {v : AV} (h : StR st v) : lenA v = some (.int .i64 st.length) := by
  rcases h with rfl | ⟨rfl, rfl⟩
  · rfl
  · rfl
theorem iaddr_st {st : List (Nat × Nat)} {v : AV} {j : Nat} (h : StR st v) (hj : j < st.length) : iaddrA 2 v (.int .i64 (j : Int)) = some (.rad (st.flatMap cSt) (j * 2)) := by
  rcases h with rfl | ⟨rfl, rfl⟩
  · exact (iaddrA_ro (by omega) (by omega)).trans (by simp)
  · simp at hj

set_option maxHeartbeats 4000000 in
theorem c_spec_BuildPeeled_o (seed : Int) (o : Option (List Str)) (seg : Int) : FnO Tryz.prog 40 [.int .i64 seed, eS o, .int .i64 seg] (· = bpV seed (lS o) seg) := by
  intro h
  refine enter (by kernel_rfl) e40 (by kernel_rfl) rfl fun hok => ?_
  simp only [r40, initEnv_3]
  have hno : ∀ hh : H, (keyedB seed (lS o) seg = true ∧ peelsB seed (lS o) seg = true → False) → ∃ t, Ow hh [.tup [.agg [.int .i64 0, .int .i64 0, .nils], .bool false]] [t] (fun c => h.length ≤ c) ∧ t = bpV seed (lS o) seg := fun hh h5 => by
    unfold bpV
    rw [if_neg h5]
    exact ⟨_, Ow.tupOf (Ow.cons (F' := fun _ => False) (F := fun c => h.length ≤ c) (Ow.aggOf (ts := cP ⟨0, 0, none⟩) (.atom rfl (.atom rfl (.atom rfl .nil)))) (.atom rfl .nil) (fun _ h => h) (fun _ h => h.elim)), rfl⟩
  have hb0 : H.cells (h ++ [some (.cells [.int .i64 0, .int .i64 0, .nils])]) h.length = some [.int .i64 0, .int .i64 0, .nils] := by rw [cells_h0]; rfl
  have hpm : (h.length ≤ h.length) = True := by simp
  have hw := fun cs => cells_wr2 (cells_lt hb0) (cs := cs)
  generalize hAF : RCode.seq (.seq (.reg (⟨some 51, _, _⟩ :: _)) _) _ = AF
  (try (simp (disch := first | omega | (simp <;> omega) | fail) only [push_cast, ↓reduceIte, Nat.reduceEqDiff, Nat.reduceAdd, Nat.reduceMul, Nat.reduceSub, Nat.reduceLT, Int.reduceToNat]))
  refine (c_spec_peKeyed seed seg o).call ?_
  rw [show ((decide (0 ≤ seed) && decide (seed ≤ 9999)) && (okKeys (lS o) && (decide (1 ≤ seg) && decide (seg ≤ 24)))) = keyedB seed (lS o) seg from rfl]
  cases hk : keyedB seed (lS o) seg
  · have hno := fun hh => hno hh (by rw [hk]; rintro ⟨h5, _⟩; cases h5)
    (try (simp (disch := first | omega | (simp <;> omega) | fail) only [push_cast, ↓reduceIte, Nat.reduceEqDiff, Nat.reduceAdd, Nat.reduceMul, Nat.reduceSub, Nat.reduceLT, Int.reduceToNat, hb0, hpm, hw]))
    all_goals (try exact hno _)
    done
  (try (simp (disch := first | omega | (simp <;> omega) | fail) only [push_cast, ↓reduceIte, Nat.reduceEqDiff, Nat.reduceAdd, Nat.reduceMul, Nat.reduceSub, Nat.reduceLT, Int.reduceToNat]))
  refine (c_spec_pePeels seed o seg hk).call ?_
  cases hq : peelsB seed (lS o) seg
  · have hno := fun hh => hno hh (by rw [hq]; rintro ⟨_, h5⟩; cases h5)
    (try (simp (disch := first | omega | (simp <;> omega) | fail) only [push_cast, ↓reduceIte, Nat.reduceEqDiff, Nat.reduceAdd, Nat.reduceMul, Nat.reduceSub, Nat.reduceLT, Int.reduceToNat, hb0, hpm, hw]))
    all_goals (try exact hno _)
    done
  have hbv : bpV seed (lS o) seg = .tup [eP ⟨seed, seg, some (bpM seed (lS o) seg)⟩, .bool true] := by
    unfold bpV
    rw [if_pos ⟨hk, hq⟩]
  rw [hbv]
  clear hno hbv
  have hk0 := hk
  simp only [keyedB, Bool.and_eq_true, decide_eq_true_eq] at hk
  obtain ⟨⟨k1, k2⟩, k3, k4, k5⟩ := hk
  have hKA := okKeys_all k3
  obtain ⟨n, hn⟩ : ∃ n : Nat, (n : Int) = 3 * seg := ⟨(3 * seg).toNat, by omega⟩
  have hnt : (3 * seg).toNat = n := by omega
  have hH := c_spec_peHyper seed o seg k1 k2 k4 k5 (by omega)
  have hel := @edges_len seed seg (lS o)
  obtain ⟨E, hE⟩ : ∃ E, E = edges seed (lS o) seg := ⟨_, rfl⟩
  have hEin := @edges_in seed seg (lS o) k4 n hn
  have hE3 := @edges_three seed seg (lS o)
  have hbm : bpM seed (lS o) seg = mkAll E (peelV n E).1 n := by unfold bpM; rw [hnt, hE]
  rw [hbm]
  rw [← hE] at hEin hE3 hel hH
  have hP := c_spec_pePeel n (optE E) (by rw [lIS_optE]; exact hEin) (by omega) (by rw [lIS_optE]; omega) (by rw [lIS_optE]; intro e he; rw [hE3 e he]; omega)
  rw [lIS_optE, hn] at hP
  have hstin := @peel_in n E
  have hstl := @peel_len n E
  generalize (peelV n E).1 = st at *
  clear hE hbm
  have ehy : eHy (3 * seg) (optE E) = .agg [.int .i64 (3 * seg), eIS (optE E)] := rfl
  rw [ehy] at hH hP
  (try (simp (disch := first | omega | (simp <;> omega) | fail) only [push_cast, ↓reduceIte, Nat.reduceEqDiff, Nat.reduceAdd, Nat.reduceMul, Nat.reduceSub, Nat.reduceLT, Int.reduceToNat]))
  refine hH.call ?_
  (try (simp (disch := first | omega | (simp <;> omega) | fail) only [push_cast, ↓reduceIte, Nat.reduceEqDiff, Nat.reduceAdd, Nat.reduceMul, Nat.reduceSub, Nat.reduceLT, Int.reduceToNat]))
  refine hP.use fun x hx => ?_
  obtain ⟨sv, a, rfl, hsv, _⟩ := hx
  (try (simp (disch := first | omega | (simp <;> omega) | fail) only [push_cast, ↓reduceIte, Nat.reduceEqDiff, Nat.reduceAdd, Nat.reduceMul, Nat.reduceSub, Nat.reduceLT, Int.reduceToNat]))
  have hJ0 : MkJ (h ++ [some (.cells [.int .i64 0, .int .i64 0, .nils]), some (.cells [.int .i64 (3 * seg), eIS (optE E)]), some (.cells [.int .i64 seed, .int .i64 seg, .nils])]) (h.length + 3) (h.length + 2) seed seg .nils (List.replicate 0 3) :=
    ⟨by omega, by simp, by rw [cells_hk]; rfl, [], S1.nil, by simp⟩
  have hc0 : H.cells (h ++ [some (.cells [.int .i64 0, .int .i64 0, .nils]), some (.cells [.int .i64 (3 * seg), eIS (optE E)]), some (.cells [.int .i64 seed, .int .i64 seg, .nils])]) h.length = some [.int .i64 0, .int .i64 0, .nils] := by rw [cells_h0]; rfl
  have hc1 : H.cells (h ++ [some (.cells [.int .i64 0, .int .i64 0, .nils]), some (.cells [.int .i64 (3 * seg), eIS (optE E)]), some (.cells [.int .i64 seed, .int .i64 seg, .nils])]) (h.length + 1) = some [.int .i64 (3 * seg), eIS (optE E)] := by rw [cells_hk]; rfl
  refine T_for n (fun i e g => ∃ v, Pins e [(2, .int .i64 seg), (6, .adr h.length 0), (8, .adr (h.length + 1) 0), (9, sv), (11, .adr (h.length + 2) 0), (12, .int .i64 i)] ∧ (MkJ g (h.length + 3) (h.length + 2) seed seg v (List.replicate i 3) ∧ (g.cells h.length = some [.int .i64 0, .int .i64 0, .nils] ∧ g.cells (h.length + 1) = some [.int .i64 (3 * seg), eIS (optE E)]))) ?_ ?_
  · refine ⟨.nils, ?_⟩
    (try (simp (disch := first | omega | (simp <;> omega) | fail) only [push_cast, ↓reduceIte, Nat.reduceEqDiff, Nat.reduceAdd, Nat.reduceMul, Nat.reduceSub, Nat.reduceLT, Int.reduceToNat]))
    all_goals (try exact hJ0)
    done
  rintro i e g hi ⟨v, hp, hJ, hg0, hg1⟩
  refine T_pins hp fun e => ?_
  have hnn : ((i : Int) < 3 * seg) = (i < n) := by rw [← hn]; simp
  obtain ⟨o1, o2⟩ := hJ.one
  have hg2 := hJ.2.2.1
  by_cases hin : i < n
  · have e1 : ((i : Int) < 3 * seg) = True := eq_true (by omega)
    have hg2' : ∀ l, H.cells (g ++ l) (h.length + 2) = some [.int .i64 seed, .int .i64 seg, v] := fun l => cells_app hg2
    (try (simp (disch := first | omega | (simp <;> omega) | fail) only [push_cast, ↓reduceIte, Nat.reduceEqDiff, Nat.reduceAdd, Nat.reduceMul, Nat.reduceSub, Nat.reduceLT, Int.reduceToNat, e1, hg2, hg2', o1, o2, reads, List.mem_cons, List.mem_append, List.not_mem_nil, nat_ff, or_self, or_false, false_or, not_false_eq_true]))
    repeat' (with_reducible refine And.intro ?_ ?_)
    all_goals
      refine hJ.app (x := 3) (fun c hc => Or.inr (by omega)) (by simp; omega) fun v' g2 q1 q2 q3 q4 q5 => ?_
      have hrep : List.replicate i (3 : Int) ++ [3] = List.replicate (i + 1) 3 := by rw [List.replicate_succ']
      rw [hrep] at q5
      have r0 := cells_keep (q4 h.length (by omega) (by omega)) hg0
      have r1 := cells_keep (q4 (h.length + 1) (by omega) (by omega)) hg1
      have hpm2 : (h.length ≤ h.length + 2) = True := by simp
      (try (simp (disch := first | omega | (simp <;> omega) | fail) only [push_cast, ↓reduceIte, Nat.reduceEqDiff, Nat.reduceAdd, Nat.reduceMul, Nat.reduceSub, Nat.reduceLT, Int.reduceToNat, q1, q2, q3, hpm2, reads, List.mem_cons, List.mem_append, List.not_mem_nil, nat_ff, or_self, or_false, false_or, not_false_eq_true]))
      all_goals (try exact ⟨_, rfl, q5, r0, r1⟩)
      all_goals (try exact ⟨_, q5, r0, r1⟩)
      done
  · have e1 : ((i : Int) < 3 * seg) = False := eq_false (by omega)
    have hie : i = n := by omega
    subst hie
    (try (simp (disch := first | omega | (simp <;> omega) | fail) only [push_cast, ↓reduceIte, Nat.reduceEqDiff, Nat.reduceAdd, Nat.reduceMul, Nat.reduceSub, Nat.reduceLT, Int.reduceToNat, e1]))
    rw [← hAF]
    clear hAF
    have hls := lenA_st hsv
    have hst0 : mkTo E st i 0 = List.replicate i 3 := mkTo_zero
    rw [← hst0] at hJ
    (try (simp (disch := first | omega | (simp <;> omega) | fail) only [push_cast, ↓reduceIte, Nat.reduceEqDiff, Nat.reduceAdd, Nat.reduceMul, Nat.reduceSub, Nat.reduceLT, Int.reduceToNat, hls]))
    refine T_for st.length (fun r e g => ∃ v, Pins e [(6, .adr h.length 0), (8, .adr (h.length + 1) 0), (9, sv), (11, .adr (h.length + 2) 0), (13, .int .i64 ((st.length : Int) - 1 - r))] ∧ (MkJ g (h.length + 3) (h.length + 2) seed seg v (mkTo E st i r) ∧ (g.cells h.length = some [.int .i64 0, .int .i64 0, .nils] ∧ g.cells (h.length + 1) = some [.int .i64 (3 * seg), eIS (optE E)]))) ?_ ?_
    · refine ⟨v, ?_⟩
      (try (simp (disch := first | omega | (simp <;> omega) | fail) only [push_cast, ↓reduceIte, Nat.reduceEqDiff, Nat.reduceAdd, Nat.reduceMul, Nat.reduceSub, Nat.reduceLT, Int.reduceToNat, hls]))
      all_goals (try exact ⟨by simp, hJ, hg0, hg1⟩)
      all_goals (try exact ⟨hJ, hg0, hg1⟩)
      done
    clear hJ hg0 hg1 hg2 hp o1 o2
    rintro r e g hr ⟨v, hp, hJ, hg0, hg1⟩
    refine T_pins hp fun e => ?_
    have hml : (mkTo E st i r).length = i := mkTo_len
    obtain ⟨bb, rfl, hbb, hcb⟩ := hJ.sl (by omega)
    rw [hml] at hJ
    have hg2 := hJ.2.2.1
    have hbl := cells_lt hcb
    by_cases hrl : r < st.length
    · have e2 : (0 ≤ (st.length : Int) - 1 - (r : Int)) = True := eq_true (by omega)
      obtain ⟨j, hj⟩ : ∃ j, j = st.length - 1 - r := ⟨_, rfl⟩
      have hjc : (st.length : Int) - 1 - (r : Int) = (j : Int) := by omega
      have hjl : j < st.length := by omega
      have hia := iaddr_st hsv hjl
      obtain ⟨gs1, gs2⟩ := get_st hjl
      have hsucc := mkTo_succ (E := E) (n := i) hrl
      rw [← hj] at hsucc
      have hmem : st.getD j (0, 0) ∈ st := by simp [hjl]
      obtain ⟨t1, t2, t3⟩ := hstin _ hmem
      generalize st.getD j (0, 0) = sq at *
      obtain ⟨sE, sP⟩ := sq
      simp only at gs1 gs2 t1 t2 t3
      obtain ⟨E1, hE1⟩ : ∃ E1, E1 = E.getD sE [] := ⟨_, rfl⟩
      rw [← hE1] at t3
      have hEl := hE3 E1 (by rw [hE1]; simp [t1])
      have hEb := hEin E1 (by rw [hE1]; simp [t1])
      have hgE : ((lIS (optE E)).map fun e => eI (some e))[sE]? = some (eI (some E1)) := by rw [lIS_optE, hE1]; simp [t1]
      have hsEl : sE < (lIS (optE E)).length := by rw [lIS_optE]; exact t1
      obtain ⟨m, hm⟩ : ∃ m, m = mkTo E st i r := ⟨_, rfl⟩
      have hmo : okMarks m = true := by rw [hm]; exact mkTo_ok
      rw [← hm] at hJ hcb hml hsucc
      have hI := c_spec_pfIndex (some E1) (sP : Int) (by show E1.length ≤ _; omega)
      have hS := c_spec_pfSum (some m) (some E1) hmo (by show E1.length ≤ _; omega) (fun q hq => by
        have hq2 : q < E1.length := hq
        have := hEb (E1.getD q 0) (by simp [hq2])
        show 0 ≤ E1.getD q 0 ∧ E1.getD q 0 < (m.length : Int)
        rw [hml]
        exact this)
      have hsb := sumAt_bd hmo E1
      have hil : idxP E1 (sP : Int) ≤ 3 := by
        have h6 : E1.idxOf (sP : Int) < E1.length := List.idxOf_lt_length_of_mem t3
        rw [hEl] at h6
        unfold idxP
        rw [if_pos t3]
        exact Nat.le_of_lt h6
      have hlI : lI (some E1) = E1 := rfl
      have hlm : lI (some m) = m := rfl
      rw [hlI] at hI hS
      rw [hlm] at hS
      have hvm : Vw g 0 (.sl bb 0 1 i i) (eI (some m)) := by
        have := vw_all (h := g) (n := 0) (b := bb) (sz := 1) (len := m.length) (kc := i) (Nat.zero_le _) hcb (by simp) (one_map fun _ => rfl) (free_map_ fun _ => free_int)
        show Vw g 0 _ (.ro 1 (m.map (.int .i64)) m.length)
        rw [hml] at this ⊢
        exact this
      have hii : iaddrA 1 (.sl bb 0 1 i i) (.int .i64 (sP : Int)) = some (.adr bb sP) := by
        rw [iaddrA_sl (by omega) (by omega)]
        simp
      obtain ⟨z, hz⟩ : ∃ z : Int, z = ((idxP E1 (sP : Int) : Int) + 2 * sumAt m E1) % 3 := ⟨_, rfl⟩
      have hov : over (m.map (AV.int .i64)) sP [.int .i64 z] = (m.set sP z).map (.int .i64) := by
        rw [over_set (by simp; omega), List.map_set]
      have hst2 : mkTo E st i (r + 1) = m.set sP z := by
        rw [hsucc, hz]
        unfold mkStep
        simp only
        rw [← hE1]
      have hll : (m.map (AV.int .i64)).length = i := by simp [hml]
      rw [hml.symm] at hJ
      obtain ⟨p1, p2⟩ := hJ.put (L2 := m.set sP z) hbb (by simp) (by omega) hbl
      have pp0 := cells_keep (p2 h.length (by omega)) hg0
      have pp1 := cells_keep (p2 (h.length + 1) (by omega)) hg1
      have hfin : ∃ v, MkJ (wr g bb ((m.set sP z).map (.int .i64))) (h.length + 3) (h.length + 2) seed seg v (mkTo E st i (r + 1)) ∧ (wr g bb ((m.set sP z).map (.int .i64))).cells h.length = some [.int .i64 0, .int .i64 0, .nils] ∧ (wr g bb ((m.set sP z).map (.int .i64))).cells (h.length + 1) = some [.int .i64 (3 * seg), eIS (optE E)] := ⟨_, by rw [hst2]; exact p1, pp0, pp1⟩
      have hjn : (st.length : Int) - 1 - (r : Int) - 1 = (st.length : Int) - 1 - ((r : Int) + 1) := by omega
      have hpm3 : (h.length ≤ bb) = True := eq_true (by omega)
      rw [hjc]
      (try (simp (disch := first | omega | (simp <;> omega) | fail) only [push_cast, ↓reduceIte, Nat.reduceEqDiff, Nat.reduceAdd, Nat.reduceMul, Nat.reduceSub, Nat.reduceLT, Int.reduceToNat, hjc, hg1, hg2, hia, gs1, gs2, hgE, reads, List.mem_cons, List.mem_append, List.not_mem_nil, nat_ff, or_self, or_false, false_or, not_false_eq_true]))
      repeat' (with_reducible refine And.intro ?_ ?_)
      all_goals
        refine hI.call ?_
        (try (simp (disch := first | omega | (simp <;> omega) | fail) only [push_cast, ↓reduceIte, Nat.reduceEqDiff, Nat.reduceAdd, Nat.reduceMul, Nat.reduceSub, Nat.reduceLT, Int.reduceToNat, hg1, hg2, hia, gs1, gs2, hgE, reads, List.mem_cons, List.mem_append, List.not_mem_nil, nat_ff, or_self, or_false, false_or, not_false_eq_true]))
        repeat' (with_reducible refine And.intro ?_ ?_)
        all_goals
          refine hS.lendL (.cons hvm (.free free_eI .nil)) own_int ?_
          (try (simp (disch := first | omega | (simp <;> omega) | fail) only [push_cast, ↓reduceIte, Nat.reduceEqDiff, Nat.reduceAdd, Nat.reduceMul, Nat.reduceSub, Nat.reduceLT, Int.reduceToNat, hg1, hg2, hia, gs1, gs2, hii, hov, hll, hcb, hpm3, ← hz, hjn, reads, List.mem_cons, List.mem_append, List.not_mem_nil, nat_ff, or_self, or_false, false_or, not_false_eq_true]))
          all_goals (try exact hfin)
          done
    · have hre : r = st.length := by omega
      subst hre
      have e2 : (0 ≤ (st.length : Int) - 1 - (st.length : Int)) = False := eq_false (by omega)
      rw [mkTo_all] at hcb hml
      have hw2 := fun cs => cells_wr2 (cells_lt hg0) (cs := cs)
      have hfin : ∀ cs, ∃ t, Ow (wr g h.length cs) [.tup [.agg [.int .i64 seed, .int .i64 seg, .sl bb 0 1 i i], .bool true]] [t] (fun c => h.length ≤ c) ∧ t = .tup [eP ⟨seed, seg, some (mkAll E st i)⟩, .bool true] := fun cs => by
        have hc2 : H.cells (wr g h.length cs) bb = some ((mkAll E st i).map (.int .i64)) := cells_keep (by unfold wr; rw [List.getElem?_set_ne (by omega)]) hcb
        have := ow_pd (seed := seed) (seg := seg) (q := true) (n0 := h.length) hc2 (by omega)
        rw [hml] at this
        exact ⟨_, this, rfl⟩
      (try (simp (disch := first | omega | (simp <;> omega) | fail) only [push_cast, ↓reduceIte, Nat.reduceEqDiff, Nat.reduceAdd, Nat.reduceMul, Nat.reduceSub, Nat.reduceLT, Int.reduceToNat, e2, hg0, hg2, hpm, hw2, reads, List.mem_cons, List.mem_append, List.not_mem_nil, nat_ff, or_self, or_false, false_or, not_false_eq_true]))
      all_goals (try exact hfin _)
      done

end Go.Proofs.YtbkcenkfecndjaaGreatDoor.M
