/-
  What the functions return.
-/
import Derived.Test.YtmcfkedagmfhcaaFg
namespace Go.Proofs.Ytmcfkedagmfhcaa.M
open Go Go.RowKit
set_option linter.unusedVariables false
set_option linter.unusedSimpArgs false
set_option maxRecDepth 4000

/-- What is left of a budget. -/
def szv (left : Int) (w : Nat) : Int := if (w : Int) ≤ left then left - w else -1
theorem szv_ok {left : Int} {w : Nat} (h : 0 ≤ szv left w) : (w : Int) ≤ left := by
  unfold szv at h
  split at h <;> omega
def wS (a : Option (List Str)) : Nat := (lS a).length + ((lS a).map List.length).sum
theorem sum_take_le (l : List Nat) (i : Nat) : (l.take i).sum ≤ l.sum := by
  have := congrArg List.sum (List.take_append_drop i l)
  rw [List.sum_append] at this
  omega
theorem sum_take_succ {l : List Nat} {i : Nat} (hi : i < l.length) : (l.take (i + 1)).sum = (l.take i).sum + l.getD i 0 := by
  rw [List.take_add_one, List.sum_append]
  simp [hi]

theorem c_laws_szStringS (a : Option (List Str)) (left : Int) (hl0 : 0 ≤ left) (hleft : left ≤ 1048576) : Fn Try.prog 11 [eS a, .int .i64 left] (· = .int .i64 (szv left (wS a))) := by
  refine Fn.of free_int fun h => ?_
  refine enter (by kernel_rfl) e11 (by kernel_rfl) rfl fun hok => ?_
  simp only [r11, initEnv_2]
  have hlen := ok_eS (okV_0 hok)
  have hstr := ok_eS_str (okV_0 hok)
  (try (simp (disch := first | omega | (simp <;> omega) | fail) only [push_cast, ↓reduceIte, Nat.reduceEqDiff, Nat.reduceAdd, Nat.reduceMul, Nat.reduceSub, Nat.reduceLT, Int.reduceToNat]))
  first | refine goC_split (fun hc => ?_) (fun hc => ?_) | refine cnd_split (fun hc => ?_) (fun hc => ?_)
  · (try (simp only [decide_eq_true_eq, decide_eq_false_iff_not, Bool.not_eq_true', Bool.not_eq_false', Bool.and_eq_true, Bool.or_eq_true, Int.not_lt, Int.not_le] at hc)); (try (simp (disch := first | omega | (simp <;> omega) | fail) only [push_cast, ↓reduceIte, Nat.reduceEqDiff, Nat.reduceAdd, Nat.reduceMul, Nat.reduceSub, Nat.reduceLT, Int.reduceToNat]))
    rw [szv, if_neg (by unfold wS; omega)]
  (try (simp only [decide_eq_true_eq, decide_eq_false_iff_not, Bool.not_eq_true', Bool.not_eq_false', Bool.and_eq_true, Bool.or_eq_true, Int.not_lt, Int.not_le] at hc)); (try (simp (disch := first | omega | (simp <;> omega) | fail) only [push_cast, ↓reduceIte, Nat.reduceEqDiff, Nat.reduceAdd, Nat.reduceMul, Nat.reduceSub, Nat.reduceLT, Int.reduceToNat]))
  refine T_for (lS a).length (fun i e h' => Pins e [(0, eS a), (1, .int .i64 (left - (lS a).length - (((lS a).map List.length).take i).sum)), (5, .int .i64 i)] ∧ h' = h ∧ (((lS a).length + (((lS a).map List.length).take i).sum : Nat) : Int) ≤ left) ?_ ?_
  · (try (simp (disch := first | omega | (simp <;> omega) | fail) only [push_cast, ↓reduceIte, Nat.reduceEqDiff, Nat.reduceAdd, Nat.reduceMul, Nat.reduceSub, Nat.reduceLT, Int.reduceToNat]))
    all_goals (try simp)
    all_goals (try omega)
  rintro i e h' hi ⟨hp, rfl, hle⟩
  refine T_pins hp fun e => ?_
  have hle2 := sum_take_le ((lS a).map List.length) i
  (try (simp (disch := first | omega | (simp <;> omega) | fail) only [push_cast, ↓reduceIte, Nat.reduceEqDiff, Nat.reduceAdd, Nat.reduceMul, Nat.reduceSub, Nat.reduceLT, Int.reduceToNat]))
  first | refine goC_split (fun hc => ?_) (fun hc => ?_) | refine cnd_split (fun hc => ?_) (fun hc => ?_)
  · (try (simp only [decide_eq_true_eq, decide_eq_false_iff_not, Bool.not_eq_true', Bool.not_eq_false', Bool.and_eq_true, Bool.or_eq_true, Int.not_lt, Int.not_le] at hc)); (try (simp (disch := first | omega | (simp <;> omega) | fail) only [push_cast, ↓reduceIte, Nat.reduceEqDiff, Nat.reduceAdd, Nat.reduceMul, Nat.reduceSub, Nat.reduceLT, Int.reduceToNat]))
    have hs := hstr ((lS a).getD i []) (by simp [show i < (lS a).length by omega])
    have hts : ((((lS a).map List.length)).take (i + 1)).sum = (((lS a).map List.length).take i).sum + ((lS a).getD i []).length := by
      rw [sum_take_succ (by simp; omega)]
      simp [show i < (lS a).length by omega]
    have hle3 := sum_take_le ((lS a).map List.length) (i + 1)
    (try (simp (disch := first | omega | (simp <;> omega) | fail) only [push_cast, ↓reduceIte, Nat.reduceEqDiff, Nat.reduceAdd, Nat.reduceMul, Nat.reduceSub, Nat.reduceLT, Int.reduceToNat]))
    first | refine goC_split (fun hc => ?_) (fun hc => ?_) | refine cnd_split (fun hc => ?_) (fun hc => ?_)
    · (try (simp only [decide_eq_true_eq, decide_eq_false_iff_not, Bool.not_eq_true', Bool.not_eq_false', Bool.and_eq_true, Bool.or_eq_true, Int.not_lt, Int.not_le] at hc)); (try (simp (disch := first | omega | (simp <;> omega) | fail) only [push_cast, ↓reduceIte, Nat.reduceEqDiff, Nat.reduceAdd, Nat.reduceMul, Nat.reduceSub, Nat.reduceLT, Int.reduceToNat]))
      rw [szv, if_neg (by unfold wS; omega)]
    · (try (simp only [decide_eq_true_eq, decide_eq_false_iff_not, Bool.not_eq_true', Bool.not_eq_false', Bool.and_eq_true, Bool.or_eq_true, Int.not_lt, Int.not_le] at hc)); (try (simp (disch := first | omega | (simp <;> omega) | fail) only [push_cast, ↓reduceIte, Nat.reduceEqDiff, Nat.reduceAdd, Nat.reduceMul, Nat.reduceSub, Nat.reduceLT, Int.reduceToNat]))
  · (try (simp only [decide_eq_true_eq, decide_eq_false_iff_not, Bool.not_eq_true', Bool.not_eq_false', Bool.and_eq_true, Bool.or_eq_true, Int.not_lt, Int.not_le] at hc)); (try (simp (disch := first | omega | (simp <;> omega) | fail) only [push_cast, ↓reduceIte, Nat.reduceEqDiff, Nat.reduceAdd, Nat.reduceMul, Nat.reduceSub, Nat.reduceLT, Int.reduceToNat]))
    have ht : (((lS a).map List.length).take i).sum = ((lS a).map List.length).sum := by
      rw [List.take_of_length_le (by simp; omega)]
    congr 1
    rw [szv, if_pos (by unfold wS; omega)]
    unfold wS
    omega

theorem c_laws_toStringS (a : Option (List Str)) (ha : (lS a).length ≤ 1048576) : Fn Try.prog 13 [eS a] (· = eS (some (lS a))) := by
  refine Fn.froze fun h => ?_
  refine enter (by kernel_rfl) e13 (by kernel_rfl) rfl fun hok => ?_
  simp only [r13, initEnv_1]
  (try (simp (disch := first | omega | (simp <;> omega) | fail) only [push_cast, ↓reduceIte, Nat.reduceEqDiff, Nat.reduceAdd, Nat.reduceMul, Nat.reduceSub, Nat.reduceLT, Int.reduceToNat]))
  refine T_for (lS a).length (fun i e h' => Pins e [(0, eS a), (3, .sl h.length 0 1 (lS a).length (lS a).length), (4, .int .i64 i)] ∧ h' = h ++ [some (.cells (fill .str (lS a) (.str []) i))]) ?_ ?_
  · (try (simp (disch := first | omega | (simp <;> omega) | fail) only [push_cast, ↓reduceIte, Nat.reduceEqDiff, Nat.reduceAdd, Nat.reduceMul, Nat.reduceSub, Nat.reduceLT, Int.reduceToNat, fill_0]))
  rintro i e h' hi ⟨hp, rfl⟩
  refine T_pins hp fun e => ?_
  (try (simp (disch := first | omega | (simp <;> omega) | fail) only [push_cast, ↓reduceIte, Nat.reduceEqDiff, Nat.reduceAdd, Nat.reduceMul, Nat.reduceSub, Nat.reduceLT, Int.reduceToNat]))
  first | refine goC_split (fun hc => ?_) (fun hc => ?_) | refine cnd_split (fun hc => ?_) (fun hc => ?_)
  · (try (simp only [decide_eq_true_eq, decide_eq_false_iff_not, Bool.not_eq_true', Bool.not_eq_false', Bool.and_eq_true, Bool.or_eq_true, Int.not_lt, Int.not_le] at hc)); (try (simp (disch := first | omega | (simp <;> omega) | fail) only [push_cast, ↓reduceIte, Nat.reduceEqDiff, Nat.reduceAdd, Nat.reduceMul, Nat.reduceSub, Nat.reduceLT, Int.reduceToNat]))
    (try (simp (disch := first | omega | (simp <;> omega) | fail) only [push_cast, ↓reduceIte, Nat.reduceEqDiff, Nat.reduceAdd, Nat.reduceMul, Nat.reduceSub, Nat.reduceLT, Int.reduceToNat, fill_len hi]))
    rw [fill_next (d := []) (by omega) rfl]
  · (try (simp only [decide_eq_true_eq, decide_eq_false_iff_not, Bool.not_eq_true', Bool.not_eq_false', Bool.and_eq_true, Bool.or_eq_true, Int.not_lt, Int.not_le] at hc)); (try (simp (disch := first | omega | (simp <;> omega) | fail) only [push_cast, ↓reduceIte, Nat.reduceEqDiff, Nat.reduceAdd, Nat.reduceMul, Nat.reduceSub, Nat.reduceLT, Int.reduceToNat]))
    rw [fill_all (by omega)]
    exact vw_all (cs := (lS a).map .str) (Nat.le_refl _) (by rw [cells_h0]; rfl) (by simp) (one_map fun _ => rfl) (free_map_ fun _ => free_str)

theorem c_spec_l1In (n lo hi : Int) : Fn Try.prog 46 [.int .i64 n, .int .i64 lo, .int .i64 hi] (· = .bool (decide (lo ≤ n) && decide (n ≤ hi))) := by
  refine Fn.of free_bool fun h => ?_
  refine enter (by kernel_rfl) e46 (by kernel_rfl) rfl fun hok => ?_
  simp only [r46, initEnv_3]
  (try (simp (disch := first | omega | (simp <;> omega) | fail) only [push_cast, ↓reduceIte, Nat.reduceEqDiff, Nat.reduceAdd, Nat.reduceMul, Nat.reduceSub, Nat.reduceLT, Int.reduceToNat]))
  first | refine goC_split (fun hc => ?_) (fun hc => ?_) | refine cnd_split (fun hc => ?_) (fun hc => ?_)
  · (try (simp only [decide_eq_true_eq, decide_eq_false_iff_not, Bool.not_eq_true', Bool.not_eq_false', Bool.and_eq_true, Bool.or_eq_true, Int.not_lt, Int.not_le] at hc)); (try (simp (disch := first | omega | (simp <;> omega) | fail) only [push_cast, ↓reduceIte, Nat.reduceEqDiff, Nat.reduceAdd, Nat.reduceMul, Nat.reduceSub, Nat.reduceLT, Int.reduceToNat]))
    first | refine goC_split (fun hd => ?_) (fun hd => ?_) | refine cnd_split (fun hd => ?_) (fun hd => ?_)
    · (try (simp only [decide_eq_true_eq, decide_eq_false_iff_not, Bool.not_eq_true', Bool.not_eq_false', Bool.and_eq_true, Bool.or_eq_true, Int.not_lt, Int.not_le] at hd)); (try (simp (disch := first | omega | (simp <;> omega) | fail) only [push_cast, ↓reduceIte, Nat.reduceEqDiff, Nat.reduceAdd, Nat.reduceMul, Nat.reduceSub, Nat.reduceLT, Int.reduceToNat]))
    · (try (simp only [decide_eq_true_eq, decide_eq_false_iff_not, Bool.not_eq_true', Bool.not_eq_false', Bool.and_eq_true, Bool.or_eq_true, Int.not_lt, Int.not_le] at hd)); (try (simp (disch := first | omega | (simp <;> omega) | fail) only [push_cast, ↓reduceIte, Nat.reduceEqDiff, Nat.reduceAdd, Nat.reduceMul, Nat.reduceSub, Nat.reduceLT, Int.reduceToNat]))
  · (try (simp only [decide_eq_true_eq, decide_eq_false_iff_not, Bool.not_eq_true', Bool.not_eq_false', Bool.and_eq_true, Bool.or_eq_true, Int.not_lt, Int.not_le] at hc)); (try (simp (disch := first | omega | (simp <;> omega) | fail) only [push_cast, ↓reduceIte, Nat.reduceEqDiff, Nat.reduceAdd, Nat.reduceMul, Nat.reduceSub, Nat.reduceLT, Int.reduceToNat]))
    try simp

def okByte (c : UInt8) : Bool := decide (33 ≤ (c.toNat : Int)) && decide ((c.toNat : Int) ≤ 125)
def okKey (s : Str) : Bool := s.all okByte && (decide (1 ≤ (s.length : Int)) && decide ((s.length : Int) ≤ 12))
/-- Sorted, each a key. -/
def okKeysFrom (l : List Str) : Nat → Bool
  | 0 => true
  | i + 1 => okKeysFrom l i && (okKey (l.getD i []) && (decide (i = 0) || Op.bytesLess (l.getD (i - 1) []) (l.getD i [])))
def okKeys (l : List Str) : Bool := okKeysFrom l l.length && decide ((l.length : Int) ≤ 40)
theorem okKeysFrom_false {l : List Str} {i : Nat} : ∀ {j}, i ≤ j → okKeysFrom l i = false → okKeysFrom l j = false
  | 0, h, hf => by
    rw [show i = 0 by omega] at hf
    exact hf
  | j + 1, h, hf => by
    by_cases hi : i = j + 1
    · rw [← hi]
      exact hf
    · simp [okKeysFrom, okKeysFrom_false (show i ≤ j by omega) hf]

theorem c_spec_IsKey (s : Str) : Fn Try.prog 65 [.str s] (· = .bool (okKey s)) := by
  refine Fn.of free_bool fun h => ?_
  refine enter (by kernel_rfl) e65 (by kernel_rfl) rfl fun hok => ?_
  simp only [r65, initEnv_1]
  have hlen := (okV_0 hok).str
  (try (simp (disch := first | omega | (simp <;> omega) | fail) only [push_cast, ↓reduceIte, Nat.reduceEqDiff, Nat.reduceAdd, Nat.reduceMul, Nat.reduceSub, Nat.reduceLT, Int.reduceToNat]))
  refine T_for s.length (fun i e h' => Pins e [(0, .str s), (3, .int .i64 i)] ∧ h' = h ∧ (s.take i).all okByte = true) ?_ ?_
  · (try (simp (disch := first | omega | (simp <;> omega) | fail) only [push_cast, ↓reduceIte, Nat.reduceEqDiff, Nat.reduceAdd, Nat.reduceMul, Nat.reduceSub, Nat.reduceLT, Int.reduceToNat]))
    simp
  rintro i e h' hi ⟨hp, rfl, ha⟩
  refine T_pins hp fun e => ?_
  (try (simp (disch := first | omega | (simp <;> omega) | fail) only [push_cast, ↓reduceIte, Nat.reduceEqDiff, Nat.reduceAdd, Nat.reduceMul, Nat.reduceSub, Nat.reduceLT, Int.reduceToNat]))
  first | refine goC_split (fun hc => ?_) (fun hc => ?_) | refine cnd_split (fun hc => ?_) (fun hc => ?_)
  · (try (simp only [decide_eq_true_eq, decide_eq_false_iff_not, Bool.not_eq_true', Bool.not_eq_false', Bool.and_eq_true, Bool.or_eq_true, Int.not_lt, Int.not_le] at hc)); (try (simp (disch := first | omega | (simp <;> omega) | fail) only [push_cast, ↓reduceIte, Nat.reduceEqDiff, Nat.reduceAdd, Nat.reduceMul, Nat.reduceSub, Nat.reduceLT, Int.reduceToNat]))
    have hi : i < s.length := by omega
    have hn : (s.take (i + 1)).all okByte = okByte (s.getD i 0) := by
      rw [List.take_add_one, List.all_append, ha]
      simp [hi]
    have hf : okByte (s.getD i 0) = false → okKey s = false := fun hf => by
      unfold okKey
      rw [Bool.and_eq_false_iff]
      left
      rw [List.all_eq_false]
      refine ⟨s.getD i 0, by simp [hi], by rw [hf]; simp⟩
    (try (simp (disch := first | omega | (simp <;> omega) | fail) only [push_cast, ↓reduceIte, Nat.reduceEqDiff, Nat.reduceAdd, Nat.reduceMul, Nat.reduceSub, Nat.reduceLT, Int.reduceToNat]))
    first | refine goC_split (fun hc => ?_) (fun hc => ?_) | refine cnd_split (fun hc => ?_) (fun hc => ?_)
    · (try (simp only [decide_eq_true_eq, decide_eq_false_iff_not, Bool.not_eq_true', Bool.not_eq_false', Bool.and_eq_true, Bool.or_eq_true, Int.not_lt, Int.not_le] at hc)); (try (simp (disch := first | omega | (simp <;> omega) | fail) only [push_cast, ↓reduceIte, Nat.reduceEqDiff, Nat.reduceAdd, Nat.reduceMul, Nat.reduceSub, Nat.reduceLT, Int.reduceToNat]))
      rw [hf (by unfold okByte; simp only [Bool.and_eq_false_iff, decide_eq_false_iff_not]; omega)]
    · (try (simp only [decide_eq_true_eq, decide_eq_false_iff_not, Bool.not_eq_true', Bool.not_eq_false', Bool.and_eq_true, Bool.or_eq_true, Int.not_lt, Int.not_le] at hc)); (try (simp (disch := first | omega | (simp <;> omega) | fail) only [push_cast, ↓reduceIte, Nat.reduceEqDiff, Nat.reduceAdd, Nat.reduceMul, Nat.reduceSub, Nat.reduceLT, Int.reduceToNat]))
      (try (simp (disch := first | omega | (simp <;> omega) | fail) only [push_cast, ↓reduceIte, Nat.reduceEqDiff, Nat.reduceAdd, Nat.reduceMul, Nat.reduceSub, Nat.reduceLT, Int.reduceToNat]))
      first | refine goC_split (fun hd => ?_) (fun hd => ?_) | refine cnd_split (fun hd => ?_) (fun hd => ?_)
      · (try (simp only [decide_eq_true_eq, decide_eq_false_iff_not, Bool.not_eq_true', Bool.not_eq_false', Bool.and_eq_true, Bool.or_eq_true, Int.not_lt, Int.not_le] at hd)); (try (simp (disch := first | omega | (simp <;> omega) | fail) only [push_cast, ↓reduceIte, Nat.reduceEqDiff, Nat.reduceAdd, Nat.reduceMul, Nat.reduceSub, Nat.reduceLT, Int.reduceToNat]))
        rw [hf (by unfold okByte; simp only [Bool.and_eq_false_iff, decide_eq_false_iff_not]; omega)]
      · (try (simp only [decide_eq_true_eq, decide_eq_false_iff_not, Bool.not_eq_true', Bool.not_eq_false', Bool.and_eq_true, Bool.or_eq_true, Int.not_lt, Int.not_le] at hd)); (try (simp (disch := first | omega | (simp <;> omega) | fail) only [push_cast, ↓reduceIte, Nat.reduceEqDiff, Nat.reduceAdd, Nat.reduceMul, Nat.reduceSub, Nat.reduceLT, Int.reduceToNat]))
        (try (simp (disch := first | omega | (simp <;> omega) | fail) only [push_cast, ↓reduceIte, Nat.reduceEqDiff, Nat.reduceAdd, Nat.reduceMul, Nat.reduceSub, Nat.reduceLT, Int.reduceToNat]))
        rw [hn]
        unfold okByte
        simp only [Bool.and_eq_true, decide_eq_true_eq]
        omega
  · (try (simp only [decide_eq_true_eq, decide_eq_false_iff_not, Bool.not_eq_true', Bool.not_eq_false', Bool.and_eq_true, Bool.or_eq_true, Int.not_lt, Int.not_le] at hc)); (try (simp (disch := first | omega | (simp <;> omega) | fail) only [push_cast, ↓reduceIte, Nat.reduceEqDiff, Nat.reduceAdd, Nat.reduceMul, Nat.reduceSub, Nat.reduceLT, Int.reduceToNat]))
    have he : s.take i = s := List.take_of_length_le (by omega)
    rw [he] at ha
    have hk : okKey s = (decide (1 ≤ (s.length : Int)) && decide ((s.length : Int) ≤ 12)) := by
      unfold okKey
      rw [ha, Bool.true_and]
    rw [hk]
    refine (c_spec_l1In _ _ _).call ?_
    (try (simp (disch := first | omega | (simp <;> omega) | fail) only [push_cast, ↓reduceIte, Nat.reduceEqDiff, Nat.reduceAdd, Nat.reduceMul, Nat.reduceSub, Nat.reduceLT, Int.reduceToNat]))

theorem c_spec_biKeys (a : Option (List Str)) : Fn Try.prog 47 [eS a] (· = .bool (okKeys (lS a))) := by
  refine Fn.of free_bool fun h => ?_
  refine enter (by kernel_rfl) e47 (by kernel_rfl) rfl fun hok => ?_
  simp only [r47, initEnv_1]
  have hlen := ok_eS (okV_0 hok)
  (try (simp (disch := first | omega | (simp <;> omega) | fail) only [push_cast, ↓reduceIte, Nat.reduceEqDiff, Nat.reduceAdd, Nat.reduceMul, Nat.reduceSub, Nat.reduceLT, Int.reduceToNat]))
  refine T_for (lS a).length (fun i e h' => Pins e [(0, eS a), (5, eS a), (6, .int .i64 (lS a).length), (7, .int .i64 i)] ∧ h' = h ∧ okKeysFrom (lS a) i = true) ?_ ?_
  · (try (simp (disch := first | omega | (simp <;> omega) | fail) only [push_cast, ↓reduceIte, Nat.reduceEqDiff, Nat.reduceAdd, Nat.reduceMul, Nat.reduceSub, Nat.reduceLT, Int.reduceToNat]))
    simp [okKeysFrom]
  rintro i e h' hi ⟨hp, rfl, ha⟩
  refine T_pins hp fun e => ?_
  (try (simp (disch := first | omega | (simp <;> omega) | fail) only [push_cast, ↓reduceIte, Nat.reduceEqDiff, Nat.reduceAdd, Nat.reduceMul, Nat.reduceSub, Nat.reduceLT, Int.reduceToNat]))
  first | refine goC_split (fun hc => ?_) (fun hc => ?_) | refine cnd_split (fun hc => ?_) (fun hc => ?_)
  · (try (simp only [decide_eq_true_eq, decide_eq_false_iff_not, Bool.not_eq_true', Bool.not_eq_false', Bool.and_eq_true, Bool.or_eq_true, Int.not_lt, Int.not_le] at hc)); (try (simp (disch := first | omega | (simp <;> omega) | fail) only [push_cast, ↓reduceIte, Nat.reduceEqDiff, Nat.reduceAdd, Nat.reduceMul, Nat.reduceSub, Nat.reduceLT, Int.reduceToNat]))
    have hi : i < (lS a).length := by omega
    have hf : okKeysFrom (lS a) (i + 1) = false → okKeys (lS a) = false := fun hf => by
      unfold okKeys
      rw [okKeysFrom_false (show i + 1 ≤ (lS a).length by omega) hf, Bool.false_and]
    (try (simp (disch := first | omega | (simp <;> omega) | fail) only [push_cast, ↓reduceIte, Nat.reduceEqDiff, Nat.reduceAdd, Nat.reduceMul, Nat.reduceSub, Nat.reduceLT, Int.reduceToNat]))
    refine (c_spec_IsKey _).call ?_
    (try (simp (disch := first | omega | (simp <;> omega) | fail) only [push_cast, ↓reduceIte, Nat.reduceEqDiff, Nat.reduceAdd, Nat.reduceMul, Nat.reduceSub, Nat.reduceLT, Int.reduceToNat]))
    cases hk : okKey ((lS a).getD i [])
    · (try (simp (disch := first | omega | (simp <;> omega) | fail) only [push_cast, ↓reduceIte, Nat.reduceEqDiff, Nat.reduceAdd, Nat.reduceMul, Nat.reduceSub, Nat.reduceLT, Int.reduceToNat]))
      rw [hf (by simp only [okKeysFrom, hk, Bool.false_and, Bool.and_false])]
    · (try (simp (disch := first | omega | (simp <;> omega) | fail) only [push_cast, ↓reduceIte, Nat.reduceEqDiff, Nat.reduceAdd, Nat.reduceMul, Nat.reduceSub, Nat.reduceLT, Int.reduceToNat]))
      first | refine goC_split (fun hc => ?_) (fun hc => ?_) | refine cnd_split (fun hc => ?_) (fun hc => ?_)
      · (try (simp only [decide_eq_true_eq, decide_eq_false_iff_not, Bool.not_eq_true', Bool.not_eq_false', Bool.and_eq_true, Bool.or_eq_true, Int.not_lt, Int.not_le] at hc)); (try (simp (disch := first | omega | (simp <;> omega) | fail) only [push_cast, ↓reduceIte, Nat.reduceEqDiff, Nat.reduceAdd, Nat.reduceMul, Nat.reduceSub, Nat.reduceLT, Int.reduceToNat]))
        (try (simp (disch := first | omega | (simp <;> omega) | fail) only [push_cast, ↓reduceIte, Nat.reduceEqDiff, Nat.reduceAdd, Nat.reduceMul, Nat.reduceSub, Nat.reduceLT, Int.reduceToNat]))
        first | refine goC_split (fun hd => ?_) (fun hd => ?_) | refine cnd_split (fun hd => ?_) (fun hd => ?_)
        · (try (simp (disch := first | omega | (simp <;> omega) | fail) only [push_cast, ↓reduceIte, Nat.reduceEqDiff, Nat.reduceAdd, Nat.reduceMul, Nat.reduceSub, Nat.reduceLT, Int.reduceToNat]))
          rw [hf (by
            rw [Bool.not_eq_true'] at hd
            simp only [okKeysFrom, hk, Bool.true_and, show i ≠ 0 by omega, decide_false, Bool.false_or, hd, Bool.and_false])]
        · (try (simp (disch := first | omega | (simp <;> omega) | fail) only [push_cast, ↓reduceIte, Nat.reduceEqDiff, Nat.reduceAdd, Nat.reduceMul, Nat.reduceSub, Nat.reduceLT, Int.reduceToNat]))
          rw [Bool.not_eq_false'] at hd
          simp only [okKeysFrom, ha, hk, Bool.true_and, hd, Bool.or_true]
      · (try (simp only [decide_eq_true_eq, decide_eq_false_iff_not, Bool.not_eq_true', Bool.not_eq_false', Bool.and_eq_true, Bool.or_eq_true, Int.not_lt, Int.not_le] at hc)); (try (simp (disch := first | omega | (simp <;> omega) | fail) only [push_cast, ↓reduceIte, Nat.reduceEqDiff, Nat.reduceAdd, Nat.reduceMul, Nat.reduceSub, Nat.reduceLT, Int.reduceToNat]))
        (try (simp (disch := first | omega | (simp <;> omega) | fail) only [push_cast, ↓reduceIte, Nat.reduceEqDiff, Nat.reduceAdd, Nat.reduceMul, Nat.reduceSub, Nat.reduceLT, Int.reduceToNat]))
        have : i = 0 := by omega
        subst this
        simp only [okKeysFrom, hk, Bool.true_and, decide_true, Bool.true_or]
  · (try (simp only [decide_eq_true_eq, decide_eq_false_iff_not, Bool.not_eq_true', Bool.not_eq_false', Bool.and_eq_true, Bool.or_eq_true, Int.not_lt, Int.not_le] at hc)); (try (simp (disch := first | omega | (simp <;> omega) | fail) only [push_cast, ↓reduceIte, Nat.reduceEqDiff, Nat.reduceAdd, Nat.reduceMul, Nat.reduceSub, Nat.reduceLT, Int.reduceToNat]))
    have he : i = (lS a).length := by omega
    subst he
    have hk : okKeys (lS a) = decide (((lS a).length : Int) ≤ 40) := by
      unfold okKeys
      rw [ha, Bool.true_and]
    rw [hk]
    (first | refine goC_split (fun hc => ?_) (fun hc => ?_) | refine cnd_split (fun hc => ?_) (fun hc => ?_)) <;> ((try (simp (disch := first | omega | (simp <;> omega) | fail) only [push_cast, ↓reduceIte, Nat.reduceEqDiff, Nat.reduceAdd, Nat.reduceMul, Nat.reduceSub, Nat.reduceLT, Int.reduceToNat]))) <;> (try rw [hc])

theorem c_spec_stShards (n : Int) : Fn Try.prog 48 [.int .i64 n] (· = .bool (decide (1 ≤ n) && decide (n ≤ 8))) := by
  refine Fn.of free_bool fun h => ?_
  refine enter (by kernel_rfl) e48 (by kernel_rfl) rfl fun hok => ?_
  simp only [r48, initEnv_1]
  (try (simp (disch := first | omega | (simp <;> omega) | fail) only [push_cast, ↓reduceIte, Nat.reduceEqDiff, Nat.reduceAdd, Nat.reduceMul, Nat.reduceSub, Nat.reduceLT, Int.reduceToNat]))
  refine (c_spec_l1In _ _ _).call ?_
  (try (simp (disch := first | omega | (simp <;> omega) | fail) only [push_cast, ↓reduceIte, Nat.reduceEqDiff, Nat.reduceAdd, Nat.reduceMul, Nat.reduceSub, Nat.reduceLT, Int.reduceToNat]))

def hk (seed part : Int) (s : Str) : Int := s.foldl (fun h c => (263 * h + (c.toNat : Int)) % 65521) ((31 * seed + 977 * part + 7) % 65521)
theorem hk_bd (seed part : Int) : ∀ s : Str, 0 ≤ hk seed part s ∧ hk seed part s < 65521 := by
  intro s
  have key : ∀ (s : Str) (h : Int), 0 ≤ h ∧ h < 65521 → 0 ≤ s.foldl (fun h c => (263 * h + (c.toNat : Int)) % 65521) h ∧ s.foldl (fun h c => (263 * h + (c.toNat : Int)) % 65521) h < 65521 := by
    intro s
    induction s with
    | nil => exact fun h hh => hh
    | cons c s ih =>
      intro h hh
      rw [List.foldl_cons]
      refine ih _ ?_
      show 0 ≤ (263 * h + (c.toNat : Int)) % 65521 ∧ (263 * h + (c.toNat : Int)) % 65521 < 65521
      omega
  exact key s _ ⟨by omega, by omega⟩
theorem hk_take {seed part : Int} {s : Str} {i : Nat} (hi : i < s.length) : hk seed part (s.take (i + 1)) = (263 * hk seed part (s.take i) + ((s.getD i 0).toNat : Int)) % 65521 := by
  unfold hk
  rw [List.take_add_one, List.foldl_append]
  simp [hi]
/-- The hash. -/
def hashV (seed part : Int) (s : Str) : Int := hk seed part s ^ 11 % 65521
theorem hashV_bd (seed part : Int) (s : Str) : 0 ≤ hashV seed part s ∧ hashV seed part s < 65521 := by
  unfold hashV
  exact ⟨by omega, by omega⟩
def placeV (seed part : Int) (s : Str) (n : Int) : Int := hashV seed part s * n / 65521
theorem pow_step (h : Int) (i : Nat) : h ^ i % 65521 * h % 65521 = h ^ (i + 1) % 65521 := by
  rw [Int.pow_succ, Int.mul_emod (h ^ i % 65521) h, Int.emod_emod_of_dvd _ (Int.dvd_refl _), ← Int.mul_emod]
theorem pow_join (h : Int) (i j : Nat) : (h ^ i % 65521) * (h ^ j % 65521) % 65521 = h ^ (i + j) % 65521 := by
  rw [← Int.mul_emod, Int.pow_add]

theorem c_spec_biHash (seed part : Int) (s : Str) (h1 : 0 ≤ seed) (h2 : seed ≤ 9999) (h3 : 0 ≤ part) (h4 : part ≤ 9999) : Fn Try.prog 124 [.int .i64 seed, .int .i64 part, .str s] (· = .int .i64 (hashV seed part s)) := by
  refine Fn.of free_int fun h => ?_
  refine enter (by kernel_rfl) e124 (by kernel_rfl) rfl fun hok => ?_
  simp only [r124, initEnv_3]
  have hlen := (okV_2 hok).str
  (try (simp (disch := first | omega | (simp <;> omega) | fail) only [push_cast, ↓reduceIte, Nat.reduceEqDiff, Nat.reduceAdd, Nat.reduceMul, Nat.reduceSub, Nat.reduceLT, Int.reduceToNat]))
  refine T_for s.length (fun i e h' => Pins e [(2, .str s), (7, .int .i64 (hk seed part (s.take i))), (8, .int .i64 i)] ∧ h' = h) ?_ ?_
  · (try (simp (disch := first | omega | (simp <;> omega) | fail) only [push_cast, ↓reduceIte, Nat.reduceEqDiff, Nat.reduceAdd, Nat.reduceMul, Nat.reduceSub, Nat.reduceLT, Int.reduceToNat]))
    all_goals (try simp [hk])
  rintro i e h' hi ⟨hp, rfl⟩
  refine T_pins hp fun e => ?_
  have hb := hk_bd seed part (s.take i)
  (try (simp (disch := first | omega | (simp <;> omega) | fail) only [push_cast, ↓reduceIte, Nat.reduceEqDiff, Nat.reduceAdd, Nat.reduceMul, Nat.reduceSub, Nat.reduceLT, Int.reduceToNat]))
  first | refine goC_split (fun hc => ?_) (fun hc => ?_) | refine cnd_split (fun hc => ?_) (fun hc => ?_)
  · (try (simp only [decide_eq_true_eq, decide_eq_false_iff_not, Bool.not_eq_true', Bool.not_eq_false', Bool.and_eq_true, Bool.or_eq_true, Int.not_lt, Int.not_le] at hc)); (try (simp (disch := first | omega | (simp <;> omega) | fail) only [push_cast, ↓reduceIte, Nat.reduceEqDiff, Nat.reduceAdd, Nat.reduceMul, Nat.reduceSub, Nat.reduceLT, Int.reduceToNat]))
    have hi : i < s.length := by omega
    have hcb : (s.getD i 0).toNat < 256 := UInt8.toNat_lt _
    have hn := hk_take (seed := seed) (part := part) hi
    (try (simp (disch := first | omega | (simp <;> omega) | fail) only [push_cast, ↓reduceIte, Nat.reduceEqDiff, Nat.reduceAdd, Nat.reduceMul, Nat.reduceSub, Nat.reduceLT, Int.reduceToNat]))
    all_goals (try (rw [hn]))
  · (try (simp only [decide_eq_true_eq, decide_eq_false_iff_not, Bool.not_eq_true', Bool.not_eq_false', Bool.and_eq_true, Bool.or_eq_true, Int.not_lt, Int.not_le] at hc)); (try (simp (disch := first | omega | (simp <;> omega) | fail) only [push_cast, ↓reduceIte, Nat.reduceEqDiff, Nat.reduceAdd, Nat.reduceMul, Nat.reduceSub, Nat.reduceLT, Int.reduceToNat]))
    have he : s.take i = s := List.take_of_length_le (by omega)
    rw [he] at hb ⊢
    unfold hashV
    generalize hk seed part s = x at hb ⊢
    have m2 := mul_bd (x := x) (y := x) (a := 65521) (b := 65521) (by omega) (by omega) (by omega) (by omega)
    have m4 := mul_bd (x := x * x % 65521) (y := x * x % 65521) (a := 65521) (b := 65521) (by omega) (by omega) (by omega) (by omega)
    have m5 := mul_bd (x := x * x % 65521 * (x * x % 65521) % 65521) (y := x) (a := 65521) (b := 65521) (by omega) (by omega) (by omega) (by omega)
    have m10 := mul_bd (x := x * x % 65521 * (x * x % 65521) % 65521 * x % 65521) (y := x * x % 65521 * (x * x % 65521) % 65521 * x % 65521) (a := 65521) (b := 65521) (by omega) (by omega) (by omega) (by omega)
    have m11 := mul_bd (x := x * x % 65521 * (x * x % 65521) % 65521 * x % 65521 * (x * x % 65521 * (x * x % 65521) % 65521 * x % 65521) % 65521) (y := x) (a := 65521) (b := 65521) (by omega) (by omega) (by omega) (by omega)
    have e2 : x * x % 65521 = x ^ 2 % 65521 := by rw [Int.pow_succ, Int.pow_succ, Int.pow_zero, Int.one_mul]
    have e11 : x * x % 65521 * (x * x % 65521) % 65521 * x % 65521 * (x * x % 65521 * (x * x % 65521) % 65521 * x % 65521) % 65521 * x % 65521 = x ^ 11 % 65521 := by
      rw [e2, pow_join, pow_step, pow_join, pow_step]
    (try (simp (disch := first | omega | (simp <;> omega) | fail) only [push_cast, ↓reduceIte, Nat.reduceEqDiff, Nat.reduceAdd, Nat.reduceMul, Nat.reduceSub, Nat.reduceLT, Int.reduceToNat]))
    all_goals (try exact e11)

theorem c_spec_biPlace (seed part : Int) (s : Str) (n : Int) (h1 : 0 ≤ seed) (h2 : seed ≤ 9999) (h3 : 0 ≤ part) (h4 : part ≤ 9999) (h5 : 0 ≤ n) (h6 : n ≤ 1048576) : Fn Try.prog 89 [.int .i64 seed, .int .i64 part, .str s, .int .i64 n] (· = .int .i64 (placeV seed part s n)) := by
  refine Fn.of free_int fun h => ?_
  refine enter (by kernel_rfl) e89 (by kernel_rfl) rfl fun hok => ?_
  simp only [r89, initEnv_4]
  (try (simp (disch := first | omega | (simp <;> omega) | fail) only [push_cast, ↓reduceIte, Nat.reduceEqDiff, Nat.reduceAdd, Nat.reduceMul, Nat.reduceSub, Nat.reduceLT, Int.reduceToNat]))
  refine (c_spec_biHash seed part s h1 h2 h3 h4).call ?_
  have hb := hashV_bd seed part s
  have hm := mul_bd (x := hashV seed part s) (y := n) (a := 65521) (b := 1048576) (by omega) (by omega) h5 h6
  (try (simp (disch := first | omega | (simp <;> omega) | fail) only [push_cast, ↓reduceIte, Nat.reduceEqDiff, Nat.reduceAdd, Nat.reduceMul, Nat.reduceSub, Nat.reduceLT, Int.reduceToNat]))
  all_goals (try rfl)

--eng lenA_ePS iaddr_ePS eP ld_P get_P0 get_P1 get_P2 cellsOf_ePS one_ePS cP
structure Pd where
  seed : Int
  seg : Int
  marks : Option (List Int)
  deriving Inhabited
def cP (p : Pd) : List AV := [.int .i64 p.seed, .int .i64 p.seg, eI p.marks]
theorem cP_len (p : Pd) : (cP p).length = 3 := rfl
def eP (p : Pd) : AV := .agg (cP p)
def ePS : Option (List Pd) → AV
  | none => .nils
  | some l => .ro 3 (l.flatMap cP) l.length
def lP : Option (List Pd) → List Pd
  | none => []
  | some l => l
theorem lenA_ePS {l : Option (List Pd)} : lenA (ePS l) = some (.int .i64 (lP l).length) := by cases l <;> rfl
theorem iaddr_ePS {l : Option (List Pd)} {k : IntKind} {n : Int} (h1 : 0 ≤ n) (h2 : n < (lP l).length) : iaddrA 3 (ePS l) (.int k n) = some (.rad ((lP l).flatMap cP) (n.toNat * 3)) := by
  cases l with
  | none => simp [lP] at h2; omega
  | some l => exact iaddrA_ro h1 h2
theorem ld_P {l : List Pd} {i : Nat} (hi : i < l.length) : ld true 3 (l.flatMap cP) (i * 3) = some (.agg (cP (l.getD i default))) := ld_row cP_len default hi
theorem get_P0 {l : List Pd} {i : Nat} (hi : i < l.length) : (l.flatMap cP)[i * 3]? = some (.int .i64 (l.getD i default).seed) := flatMap_get cP_len default (k := 0) hi (by omega)
theorem get_P1 {l : List Pd} {i : Nat} (hi : i < l.length) : (l.flatMap cP)[i * 3 + 1]? = some (.int .i64 (l.getD i default).seg) := flatMap_get cP_len default (k := 1) hi (by omega)
theorem get_P2 {l : List Pd} {i : Nat} (hi : i < l.length) : (l.flatMap cP)[i * 3 + 2]? = some (eI (l.getD i default).marks) := flatMap_get cP_len default (k := 2) hi (by omega)
theorem one_ePS {l : Option (List Pd)} : one (ePS l) = true := by cases l <;> rfl
theorem cellsOf_ePS {l : Option (List Pd)} : cellsOf (ePS l) = [ePS l] := by cases l <;> rfl
theorem free_cP {p : Pd} : ∀ c ∈ cP p, Free c := free_cons_ free_int (free_cons_ free_int (free_cons_ free_eI free_nil_))
theorem free_eP {p : Pd} : Free (eP p) := free_agg free_cP
theorem free_ePS {l : Option (List Pd)} : Free (ePS l) := by
  cases l with
  | none => exact free_nils
  | some l => exact free_ro (fun c hc => by obtain ⟨p, _, hp⟩ := List.mem_flatMap.1 hc; exact free_cP c hp)
theorem ok_ePS {l : Option (List Pd)} (h : OkV (ePS l)) : (lP l).length ≤ 9223372036854775807 := by
  cases l with
  | none => simp [lP]
  | some l => exact h.ro.1
def wPS (a : Option (List Pd)) : Nat := (lP a).length + ((lP a).map fun p => (lI p.marks).length).sum
/-- A copy of it. -/
def cpP (p : Pd) : Pd := ⟨p.seed, p.seg, some (lI p.marks)⟩
def cPc (p : Pd) : List AV := cP (cpP p)
theorem cPc_len (p : Pd) : (cPc p).length = 3 := rfl

attribute [push_cast] lenA_ePS iaddr_ePS eP ld_P get_P0 get_P1 get_P2 cellsOf_ePS one_ePS cP
def rank (l : List Int) (n : Nat) : Nat := (l.take n).countP (fun m => decide (m ≠ 3))
theorem rank_0 {l : List Int} : rank l 0 = 0 := by simp [rank]
theorem rank_le {l : List Int} {n : Nat} : rank l n ≤ n := by
  unfold rank
  have := List.countP_le_length (p := fun m : Int => decide (m ≠ 3)) (l := l.take n)
  have h2 : (l.take n).length ≤ n := by simp; omega
  omega
theorem rank_succ {l : List Int} {n : Nat} (hn : n < l.length) : rank l (n + 1) = rank l n + (if l.getD n 0 = 3 then 0 else 1) := by
  unfold rank
  rw [List.take_add_one, List.countP_append]
  congr 1
  by_cases h : l.getD n 0 = 3
  · have h' : l[n] = 3 := by simpa [hn] using h
    simp [hn, h']
  · have h' : l[n] ≠ 3 := by simpa [hn] using h
    simp [hn, h']
def okMarks (l : List Int) : Bool := l.all fun m => decide (0 ≤ m) && decide (m ≤ 3)
def okPd (p : Pd) : Bool := (decide (0 ≤ p.seed) && decide (p.seed ≤ 9999)) && ((decide (1 ≤ p.seg) && decide (p.seg ≤ 24)) && (decide (((lI p.marks).length : Int) = 3 * p.seg) && okMarks (lI p.marks)))

def sameP (p q : Pd) : Bool := decide (p.seed = q.seed) && (decide (p.seg = q.seg) && decide (lI p.marks = lI q.marks))
theorem sameP_cp (p : Pd) : sameP (cpP p) (cpP p) = true := by simp [sameP]
/-- The first so many are the same. -/
def sameFrom (l m : List Pd) : Nat → Bool
  | 0 => true
  | i + 1 => sameFrom l m i && sameP (l.getD i default) (m.getD i default)
theorem sameFrom_false {l m : List Pd} {i : Nat} : ∀ {j}, i ≤ j → sameFrom l m i = false → sameFrom l m j = false
  | 0, h, hf => by
    rw [show i = 0 by omega] at hf
    exact hf
  | j + 1, h, hf => by
    by_cases hi : i = j + 1
    · rw [← hi]
      exact hf
    · simp [sameFrom, sameFrom_false (show i ≤ j by omega) hf]
def samePS (l m : List Pd) : Bool := decide ((l.length : Int) = m.length) && sameFrom l m l.length
theorem samePS_cp (l : List Pd) : samePS (l.map cpP) (l.map cpP) = true := by
  have : ∀ n, sameFrom (l.map cpP) (l.map cpP) n = true := by
    intro n
    induction n with
    | zero => rfl
    | succ n ih => simp [sameFrom, ih, sameP]
  simp [samePS, this]

--eng eSh
structure Sh_ where
  seed : Int
  parts : Option (List Pd)
  offs : Option (List Int)
def eSh (s : Sh_) : AV := .agg [.int .i64 s.seed, ePS s.parts, eI s.offs]
def cpSh (s : Sh_) : Sh_ := ⟨s.seed, some ((lP s.parts).map cpP), some (lI s.offs)⟩
theorem free_eSh {s : Sh_} : Free (eSh s) := free_agg (free_cons_ free_int (free_cons_ free_ePS (free_cons_ free_eI free_nil_)))
def wSh (s : Sh_) : Nat := wPS s.parts + (lI s.offs).length

attribute [push_cast] eSh
def usedP (p : Pd) : Nat := rank (lI p.marks) (lI p.marks).length
def offAt (l : List Pd) (i : Nat) : Nat := ((l.take i).map usedP).sum
theorem offAt_0 {l : List Pd} : offAt l 0 = 0 := by simp [offAt]
theorem offAt_succ {l : List Pd} {i : Nat} (hi : i < l.length) : offAt l (i + 1) = offAt l i + usedP (l.getD i default) := by
  unfold offAt
  rw [List.take_add_one, List.map_append, List.sum_append]
  simp [hi]
theorem offAt_le {l : List Pd} {w : Nat} (hw : ∀ i, i < l.length → (lI (l.getD i default).marks).length ≤ w) : ∀ i, i ≤ l.length → offAt l i ≤ i * w
  | 0, _ => by simp [offAt_0]
  | i + 1, hi => by
    rw [offAt_succ (by omega), Nat.succ_mul]
    have h1 := offAt_le hw i (by omega)
    have h2 := hw i (by omega)
    have h3 : usedP (l.getD i default) ≤ _ := rank_le
    omega
theorem offAt_ok {l : List Pd} : ∀ i, i ≤ l.length → (l.take i).all okPd = true → offAt l i ≤ i * 72
  | 0, _, _ => by simp [offAt_0]
  | i + 1, hi, h => by
    rw [List.take_add_one, List.all_append, Bool.and_eq_true] at h
    have h0 : i < l.length := by omega
    have h1 := offAt_ok i (by omega) h.1
    have h2 : okPd (l.getD i default) = true := by
      have := h.2
      simp [h0] at this
      simpa [h0] using this
    simp only [okPd, Bool.and_eq_true, decide_eq_true_eq] at h2
    rw [offAt_succ h0]
    have h3 : usedP (l.getD i default) ≤ _ := rank_le
    omega
def offsL (l : List Pd) (i : Nat) : List Int := (List.range i).map fun j => (offAt l j : Int)
theorem offsL_len {l : List Pd} {i : Nat} : (offsL l i).length = i := by simp [offsL]
theorem offsL_succ {l : List Pd} {i : Nat} : offsL l (i + 1) = offsL l i ++ [(offAt l i : Int)] := by simp [offsL, List.range_succ]
def okSh (s : Sh_) : Bool := (decide (0 ≤ s.seed) && decide (s.seed ≤ 9999)) && ((decide (1 ≤ ((lP s.parts).length : Int)) && decide (((lP s.parts).length : Int) ≤ 8)) && ((lP s.parts).all okPd && decide (lI s.offs = offsL (lP s.parts) (lP s.parts).length)))
theorem okPd_len {p : Pd} (h : okPd p = true) : (lI p.marks).length ≤ 72 := by
  simp only [okPd, Bool.and_eq_true, decide_eq_true_eq] at h
  omega

theorem okSh_parts {s : Sh_} (h : okSh s = true) : 0 ≤ s.seed ∧ s.seed ≤ 9999 ∧ 1 ≤ (lP s.parts).length ∧ (lP s.parts).length ≤ 8 := by
  simp only [okSh, Bool.and_eq_true, decide_eq_true_eq] at h
  omega
def shardV (s : Sh_) (key : Str) : Int := placeV s.seed 9 key (lP s.parts).length
def shardOfV (s : Sh_) (key : Str) : AV := if okSh s && okKey key then .tup [.int .i64 (shardV s key), .bool true] else .tup [.int .i64 0, .bool false]
theorem free_shardOfV {s : Sh_} {key : Str} : Free (shardOfV s key) := by
  unfold shardOfV
  split <;> exact free_tup (free_cons_ free_int (free_cons_ free_bool free_nil_))

theorem placeV_bd {seed part : Int} {s : Str} {n : Int} (hn : 0 < n) : 0 ≤ placeV seed part s n ∧ placeV seed part s n < n := by
  obtain ⟨h1, h2⟩ := hashV_bd seed part s
  unfold placeV
  have h3 : 0 ≤ hashV seed part s * n := Int.mul_nonneg h1 (by omega)
  have h4 : hashV seed part s * n < 65521 * n := Int.mul_lt_mul_of_pos_right h2 hn
  constructor
  · omega
  · omega
/-- The places of a key. -/
def tri (seed : Int) (key : Str) (seg : Int) (n : Nat) : List Int := (List.range n).map fun j : Nat => placeV seed (j : Int) key seg + (j : Int) * seg
theorem tri_succ {seed : Int} {key : Str} {seg : Int} {n : Nat} : tri seed key seg (n + 1) = tri seed key seg n ++ [placeV seed (n : Int) key seg + (n : Int) * seg] := by simp [tri, List.range_succ]
theorem tri_len {seed : Int} {key : Str} {seg : Int} {n : Nat} : (tri seed key seg n).length = n := by simp [tri]
theorem tri_get {seed : Int} {key : Str} {seg : Int} {n i : Nat} (hi : i < n) : (tri seed key seg n).getD i 0 = placeV seed (i : Int) key seg + (i : Int) * seg := by simp [tri, hi]
theorem tri_bd {seed : Int} {key : Str} {seg : Int} {i : Nat} (hs : 0 < seg) (hi : i < 3) : 0 ≤ (tri seed key seg 3).getD i 0 ∧ (tri seed key seg 3).getD i 0 < 3 * seg := by
  rw [tri_get hi]
  have := placeV_bd (seed := seed) (part := (i : Int)) (s := key) hs
  have h3 : i = 0 ∨ i = 1 ∨ i = 2 := by omega
  rcases h3 with rfl | rfl | rfl <;> omega
def sumAt (m : List Int) (l : List Int) : Int := (l.map fun p => m.getD p.toNat 0).sum
theorem sumAt_take {m l : List Int} {i : Nat} (hi : i < l.length) : sumAt m (l.take (i + 1)) = sumAt m (l.take i) + m.getD (l.getD i 0).toNat 0 := by
  unfold sumAt
  rw [List.take_add_one, List.map_append, List.sum_append]
  simp [hi]
theorem okMarks_get {m : List Int} (h : okMarks m = true) (i : Nat) : 0 ≤ m.getD i 0 ∧ m.getD i 0 ≤ 3 := by
  by_cases hi : i < m.length
  · have := List.all_eq_true.1 h (m.getD i 0) (by simp [hi])
    simp only [Bool.and_eq_true, decide_eq_true_eq] at this
    exact this
  · simp [hi]
theorem sumAt_bd {m : List Int} (h : okMarks m = true) : ∀ l : List Int, 0 ≤ sumAt m l ∧ sumAt m l ≤ 3 * l.length
  | [] => by simp [sumAt]
  | p :: l => by
    have h1 := sumAt_bd h l
    have h2 := okMarks_get h p.toNat
    have h3 : sumAt m (p :: l) = m.getD p.toNat 0 + sumAt m l := by simp [sumAt]
    rw [h3]
    simp only [List.length_cons]
    omega
/-- The place to which a key is led. -/
def leadV (p : Pd) (key : Str) : Int := (tri p.seed key p.seg 3).getD (sumAt (lI p.marks) (tri p.seed key p.seg 3) % 3).toNat 0
structure OkP (p : Pd) : Prop where
  s0 : 0 ≤ p.seed
  s1 : p.seed ≤ 9999
  g0 : 1 ≤ p.seg
  g1 : p.seg ≤ 24
  ml : ((lI p.marks).length : Int) = 3 * p.seg
  mo : okMarks (lI p.marks) = true
theorem okP_of {p : Pd} (h : okPd p = true) : OkP p := by
  simp only [okPd, Bool.and_eq_true, decide_eq_true_eq] at h
  exact ⟨h.1.1, h.1.2, h.2.1.1, h.2.1.2, h.2.2.1, h.2.2.2⟩
theorem leadV_bd {p : Pd} (h : OkP p) (key : Str) : 0 ≤ leadV p key ∧ leadV p key < (lI p.marks).length := by
  have hs := sumAt_bd h.mo (tri p.seed key p.seg 3)
  have := tri_bd (seed := p.seed) (key := key) (seg := p.seg) (i := (sumAt (lI p.marks) (tri p.seed key p.seg 3) % 3).toNat) (by have := h.g0; omega) (by omega)
  have := h.ml
  unfold leadV
  omega

/-- The keys of a shard. -/
def shardL (seed : Int) (keys : List Str) (n : Nat) (k : Nat) : List Str := keys.filter fun s => decide (placeV seed 9 s n = (k : Int))
theorem shardL_nil {seed : Int} {n k : Nat} : shardL seed [] n k = [] := (rfl)
theorem shardL_take {seed : Int} {keys : List Str} {n i : Nat} (hi : i < keys.length) (k : Nat) :
    shardL seed (keys.take (i + 1)) n k = if placeV seed 9 (keys.getD i []) n = (k : Int) then shardL seed (keys.take i) n k ++ [keys.getD i []] else shardL seed (keys.take i) n k := by
  unfold shardL
  rw [List.take_add_one, List.filter_append]
  by_cases hp : placeV seed 9 (keys.getD i []) n = (k : Int)
  · rw [if_pos hp]
    simp [hi] at hp ⊢
    simp [hp]
  · rw [if_neg hp]
    simp [hi] at hp ⊢
    simp [hp]
theorem shardL_len {seed : Int} {keys : List Str} {n k : Nat} : (shardL seed keys n k).length ≤ keys.length := List.length_filter_le _ _
def splitV (seed : Int) (keys : List Str) (n : Nat) : List (List Str) := (List.range n).map (shardL seed keys n)
theorem splitV_len {seed : Int} {keys : List Str} {n : Nat} : (splitV seed keys n).length = n := by simp [splitV]
/-- The loop of the splitting: the slice in block h.length holds n slices. -/
def SpI (h h' : H) (n : Nat) (L : Nat → List Str) : Prop := h.length < h'.length ∧ ∃ vs Bs, SS h' h.length (.sl h.length 0 1 n n) n L vs [h.length] Bs

def InI (h h' : H) (v : AV) (n : Nat) (L : Nat → List Str) (vs : Nat → AV) (B : List Nat) (Bs : Nat → List Nat) (x : AV) (l : List Str) : Prop :=
  h.length ≤ h'.length ∧ SS h' h.length v n L vs B Bs ∧ ∃ Bx, S1 h' 1 x l.length (l.map .str) Bx ∧ (l = [] → x = .nils) ∧ ∀ b ∈ Bx, h.length ≤ b ∧ b ∉ B ∧ ∀ k, k < n → b ∉ Bs k
theorem c_spec_stSplit (seed : Int) (keys : Option (List Str)) (n : Nat) (h1 : 0 ≤ seed) (h2 : seed ≤ 9999) (h3 : 1 ≤ n) (h4 : n ≤ 8) (hl : (lS keys).length ≤ 40) :
    Fn Try.prog 49 [.int .i64 seed, eS keys, .int .i64 n] (· = eSS (splitV seed (lS keys) n)) := by
  refine Fn.froze_ fun h => ?_
  refine enter (by kernel_rfl) e49 (by kernel_rfl) rfl fun hok => ?_
  simp only [r49, initEnv_3]
  have hlen := ok_eS (okV_1 hok)
  (try (simp (disch := first | omega | (simp <;> omega) | fail) only [push_cast, ↓reduceIte, Nat.reduceEqDiff, Nat.reduceAdd, Nat.reduceMul, Nat.reduceSub, Nat.reduceLT, Int.reduceToNat]))
  refine T_for n (fun i e h' => ∃ v, Pins e [(0, .int .i64 seed), (1, eS keys), (2, .int .i64 n), (7, v), (8, .int .i64 i)] ∧ h.length ≤ h'.length ∧ ∃ vs B Bs, SS h' h.length v i (shardL seed (lS keys) n) vs B Bs) ?_ ?_
  · refine ⟨.nils, ?_, ?_⟩
    · (try (simp (disch := first | omega | (simp <;> omega) | fail) only [push_cast, ↓reduceIte, Nat.reduceEqDiff, Nat.reduceAdd, Nat.reduceMul, Nat.reduceSub, Nat.reduceLT, Int.reduceToNat]))
    · exact ⟨Nat.le_refl _, _, _, _, SS.empty (vs := fun _ => .nils) (Bs := fun _ => [])⟩
  rintro i e h' hi ⟨v, hp, hle, vs, B, Bs, hs⟩
  refine T_pins hp fun e => ?_
  (try (simp (disch := first | omega | (simp <;> omega) | fail) only [push_cast, ↓reduceIte, Nat.reduceEqDiff, Nat.reduceAdd, Nat.reduceMul, Nat.reduceSub, Nat.reduceLT, Int.reduceToNat]))
  first | refine goC_split (fun hc => ?_) (fun hc => ?_) | refine cnd_split (fun hc => ?_) (fun hc => ?_)
  · (try (simp only [decide_eq_true_eq, decide_eq_false_iff_not, Bool.not_eq_true', Bool.not_eq_false', Bool.and_eq_true, Bool.or_eq_true, Int.not_lt, Int.not_le] at hc)); (try (simp (disch := first | omega | (simp <;> omega) | fail) only [push_cast, ↓reduceIte, Nat.reduceEqDiff, Nat.reduceAdd, Nat.reduceMul, Nat.reduceSub, Nat.reduceLT, Int.reduceToNat]))
    have hin : i < n := by omega
    refine T_for (lS keys).length (fun j e h'' => ∃ x, Pins e [(0, .int .i64 seed), (1, eS keys), (2, .int .i64 n), (7, v), (8, .int .i64 i), (9, x), (17, eS keys), (18, .int .i64 (lS keys).length), (19, .int .i64 j)] ∧ InI h h'' v i (shardL seed (lS keys) n) vs B Bs x (shardL seed ((lS keys).take j) n i)) ?_ ?_
    · refine ⟨.nils, ?_, ?_⟩
      · (try (simp (disch := first | omega | (simp <;> omega) | fail) only [push_cast, ↓reduceIte, Nat.reduceEqDiff, Nat.reduceAdd, Nat.reduceMul, Nat.reduceSub, Nat.reduceLT, Int.reduceToNat]))
      · exact ⟨hle, hs, [], S1.nil, fun _ => rfl, by simp⟩
    rintro j e h'' hj ⟨x, hp, hle2, hs2, Bx, hx, hxn, hxb⟩
    refine T_pins hp fun e => ?_
    (try (simp (disch := first | omega | (simp <;> omega) | fail) only [push_cast, ↓reduceIte, Nat.reduceEqDiff, Nat.reduceAdd, Nat.reduceMul, Nat.reduceSub, Nat.reduceLT, Int.reduceToNat]))
    first | refine goC_split (fun hd => ?_) (fun hd => ?_) | refine cnd_split (fun hd => ?_) (fun hd => ?_)
    · (try (simp only [decide_eq_true_eq, decide_eq_false_iff_not, Bool.not_eq_true', Bool.not_eq_false', Bool.and_eq_true, Bool.or_eq_true, Int.not_lt, Int.not_le] at hd)); (try (simp (disch := first | omega | (simp <;> omega) | fail) only [push_cast, ↓reduceIte, Nat.reduceEqDiff, Nat.reduceAdd, Nat.reduceMul, Nat.reduceSub, Nat.reduceLT, Int.reduceToNat]))
      have hj2 : j < (lS keys).length := by omega
      (try (simp (disch := first | omega | (simp <;> omega) | fail) only [push_cast, ↓reduceIte, Nat.reduceEqDiff, Nat.reduceAdd, Nat.reduceMul, Nat.reduceSub, Nat.reduceLT, Int.reduceToNat]))
      refine (c_spec_biPlace seed 9 ((lS keys).getD j []) n (by omega) (by omega) (by omega) (by omega) (by omega) (by omega)).call ?_
      have hst := shardL_take (seed := seed) (n := n) hj2 i
      have hll : (shardL seed ((lS keys).take j) n i).length ≤ 40 := by
        have := shardL_len (seed := seed) (keys := (lS keys).take j) (n := n) (k := i)
        rw [List.length_take] at this
        omega
      (try (simp (disch := first | omega | (simp <;> omega) | fail) only [push_cast, ↓reduceIte, Nat.reduceEqDiff, Nat.reduceAdd, Nat.reduceMul, Nat.reduceSub, Nat.reduceLT, Int.reduceToNat]))
      first | refine goC_split (fun he => ?_) (fun he => ?_) | refine cnd_split (fun he => ?_) (fun he => ?_)
      · (try (simp only [decide_eq_true_eq, decide_eq_false_iff_not, Bool.not_eq_true', Bool.not_eq_false', Bool.and_eq_true, Bool.or_eq_true, Int.not_lt, Int.not_le] at he)); (try (simp (disch := first | omega | (simp <;> omega) | fail) only [push_cast, ↓reduceIte, Nat.reduceEqDiff, Nat.reduceAdd, Nat.reduceMul, Nat.reduceSub, Nat.reduceLT, Int.reduceToNat]))
        rw [if_pos he] at hst
        (try (simp (disch := first | omega | (simp <;> omega) | fail) only [push_cast, ↓reduceIte, Nat.reduceEqDiff, Nat.reduceAdd, Nat.reduceMul, Nat.reduceSub, Nat.reduceLT, Int.reduceToNat]))
        have hx2 := hx.frame (h' := h'' ++ [some (.cells [.str ((lS keys).getD j [])])]) fun b hb => List.getElem?_append_left (hx.lt b hb)
        refine S1.app hx2 (pm := fun b => Nowhere b ∨ h.length ≤ b) (by_ := 16) (k := 1) (new := [.str ((lS keys).getD j [])]) (fun b hb => Or.inr (hxb b hb).1) rfl (by decide) (by omega) ?_
        intro v' h3' B' q1 q2 q3 q4
        have q2' : h''.length < h3'.length := by simp at q2; omega
        (try (simp (disch := first | omega | (simp <;> omega) | fail) only [push_cast, ↓reduceIte, Nat.reduceEqDiff, Nat.reduceAdd, Nat.reduceMul, Nat.reduceSub, Nat.reduceLT, Int.reduceToNat]))
        refine ⟨_, rfl, by omega, hs2.frame2 (fun b hb => ?_) (fun k hk b hb => ?_), B', ?_, fun h0 => ?_, fun b hb => ?_⟩
        · have hb2 := hs2.1.lt b hb
          rw [q3 b (by simp; omega) (fun h5 => (hxb b h5).2.1 hb), List.getElem?_append_left hb2]
        · have hb2 := (hs2.2.2 k hk).1.lt b hb
          rw [q3 b (by simp; omega) (fun h5 => (hxb b h5).2.2 k hk hb), List.getElem?_append_left hb2]
        · rw [hst]
          simpa using q1
        · rw [hst] at h0
          simp at h0
        · rcases q4 b hb with h5 | h5
          · exact hxb b h5
          · simp at h5
            refine ⟨by omega, fun h6 => ?_, fun k hk h6 => ?_⟩
            · have := hs2.1.lt b h6
              omega
            · have := (hs2.2.2 k hk).1.lt b h6
              omega
      · (try (simp only [decide_eq_true_eq, decide_eq_false_iff_not, Bool.not_eq_true', Bool.not_eq_false', Bool.and_eq_true, Bool.or_eq_true, Int.not_lt, Int.not_le] at he)); (try (simp (disch := first | omega | (simp <;> omega) | fail) only [push_cast, ↓reduceIte, Nat.reduceEqDiff, Nat.reduceAdd, Nat.reduceMul, Nat.reduceSub, Nat.reduceLT, Int.reduceToNat]))
        rw [if_neg he] at hst
        (try (simp (disch := first | omega | (simp <;> omega) | fail) only [push_cast, ↓reduceIte, Nat.reduceEqDiff, Nat.reduceAdd, Nat.reduceMul, Nat.reduceSub, Nat.reduceLT, Int.reduceToNat]))
        refine ⟨_, rfl, hle2, hs2, Bx, ?_, ?_, hxb⟩
        · rw [hst]
          exact hx
        · rw [hst]
          exact hxn
    · (try (simp only [decide_eq_true_eq, decide_eq_false_iff_not, Bool.not_eq_true', Bool.not_eq_false', Bool.and_eq_true, Bool.or_eq_true, Int.not_lt, Int.not_le] at hd)); (try (simp (disch := first | omega | (simp <;> omega) | fail) only [push_cast, ↓reduceIte, Nat.reduceEqDiff, Nat.reduceAdd, Nat.reduceMul, Nat.reduceSub, Nat.reduceLT, Int.reduceToNat]))
      have he : (lS keys).take j = lS keys := List.take_of_length_le (by omega)
      rw [he] at hx hxn
      have hs3 := hs2.frame2 (h' := h'' ++ [some (.cells [x])]) (fun b hb => List.getElem?_append_left (hs2.1.lt b hb)) (fun k hk b hb => List.getElem?_append_left ((hs2.2.2 k hk).1.lt b hb))
      obtain ⟨hone, hcel⟩ := hx.one_
      have hfill : fillA (List.replicate 1 AV.nils) [(0, 1, x)] = some [x] := by
        rcases hx.2 with ⟨rfl, _, _⟩ | ⟨b, rfl, _, _⟩ <;> rfl
      (try (simp (disch := first | omega | (simp <;> omega) | fail) only [push_cast, ↓reduceIte, Nat.reduceEqDiff, Nat.reduceAdd, Nat.reduceMul, Nat.reduceSub, Nat.reduceLT, Int.reduceToNat, hone, hcel, hfill]))
      refine SS.app hs3 (pm := fun b => Nowhere b ∨ h.length ≤ b) (by_ := 24) (x := x) (l := shardL seed (lS keys) n i) (fun b hb => Or.inr hb) (by omega) (by simp; omega)
        (hx.frame fun b hb => List.getElem?_append_left (hx.lt b hb)) hxn hxb ?_
      intro v' h3' vs' B' Bs' q1 q2 q3
      have q2' : h''.length < h3'.length := by simp at q2; omega
      (try (simp (disch := first | omega | (simp <;> omega) | fail) only [push_cast, ↓reduceIte, Nat.reduceEqDiff, Nat.reduceAdd, Nat.reduceMul, Nat.reduceSub, Nat.reduceLT, Int.reduceToNat]))
      have q5 := q1.congr (L' := shardL seed (lS keys) n) fun k hk => by
        by_cases hki : k = i
        · subst hki
          rw [if_pos rfl]
        · rw [if_neg hki]
      first | exact ⟨_, rfl, by omega, _, _, _, q5⟩ | exact ⟨_, rfl, _, _, _, q5⟩
  · (try (simp only [decide_eq_true_eq, decide_eq_false_iff_not, Bool.not_eq_true', Bool.not_eq_false', Bool.and_eq_true, Bool.or_eq_true, Int.not_lt, Int.not_le] at hc)); (try (simp (disch := first | omega | (simp <;> omega) | fail) only [push_cast, ↓reduceIte, Nat.reduceEqDiff, Nat.reduceAdd, Nat.reduceMul, Nat.reduceSub, Nat.reduceLT, Int.reduceToNat]))
    have : i = n := by omega
    subst this
    exact ⟨_, hs.vw (by omega), rfl⟩

def okSpl (seed : Int) (keys : List Str) (shards : Int) : Bool := (decide (0 ≤ seed) && decide (seed ≤ 9999)) && (okKeys keys && (decide (1 ≤ shards) && decide (shards ≤ 8)))
def splKV (seed : Int) (keys : List Str) (shards : Int) : AV := if okSpl seed keys shards then .tup [eSS (splitV seed keys shards.toNat), .bool true] else .tup [.nils, .bool false]
theorem free_splKV {seed : Int} {keys : List Str} {shards : Int} : Free (splKV seed keys shards) := by
  unfold splKV
  split
  · exact free_tup (free_cons_ (free_eSS _) (free_cons_ free_bool free_nil_))
  · exact free_tup (free_cons_ free_nils (free_cons_ free_bool free_nil_))
theorem okKeys_len2 {l : List Str} (h : okKeys l = true) : l.length ≤ 40 := by
  simp only [okKeys, Bool.and_eq_true, decide_eq_true_eq] at h
  omega

theorem c_spec_SplitKeys (seed : Int) (keys : Option (List Str)) (shards : Int) : Fn Try.prog 12 [.int .i64 seed, eS keys, .int .i64 shards] (· = splKV seed (lS keys) shards) := by
  refine Fn.of free_splKV fun h => ?_
  refine enter (by kernel_rfl) e12 (by kernel_rfl) rfl fun hok => ?_
  simp only [r12, initEnv_3]
  (try (simp (disch := first | omega | (simp <;> omega) | fail) only [push_cast, ↓reduceIte, Nat.reduceEqDiff, Nat.reduceAdd, Nat.reduceMul, Nat.reduceSub, Nat.reduceLT, Int.reduceToNat]))
  refine (c_spec_l1In _ _ _).call ?_
  unfold splKV okSpl
  cases h1 : (decide (0 ≤ seed) && decide (seed ≤ 9999))
  · (try (simp (disch := first | omega | (simp <;> omega) | fail) only [push_cast, ↓reduceIte, Nat.reduceEqDiff, Nat.reduceAdd, Nat.reduceMul, Nat.reduceSub, Nat.reduceLT, Int.reduceToNat]))
    all_goals (try rfl)
  (try (simp (disch := first | omega | (simp <;> omega) | fail) only [push_cast, ↓reduceIte, Nat.reduceEqDiff, Nat.reduceAdd, Nat.reduceMul, Nat.reduceSub, Nat.reduceLT, Int.reduceToNat]))
  refine (c_spec_biKeys keys).call ?_
  cases h2 : okKeys (lS keys)
  · (try (simp (disch := first | omega | (simp <;> omega) | fail) only [push_cast, ↓reduceIte, Nat.reduceEqDiff, Nat.reduceAdd, Nat.reduceMul, Nat.reduceSub, Nat.reduceLT, Int.reduceToNat]))
    all_goals (try rfl)
  (try (simp (disch := first | omega | (simp <;> omega) | fail) only [push_cast, ↓reduceIte, Nat.reduceEqDiff, Nat.reduceAdd, Nat.reduceMul, Nat.reduceSub, Nat.reduceLT, Int.reduceToNat]))
  refine (c_spec_stShards shards).call ?_
  cases h3 : (decide (1 ≤ shards) && decide (shards ≤ 8))
  · (try (simp (disch := first | omega | (simp <;> omega) | fail) only [push_cast, ↓reduceIte, Nat.reduceEqDiff, Nat.reduceAdd, Nat.reduceMul, Nat.reduceSub, Nat.reduceLT, Int.reduceToNat]))
    all_goals (try rfl)
  simp only [Bool.and_eq_true, decide_eq_true_eq] at h1 h3
  obtain ⟨n, rfl⟩ : ∃ n : Nat, shards = (n : Int) := ⟨shards.toNat, by omega⟩
  (try (simp (disch := first | omega | (simp <;> omega) | fail) only [push_cast, ↓reduceIte, Nat.reduceEqDiff, Nat.reduceAdd, Nat.reduceMul, Nat.reduceSub, Nat.reduceLT, Int.reduceToNat]))
  refine (c_spec_stSplit seed keys n (by omega) (by omega) (by omega) (by omega) (okKeys_len2 h2)).call ?_
  (try (simp (disch := first | omega | (simp <;> omega) | fail) only [push_cast, ↓reduceIte, Nat.reduceEqDiff, Nat.reduceAdd, Nat.reduceMul, Nat.reduceSub, Nat.reduceLT, Int.reduceToNat]))
  all_goals (try rfl)

theorem c_impl_in (n lo hi : Int) : Fn Try.prog 52 [.int .i64 n, .int .i64 lo, .int .i64 hi] (· = .bool (decide (lo ≤ n) && decide (n ≤ hi))) := by
  refine Fn.of free_bool fun h => ?_
  refine enter (by kernel_rfl) e52 (by kernel_rfl) rfl fun hok => ?_
  simp only [r52, initEnv_3]
  (try (simp (disch := first | omega | (simp <;> omega) | fail) only [push_cast, ↓reduceIte, Nat.reduceEqDiff, Nat.reduceAdd, Nat.reduceMul, Nat.reduceSub, Nat.reduceLT, Int.reduceToNat]))
  first | refine goC_split (fun hc => ?_) (fun hc => ?_) | refine cnd_split (fun hc => ?_) (fun hc => ?_)
  · (try (simp only [decide_eq_true_eq, decide_eq_false_iff_not, Bool.not_eq_true', Bool.not_eq_false', Bool.and_eq_true, Bool.or_eq_true, Int.not_lt, Int.not_le] at hc)); (try (simp (disch := first | omega | (simp <;> omega) | fail) only [push_cast, ↓reduceIte, Nat.reduceEqDiff, Nat.reduceAdd, Nat.reduceMul, Nat.reduceSub, Nat.reduceLT, Int.reduceToNat]))
    first | refine goC_split (fun hd => ?_) (fun hd => ?_) | refine cnd_split (fun hd => ?_) (fun hd => ?_)
    · (try (simp only [decide_eq_true_eq, decide_eq_false_iff_not, Bool.not_eq_true', Bool.not_eq_false', Bool.and_eq_true, Bool.or_eq_true, Int.not_lt, Int.not_le] at hd)); (try (simp (disch := first | omega | (simp <;> omega) | fail) only [push_cast, ↓reduceIte, Nat.reduceEqDiff, Nat.reduceAdd, Nat.reduceMul, Nat.reduceSub, Nat.reduceLT, Int.reduceToNat]))
    · (try (simp only [decide_eq_true_eq, decide_eq_false_iff_not, Bool.not_eq_true', Bool.not_eq_false', Bool.and_eq_true, Bool.or_eq_true, Int.not_lt, Int.not_le] at hd)); (try (simp (disch := first | omega | (simp <;> omega) | fail) only [push_cast, ↓reduceIte, Nat.reduceEqDiff, Nat.reduceAdd, Nat.reduceMul, Nat.reduceSub, Nat.reduceLT, Int.reduceToNat]))
  · (try (simp only [decide_eq_true_eq, decide_eq_false_iff_not, Bool.not_eq_true', Bool.not_eq_false', Bool.and_eq_true, Bool.or_eq_true, Int.not_lt, Int.not_le] at hc)); (try (simp (disch := first | omega | (simp <;> omega) | fail) only [push_cast, ↓reduceIte, Nat.reduceEqDiff, Nat.reduceAdd, Nat.reduceMul, Nat.reduceSub, Nat.reduceLT, Int.reduceToNat]))
    try simp

theorem c_impl_isSeed (n : Int) : Fn Try.prog 50 [.int .i64 n] (· = .bool (decide (0 ≤ n) && decide (n ≤ 9999))) := by
  refine Fn.of free_bool fun h => ?_
  refine enter (by kernel_rfl) e50 (by kernel_rfl) rfl fun hok => ?_
  simp only [r50, initEnv_1]
  (try (simp (disch := first | omega | (simp <;> omega) | fail) only [push_cast, ↓reduceIte, Nat.reduceEqDiff, Nat.reduceAdd, Nat.reduceMul, Nat.reduceSub, Nat.reduceLT, Int.reduceToNat]))
  refine (c_impl_in _ _ _).call ?_
  (try (simp (disch := first | omega | (simp <;> omega) | fail) only [push_cast, ↓reduceIte, Nat.reduceEqDiff, Nat.reduceAdd, Nat.reduceMul, Nat.reduceSub, Nat.reduceLT, Int.reduceToNat]))

theorem c_impl_IsKey (s : Str) : Fn Try.prog 67 [.str s] (· = .bool (okKey s)) := by
  refine Fn.of free_bool fun h => ?_
  refine enter (by kernel_rfl) e67 (by kernel_rfl) rfl fun hok => ?_
  simp only [r67, initEnv_1]
  have hlen := (okV_0 hok).str
  (try (simp (disch := first | omega | (simp <;> omega) | fail) only [push_cast, ↓reduceIte, Nat.reduceEqDiff, Nat.reduceAdd, Nat.reduceMul, Nat.reduceSub, Nat.reduceLT, Int.reduceToNat]))
  refine T_for s.length (fun i e h' => Pins e [(0, .str s), (5, .int .i64 s.length), (6, .int .i64 i)] ∧ h' = h ∧ (s.take i).all okByte = true) ?_ ?_
  · (try (simp (disch := first | omega | (simp <;> omega) | fail) only [push_cast, ↓reduceIte, Nat.reduceEqDiff, Nat.reduceAdd, Nat.reduceMul, Nat.reduceSub, Nat.reduceLT, Int.reduceToNat]))
    simp
  rintro i e h' hi ⟨hp, rfl, ha⟩
  refine T_pins hp fun e => ?_
  (try (simp (disch := first | omega | (simp <;> omega) | fail) only [push_cast, ↓reduceIte, Nat.reduceEqDiff, Nat.reduceAdd, Nat.reduceMul, Nat.reduceSub, Nat.reduceLT, Int.reduceToNat]))
  first | refine goC_split (fun hc => ?_) (fun hc => ?_) | refine cnd_split (fun hc => ?_) (fun hc => ?_)
  · (try (simp only [decide_eq_true_eq, decide_eq_false_iff_not, Bool.not_eq_true', Bool.not_eq_false', Bool.and_eq_true, Bool.or_eq_true, Int.not_lt, Int.not_le] at hc)); (try (simp (disch := first | omega | (simp <;> omega) | fail) only [push_cast, ↓reduceIte, Nat.reduceEqDiff, Nat.reduceAdd, Nat.reduceMul, Nat.reduceSub, Nat.reduceLT, Int.reduceToNat]))
    have hi : i < s.length := by omega
    have hn : (s.take (i + 1)).all okByte = okByte (s.getD i 0) := by
      rw [List.take_add_one, List.all_append, ha]
      simp [hi]
    have hf : okByte (s.getD i 0) = false → okKey s = false := fun hf => by
      unfold okKey
      rw [Bool.and_eq_false_iff]
      left
      rw [List.all_eq_false]
      refine ⟨s.getD i 0, by simp [hi], by rw [hf]; simp⟩
    (try (simp (disch := first | omega | (simp <;> omega) | fail) only [push_cast, ↓reduceIte, Nat.reduceEqDiff, Nat.reduceAdd, Nat.reduceMul, Nat.reduceSub, Nat.reduceLT, Int.reduceToNat]))
    first | refine goC_split (fun hc => ?_) (fun hc => ?_) | refine cnd_split (fun hc => ?_) (fun hc => ?_)
    · (try (simp only [decide_eq_true_eq, decide_eq_false_iff_not, Bool.not_eq_true', Bool.not_eq_false', Bool.and_eq_true, Bool.or_eq_true, Int.not_lt, Int.not_le] at hc)); (try (simp (disch := first | omega | (simp <;> omega) | fail) only [push_cast, ↓reduceIte, Nat.reduceEqDiff, Nat.reduceAdd, Nat.reduceMul, Nat.reduceSub, Nat.reduceLT, Int.reduceToNat]))
      rw [hf (by unfold okByte; simp only [Bool.and_eq_false_iff, decide_eq_false_iff_not]; omega)]
    · (try (simp only [decide_eq_true_eq, decide_eq_false_iff_not, Bool.not_eq_true', Bool.not_eq_false', Bool.and_eq_true, Bool.or_eq_true, Int.not_lt, Int.not_le] at hc)); (try (simp (disch := first | omega | (simp <;> omega) | fail) only [push_cast, ↓reduceIte, Nat.reduceEqDiff, Nat.reduceAdd, Nat.reduceMul, Nat.reduceSub, Nat.reduceLT, Int.reduceToNat]))
      (try (simp (disch := first | omega | (simp <;> omega) | fail) only [push_cast, ↓reduceIte, Nat.reduceEqDiff, Nat.reduceAdd, Nat.reduceMul, Nat.reduceSub, Nat.reduceLT, Int.reduceToNat]))
      first | refine goC_split (fun hd => ?_) (fun hd => ?_) | refine cnd_split (fun hd => ?_) (fun hd => ?_)
      · (try (simp only [decide_eq_true_eq, decide_eq_false_iff_not, Bool.not_eq_true', Bool.not_eq_false', Bool.and_eq_true, Bool.or_eq_true, Int.not_lt, Int.not_le] at hd)); (try (simp (disch := first | omega | (simp <;> omega) | fail) only [push_cast, ↓reduceIte, Nat.reduceEqDiff, Nat.reduceAdd, Nat.reduceMul, Nat.reduceSub, Nat.reduceLT, Int.reduceToNat]))
        rw [hf (by unfold okByte; simp only [Bool.and_eq_false_iff, decide_eq_false_iff_not]; omega)]
      · (try (simp only [decide_eq_true_eq, decide_eq_false_iff_not, Bool.not_eq_true', Bool.not_eq_false', Bool.and_eq_true, Bool.or_eq_true, Int.not_lt, Int.not_le] at hd)); (try (simp (disch := first | omega | (simp <;> omega) | fail) only [push_cast, ↓reduceIte, Nat.reduceEqDiff, Nat.reduceAdd, Nat.reduceMul, Nat.reduceSub, Nat.reduceLT, Int.reduceToNat]))
        (try (simp (disch := first | omega | (simp <;> omega) | fail) only [push_cast, ↓reduceIte, Nat.reduceEqDiff, Nat.reduceAdd, Nat.reduceMul, Nat.reduceSub, Nat.reduceLT, Int.reduceToNat]))
        rw [hn]
        unfold okByte
        simp only [Bool.and_eq_true, decide_eq_true_eq]
        omega
  · (try (simp only [decide_eq_true_eq, decide_eq_false_iff_not, Bool.not_eq_true', Bool.not_eq_false', Bool.and_eq_true, Bool.or_eq_true, Int.not_lt, Int.not_le] at hc)); (try (simp (disch := first | omega | (simp <;> omega) | fail) only [push_cast, ↓reduceIte, Nat.reduceEqDiff, Nat.reduceAdd, Nat.reduceMul, Nat.reduceSub, Nat.reduceLT, Int.reduceToNat]))
    have he : s.take i = s := List.take_of_length_le (by omega)
    rw [he] at ha
    have hk : okKey s = (decide (1 ≤ (s.length : Int)) && decide ((s.length : Int) ≤ 12)) := by
      unfold okKey
      rw [ha, Bool.true_and]
    rw [hk]
    refine (c_impl_in _ _ _).call ?_
    (try (simp (disch := first | omega | (simp <;> omega) | fail) only [push_cast, ↓reduceIte, Nat.reduceEqDiff, Nat.reduceAdd, Nat.reduceMul, Nat.reduceSub, Nat.reduceLT, Int.reduceToNat]))

theorem c_impl_AreKeys (a : Option (List Str)) : Fn Try.prog 51 [eS a] (· = .bool (okKeys (lS a))) := by
  refine Fn.of free_bool fun h => ?_
  refine enter (by kernel_rfl) e51 (by kernel_rfl) rfl fun hok => ?_
  simp only [r51, initEnv_1]
  have hlen := ok_eS (okV_0 hok)
  (try (simp (disch := first | omega | (simp <;> omega) | fail) only [push_cast, ↓reduceIte, Nat.reduceEqDiff, Nat.reduceAdd, Nat.reduceMul, Nat.reduceSub, Nat.reduceLT, Int.reduceToNat]))
  refine T_for (lS a).length (fun i e h' => Pins e [(0, eS a), (5, eS a), (6, .int .i64 (lS a).length), (7, .int .i64 i)] ∧ h' = h ∧ okKeysFrom (lS a) i = true) ?_ ?_
  · (try (simp (disch := first | omega | (simp <;> omega) | fail) only [push_cast, ↓reduceIte, Nat.reduceEqDiff, Nat.reduceAdd, Nat.reduceMul, Nat.reduceSub, Nat.reduceLT, Int.reduceToNat]))
    simp [okKeysFrom]
  rintro i e h' hi ⟨hp, rfl, ha⟩
  refine T_pins hp fun e => ?_
  (try (simp (disch := first | omega | (simp <;> omega) | fail) only [push_cast, ↓reduceIte, Nat.reduceEqDiff, Nat.reduceAdd, Nat.reduceMul, Nat.reduceSub, Nat.reduceLT, Int.reduceToNat]))
  first | refine goC_split (fun hc => ?_) (fun hc => ?_) | refine cnd_split (fun hc => ?_) (fun hc => ?_)
  · (try (simp only [decide_eq_true_eq, decide_eq_false_iff_not, Bool.not_eq_true', Bool.not_eq_false', Bool.and_eq_true, Bool.or_eq_true, Int.not_lt, Int.not_le] at hc)); (try (simp (disch := first | omega | (simp <;> omega) | fail) only [push_cast, ↓reduceIte, Nat.reduceEqDiff, Nat.reduceAdd, Nat.reduceMul, Nat.reduceSub, Nat.reduceLT, Int.reduceToNat]))
    have hi : i < (lS a).length := by omega
    have hf : okKeysFrom (lS a) (i + 1) = false → okKeys (lS a) = false := fun hf => by
      unfold okKeys
      rw [okKeysFrom_false (show i + 1 ≤ (lS a).length by omega) hf, Bool.false_and]
    (try (simp (disch := first | omega | (simp <;> omega) | fail) only [push_cast, ↓reduceIte, Nat.reduceEqDiff, Nat.reduceAdd, Nat.reduceMul, Nat.reduceSub, Nat.reduceLT, Int.reduceToNat]))
    refine (c_impl_IsKey _).call ?_
    (try (simp (disch := first | omega | (simp <;> omega) | fail) only [push_cast, ↓reduceIte, Nat.reduceEqDiff, Nat.reduceAdd, Nat.reduceMul, Nat.reduceSub, Nat.reduceLT, Int.reduceToNat]))
    cases hk : okKey ((lS a).getD i [])
    · (try (simp (disch := first | omega | (simp <;> omega) | fail) only [push_cast, ↓reduceIte, Nat.reduceEqDiff, Nat.reduceAdd, Nat.reduceMul, Nat.reduceSub, Nat.reduceLT, Int.reduceToNat]))
      rw [hf (by simp only [okKeysFrom, hk, Bool.false_and, Bool.and_false])]
    · (try (simp (disch := first | omega | (simp <;> omega) | fail) only [push_cast, ↓reduceIte, Nat.reduceEqDiff, Nat.reduceAdd, Nat.reduceMul, Nat.reduceSub, Nat.reduceLT, Int.reduceToNat]))
      first | refine goC_split (fun hc => ?_) (fun hc => ?_) | refine cnd_split (fun hc => ?_) (fun hc => ?_)
      · (try (simp only [decide_eq_true_eq, decide_eq_false_iff_not, Bool.not_eq_true', Bool.not_eq_false', Bool.and_eq_true, Bool.or_eq_true, Int.not_lt, Int.not_le] at hc)); (try (simp (disch := first | omega | (simp <;> omega) | fail) only [push_cast, ↓reduceIte, Nat.reduceEqDiff, Nat.reduceAdd, Nat.reduceMul, Nat.reduceSub, Nat.reduceLT, Int.reduceToNat]))
        (try (simp (disch := first | omega | (simp <;> omega) | fail) only [push_cast, ↓reduceIte, Nat.reduceEqDiff, Nat.reduceAdd, Nat.reduceMul, Nat.reduceSub, Nat.reduceLT, Int.reduceToNat]))
        first | refine goC_split (fun hd => ?_) (fun hd => ?_) | refine cnd_split (fun hd => ?_) (fun hd => ?_)
        · (try (simp (disch := first | omega | (simp <;> omega) | fail) only [push_cast, ↓reduceIte, Nat.reduceEqDiff, Nat.reduceAdd, Nat.reduceMul, Nat.reduceSub, Nat.reduceLT, Int.reduceToNat]))
          rw [hf (by
            rw [Bool.not_eq_true'] at hd
            simp only [okKeysFrom, hk, Bool.true_and, show i ≠ 0 by omega, decide_false, Bool.false_or, hd, Bool.and_false])]
        · (try (simp (disch := first | omega | (simp <;> omega) | fail) only [push_cast, ↓reduceIte, Nat.reduceEqDiff, Nat.reduceAdd, Nat.reduceMul, Nat.reduceSub, Nat.reduceLT, Int.reduceToNat]))
          rw [Bool.not_eq_false'] at hd
          simp only [okKeysFrom, ha, hk, Bool.true_and, hd, Bool.or_true]
      · (try (simp only [decide_eq_true_eq, decide_eq_false_iff_not, Bool.not_eq_true', Bool.not_eq_false', Bool.and_eq_true, Bool.or_eq_true, Int.not_lt, Int.not_le] at hc)); (try (simp (disch := first | omega | (simp <;> omega) | fail) only [push_cast, ↓reduceIte, Nat.reduceEqDiff, Nat.reduceAdd, Nat.reduceMul, Nat.reduceSub, Nat.reduceLT, Int.reduceToNat]))
        (try (simp (disch := first | omega | (simp <;> omega) | fail) only [push_cast, ↓reduceIte, Nat.reduceEqDiff, Nat.reduceAdd, Nat.reduceMul, Nat.reduceSub, Nat.reduceLT, Int.reduceToNat]))
        have : i = 0 := by omega
        subst this
        simp only [okKeysFrom, hk, Bool.true_and, decide_true, Bool.true_or]
  · (try (simp only [decide_eq_true_eq, decide_eq_false_iff_not, Bool.not_eq_true', Bool.not_eq_false', Bool.and_eq_true, Bool.or_eq_true, Int.not_lt, Int.not_le] at hc)); (try (simp (disch := first | omega | (simp <;> omega) | fail) only [push_cast, ↓reduceIte, Nat.reduceEqDiff, Nat.reduceAdd, Nat.reduceMul, Nat.reduceSub, Nat.reduceLT, Int.reduceToNat]))
    have he : i = (lS a).length := by omega
    subst he
    have hk : okKeys (lS a) = decide (((lS a).length : Int) ≤ 40) := by
      unfold okKeys
      rw [ha, Bool.true_and]
    rw [hk]
    (first | refine goC_split (fun hc => ?_) (fun hc => ?_) | refine cnd_split (fun hc => ?_) (fun hc => ?_)) <;> ((try (simp (disch := first | omega | (simp <;> omega) | fail) only [push_cast, ↓reduceIte, Nat.reduceEqDiff, Nat.reduceAdd, Nat.reduceMul, Nat.reduceSub, Nat.reduceLT, Int.reduceToNat]))) <;> (try rw [hc])

theorem c_impl_hash (seed part : Int) (s : Str) (h1 : 0 ≤ seed) (h2 : seed ≤ 9999) (h3 : 0 ≤ part) (h4 : part ≤ 9999) : Fn Try.prog 97 [.int .i64 seed, .int .i64 part, .str s] (· = .int .i64 (hashV seed part s)) := by
  refine Fn.of free_int fun h => ?_
  refine enter (by kernel_rfl) e97 (by kernel_rfl) rfl fun hok => ?_
  simp only [r97, initEnv_3]
  have hlen := (okV_2 hok).str
  (try (simp (disch := first | omega | (simp <;> omega) | fail) only [push_cast, ↓reduceIte, Nat.reduceEqDiff, Nat.reduceAdd, Nat.reduceMul, Nat.reduceSub, Nat.reduceLT, Int.reduceToNat]))
  refine T_for s.length (fun i e h' => Pins e [(2, .str s), (7, .int .i64 (hk seed part (s.take i))), (18, .int .i64 s.length), (19, .int .i64 i)] ∧ h' = h) ?_ ?_
  · (try (simp (disch := first | omega | (simp <;> omega) | fail) only [push_cast, ↓reduceIte, Nat.reduceEqDiff, Nat.reduceAdd, Nat.reduceMul, Nat.reduceSub, Nat.reduceLT, Int.reduceToNat]))
    all_goals (try simp [hk])
  rintro i e h' hi ⟨hp, rfl⟩
  refine T_pins hp fun e => ?_
  have hb := hk_bd seed part (s.take i)
  (try (simp (disch := first | omega | (simp <;> omega) | fail) only [push_cast, ↓reduceIte, Nat.reduceEqDiff, Nat.reduceAdd, Nat.reduceMul, Nat.reduceSub, Nat.reduceLT, Int.reduceToNat]))
  first | refine goC_split (fun hc => ?_) (fun hc => ?_) | refine cnd_split (fun hc => ?_) (fun hc => ?_)
  · (try (simp only [decide_eq_true_eq, decide_eq_false_iff_not, Bool.not_eq_true', Bool.not_eq_false', Bool.and_eq_true, Bool.or_eq_true, Int.not_lt, Int.not_le] at hc)); (try (simp (disch := first | omega | (simp <;> omega) | fail) only [push_cast, ↓reduceIte, Nat.reduceEqDiff, Nat.reduceAdd, Nat.reduceMul, Nat.reduceSub, Nat.reduceLT, Int.reduceToNat]))
    have hi : i < s.length := by omega
    have hcb : (s.getD i 0).toNat < 256 := UInt8.toNat_lt _
    have hn := hk_take (seed := seed) (part := part) hi
    (try (simp (disch := first | omega | (simp <;> omega) | fail) only [push_cast, ↓reduceIte, Nat.reduceEqDiff, Nat.reduceAdd, Nat.reduceMul, Nat.reduceSub, Nat.reduceLT, Int.reduceToNat]))
    all_goals (try (rw [hn]))
  · (try (simp only [decide_eq_true_eq, decide_eq_false_iff_not, Bool.not_eq_true', Bool.not_eq_false', Bool.and_eq_true, Bool.or_eq_true, Int.not_lt, Int.not_le] at hc)); (try (simp (disch := first | omega | (simp <;> omega) | fail) only [push_cast, ↓reduceIte, Nat.reduceEqDiff, Nat.reduceAdd, Nat.reduceMul, Nat.reduceSub, Nat.reduceLT, Int.reduceToNat]))
    have he : s.take i = s := List.take_of_length_le (by omega)
    rw [he] at hb ⊢
    refine T_for 11 (fun j e h'' => Pins e [(7, .int .i64 (hk seed part s)), (9, .int .i64 (hk seed part s ^ j % 65521)), (31, .int .i64 j)] ∧ h'' = h') ?_ ?_
    · (try (simp (disch := first | omega | (simp <;> omega) | fail) only [push_cast, ↓reduceIte, Nat.reduceEqDiff, Nat.reduceAdd, Nat.reduceMul, Nat.reduceSub, Nat.reduceLT, Int.reduceToNat]))
      all_goals (try simp)
    rintro j e h'' hj ⟨hp, rfl⟩
    refine T_pins hp fun e => ?_
    have hm := mul_bd (x := hk seed part s ^ j % 65521) (y := hk seed part s) (a := 65521) (b := 65521) (by omega) (by omega) (by omega) (by omega)
    have hst := pow_step (hk seed part s) j
    (try (simp (disch := first | omega | (simp <;> omega) | fail) only [push_cast, ↓reduceIte, Nat.reduceEqDiff, Nat.reduceAdd, Nat.reduceMul, Nat.reduceSub, Nat.reduceLT, Int.reduceToNat]))
    first | refine goC_split (fun hd => ?_) (fun hd => ?_) | refine cnd_split (fun hd => ?_) (fun hd => ?_)
    · (try (simp only [decide_eq_true_eq, decide_eq_false_iff_not, Bool.not_eq_true', Bool.not_eq_false', Bool.and_eq_true, Bool.or_eq_true, Int.not_lt, Int.not_le] at hd)); (try (simp (disch := first | omega | (simp <;> omega) | fail) only [push_cast, ↓reduceIte, Nat.reduceEqDiff, Nat.reduceAdd, Nat.reduceMul, Nat.reduceSub, Nat.reduceLT, Int.reduceToNat]))
      all_goals (try omega)
    · (try (simp only [decide_eq_true_eq, decide_eq_false_iff_not, Bool.not_eq_true', Bool.not_eq_false', Bool.and_eq_true, Bool.or_eq_true, Int.not_lt, Int.not_le] at hd)); (try (simp (disch := first | omega | (simp <;> omega) | fail) only [push_cast, ↓reduceIte, Nat.reduceEqDiff, Nat.reduceAdd, Nat.reduceMul, Nat.reduceSub, Nat.reduceLT, Int.reduceToNat]))
      have : j = 11 := by omega
      subst this
      rfl

theorem c_impl_place (seed part : Int) (s : Str) (n : Int) (h1 : 0 ≤ seed) (h2 : seed ≤ 9999) (h3 : 0 ≤ part) (h4 : part ≤ 9999) (h5 : 0 ≤ n) (h6 : n ≤ 1048576) : Fn Try.prog 68 [.int .i64 seed, .int .i64 part, .str s, .int .i64 n] (· = .int .i64 (placeV seed part s n)) := by
  refine Fn.of free_int fun h => ?_
  refine enter (by kernel_rfl) e68 (by kernel_rfl) rfl fun hok => ?_
  simp only [r68, initEnv_4]
  (try (simp (disch := first | omega | (simp <;> omega) | fail) only [push_cast, ↓reduceIte, Nat.reduceEqDiff, Nat.reduceAdd, Nat.reduceMul, Nat.reduceSub, Nat.reduceLT, Int.reduceToNat]))
  refine (c_impl_hash seed part s h1 h2 h3 h4).call ?_
  have hb := hashV_bd seed part s
  have hm := mul_bd (x := hashV seed part s) (y := n) (a := 65521) (b := 1048576) (by omega) (by omega) h5 h6
  (try (simp (disch := first | omega | (simp <;> omega) | fail) only [push_cast, ↓reduceIte, Nat.reduceEqDiff, Nat.reduceAdd, Nat.reduceMul, Nat.reduceSub, Nat.reduceLT, Int.reduceToNat]))
  all_goals (try rfl)

theorem c_impl_split_own (seed : Int) (keys : Option (List Str)) (n : Nat) (h1 : 0 ≤ seed) (h2 : seed ≤ 9999) (h3 : 1 ≤ n) (h4 : n ≤ 8) (hl : (lS keys).length ≤ 40) (h : H) :
    Call Try.prog 53 [.int .i64 seed, eS keys, .int .i64 n] h Nowhere (fun x h' => x = .sl h.length 0 1 n n ∧ SpI h h' n (shardL seed (lS keys) n)) := by
  refine enter (by kernel_rfl) e53 (by kernel_rfl) rfl fun hok => ?_
  simp only [r53, initEnv_3]
  have hlen := ok_eS (okV_1 hok)
  (try (simp (disch := first | omega | (simp <;> omega) | fail) only [push_cast, ↓reduceIte, Nat.reduceEqDiff, Nat.reduceAdd, Nat.reduceMul, Nat.reduceSub, Nat.reduceLT, Int.reduceToNat]))
  refine T_for (lS keys).length (fun i e h' => Pins e [(0, .int .i64 seed), (2, .int .i64 n), (7, .sl h.length 0 1 n n), (13, eS keys), (14, .int .i64 (lS keys).length), (15, .int .i64 i)] ∧ SpI h h' n (shardL seed ((lS keys).take i) n)) ?_ ?_
  · (try (simp (disch := first | omega | (simp <;> omega) | fail) only [push_cast, ↓reduceIte, Nat.reduceEqDiff, Nat.reduceAdd, Nat.reduceMul, Nat.reduceSub, Nat.reduceLT, Int.reduceToNat]))
    all_goals (try exact ⟨by simp, _, _, SS.fresh⟩)
  rintro i e h' hi ⟨hp, hlt, vs, Bs, hs⟩
  refine T_pins hp fun e => ?_
  (try (simp (disch := first | omega | (simp <;> omega) | fail) only [push_cast, ↓reduceIte, Nat.reduceEqDiff, Nat.reduceAdd, Nat.reduceMul, Nat.reduceSub, Nat.reduceLT, Int.reduceToNat]))
  first | refine goC_split (fun hc => ?_) (fun hc => ?_) | refine cnd_split (fun hc => ?_) (fun hc => ?_)
  · (try (simp only [decide_eq_true_eq, decide_eq_false_iff_not, Bool.not_eq_true', Bool.not_eq_false', Bool.and_eq_true, Bool.or_eq_true, Int.not_lt, Int.not_le] at hc)); (try (simp (disch := first | omega | (simp <;> omega) | fail) only [push_cast, ↓reduceIte, Nat.reduceEqDiff, Nat.reduceAdd, Nat.reduceMul, Nat.reduceSub, Nat.reduceLT, Int.reduceToNat]))
    have hi2 : i < (lS keys).length := by omega
    have hcs := hs.out.2.2
    (try (simp (disch := first | omega | (simp <;> omega) | fail) only [push_cast, ↓reduceIte, Nat.reduceEqDiff, Nat.reduceAdd, Nat.reduceMul, Nat.reduceSub, Nat.reduceLT, Int.reduceToNat]))
    refine (c_impl_place seed 9 ((lS keys).getD i []) n (by omega) (by omega) (by omega) (by omega) (by omega) (by omega)).call ?_
    obtain ⟨p1, p2⟩ := placeV_bd (seed := seed) (part := 9) (s := (lS keys).getD i []) (n := (n : Int)) (by omega)
    obtain ⟨p, hp⟩ : ∃ p : Nat, placeV seed 9 ((lS keys).getD i []) n = (p : Int) := ⟨_, (Int.toNat_of_nonneg p1).symm⟩
    have hpn : p < n := by omega
    have hgp := get_range (vs := vs) hpn
    have hst := shardL_take (seed := seed) (n := n) hi2
    rw [hp] at hst ⊢
    (try (simp (disch := first | omega | (simp <;> omega) | fail) only [push_cast, ↓reduceIte, Nat.reduceEqDiff, Nat.reduceAdd, Nat.reduceMul, Nat.reduceSub, Nat.reduceLT, Int.reduceToNat, hcs, hgp]))
    obtain ⟨g1, g2, g3, g4⟩ := hs.2.2 p hpn
    have hll : (shardL seed ((lS keys).take i) n p).length ≤ 40 := by
      have := shardL_len (seed := seed) (keys := (lS keys).take i) (n := n) (k := p)
      rw [List.length_take] at this
      omega
    have g5 := g1.frame (h' := h' ++ [some (.cells [.str ((lS keys).getD i [])])]) fun b hb => List.getElem?_append_left (g1.lt b hb)
    refine S1.app g5 (pm := fun b => Nowhere b ∨ h.length ≤ b) (by_ := 16) (k := 1) (new := [.str ((lS keys).getD i [])]) (fun b hb => Or.inr (g3 b hb).1) rfl (by decide) (by omega) ?_
    intro v' h'' B' q1 q2 q3 q4
    have q2' : h'.length < h''.length := by simp at q2; omega
    have hx : S1 h'' 1 v' (shardL seed ((lS keys).take i) n p ++ [(lS keys).getD i []]).length ((shardL seed ((lS keys).take i) n p ++ [(lS keys).getD i []]).map .str) B' := by simpa using q1
    obtain ⟨r1, r2⟩ := hs.put hpn (fun b' hb' hn => (q3 b' (by simp; omega) hn).trans (List.getElem?_append_left hb')) hx (fun h0 => by simp at h0) (fun b' hb' => by
      rcases q4 b' hb' with h5 | h5
      · exact .inl h5
      · simp at h5
        exact .inr (by omega)) (by omega) (by omega)
    obtain ⟨hone, hcel⟩ := hx.one_
    (try (simp (disch := first | omega | (simp <;> omega) | fail) only [push_cast, ↓reduceIte, Nat.reduceEqDiff, Nat.reduceAdd, Nat.reduceMul, Nat.reduceSub, Nat.reduceLT, Int.reduceToNat, r1, hone, hcel]))
    refine ⟨by simp [wr]; omega, _, _, r2.congr fun k hk => ?_⟩
    rw [hst k]
    by_cases hkp : k = p
    · subst hkp
      simp
    · rw [if_neg hkp, if_neg (by omega)]
  · (try (simp only [decide_eq_true_eq, decide_eq_false_iff_not, Bool.not_eq_true', Bool.not_eq_false', Bool.and_eq_true, Bool.or_eq_true, Int.not_lt, Int.not_le] at hc)); (try (simp (disch := first | omega | (simp <;> omega) | fail) only [push_cast, ↓reduceIte, Nat.reduceEqDiff, Nat.reduceAdd, Nat.reduceMul, Nat.reduceSub, Nat.reduceLT, Int.reduceToNat]))
    have he : (lS keys).take i = lS keys := List.take_of_length_le (by omega)
    rw [he] at hs
    exact ⟨hlt, _, _, hs⟩
theorem c_impl_split (seed : Int) (keys : Option (List Str)) (n : Nat) (h1 : 0 ≤ seed) (h2 : seed ≤ 9999) (h3 : 1 ≤ n) (h4 : n ≤ 8) (hl : (lS keys).length ≤ 40) :
    Fn Try.prog 53 [.int .i64 seed, eS keys, .int .i64 n] (· = eSS (splitV seed (lS keys) n)) :=
  Fn.froze_ fun h => (c_impl_split_own seed keys n h1 h2 h3 h4 hl h).mono (fun x h' hx => by
    obtain ⟨rfl, _, vs, Bs, hs⟩ := hx
    exact ⟨_, hs.vw (by omega), rfl⟩) (fun _ _ h => h)

def SpkI (seed : Int) (keys : List Str) (shards : Int) (h : H) (x : AV) (h' : H) : Prop :=
  if okSpl seed keys shards then ∃ l vs Bs, x = .tup [.sl h.length 0 1 shards.toNat shards.toNat, .bool true] ∧ h' = h ++ l ∧ (∀ o ∈ l, OwnO h.length o) ∧ SS h' h.length (.sl h.length 0 1 shards.toNat shards.toNat) shards.toNat (shardL seed keys shards.toNat) vs [h.length] Bs
  else x = .tup [.nils, .bool false] ∧ ∃ l, h' = h ++ l ∧ ∀ o ∈ l, OwnO h.length o
theorem c_impl_SplitKeys_own (seed : Int) (keys : Option (List Str)) (shards : Int) (h : H) : Call Try.prog 14 [.int .i64 seed, eS keys, .int .i64 shards] h Nowhere (SpkI seed (lS keys) shards h) := by
  refine Call.tidy (Q := fun x h' => if okSpl seed (lS keys) shards then x = .tup [.sl h.length 0 1 shards.toNat shards.toNat, .bool true] ∧ SpI h h' shards.toNat (shardL seed (lS keys) shards.toNat) else x = .tup [.nils, .bool false]) ?_ ?_
  · refine enter (by kernel_rfl) e14 (by kernel_rfl) rfl fun hok => ?_
    simp only [r14, initEnv_3]
    (try (simp (disch := first | omega | (simp <;> omega) | fail) only [push_cast, ↓reduceIte, Nat.reduceEqDiff, Nat.reduceAdd, Nat.reduceMul, Nat.reduceSub, Nat.reduceLT, Int.reduceToNat]))
    refine (c_impl_isSeed _).call ?_
    unfold okSpl
    cases h1 : (decide (0 ≤ seed) && decide (seed ≤ 9999))
    · (try (simp (disch := first | omega | (simp <;> omega) | fail) only [push_cast, ↓reduceIte, Nat.reduceEqDiff, Nat.reduceAdd, Nat.reduceMul, Nat.reduceSub, Nat.reduceLT, Int.reduceToNat]))
      all_goals (try rfl)
    (try (simp (disch := first | omega | (simp <;> omega) | fail) only [push_cast, ↓reduceIte, Nat.reduceEqDiff, Nat.reduceAdd, Nat.reduceMul, Nat.reduceSub, Nat.reduceLT, Int.reduceToNat]))
    refine (c_impl_AreKeys keys).call ?_
    cases h2 : okKeys (lS keys)
    · (try (simp (disch := first | omega | (simp <;> omega) | fail) only [push_cast, ↓reduceIte, Nat.reduceEqDiff, Nat.reduceAdd, Nat.reduceMul, Nat.reduceSub, Nat.reduceLT, Int.reduceToNat]))
      all_goals (try rfl)
    (try (simp (disch := first | omega | (simp <;> omega) | fail) only [push_cast, ↓reduceIte, Nat.reduceEqDiff, Nat.reduceAdd, Nat.reduceMul, Nat.reduceSub, Nat.reduceLT, Int.reduceToNat]))
    refine (c_impl_in _ _ _).call ?_
    cases h3 : (decide (1 ≤ shards) && decide (shards ≤ 8))
    · (try (simp (disch := first | omega | (simp <;> omega) | fail) only [push_cast, ↓reduceIte, Nat.reduceEqDiff, Nat.reduceAdd, Nat.reduceMul, Nat.reduceSub, Nat.reduceLT, Int.reduceToNat]))
      all_goals (try rfl)
    simp only [Bool.and_eq_true, decide_eq_true_eq] at h1 h3
    obtain ⟨n, rfl⟩ : ∃ n : Nat, shards = (n : Int) := ⟨shards.toNat, by omega⟩
    (try (simp (disch := first | omega | (simp <;> omega) | fail) only [push_cast, ↓reduceIte, Nat.reduceEqDiff, Nat.reduceAdd, Nat.reduceMul, Nat.reduceSub, Nat.reduceLT, Int.reduceToNat]))
    refine (c_impl_split_own seed keys n (by omega) (by omega) (by omega) (by omega) (okKeys_len2 h2) h).mono (fun x h' hx => ?_) (fun b hb hb' => hb'.elim)
    obtain ⟨rfl, hx⟩ := hx
    (try (simp (disch := first | omega | (simp <;> omega) | fail) only [push_cast, ↓reduceIte, Nat.reduceEqDiff, Nat.reduceAdd, Nat.reduceMul, Nat.reduceSub, Nat.reduceLT, Int.reduceToNat]))
    all_goals (try exact hx)
    all_goals (try exact ⟨rfl, hx⟩)
  · intro x h' hx hle
    unfold SpkI
    by_cases hk : okSpl seed (lS keys) shards = true
    · rw [if_pos hk] at hx
      obtain ⟨rfl, _, vs, Bs, hs⟩ := hx
      obtain ⟨l, l1, l2, l3, l4⟩ := hs.tidy hle
      refine ⟨l, l1, l2, ?_⟩
      rw [if_pos hk]
      exact ⟨l, vs, Bs, rfl, rfl, l4, l3⟩
    · rw [if_neg hk] at hx
      refine ⟨List.replicate (h'.length - h.length) none, by simp; omega, fun i o hi => ?_, ?_⟩
      · have := List.mem_of_getElem? hi
        simp at this
      · rw [if_neg hk]
        refine ⟨hx, _, rfl, fun o ho => ?_⟩
        rw [(List.mem_replicate.1 ho).2]
        trivial
theorem c_impl_SplitKeys (seed : Int) (keys : Option (List Str)) (shards : Int) : Fn Try.prog 14 [.int .i64 seed, eS keys, .int .i64 shards] (· = splKV seed (lS keys) shards) :=
  Fn.froze_ fun h => (c_impl_SplitKeys_own seed keys shards h).mono (fun x h' hx => by
    unfold SpkI at hx
    unfold splKV
    by_cases hk : okSpl seed (lS keys) shards = true
    · rw [if_pos hk] at hx ⊢
      obtain ⟨l, vs, Bs, rfl, rfl, _, hs⟩ := hx
      have hn : 0 < shards.toNat := by
        simp only [okSpl, Bool.and_eq_true, decide_eq_true_eq] at hk
        omega
      refine ⟨_, .tup (ts := [eSS (splitV seed (lS keys) shards.toNat), .bool true]) rfl (fun i y t hy ht => ?_), rfl⟩
      rcases i with _ | _ | i
      · simp at hy ht
        subst hy ht
        exact hs.vw hn
      · simp at hy ht
        subst hy ht
        exact .free free_bool
      · simp at hy
    · rw [if_neg hk] at hx ⊢
      obtain ⟨rfl, l, rfl, _⟩ := hx
      exact ⟨_, .free (free_tup (free_cons_ free_nils (free_cons_ free_bool free_nil_))), rfl⟩) (fun _ _ h => h)

theorem c_laws_eqStringS (a b : Option (List Str)) : Fn Try.prog 16 [eS a, eS b] (· = .bool (decide (lS a = lS b))) := by
  refine Fn.of free_bool fun h => ?_
  refine enter (by kernel_rfl) e16 (by kernel_rfl) rfl fun hok => ?_
  simp only [r16, initEnv_2]
  have ha := ok_eS (okV_0 hok)
  have hb := ok_eS (okV_1 hok)
  (try (simp (disch := first | omega | (simp <;> omega) | fail) only [push_cast, ↓reduceIte, Nat.reduceEqDiff, Nat.reduceAdd, Nat.reduceMul, Nat.reduceSub, Nat.reduceLT, Int.reduceToNat]))
  first | refine goC_split (fun hc => ?_) (fun hc => ?_) | refine cnd_split (fun hc => ?_) (fun hc => ?_)
  · (try (simp only [decide_eq_true_eq, decide_eq_false_iff_not, Bool.not_eq_true', Bool.not_eq_false', Bool.and_eq_true, Bool.or_eq_true, Int.not_lt, Int.not_le] at hc)); (try (simp (disch := first | omega | (simp <;> omega) | fail) only [push_cast, ↓reduceIte, Nat.reduceEqDiff, Nat.reduceAdd, Nat.reduceMul, Nat.reduceSub, Nat.reduceLT, Int.reduceToNat]))
    congr 1
    symm
    rw [decide_eq_false_iff_not]
    intro he
    rw [he] at hc
    exact hc rfl
  have hlen : (lS a).length = (lS b).length := by (try (simp only [decide_eq_true_eq, decide_eq_false_iff_not, Bool.not_eq_true', Bool.not_eq_false', Bool.and_eq_true, Bool.or_eq_true, Int.not_lt, Int.not_le] at hc)); (try (simp (disch := first | omega | (simp <;> omega) | fail) only [push_cast, ↓reduceIte, Nat.reduceEqDiff, Nat.reduceAdd, Nat.reduceMul, Nat.reduceSub, Nat.reduceLT, Int.reduceToNat])); omega
  (try (simp (disch := first | omega | (simp <;> omega) | fail) only [push_cast, ↓reduceIte, Nat.reduceEqDiff, Nat.reduceAdd, Nat.reduceMul, Nat.reduceSub, Nat.reduceLT, Int.reduceToNat]))
  refine T_for (lS a).length (fun i e h' => Pins e [(0, eS a), (1, eS b), (5, .int .i64 i)] ∧ h' = h ∧ (lS a).take i = (lS b).take i) ?_ ?_
  · (try (simp (disch := first | omega | (simp <;> omega) | fail) only [push_cast, ↓reduceIte, Nat.reduceEqDiff, Nat.reduceAdd, Nat.reduceMul, Nat.reduceSub, Nat.reduceLT, Int.reduceToNat]))
    simp
  rintro i e h' hi ⟨hp, rfl, he⟩
  refine T_pins hp fun e => ?_
  (try (simp (disch := first | omega | (simp <;> omega) | fail) only [push_cast, ↓reduceIte, Nat.reduceEqDiff, Nat.reduceAdd, Nat.reduceMul, Nat.reduceSub, Nat.reduceLT, Int.reduceToNat]))
  first | refine goC_split (fun hc => ?_) (fun hc => ?_) | refine cnd_split (fun hc => ?_) (fun hc => ?_)
  · (try (simp only [decide_eq_true_eq, decide_eq_false_iff_not, Bool.not_eq_true', Bool.not_eq_false', Bool.and_eq_true, Bool.or_eq_true, Int.not_lt, Int.not_le] at hc)); (try (simp (disch := first | omega | (simp <;> omega) | fail) only [push_cast, ↓reduceIte, Nat.reduceEqDiff, Nat.reduceAdd, Nat.reduceMul, Nat.reduceSub, Nat.reduceLT, Int.reduceToNat]))
    have hi : i < (lS a).length := by omega
    (try (simp (disch := first | omega | (simp <;> omega) | fail) only [push_cast, ↓reduceIte, Nat.reduceEqDiff, Nat.reduceAdd, Nat.reduceMul, Nat.reduceSub, Nat.reduceLT, Int.reduceToNat]))
    first | refine goC_split (fun hc => ?_) (fun hc => ?_) | refine cnd_split (fun hc => ?_) (fun hc => ?_)
    · (try (simp only [decide_eq_true_eq, decide_eq_false_iff_not, Bool.not_eq_true', Bool.not_eq_false', Bool.and_eq_true, Bool.or_eq_true, Int.not_lt, Int.not_le] at hc)); (try (simp (disch := first | omega | (simp <;> omega) | fail) only [push_cast, ↓reduceIte, Nat.reduceEqDiff, Nat.reduceAdd, Nat.reduceMul, Nat.reduceSub, Nat.reduceLT, Int.reduceToNat]))
      congr 1
      symm
      rw [decide_eq_false_iff_not]
      intro he
      rw [he] at hc
      exact hc rfl
    · (try (simp only [decide_eq_true_eq, decide_eq_false_iff_not, Bool.not_eq_true', Bool.not_eq_false', Bool.and_eq_true, Bool.or_eq_true, Int.not_lt, Int.not_le] at hc)); (try (simp (disch := first | omega | (simp <;> omega) | fail) only [push_cast, ↓reduceIte, Nat.reduceEqDiff, Nat.reduceAdd, Nat.reduceMul, Nat.reduceSub, Nat.reduceLT, Int.reduceToNat]))
      have h1 : i < (lS b).length := by omega
      simp [hi, h1] at hc
      rw [List.take_add_one, List.take_add_one, he]
      simp [hi, h1, hc]
  · (try (simp only [decide_eq_true_eq, decide_eq_false_iff_not, Bool.not_eq_true', Bool.not_eq_false', Bool.and_eq_true, Bool.or_eq_true, Int.not_lt, Int.not_le] at hc)); (try (simp (disch := first | omega | (simp <;> omega) | fail) only [push_cast, ↓reduceIte, Nat.reduceEqDiff, Nat.reduceAdd, Nat.reduceMul, Nat.reduceSub, Nat.reduceLT, Int.reduceToNat]))
    have hi2 : i = (lS a).length := by omega
    congr 1
    symm
    rw [decide_eq_true_iff]
    rw [hi2, List.take_length] at he
    rw [he, hlen, List.take_length]

def mkD : Nat → Int → Str → Str
  | 0, _, out => out
  | f + 1, k, out => if k ≤ 0 then out else mkD f (k / 10) (UInt8.ofNat (48 + k % 10).toNat :: out)
theorem mkD_done {f : Nat} {k : Int} {out : Str} (h : k ≤ 0) : mkD f k out = out := by
  cases f with
  | zero => rfl
  | succ f => rw [mkD, if_pos h]
theorem mkD_next {f : Nat} {k : Int} {out : Str} (h : 0 < k) : mkD (f + 1) k out = mkD f (k / 10) (UInt8.ofNat (48 + k % 10).toNat :: out) := by
  rw [mkD, if_neg (by omega)]
/-- A mark. -/
def mkT (k : Int) : Str := if k ≤ 0 then [109, 48] else 109 :: mkD 20 k []
def marks (k : Int) (n : Nat) : List Str := (List.range n).map fun i : Nat => mkT (k + (i : Int))
theorem marks_len {k : Int} {n : Nat} : (marks k n).length = n := by simp [marks]
theorem marks_succ {k : Int} {n : Nat} : marks k (n + 1) = marks k n ++ [mkT (k + (n : Int))] := by simp [marks, List.range_succ]
theorem marks_get {k : Int} {n i : Nat} (hi : i < n) : (marks k n).getD i [] = mkT (k + (i : Int)) := by simp [marks, hi]
theorem mk_set {k : Int} {l : List Str} {i : Nat} (hi : i < l.length) : ((marks k i ++ l.drop i).map AV.str).set i (.str (mkT (k + (i : Int)))) = (marks k (i + 1) ++ l.drop (i + 1)).map AV.str := by
  rw [List.drop_eq_getElem_cons hi, marks_succ]
  simp only [List.map_append, List.map_cons, List.append_assoc, List.map_nil, List.cons_append, List.nil_append]
  have := set_last (p := (marks k i).map AV.str) (r := (l.drop (i + 1)).map AV.str) (x := .str l[i]) (y := .str (mkT (k + (i : Int))))
  rw [List.length_map, marks_len] at this
  exact this
def MkI (h h' : H) (b : Nat) (L : List Str) : Prop := h'.length = h.length ∧ (∀ b', b' ≠ b → h'[b']? = h[b']?) ∧ h'.cells b = some (L.map .str)
theorem MkI.put {h h' : H} {b : Nat} {L L2 : List Str} {cs : List AV} (hm : MkI h h' b L) (hc : cs = L2.map .str) : MkI h (wr h' b cs) b L2 := by
  obtain ⟨h1, h2, h3⟩ := hm
  subst hc
  refine ⟨by simp [wr, h1], fun b' hb' => ?_, ?_⟩
  · unfold wr
    rw [List.getElem?_set_ne (Ne.symm hb')]
    exact h2 b' hb'
  · rw [cells_eq]
    unfold wr
    rw [List.getElem?_set_self (cells_lt h3)]
    rfl

def tot (L : Nat → List Str) (n : Nat) : Nat := ((List.range n).map fun j => (L j).length).sum
theorem tot_0 {L : Nat → List Str} : tot L 0 = 0 := (rfl)
theorem tot_succ {L : Nat → List Str} {n : Nat} : tot L (n + 1) = tot L n + (L n).length := by simp [tot, List.range_succ]
theorem tot_mono {L : Nat → List Str} {i : Nat} : ∀ n, i ≤ n → tot L i ≤ tot L n
  | 0, h => by rw [show i = 0 by omega]; exact Nat.le_refl _
  | n + 1, h => by
    rcases Nat.lt_or_ge n i with h5 | h5
    · rw [show i = n + 1 by omega]; exact Nat.le_refl _
    · rw [tot_succ]
      have := tot_mono (L := L) n h5
      omega
def marksL (k : Int) (L : Nat → List Str) (j : Nat) : List Str := marks (k + (tot L j : Int)) (L j).length
theorem marksL_len {k : Int} {L : Nat → List Str} {j : Nat} : (marksL k L j).length = (L j).length := marks_len
theorem marksL_nil {k : Int} {L : Nat → List Str} {j : Nat} : marksL k L j = [] ↔ L j = [] := by
  rw [← List.length_eq_zero_iff, marksL_len, List.length_eq_zero_iff]
def MsI (h h' : H) (n0 : Nat) (b n i : Nat) (k : Int) (L : Nat → List Str) (vs : Nat → AV) (Bs : Nat → List Nat) : Prop :=
  h'.length = h.length ∧ (∀ b', b' < n0 → h'[b']? = h[b']?) ∧ SS h' n0 (.sl b 0 1 n n) n (fun j => if j < i then marksL k L j else L j) vs [b] Bs
theorem MsI.next {h h' h2 : H} {n0 b n i : Nat} {k : Int} {L : Nat → List Str} {vs : Nat → AV} {Bs : Nat → List Nat} (hm : MsI h h' n0 b n i k L vs Bs) (hi : i < n) (h1 : h2.length = h'.length) (hfr : ∀ b', b' ∉ Bs i → h2[b']? = h'[b']?)
    (hx : S1 h2 1 (vs i) (L i).length ((marks (k + (tot L i : Int)) (L i).length).map .str) (Bs i)) : MsI h h2 n0 b n (i + 1) k L vs Bs := by
  obtain ⟨m1, m2, m3⟩ := hm
  obtain ⟨s1, s2, s3⟩ := m3
  refine ⟨h1.trans m1, fun b' hb' => (hfr b' fun hb => ?_).trans (m2 b' hb'), s1.frame fun b' hb' => hfr b' fun hb => ?_, s2, fun j hj => ?_⟩
  · exact absurd ((s3 i hi).2.2.1 b' hb).1 (by omega)
  · exact ((s3 i hi).2.2.1 b' hb).2 hb'
  · obtain ⟨g1, g2, g3, g4⟩ := s3 j hj
    by_cases hji : j = i
    · subst hji
      have e1 : (if j < j + 1 then marksL k L j else L j) = marksL k L j := if_pos (by omega)
      dsimp only at g1 g2 ⊢
      rw [e1]
      refine ⟨by rw [marksL_len]; exact hx, fun h0 => ?_, g3, g4⟩
      rw [marksL_nil] at h0
      refine g2 ?_
      rw [if_neg (by omega)]
      exact h0
    · have e1 : (if j < i + 1 then marksL k L j else L j) = (if j < i then marksL k L j else L j) := by
        by_cases h5 : j < i
        · rw [if_pos h5, if_pos (by omega)]
        · rw [if_neg h5, if_neg (by omega)]
      dsimp only at g1 g2 ⊢
      rw [e1]
      exact ⟨g1.frame fun b' hb' => hfr b' fun hb => hji (g4 i hi b' hb' hb), g2, g3, g4⟩

theorem c_laws_eqStringSS (LL : List (List Str)) (hl : LL.length ≤ 1000) : Fn Try.prog 15 [eSS LL, eSS LL] (· = .bool true) := by
  refine Fn.of free_bool fun h => ?_
  refine enter (by kernel_rfl) e15 (by kernel_rfl) rfl fun hok => ?_
  simp only [r15, initEnv_2]
  unfold eSS
  (try (simp (disch := first | omega | (simp <;> omega) | fail) only [push_cast, ↓reduceIte, Nat.reduceEqDiff, Nat.reduceAdd, Nat.reduceMul, Nat.reduceSub, Nat.reduceLT, Int.reduceToNat]))
  refine T_for LL.length (fun i e h' => Pins e [(0, .ro 1 (LL.map nS) LL.length), (1, .ro 1 (LL.map nS) LL.length), (5, .int .i64 i)] ∧ h' = h) ?_ ?_
  · (try (simp (disch := first | omega | (simp <;> omega) | fail) only [push_cast, ↓reduceIte, Nat.reduceEqDiff, Nat.reduceAdd, Nat.reduceMul, Nat.reduceSub, Nat.reduceLT, Int.reduceToNat]))
  rintro i e h' hi ⟨hp, rfl⟩
  refine T_pins hp fun e => ?_
  (try (simp (disch := first | omega | (simp <;> omega) | fail) only [push_cast, ↓reduceIte, Nat.reduceEqDiff, Nat.reduceAdd, Nat.reduceMul, Nat.reduceSub, Nat.reduceLT, Int.reduceToNat]))
  first | refine goC_split (fun hc => ?_) (fun hc => ?_) | refine cnd_split (fun hc => ?_) (fun hc => ?_)
  · (try (simp only [decide_eq_true_eq, decide_eq_false_iff_not, Bool.not_eq_true', Bool.not_eq_false', Bool.and_eq_true, Bool.or_eq_true, Int.not_lt, Int.not_le] at hc)); (try (simp (disch := first | omega | (simp <;> omega) | fail) only [push_cast, ↓reduceIte, Nat.reduceEqDiff, Nat.reduceAdd, Nat.reduceMul, Nat.reduceSub, Nat.reduceLT, Int.reduceToNat]))
    have hi2 : i < LL.length := by omega
    have hgp : (LL.map nS)[i]? = some (nS (LL.getD i [])) := by simp [hi2]
    (try (simp (disch := first | omega | (simp <;> omega) | fail) only [push_cast, ↓reduceIte, Nat.reduceEqDiff, Nat.reduceAdd, Nat.reduceMul, Nat.reduceSub, Nat.reduceLT, Int.reduceToNat, hgp]))
    unfold nS
    refine (c_laws_eqStringS _ _).call ?_
    (try (simp (disch := first | omega | (simp <;> omega) | fail) only [push_cast, ↓reduceIte, Nat.reduceEqDiff, Nat.reduceAdd, Nat.reduceMul, Nat.reduceSub, Nat.reduceLT, Int.reduceToNat]))
    all_goals (try simp)
  · (try (simp only [decide_eq_true_eq, decide_eq_false_iff_not, Bool.not_eq_true', Bool.not_eq_false', Bool.and_eq_true, Bool.or_eq_true, Int.not_lt, Int.not_le] at hc)); (try (simp (disch := first | omega | (simp <;> omega) | fail) only [push_cast, ↓reduceIte, Nat.reduceEqDiff, Nat.reduceAdd, Nat.reduceMul, Nat.reduceSub, Nat.reduceLT, Int.reduceToNat]))
    all_goals (try rfl)
theorem c_laws_eqStringSS_nil : Fn Try.prog 15 [.nils, .nils] (· = .bool true) := by
  refine Fn.of free_bool fun h => ?_
  refine enter (by kernel_rfl) e15 (by kernel_rfl) rfl fun hok => ?_
  simp only [r15, initEnv_2]
  (try (simp (disch := first | omega | (simp <;> omega) | fail) only [push_cast, ↓reduceIte, Nat.reduceEqDiff, Nat.reduceAdd, Nat.reduceMul, Nat.reduceSub, Nat.reduceLT, Int.reduceToNat]))
  refine T_for 0 (fun i e h' => Pins e [(0, .nils), (1, .nils), (5, .int .i64 0)] ∧ h' = h) ?_ ?_
  · (try (simp (disch := first | omega | (simp <;> omega) | fail) only [push_cast, ↓reduceIte, Nat.reduceEqDiff, Nat.reduceAdd, Nat.reduceMul, Nat.reduceSub, Nat.reduceLT, Int.reduceToNat]))
  rintro i e h' hi ⟨hp, rfl⟩
  refine T_pins hp fun e => ?_
  (try (simp (disch := first | omega | (simp <;> omega) | fail) only [push_cast, ↓reduceIte, Nat.reduceEqDiff, Nat.reduceAdd, Nat.reduceMul, Nat.reduceSub, Nat.reduceLT, Int.reduceToNat]))

theorem c_laws_markText (k : Int) (hk : k ≤ 1000000000) : Fn Try.prog 54 [.int .i64 k] (· = .str (mkT k)) := by
  refine Fn.of free_str fun h => ?_
  refine enter (by kernel_rfl) e54 (by kernel_rfl) rfl fun hok => ?_
  simp only [r54, initEnv_1]
  (try (simp (disch := first | omega | (simp <;> omega) | fail) only [push_cast, ↓reduceIte, Nat.reduceEqDiff, Nat.reduceAdd, Nat.reduceMul, Nat.reduceSub, Nat.reduceLT, Int.reduceToNat]))
  first | refine goC_split (fun hc => ?_) (fun hc => ?_) | refine cnd_split (fun hc => ?_) (fun hc => ?_)
  · (try (simp only [decide_eq_true_eq, decide_eq_false_iff_not, Bool.not_eq_true', Bool.not_eq_false', Bool.and_eq_true, Bool.or_eq_true, Int.not_lt, Int.not_le] at hc)); (try (simp (disch := first | omega | (simp <;> omega) | fail) only [push_cast, ↓reduceIte, Nat.reduceEqDiff, Nat.reduceAdd, Nat.reduceMul, Nat.reduceSub, Nat.reduceLT, Int.reduceToNat]))
    unfold mkT
    rw [if_pos hc]
  · (try (simp only [decide_eq_true_eq, decide_eq_false_iff_not, Bool.not_eq_true', Bool.not_eq_false', Bool.and_eq_true, Bool.or_eq_true, Int.not_lt, Int.not_le] at hc)); (try (simp (disch := first | omega | (simp <;> omega) | fail) only [push_cast, ↓reduceIte, Nat.reduceEqDiff, Nat.reduceAdd, Nat.reduceMul, Nat.reduceSub, Nat.reduceLT, Int.reduceToNat]))
    refine T_for 20 (fun i e h' => ∃ (q : Int) (out : Str), Pins e [(0, .int .i64 q), (3, .str out)] ∧ mkD (20 - i) q out = mkD 20 k [] ∧ 0 ≤ q ∧ q ≤ 1000000000 ∧ q < 10 ^ (20 - i) ∧ out.length ≤ i) ?_ ?_
    · refine ⟨k, [], ?_, rfl, by omega, hk, by omega, Nat.le_refl _⟩
      (try (simp (disch := first | omega | (simp <;> omega) | fail) only [push_cast, ↓reduceIte, Nat.reduceEqDiff, Nat.reduceAdd, Nat.reduceMul, Nat.reduceSub, Nat.reduceLT, Int.reduceToNat]))
    rintro i e h' hi ⟨q, out, hp, hm, hq0, hq1, hq2, hol⟩
    refine T_pins hp fun e => ?_
    (try (simp (disch := first | omega | (simp <;> omega) | fail) only [push_cast, ↓reduceIte, Nat.reduceEqDiff, Nat.reduceAdd, Nat.reduceMul, Nat.reduceSub, Nat.reduceLT, Int.reduceToNat]))
    first | refine goC_split (fun hd => ?_) (fun hd => ?_) | refine cnd_split (fun hd => ?_) (fun hd => ?_)
    · (try (simp only [decide_eq_true_eq, decide_eq_false_iff_not, Bool.not_eq_true', Bool.not_eq_false', Bool.and_eq_true, Bool.or_eq_true, Int.not_lt, Int.not_le] at hd)); (try (simp (disch := first | omega | (simp <;> omega) | fail) only [push_cast, ↓reduceIte, Nat.reduceEqDiff, Nat.reduceAdd, Nat.reduceMul, Nat.reduceSub, Nat.reduceLT, Int.reduceToNat]))
      have hi2 : i < 20 := by
        rcases Nat.lt_or_ge i 20 with h5 | h5
        · exact h5
        · rw [show 20 - i = 0 by omega] at hq2
          omega
      have hf : 20 - i = (20 - (i + 1)) + 1 := by omega
      have hmod : 0 ≤ q % 10 ∧ q % 10 ≤ 9 := by omega
      (try (simp (disch := first | omega | (simp <;> omega) | fail) only [push_cast, ↓reduceIte, Nat.reduceEqDiff, Nat.reduceAdd, Nat.reduceMul, Nat.reduceSub, Nat.reduceLT, Int.reduceToNat]))
      refine ⟨_, _, ⟨rfl, rfl⟩, ?_, by omega, by omega, ?_, ?_⟩
      · rw [hf, mkD_next hd] at hm
        exact hm
      · rw [hf, Int.pow_succ] at hq2
        exact Int.ediv_lt_of_lt_mul (by omega) hq2
      · simp
        omega
    · (try (simp only [decide_eq_true_eq, decide_eq_false_iff_not, Bool.not_eq_true', Bool.not_eq_false', Bool.and_eq_true, Bool.or_eq_true, Int.not_lt, Int.not_le] at hd)); (try (simp (disch := first | omega | (simp <;> omega) | fail) only [push_cast, ↓reduceIte, Nat.reduceEqDiff, Nat.reduceAdd, Nat.reduceMul, Nat.reduceSub, Nat.reduceLT, Int.reduceToNat]))
      rw [mkD_done (by omega)] at hm
      (try (simp (disch := first | omega | (simp <;> omega) | fail) only [push_cast, ↓reduceIte, Nat.reduceEqDiff, Nat.reduceAdd, Nat.reduceMul, Nat.reduceSub, Nat.reduceLT, Int.reduceToNat]))
      unfold mkT
      rw [if_neg (by omega), hm]

theorem c_laws_markStringS (v : AV) (l : List Str) (B : List Nat) (k : Int) (h : H) (hs : S1 h 1 v l.length (l.map .str) B) (hk : 0 ≤ k) (hk2 : k + l.length ≤ 100000000) :
    Call Try.prog 17 [v, .int .i64 k] h (fun b => b ∈ B) (fun x h' => x = .int .i64 (k + l.length) ∧ h'.length = h.length ∧ (∀ b, b ∉ B → h'[b]? = h[b]?) ∧ S1 h' 1 v l.length ((marks k l.length).map .str) B) := by
  rcases hs.2 with ⟨rfl, hl0, rfl⟩ | ⟨b, rfl, rfl, hcs⟩
  · have hl : l = [] := List.eq_nil_of_length_eq_zero hl0
    subst hl
    refine enter (by kernel_rfl) e17 (by kernel_rfl) rfl fun hok => ?_
    simp only [r17, initEnv_2]
    (try (simp (disch := first | omega | (simp <;> omega) | fail) only [push_cast, ↓reduceIte, Nat.reduceEqDiff, Nat.reduceAdd, Nat.reduceMul, Nat.reduceSub, Nat.reduceLT, Int.reduceToNat]))
    refine T_for 0 (fun i e h' => Pins e [(0, .nils), (1, .int .i64 k), (5, .int .i64 0)] ∧ h' = h) ?_ ?_
    · (try (simp (disch := first | omega | (simp <;> omega) | fail) only [push_cast, ↓reduceIte, Nat.reduceEqDiff, Nat.reduceAdd, Nat.reduceMul, Nat.reduceSub, Nat.reduceLT, Int.reduceToNat]))
    rintro i e h' hi ⟨hp, rfl⟩
    refine T_pins hp fun e => ?_
    (try (simp (disch := first | omega | (simp <;> omega) | fail) only [push_cast, ↓reduceIte, Nat.reduceEqDiff, Nat.reduceAdd, Nat.reduceMul, Nat.reduceSub, Nat.reduceLT, Int.reduceToNat]))
    all_goals (try exact S1.nil)
    all_goals (try exact ⟨by simp, S1.nil⟩)
  · refine enter (by kernel_rfl) e17 (by kernel_rfl) rfl fun hok => ?_
    simp only [r17, initEnv_2]
    have hpm : (b ∈ [b]) = True := by simp
    (try (simp (disch := first | omega | (simp <;> omega) | fail) only [push_cast, ↓reduceIte, Nat.reduceEqDiff, Nat.reduceAdd, Nat.reduceMul, Nat.reduceSub, Nat.reduceLT, Int.reduceToNat]))
    refine T_for l.length (fun i e h' => Pins e [(0, .sl b 0 1 l.length l.length), (1, .int .i64 (k + i)), (5, .int .i64 i)] ∧ MkI h h' b (marks k i ++ l.drop i)) ?_ ?_
    · (try (simp (disch := first | omega | (simp <;> omega) | fail) only [push_cast, ↓reduceIte, Nat.reduceEqDiff, Nat.reduceAdd, Nat.reduceMul, Nat.reduceSub, Nat.reduceLT, Int.reduceToNat]))
      all_goals (try exact ⟨rfl, fun _ _ => rfl, by simpa [marks] using hcs⟩)
    rintro i e h' hi ⟨hp, hm⟩
    refine T_pins hp fun e => ?_
    have hc2 := hm.2.2
    (try (simp (disch := first | omega | (simp <;> omega) | fail) only [push_cast, ↓reduceIte, Nat.reduceEqDiff, Nat.reduceAdd, Nat.reduceMul, Nat.reduceSub, Nat.reduceLT, Int.reduceToNat]))
    first | refine goC_split (fun hc => ?_) (fun hc => ?_) | refine cnd_split (fun hc => ?_) (fun hc => ?_)
    · (try (simp only [decide_eq_true_eq, decide_eq_false_iff_not, Bool.not_eq_true', Bool.not_eq_false', Bool.and_eq_true, Bool.or_eq_true, Int.not_lt, Int.not_le] at hc)); (try (simp (disch := first | omega | (simp <;> omega) | fail) only [push_cast, ↓reduceIte, Nat.reduceEqDiff, Nat.reduceAdd, Nat.reduceMul, Nat.reduceSub, Nat.reduceLT, Int.reduceToNat]))
      have hi2 : i < l.length := by omega
      have hset := mk_set (k := k) hi2
      have hln : ((marks k i ++ l.drop i).map AV.str).length = l.length := by
        simp [marks_len]
        omega
      have hlt : i < ((marks k i ++ l.drop i).map AV.str).length := by omega
      (try (simp (disch := first | omega | (simp <;> omega) | fail) only [push_cast, ↓reduceIte, Nat.reduceEqDiff, Nat.reduceAdd, Nat.reduceMul, Nat.reduceSub, Nat.reduceLT, Int.reduceToNat]))
      refine (c_laws_markText (k + i) (by omega)).call ?_
      (try (simp (disch := first | omega | (simp <;> omega) | fail) only [push_cast, ↓reduceIte, Nat.reduceEqDiff, Nat.reduceAdd, Nat.reduceMul, Nat.reduceSub, Nat.reduceLT, Int.reduceToNat, hc2, hpm, hln, over_set hlt, hset]))
      all_goals (try (refine ⟨by omega, ?_⟩))
      all_goals (try exact hm.put rfl)
      all_goals (try exact hm.put hset)
    · (try (simp only [decide_eq_true_eq, decide_eq_false_iff_not, Bool.not_eq_true', Bool.not_eq_false', Bool.and_eq_true, Bool.or_eq_true, Int.not_lt, Int.not_le] at hc)); (try (simp (disch := first | omega | (simp <;> omega) | fail) only [push_cast, ↓reduceIte, Nat.reduceEqDiff, Nat.reduceAdd, Nat.reduceMul, Nat.reduceSub, Nat.reduceLT, Int.reduceToNat]))
      have hie : i = l.length := by omega
      subst hie
      obtain ⟨m1, m2, m3⟩ := hm
      have e1 : marks k l.length ++ l.drop l.length = marks k l.length := by simp
      rw [e1] at m3
      have hs1 : S1 h' 1 (.sl b 0 1 l.length l.length) l.length ((marks k l.length).map .str) [b] := ⟨by simp [marks_len], .inr ⟨b, rfl, rfl, m3⟩⟩
      first | exact ⟨rfl, m1, fun b' hb' => m2 b' (by simpa using hb'), hs1⟩ | exact ⟨m1, fun b' hb' => m2 b' (by simpa using hb'), hs1⟩

theorem c_laws_markStringSS (b n n0 : Nat) (L : Nat → List Str) (vs : Nat → AV) (Bs : Nat → List Nat) (k : Int) (h : H) (hs : SS h n0 (.sl b 0 1 n n) n L vs [b] Bs) (hk : 0 ≤ k) (hk2 : k + tot L n ≤ 10000000) (hn : n ≤ 1000) :
    Call Try.prog 18 [.sl b 0 1 n n, .int .i64 k] h (fun b' => n0 ≤ b') (fun x h' => x = .int .i64 (k + tot L n) ∧ h'.length = h.length ∧ (∀ b', b' < n0 → h'[b']? = h[b']?) ∧ SS h' n0 (.sl b 0 1 n n) n (marksL k L) vs [b] Bs) := by
  refine enter (by kernel_rfl) e18 (by kernel_rfl) rfl fun hok => ?_
  simp only [r18, initEnv_2]
  (try (simp (disch := first | omega | (simp <;> omega) | fail) only [push_cast, ↓reduceIte, Nat.reduceEqDiff, Nat.reduceAdd, Nat.reduceMul, Nat.reduceSub, Nat.reduceLT, Int.reduceToNat]))
  refine T_for n (fun i e h' => Pins e [(0, .sl b 0 1 n n), (1, .int .i64 (k + tot L i)), (5, .int .i64 i)] ∧ MsI h h' n0 b n i k L vs Bs) ?_ ?_
  · (try (simp (disch := first | omega | (simp <;> omega) | fail) only [push_cast, ↓reduceIte, Nat.reduceEqDiff, Nat.reduceAdd, Nat.reduceMul, Nat.reduceSub, Nat.reduceLT, Int.reduceToNat, tot_0]))
    all_goals (try exact ⟨rfl, fun _ _ => rfl, hs.congr fun j hj => if_neg (by omega)⟩)
    all_goals (try exact ⟨by simp, rfl, fun _ _ => rfl, hs.congr fun j hj => if_neg (by omega)⟩)
  rintro i e h' hi ⟨hp, hm⟩
  refine T_pins hp fun e => ?_
  have hcs := hm.2.2.out.2.2
  have htm := tot_mono (L := L) (i := i) n hi
  (try (simp (disch := first | omega | (simp <;> omega) | fail) only [push_cast, ↓reduceIte, Nat.reduceEqDiff, Nat.reduceAdd, Nat.reduceMul, Nat.reduceSub, Nat.reduceLT, Int.reduceToNat]))
  first | refine goC_split (fun hc => ?_) (fun hc => ?_) | refine cnd_split (fun hc => ?_) (fun hc => ?_)
  · (try (simp only [decide_eq_true_eq, decide_eq_false_iff_not, Bool.not_eq_true', Bool.not_eq_false', Bool.and_eq_true, Bool.or_eq_true, Int.not_lt, Int.not_le] at hc)); (try (simp (disch := first | omega | (simp <;> omega) | fail) only [push_cast, ↓reduceIte, Nat.reduceEqDiff, Nat.reduceAdd, Nat.reduceMul, Nat.reduceSub, Nat.reduceLT, Int.reduceToNat]))
    have hi2 : i < n := by omega
    have hgp := get_range (vs := vs) hi2
    have hts := tot_succ (L := L) (n := i)
    have htm2 := tot_mono (L := L) (i := i + 1) n (by omega)
    have hs1 := (hm.2.2.2.2 i hi2).1
    have e1 : (if i < i then marksL k L i else L i) = L i := if_neg (by omega)
    simp only [e1] at hs1
    have hfoot := (hm.2.2.2.2 i hi2).2.2.1
    (try (simp (disch := first | omega | (simp <;> omega) | fail) only [push_cast, ↓reduceIte, Nat.reduceEqDiff, Nat.reduceAdd, Nat.reduceMul, Nat.reduceSub, Nat.reduceLT, Int.reduceToNat, hcs, hgp]))
    refine (c_laws_markStringS (vs i) (L i) (Bs i) (k + tot L i) h' hs1 (by omega) (by omega)).mono (fun x h2 hx => ?_) (fun b' _ hb' => Or.inl (hfoot b' hb').1)
    obtain ⟨rfl, x1, x2, x3⟩ := hx
    have hmn := hm.next hi2 x1 x2 x3
    (try (simp (disch := first | omega | (simp <;> omega) | fail) only [push_cast, ↓reduceIte, Nat.reduceEqDiff, Nat.reduceAdd, Nat.reduceMul, Nat.reduceSub, Nat.reduceLT, Int.reduceToNat, hts]))
    all_goals (try (refine ⟨by omega, ?_⟩))
    all_goals (try exact hmn)
    all_goals (try omega)
  · (try (simp only [decide_eq_true_eq, decide_eq_false_iff_not, Bool.not_eq_true', Bool.not_eq_false', Bool.and_eq_true, Bool.or_eq_true, Int.not_lt, Int.not_le] at hc)); (try (simp (disch := first | omega | (simp <;> omega) | fail) only [push_cast, ↓reduceIte, Nat.reduceEqDiff, Nat.reduceAdd, Nat.reduceMul, Nat.reduceSub, Nat.reduceLT, Int.reduceToNat]))
    have hie : i = n := by omega
    subst hie
    obtain ⟨m1, m2, m3⟩ := hm
    have m4 := m3.congr (L' := marksL k L) fun j hj => (if_pos hj).symm
    first | exact ⟨rfl, m1, m2, m4⟩ | exact ⟨m1, m2, m4⟩
theorem c_laws_markStringSS_nil (k : Int) : Fn Try.prog 18 [.nils, .int .i64 k] (· = .int .i64 k) := by
  refine Fn.of free_int fun h => ?_
  refine enter (by kernel_rfl) e18 (by kernel_rfl) rfl fun hok => ?_
  simp only [r18, initEnv_2]
  (try (simp (disch := first | omega | (simp <;> omega) | fail) only [push_cast, ↓reduceIte, Nat.reduceEqDiff, Nat.reduceAdd, Nat.reduceMul, Nat.reduceSub, Nat.reduceLT, Int.reduceToNat]))
  refine T_for 0 (fun i e h' => Pins e [(0, .nils), (1, .int .i64 k), (5, .int .i64 0)] ∧ h' = h) ?_ ?_
  · (try (simp (disch := first | omega | (simp <;> omega) | fail) only [push_cast, ↓reduceIte, Nat.reduceEqDiff, Nat.reduceAdd, Nat.reduceMul, Nat.reduceSub, Nat.reduceLT, Int.reduceToNat]))
  rintro i e h' hi ⟨hp, rfl⟩
  refine T_pins hp fun e => ?_
  (try (simp (disch := first | omega | (simp <;> omega) | fail) only [push_cast, ↓reduceIte, Nat.reduceEqDiff, Nat.reduceAdd, Nat.reduceMul, Nat.reduceSub, Nat.reduceLT, Int.reduceToNat]))

theorem c_laws_heldStringS (a : Option (List Str)) (k : Int) (n : Nat) (ha : lS a = marks k n) (hk : 0 ≤ k) (hk2 : k + n ≤ 100000000) : Fn Try.prog 55 [eS a, .int .i64 k] (· = .int .i64 (k + n)) := by
  refine Fn.of free_int fun h => ?_
  refine enter (by kernel_rfl) e55 (by kernel_rfl) rfl fun hok => ?_
  simp only [r55, initEnv_2]
  have hln : (lS a).length = n := by rw [ha, marks_len]
  (try (simp (disch := first | omega | (simp <;> omega) | fail) only [push_cast, ↓reduceIte, Nat.reduceEqDiff, Nat.reduceAdd, Nat.reduceMul, Nat.reduceSub, Nat.reduceLT, Int.reduceToNat]))
  refine T_for n (fun i e h' => Pins e [(0, eS a), (1, .int .i64 (k + i)), (5, .int .i64 i)] ∧ h' = h) ?_ ?_
  · (try (simp (disch := first | omega | (simp <;> omega) | fail) only [push_cast, ↓reduceIte, Nat.reduceEqDiff, Nat.reduceAdd, Nat.reduceMul, Nat.reduceSub, Nat.reduceLT, Int.reduceToNat]))
    all_goals (try simp)
  rintro i e h' hi ⟨hp, rfl⟩
  refine T_pins hp fun e => ?_
  (try (simp (disch := first | omega | (simp <;> omega) | fail) only [push_cast, ↓reduceIte, Nat.reduceEqDiff, Nat.reduceAdd, Nat.reduceMul, Nat.reduceSub, Nat.reduceLT, Int.reduceToNat, hln]))
  first | refine goC_split (fun hc => ?_) (fun hc => ?_) | refine cnd_split (fun hc => ?_) (fun hc => ?_)
  · (try (simp only [decide_eq_true_eq, decide_eq_false_iff_not, Bool.not_eq_true', Bool.not_eq_false', Bool.and_eq_true, Bool.or_eq_true, Int.not_lt, Int.not_le] at hc)); (try (simp (disch := first | omega | (simp <;> omega) | fail) only [push_cast, ↓reduceIte, Nat.reduceEqDiff, Nat.reduceAdd, Nat.reduceMul, Nat.reduceSub, Nat.reduceLT, Int.reduceToNat]))
    have hi2 : i < (lS a).length := by omega
    have hg : (lS a).getD i [] = mkT (k + (i : Int)) := by rw [ha, marks_get (by omega)]
    (try (simp (disch := first | omega | (simp <;> omega) | fail) only [push_cast, ↓reduceIte, Nat.reduceEqDiff, Nat.reduceAdd, Nat.reduceMul, Nat.reduceSub, Nat.reduceLT, Int.reduceToNat, hln, hg]))
    refine (c_laws_markText (k + i) (by omega)).call ?_
    (try (simp (disch := first | omega | (simp <;> omega) | fail) only [push_cast, ↓reduceIte, Nat.reduceEqDiff, Nat.reduceAdd, Nat.reduceMul, Nat.reduceSub, Nat.reduceLT, Int.reduceToNat, hln, hg]))
    all_goals (try omega)
  · (try (simp only [decide_eq_true_eq, decide_eq_false_iff_not, Bool.not_eq_true', Bool.not_eq_false', Bool.and_eq_true, Bool.or_eq_true, Int.not_lt, Int.not_le] at hc)); (try (simp (disch := first | omega | (simp <;> omega) | fail) only [push_cast, ↓reduceIte, Nat.reduceEqDiff, Nat.reduceAdd, Nat.reduceMul, Nat.reduceSub, Nat.reduceLT, Int.reduceToNat]))

theorem c_laws_heldStringSS (n : Nat) (L : Nat → List Str) (k : Int) (hk : 0 ≤ k) (hk2 : k + tot L n ≤ 10000000) (hn : n ≤ 1000) : Fn Try.prog 19 [eSS ((List.range n).map (marksL k L)), .int .i64 k] (· = .int .i64 (k + tot L n)) := by
  refine Fn.of free_int fun h => ?_
  refine enter (by kernel_rfl) e19 (by kernel_rfl) rfl fun hok => ?_
  simp only [r19, initEnv_2]
  unfold eSS
  have hln : ((List.range n).map (marksL k L)).length = n := by simp
  (try (simp (disch := first | omega | (simp <;> omega) | fail) only [push_cast, ↓reduceIte, Nat.reduceEqDiff, Nat.reduceAdd, Nat.reduceMul, Nat.reduceSub, Nat.reduceLT, Int.reduceToNat, hln]))
  refine T_for n (fun i e h' => Pins e [(0, .ro 1 (((List.range n).map (marksL k L)).map nS) n), (1, .int .i64 (k + tot L i)), (5, .int .i64 i)] ∧ h' = h) ?_ ?_
  · (try (simp (disch := first | omega | (simp <;> omega) | fail) only [push_cast, ↓reduceIte, Nat.reduceEqDiff, Nat.reduceAdd, Nat.reduceMul, Nat.reduceSub, Nat.reduceLT, Int.reduceToNat, tot_0]))
    all_goals (try simp)
  rintro i e h' hi ⟨hp, rfl⟩
  refine T_pins hp fun e => ?_
  have htm := tot_mono (L := L) (i := i) n hi
  (try (simp (disch := first | omega | (simp <;> omega) | fail) only [push_cast, ↓reduceIte, Nat.reduceEqDiff, Nat.reduceAdd, Nat.reduceMul, Nat.reduceSub, Nat.reduceLT, Int.reduceToNat]))
  first | refine goC_split (fun hc => ?_) (fun hc => ?_) | refine cnd_split (fun hc => ?_) (fun hc => ?_)
  · (try (simp only [decide_eq_true_eq, decide_eq_false_iff_not, Bool.not_eq_true', Bool.not_eq_false', Bool.and_eq_true, Bool.or_eq_true, Int.not_lt, Int.not_le] at hc)); (try (simp (disch := first | omega | (simp <;> omega) | fail) only [push_cast, ↓reduceIte, Nat.reduceEqDiff, Nat.reduceAdd, Nat.reduceMul, Nat.reduceSub, Nat.reduceLT, Int.reduceToNat]))
    have hi2 : i < n := by omega
    have hgp : (((List.range n).map (marksL k L)).map nS)[i]? = some (nS (marksL k L i)) := by simp [hi2]
    have hts := tot_succ (L := L) (n := i)
    have htm2 := tot_mono (L := L) (i := i + 1) n (by omega)
    (try (simp (disch := first | omega | (simp <;> omega) | fail) only [push_cast, ↓reduceIte, Nat.reduceEqDiff, Nat.reduceAdd, Nat.reduceMul, Nat.reduceSub, Nat.reduceLT, Int.reduceToNat, hgp]))
    unfold nS
    refine (c_laws_heldStringS _ (k + tot L i) (L i).length (by rw [lS_nS]; rfl) (by omega) (by omega)).call ?_
    (try (simp (disch := first | omega | (simp <;> omega) | fail) only [push_cast, ↓reduceIte, Nat.reduceEqDiff, Nat.reduceAdd, Nat.reduceMul, Nat.reduceSub, Nat.reduceLT, Int.reduceToNat, hts]))
    all_goals (try omega)
  · (try (simp only [decide_eq_true_eq, decide_eq_false_iff_not, Bool.not_eq_true', Bool.not_eq_false', Bool.and_eq_true, Bool.or_eq_true, Int.not_lt, Int.not_le] at hc)); (try (simp (disch := first | omega | (simp <;> omega) | fail) only [push_cast, ↓reduceIte, Nat.reduceEqDiff, Nat.reduceAdd, Nat.reduceMul, Nat.reduceSub, Nat.reduceLT, Int.reduceToNat]))
    have hie : i = n := by omega
    subst hie
    all_goals (try rfl)
theorem c_laws_heldStringSS_nil (k : Int) : Fn Try.prog 19 [.nils, .int .i64 k] (· = .int .i64 k) := by
  refine Fn.of free_int fun h => ?_
  refine enter (by kernel_rfl) e19 (by kernel_rfl) rfl fun hok => ?_
  simp only [r19, initEnv_2]
  (try (simp (disch := first | omega | (simp <;> omega) | fail) only [push_cast, ↓reduceIte, Nat.reduceEqDiff, Nat.reduceAdd, Nat.reduceMul, Nat.reduceSub, Nat.reduceLT, Int.reduceToNat]))
  refine T_for 0 (fun i e h' => Pins e [(0, .nils), (1, .int .i64 k), (5, .int .i64 0)] ∧ h' = h) ?_ ?_
  · (try (simp (disch := first | omega | (simp <;> omega) | fail) only [push_cast, ↓reduceIte, Nat.reduceEqDiff, Nat.reduceAdd, Nat.reduceMul, Nat.reduceSub, Nat.reduceLT, Int.reduceToNat]))
  rintro i e h' hi ⟨hp, rfl⟩
  refine T_pins hp fun e => ?_
  (try (simp (disch := first | omega | (simp <;> omega) | fail) only [push_cast, ↓reduceIte, Nat.reduceEqDiff, Nat.reduceAdd, Nat.reduceMul, Nat.reduceSub, Nat.reduceLT, Int.reduceToNat]))

theorem fits_cons {s : Sh} {ss : List Sh} {zs : List AV} (h : Fits (s :: ss) zs) : ∃ xs ys, zs = xs ++ ys ∧ Fit s xs ∧ Fits ss ys := by
  cases h with
  | cons h hr => exact ⟨_, _, rfl, h, hr⟩
theorem fits_nil {zs : List AV} (h : Fits [] zs) : zs = [] := by cases h; rfl
theorem fit_int {zs : List AV} (h : Fit (.int .i64) zs) : ∃ n : Int, zs = [.int .i64 n] ∧ -9223372036854775808 ≤ n ∧ n ≤ 9223372036854775807 := by
  cases h with
  | int h1 h2 => exact ⟨_, rfl, by simpa [IntKind.min, IntKind.signed, IntKind.bits] using h1, by simpa [IntKind.max, IntKind.signed, IntKind.bits] using h2⟩
theorem fit_str {zs : List AV} (h : Fit .str zs) : ∃ s : Str, zs = [.str s] ∧ s.length ≤ 9223372036854775807 := by
  cases h with
  | str h => exact ⟨_, rfl, h⟩
theorem fit_st {fs : List Sh} {zs : List AV} (h : Fit (.st fs) zs) : Fits fs zs := by
  cases h with
  | st h => exact h
theorem flatMap_eq {α β : Type} {f g : α → List β} : ∀ {l : List α}, (∀ a ∈ l, f a = g a) → l.flatMap f = l.flatMap g
  | [], _ => rfl
  | a :: l, h => by
    rw [List.flatMap_cons, List.flatMap_cons, h a (by simp), flatMap_eq fun b hb => h b (by simp [hb])]
theorem fit_strs {zs : List AV} (h : Fit (.sl .str 1) zs) : ∃ a : Option (List Str), zs = [eS a] := by
  cases h with
  | nil => exact ⟨none, rfl⟩
  | @sl _ _ n g hm hl h =>
    have hg : ∀ i, ∃ s : Str, i < n → g i = [.str s] := fun i => by
      by_cases hi : i < n
      · obtain ⟨s, hs, _⟩ := fit_str (h i hi)
        exact ⟨s, fun _ => hs⟩
      · exact ⟨[], fun h => absurd h hi⟩
    refine ⟨some ((List.range n).map fun i => Classical.choose (hg i)), ?_⟩
    simp only [eS, List.length_map, List.length_range, List.map_map]
    congr 2
    rw [← List.flatMap_singleton' ((List.range n).map _), List.flatMap_map]
    refine flatMap_eq fun i hi => ?_
    rw [Classical.choose_spec (hg i) (List.mem_range.1 hi)]
    rfl
theorem argsFit_cons {s : Sh} {ss : List Sh} {zs : List AV} (h : ArgsFit (s :: ss) zs) : ∃ xs ys, zs = argOf s xs :: ys ∧ Fit s xs ∧ ArgsFit ss ys := by
  cases h with
  | cons h hr => exact ⟨_, _, rfl, h, hr⟩
theorem argsFit_nil {zs : List AV} (h : ArgsFit [] zs) : zs = [] := by cases h; rfl

theorem c_laws_toStringS_own (a : Option (List Str)) (ha : (lS a).length ≤ 1048576) (h : H) : Call Try.prog 13 [eS a] h Nowhere (fun x h' => x = .sl h.length 0 1 (lS a).length (lS a).length ∧ h' = h ++ [some (.cells ((lS a).map .str))]) := by
  refine enter (by kernel_rfl) e13 (by kernel_rfl) rfl fun hok => ?_
  simp only [r13, initEnv_1]
  (try (simp (disch := first | omega | (simp <;> omega) | fail) only [push_cast, ↓reduceIte, Nat.reduceEqDiff, Nat.reduceAdd, Nat.reduceMul, Nat.reduceSub, Nat.reduceLT, Int.reduceToNat]))
  refine T_for (lS a).length (fun i e h' => Pins e [(0, eS a), (3, .sl h.length 0 1 (lS a).length (lS a).length), (4, .int .i64 i)] ∧ h' = h ++ [some (.cells (fill .str (lS a) (.str []) i))]) ?_ ?_
  · (try (simp (disch := first | omega | (simp <;> omega) | fail) only [push_cast, ↓reduceIte, Nat.reduceEqDiff, Nat.reduceAdd, Nat.reduceMul, Nat.reduceSub, Nat.reduceLT, Int.reduceToNat, fill_0]))
  rintro i e h' hi ⟨hp, rfl⟩
  refine T_pins hp fun e => ?_
  (try (simp (disch := first | omega | (simp <;> omega) | fail) only [push_cast, ↓reduceIte, Nat.reduceEqDiff, Nat.reduceAdd, Nat.reduceMul, Nat.reduceSub, Nat.reduceLT, Int.reduceToNat]))
  first | refine goC_split (fun hc => ?_) (fun hc => ?_) | refine cnd_split (fun hc => ?_) (fun hc => ?_)
  · (try (simp only [decide_eq_true_eq, decide_eq_false_iff_not, Bool.not_eq_true', Bool.not_eq_false', Bool.and_eq_true, Bool.or_eq_true, Int.not_lt, Int.not_le] at hc)); (try (simp (disch := first | omega | (simp <;> omega) | fail) only [push_cast, ↓reduceIte, Nat.reduceEqDiff, Nat.reduceAdd, Nat.reduceMul, Nat.reduceSub, Nat.reduceLT, Int.reduceToNat]))
    (try (simp (disch := first | omega | (simp <;> omega) | fail) only [push_cast, ↓reduceIte, Nat.reduceEqDiff, Nat.reduceAdd, Nat.reduceMul, Nat.reduceSub, Nat.reduceLT, Int.reduceToNat, fill_len hi]))
    rw [fill_next (d := []) (by omega) rfl]
  · (try (simp only [decide_eq_true_eq, decide_eq_false_iff_not, Bool.not_eq_true', Bool.not_eq_false', Bool.and_eq_true, Bool.or_eq_true, Int.not_lt, Int.not_le] at hc)); (try (simp (disch := first | omega | (simp <;> omega) | fail) only [push_cast, ↓reduceIte, Nat.reduceEqDiff, Nat.reduceAdd, Nat.reduceMul, Nat.reduceSub, Nat.reduceLT, Int.reduceToNat]))
    rw [fill_all (by omega)]
    all_goals (try exact ⟨rfl, rfl⟩)
def sh_FnExactSplitKeys : List Sh := [.int .i64, .sl .str 1, .int .i64]
theorem law_FnExactSplitKeys (ys : List AV) (hy : ArgsFit sh_FnExactSplitKeys ys) : Call Try.prog 3 ys [] Nowhere (fun x _ => x = .bool true) := by
  obtain ⟨x1, y1, rfl, h1, hy⟩ := argsFit_cons hy
  obtain ⟨x2, y2, rfl, h2, hy⟩ := argsFit_cons hy
  obtain ⟨x3, y3, rfl, h3, hy⟩ := argsFit_cons hy
  obtain rfl := argsFit_nil hy
  obtain ⟨seed, rfl, _, _⟩ := fit_int h1
  obtain ⟨keys, hke⟩ := fit_strs h2
  subst hke
  obtain ⟨shards, rfl, _, _⟩ := fit_int h3
  refine (?_ : ∀ h, Call Try.prog 3 [.int .i64 seed, eS keys, .int .i64 shards] h Nowhere (fun x _ => x = .bool true)) []
  intro h
  refine enter (by kernel_rfl) e3 (by kernel_rfl) rfl fun hok => ?_
  simp only [r3, initEnv_3]
  (try (simp (disch := first | omega | (simp <;> omega) | fail) only [push_cast, ↓reduceIte, Nat.reduceEqDiff, Nat.reduceAdd, Nat.reduceMul, Nat.reduceSub, Nat.reduceLT, Int.reduceToNat]))
  refine (c_laws_szStringS keys 1048576 (by omega) (by omega)).call ?_
  (try (simp (disch := first | omega | (simp <;> omega) | fail) only [push_cast, ↓reduceIte, Nat.reduceEqDiff, Nat.reduceAdd, Nat.reduceMul, Nat.reduceSub, Nat.reduceLT, Int.reduceToNat]))
  first | refine goC_split (fun hd => ?_) (fun hd => ?_) | refine cnd_split (fun hd => ?_) (fun hd => ?_)
  · (try (simp only [decide_eq_true_eq, decide_eq_false_iff_not, Bool.not_eq_true', Bool.not_eq_false', Bool.and_eq_true, Bool.or_eq_true, Int.not_lt, Int.not_le] at hd)); (try (simp (disch := first | omega | (simp <;> omega) | fail) only [push_cast, ↓reduceIte, Nat.reduceEqDiff, Nat.reduceAdd, Nat.reduceMul, Nat.reduceSub, Nat.reduceLT, Int.reduceToNat]))
  (try (simp only [decide_eq_true_eq, decide_eq_false_iff_not, Bool.not_eq_true', Bool.not_eq_false', Bool.and_eq_true, Bool.or_eq_true, Int.not_lt, Int.not_le] at hd)); (try (simp (disch := first | omega | (simp <;> omega) | fail) only [push_cast, ↓reduceIte, Nat.reduceEqDiff, Nat.reduceAdd, Nat.reduceMul, Nat.reduceSub, Nat.reduceLT, Int.reduceToNat]))
  have hw3 := szv_ok hd
  have hl : (lS keys).length ≤ 1048576 := by unfold wS at hw3; omega
  refine (c_laws_toStringS keys hl).call ?_
  (try (simp (disch := first | omega | (simp <;> omega) | fail) only [push_cast, ↓reduceIte, Nat.reduceEqDiff, Nat.reduceAdd, Nat.reduceMul, Nat.reduceSub, Nat.reduceLT, Int.reduceToNat]))
  refine (c_spec_SplitKeys seed (some (lS keys)) shards).call ?_
  have hlk : lS (some (lS keys)) = lS keys := rfl
  rw [hlk]
  have hs1 : ∀ (l : H), S1 (h ++ some (AObj.cells ((lS keys).map .str)) :: l) 1 (.sl h.length 0 1 (lS keys).length (lS keys).length) (lS keys).length ((lS keys).map .str) [h.length] := fun l => ⟨by simp, .inr ⟨h.length, rfl, rfl, by rw [cells_h0]; rfl⟩⟩
  have hvx : ∀ (l : H), Vw (h ++ some (AObj.cells ((lS keys).map .str)) :: l) 0 (.sl h.length 0 1 (lS keys).length (lS keys).length) (eS (some (lS keys))) := fun l => by
    rcases (hs1 l).vw (n0 := 0) (ts := (lS keys).map .str) (by simp) rfl (one_map fun _ => rfl) (fun i y t hy ht => by
      rw [hy] at ht
      injection ht with ht
      subst ht
      obtain ⟨s, _, rfl⟩ := List.mem_map.1 (List.mem_of_getElem? hy)
      exact .free free_str) with ⟨_, h5, _⟩ | ⟨_, h5⟩
    · cases h5
    · exact h5
  unfold splKV
  cases hk : okSpl seed (lS keys) shards
  · (try (simp (disch := first | omega | (simp <;> omega) | fail) only [push_cast, ↓reduceIte, Nat.reduceEqDiff, Nat.reduceAdd, Nat.reduceMul, Nat.reduceSub, Nat.reduceLT, Int.reduceToNat]))
    refine (c_laws_toStringS_own keys hl h).mono (fun x h' hx => ?_) (fun b hb hb' => hb'.elim)
    obtain ⟨rfl, rfl⟩ := hx
    (try (simp (disch := first | omega | (simp <;> omega) | fail) only [push_cast, ↓reduceIte, Nat.reduceEqDiff, Nat.reduceAdd, Nat.reduceMul, Nat.reduceSub, Nat.reduceLT, Int.reduceToNat]))
    refine Call.lend (ts := [.int .i64 seed, eS (some (lS keys)), .int .i64 shards]) (Q' := SpkI seed (lS keys) shards (dead (h ++ [some (AObj.cells ((lS keys).map .str))]))) rfl (Lend.get (.free free_int (.cons (hvx []) (.free free_int .nil)))) (c_impl_SplitKeys_own seed (some (lS keys)) shards _) ?_
    intro x h' hx
    unfold SpkI at hx
    rw [hk, if_neg (by simp)] at hx
    obtain ⟨rfl, l, rfl, hol⟩ := hx
    have hdl : (dead (h ++ [some (AObj.cells ((lS keys).map .str))])).length = (h ++ [some (AObj.cells ((lS keys).map .str))]).length := by simp [dead]
    rw [hdl] at hol
    refine ⟨l, rfl, own_tup (own_cons_ own_nils (own_cons_ own_bool own_nil_)), hol, ?_⟩
    (try (simp (disch := first | omega | (simp <;> omega) | fail) only [push_cast, ↓reduceIte, Nat.reduceEqDiff, Nat.reduceAdd, Nat.reduceMul, Nat.reduceSub, Nat.reduceLT, Int.reduceToNat]))
    refine c_laws_eqStringSS_nil.call ?_
    (try (simp (disch := first | omega | (simp <;> omega) | fail) only [push_cast, ↓reduceIte, Nat.reduceEqDiff, Nat.reduceAdd, Nat.reduceMul, Nat.reduceSub, Nat.reduceLT, Int.reduceToNat]))
    refine (c_laws_toStringS keys hl).call ?_
    (try (simp (disch := first | omega | (simp <;> omega) | fail) only [push_cast, ↓reduceIte, Nat.reduceEqDiff, Nat.reduceAdd, Nat.reduceMul, Nat.reduceSub, Nat.reduceLT, Int.reduceToNat]))
    refine (c_laws_eqStringS (some (lS keys)) (some (lS keys))).lendL (.cons (hvx l) (.free (free_eS_ _) .nil)) own_bool ?_
    (try (simp (disch := first | omega | (simp <;> omega) | fail) only [push_cast, ↓reduceIte, Nat.reduceEqDiff, Nat.reduceAdd, Nat.reduceMul, Nat.reduceSub, Nat.reduceLT, Int.reduceToNat]))
    refine (c_laws_markStringS _ (lS keys) [h.length] 1 _ (hs1 l) (by omega) (by omega)).mono (fun x h2 hx => ?_) (fun b _ hb => Or.inr (by simp at hb; omega))
    obtain ⟨rfl, x1, x2, x3⟩ := hx
    (try (simp (disch := first | omega | (simp <;> omega) | fail) only [push_cast, ↓reduceIte, Nat.reduceEqDiff, Nat.reduceAdd, Nat.reduceMul, Nat.reduceSub, Nat.reduceLT, Int.reduceToNat]))
    refine c_laws_eqStringSS_nil.call ?_
    (try (simp (disch := first | omega | (simp <;> omega) | fail) only [push_cast, ↓reduceIte, Nat.reduceEqDiff, Nat.reduceAdd, Nat.reduceMul, Nat.reduceSub, Nat.reduceLT, Int.reduceToNat]))
    refine (c_laws_markStringSS_nil 1).call ?_
    (try (simp (disch := first | omega | (simp <;> omega) | fail) only [push_cast, ↓reduceIte, Nat.reduceEqDiff, Nat.reduceAdd, Nat.reduceMul, Nat.reduceSub, Nat.reduceLT, Int.reduceToNat]))
    refine (c_laws_heldStringSS_nil 1).call ?_
    (try (simp (disch := first | omega | (simp <;> omega) | fail) only [push_cast, ↓reduceIte, Nat.reduceEqDiff, Nat.reduceAdd, Nat.reduceMul, Nat.reduceSub, Nat.reduceLT, Int.reduceToNat]))
    refine (c_laws_toStringS keys hl).call ?_
    (try (simp (disch := first | omega | (simp <;> omega) | fail) only [push_cast, ↓reduceIte, Nat.reduceEqDiff, Nat.reduceAdd, Nat.reduceMul, Nat.reduceSub, Nat.reduceLT, Int.reduceToNat]))
    refine (c_impl_SplitKeys seed (some (lS keys)) shards).call ?_
    unfold splKV
    rw [hlk, hk]
    (try (simp (disch := first | omega | (simp <;> omega) | fail) only [push_cast, ↓reduceIte, Nat.reduceEqDiff, Nat.reduceAdd, Nat.reduceMul, Nat.reduceSub, Nat.reduceLT, Int.reduceToNat]))
    refine c_laws_eqStringSS_nil.call ?_
    (try (simp (disch := first | omega | (simp <;> omega) | fail) only [push_cast, ↓reduceIte, Nat.reduceEqDiff, Nat.reduceAdd, Nat.reduceMul, Nat.reduceSub, Nat.reduceLT, Int.reduceToNat]))
    refine (c_laws_heldStringSS_nil 1).call ?_
    (try (simp (disch := first | omega | (simp <;> omega) | fail) only [push_cast, ↓reduceIte, Nat.reduceEqDiff, Nat.reduceAdd, Nat.reduceMul, Nat.reduceSub, Nat.reduceLT, Int.reduceToNat]))
  · have hok2 := hk
    simp only [okSpl, Bool.and_eq_true, decide_eq_true_eq] at hok2
    obtain ⟨n, rfl⟩ : ∃ n : Nat, shards = (n : Int) := ⟨shards.toNat, by omega⟩
    have hkl := okKeys_len2 hok2.2.1
    have htot : tot (shardL seed (lS keys) n) n ≤ n * 40 := by
      have key : ∀ m, tot (shardL seed (lS keys) n) m ≤ m * 40 := fun m => by
        induction m with
        | zero => simp [tot_0]
        | succ m ih =>
          rw [tot_succ]
          have := shardL_len (seed := seed) (keys := lS keys) (n := n) (k := m)
          omega
      exact key n
    have hn8 : n ≤ 8 := by omega
    have hsl := splitV_len (seed := seed) (keys := lS keys) (n := n)
    (try (simp (disch := first | omega | (simp <;> omega) | fail) only [push_cast, ↓reduceIte, Nat.reduceEqDiff, Nat.reduceAdd, Nat.reduceMul, Nat.reduceSub, Nat.reduceLT, Int.reduceToNat]))
    refine (c_laws_toStringS_own keys hl h).mono (fun x h' hx => ?_) (fun b hb hb' => hb'.elim)
    obtain ⟨rfl, rfl⟩ := hx
    (try (simp (disch := first | omega | (simp <;> omega) | fail) only [push_cast, ↓reduceIte, Nat.reduceEqDiff, Nat.reduceAdd, Nat.reduceMul, Nat.reduceSub, Nat.reduceLT, Int.reduceToNat]))
    refine Call.lend (ts := [.int .i64 seed, eS (some (lS keys)), .int .i64 n]) (Q' := SpkI seed (lS keys) n (dead (h ++ [some (AObj.cells ((lS keys).map .str))]))) rfl (Lend.get (.free free_int (.cons (hvx []) (.free free_int .nil)))) (c_impl_SplitKeys_own seed (some (lS keys)) n _) ?_
    intro x h' hx
    unfold SpkI at hx
    rw [hk, if_pos rfl] at hx
    have hdl : (dead (h ++ [some (AObj.cells ((lS keys).map .str))])).length = h.length + 1 := by simp [dead]
    rw [hdl, Int.toNat_natCast] at hx
    obtain ⟨l, vs, Bs, rfl, rfl, hol, hs⟩ := hx
    have hs := hs.undead (by simp)
    refine ⟨l, rfl, own_tup (own_cons_ (own_sl (by simp)) (own_cons_ own_bool own_nil_)), by simpa using hol, ?_⟩
    rw [show h ++ [some (AObj.cells ((lS keys).map .str))] ++ l = h ++ some (AObj.cells ((lS keys).map .str)) :: l by simp] at hs ⊢
    have hv0 : ∀ (h' : H) (L : Nat → List Str) (vs : Nat → AV) (Bs : Nat → List Nat), SS h' (h.length + 1) (.sl (h.length + 1) 0 1 n n) n L vs [h.length + 1] Bs → Vw h' 0 (.sl (h.length + 1) 0 1 n n) (eSS ((List.range n).map L)) := fun h' L vs Bs hs => (hs.vw (by omega)).mono (Nat.zero_le _)
    (try (simp (disch := first | omega | (simp <;> omega) | fail) only [push_cast, ↓reduceIte, Nat.reduceEqDiff, Nat.reduceAdd, Nat.reduceMul, Nat.reduceSub, Nat.reduceLT, Int.reduceToNat]))
    refine (c_laws_eqStringSS (splitV seed (lS keys) n) (by omega)).lendL (.cons (hv0 _ _ _ _ hs) (.free (free_eSS _) .nil)) own_bool ?_
    (try (simp (disch := first | omega | (simp <;> omega) | fail) only [push_cast, ↓reduceIte, Nat.reduceEqDiff, Nat.reduceAdd, Nat.reduceMul, Nat.reduceSub, Nat.reduceLT, Int.reduceToNat]))
    refine (c_laws_toStringS keys hl).call ?_
    (try (simp (disch := first | omega | (simp <;> omega) | fail) only [push_cast, ↓reduceIte, Nat.reduceEqDiff, Nat.reduceAdd, Nat.reduceMul, Nat.reduceSub, Nat.reduceLT, Int.reduceToNat]))
    refine (c_laws_eqStringS (some (lS keys)) (some (lS keys))).lendL (.cons (hvx l) (.free (free_eS_ _) .nil)) own_bool ?_
    (try (simp (disch := first | omega | (simp <;> omega) | fail) only [push_cast, ↓reduceIte, Nat.reduceEqDiff, Nat.reduceAdd, Nat.reduceMul, Nat.reduceSub, Nat.reduceLT, Int.reduceToNat]))
    refine (c_laws_markStringS _ (lS keys) [h.length] 1 _ (hs1 l) (by omega) (by omega)).mono (fun x h2 hx => ?_) (fun b _ hb => Or.inr (by simp at hb; omega))
    obtain ⟨rfl, x1, x2, x3⟩ := hx
    have hs2 := hs.frame2 (h' := h2) (fun b hb => x2 b (by simp at hb ⊢; omega)) (fun k hk b hb => x2 b (by have := ((hs.2.2 k hk).2.2.1 b hb).1; simp; omega))
    (try (simp (disch := first | omega | (simp <;> omega) | fail) only [push_cast, ↓reduceIte, Nat.reduceEqDiff, Nat.reduceAdd, Nat.reduceMul, Nat.reduceSub, Nat.reduceLT, Int.reduceToNat]))
    refine (c_laws_eqStringSS (splitV seed (lS keys) n) (by omega)).lendL (.cons (hv0 _ _ _ _ hs2) (.free (free_eSS _) .nil)) own_bool ?_
    (try (simp (disch := first | omega | (simp <;> omega) | fail) only [push_cast, ↓reduceIte, Nat.reduceEqDiff, Nat.reduceAdd, Nat.reduceMul, Nat.reduceSub, Nat.reduceLT, Int.reduceToNat]))
    refine (c_laws_markStringSS (h.length + 1) n (h.length + 1) _ vs Bs 1 _ hs2 (by omega) (by omega) (by omega)).mono (fun x h3 hx => ?_) (fun b _ hb => Or.inr (by omega))
    obtain ⟨rfl, x4, x5, hs3⟩ := hx
    (try (simp (disch := first | omega | (simp <;> omega) | fail) only [push_cast, ↓reduceIte, Nat.reduceEqDiff, Nat.reduceAdd, Nat.reduceMul, Nat.reduceSub, Nat.reduceLT, Int.reduceToNat]))
    refine (c_laws_heldStringSS n (shardL seed (lS keys) n) 1 (by omega) (by omega) (by omega)).lendL (.cons (hv0 _ _ _ _ hs3) (.free free_int .nil)) own_int ?_
    (try (simp (disch := first | omega | (simp <;> omega) | fail) only [push_cast, ↓reduceIte, Nat.reduceEqDiff, Nat.reduceAdd, Nat.reduceMul, Nat.reduceSub, Nat.reduceLT, Int.reduceToNat]))
    refine (c_laws_toStringS keys hl).call ?_
    (try (simp (disch := first | omega | (simp <;> omega) | fail) only [push_cast, ↓reduceIte, Nat.reduceEqDiff, Nat.reduceAdd, Nat.reduceMul, Nat.reduceSub, Nat.reduceLT, Int.reduceToNat]))
    refine (c_impl_SplitKeys seed (some (lS keys)) n).call ?_
    unfold splKV
    rw [hlk, hk]
    (try (simp (disch := first | omega | (simp <;> omega) | fail) only [push_cast, ↓reduceIte, Nat.reduceEqDiff, Nat.reduceAdd, Nat.reduceMul, Nat.reduceSub, Nat.reduceLT, Int.reduceToNat]))
    refine (c_laws_eqStringSS (splitV seed (lS keys) n) (by omega)).call ?_
    (try (simp (disch := first | omega | (simp <;> omega) | fail) only [push_cast, ↓reduceIte, Nat.reduceEqDiff, Nat.reduceAdd, Nat.reduceMul, Nat.reduceSub, Nat.reduceLT, Int.reduceToNat]))
    refine (c_laws_heldStringSS n (shardL seed (lS keys) n) 1 (by omega) (by omega) (by omega)).lendL (.cons (hv0 _ _ _ _ hs3) (.free free_int .nil)) own_int ?_
    (try (simp (disch := first | omega | (simp <;> omega) | fail) only [push_cast, ↓reduceIte, Nat.reduceEqDiff, Nat.reduceAdd, Nat.reduceMul, Nat.reduceSub, Nat.reduceLT, Int.reduceToNat]))

end Go.Proofs.Ytmcfkedagmfhcaa.M
