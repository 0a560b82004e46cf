/-
  What the functions return.
-/
import Derived.Test.YtbkcenkfecndjaaGreatDoorFkw
import Derived.Test.YtbkcenkfecndjaaGreatDoorShelf
import Derived.Test.YtbkcenkfecndjaaGreatDoorCkv
namespace Go.Proofs.YtbkcenkfecndjaaGreatDoor.M
open Go Go.RowKit
set_option linter.unusedVariables false
set_option linter.unusedSimpArgs false
set_option maxRecDepth 4000

theorem c_impl_in (n lo hi : Int) : Fn Tryz.prog 64 [.int .i64 n, .int .i64 lo, .int .i64 hi] (· = .bool (decide (lo ≤ n) && decide (n ≤ hi))) := by
  refine Fn.of free_bool fun h => ?_
  refine enter (by kernel_rfl) e64 (by kernel_rfl) rfl fun hok => ?_
  simp only [r64, initEnv_3]
  (try (simp (disch := first | omega | (simp <;> omega) | fail) only [push_cast, ↓reduceIte, Nat.reduceEqDiff, Nat.reduceAdd, Nat.reduceMul, Nat.reduceSub, Nat.reduceLT, Int.reduceToNat]))
  first | refine goC_split (fun hc => ?_) (fun hc => ?_) | refine cnd_split (fun hc => ?_) (fun hc => ?_)
  · (try (simp only [decide_eq_true_eq, decide_eq_false_iff_not, Bool.not_eq_true', Bool.not_eq_false', Bool.and_eq_true, Bool.or_eq_true, Int.not_lt, Int.not_le] at hc)); (try (simp (disch := first | omega | (simp <;> omega) | fail) only [push_cast, ↓reduceIte, Nat.reduceEqDiff, Nat.reduceAdd, Nat.reduceMul, Nat.reduceSub, Nat.reduceLT, Int.reduceToNat]))
    first | refine goC_split (fun hd => ?_) (fun hd => ?_) | refine cnd_split (fun hd => ?_) (fun hd => ?_)
    · (try (simp only [decide_eq_true_eq, decide_eq_false_iff_not, Bool.not_eq_true', Bool.not_eq_false', Bool.and_eq_true, Bool.or_eq_true, Int.not_lt, Int.not_le] at hd)); (try (simp (disch := first | omega | (simp <;> omega) | fail) only [push_cast, ↓reduceIte, Nat.reduceEqDiff, Nat.reduceAdd, Nat.reduceMul, Nat.reduceSub, Nat.reduceLT, Int.reduceToNat]))
    · (try (simp only [decide_eq_true_eq, decide_eq_false_iff_not, Bool.not_eq_true', Bool.not_eq_false', Bool.and_eq_true, Bool.or_eq_true, Int.not_lt, Int.not_le] at hd)); (try (simp (disch := first | omega | (simp <;> omega) | fail) only [push_cast, ↓reduceIte, Nat.reduceEqDiff, Nat.reduceAdd, Nat.reduceMul, Nat.reduceSub, Nat.reduceLT, Int.reduceToNat]))
  · (try (simp only [decide_eq_true_eq, decide_eq_false_iff_not, Bool.not_eq_true', Bool.not_eq_false', Bool.and_eq_true, Bool.or_eq_true, Int.not_lt, Int.not_le] at hc)); (try (simp (disch := first | omega | (simp <;> omega) | fail) only [push_cast, ↓reduceIte, Nat.reduceEqDiff, Nat.reduceAdd, Nat.reduceMul, Nat.reduceSub, Nat.reduceLT, Int.reduceToNat]))
    try simp

theorem c_impl_limitOk (l : Int) : Fn Tryz.prog 87 [.int .i64 l] (· = .bool (limOk l)) := by
  refine Fn.of free_bool fun h => ?_
  refine enter (by kernel_rfl) e87 (by kernel_rfl) rfl fun hok => ?_
  simp only [r87, initEnv_1]
  (try (simp (disch := first | omega | (simp <;> omega) | fail) only [push_cast, ↓reduceIte, Nat.reduceEqDiff, Nat.reduceAdd, Nat.reduceMul, Nat.reduceSub, Nat.reduceLT, Int.reduceToNat]))
  refine (c_impl_in _ _ _).call ?_
  (try (simp (disch := first | omega | (simp <;> omega) | fail) only [push_cast, ↓reduceIte, Nat.reduceEqDiff, Nat.reduceAdd, Nat.reduceMul, Nat.reduceSub, Nat.reduceLT, Int.reduceToNat]))
  all_goals (try rfl)

theorem c_impl_WidthFor (c l : Int) : Fn Tryz.prog 44 [.int .i64 c, .int .i64 l] (· = if (decide (0 ≤ c) && decide (c ≤ 60)) && limOk l then .tup [.int .i64 (wid c.toNat l.toNat), .bool true] else .tup [.int .i64 0, .bool false]) := by
  refine Fn.of (by split <;> exact free_tup (free_cons_ free_int (free_cons_ free_bool free_nil_))) fun h => ?_
  refine enter (by kernel_rfl) e44 (by kernel_rfl) rfl fun hok => ?_
  simp only [r44, initEnv_2]
  (try (simp (disch := first | omega | (simp <;> omega) | fail) only [push_cast, ↓reduceIte, Nat.reduceEqDiff, Nat.reduceAdd, Nat.reduceMul, Nat.reduceSub, Nat.reduceLT, Int.reduceToNat]))
  refine (c_impl_in _ _ _).call ?_
  cases h1 : (decide (0 ≤ c) && decide (c ≤ 60))
  · (try (simp (disch := first | omega | (simp <;> omega) | fail) only [push_cast, ↓reduceIte, Nat.reduceEqDiff, Nat.reduceAdd, Nat.reduceMul, Nat.reduceSub, Nat.reduceLT, Int.reduceToNat]))
    all_goals (try rfl)
  (try (simp (disch := first | omega | (simp <;> omega) | fail) only [push_cast, ↓reduceIte, Nat.reduceEqDiff, Nat.reduceAdd, Nat.reduceMul, Nat.reduceSub, Nat.reduceLT, Int.reduceToNat]))
  refine (c_impl_limitOk l).call ?_
  cases h2 : limOk l
  · (try (simp (disch := first | omega | (simp <;> omega) | fail) only [push_cast, ↓reduceIte, Nat.reduceEqDiff, Nat.reduceAdd, Nat.reduceMul, Nat.reduceSub, Nat.reduceLT, Int.reduceToNat]))
    all_goals (try rfl)
  simp only [limOk, Bool.and_eq_true, decide_eq_true_eq] at h1 h2
  obtain ⟨cn, rfl⟩ : ∃ k : Nat, c = (k : Int) := ⟨c.toNat, by omega⟩
  obtain ⟨ln, rfl⟩ : ∃ k : Nat, l = (k : Int) := ⟨l.toNat, by omega⟩
  simp only [Bool.and_self, if_true, Int.toNat_natCast]
  have hm : (if (cn : Int) < 1 then (1 : Int) else (cn : Int)) = ((max cn 1 : Nat) : Int) := by split <;> omega
  obtain ⟨m, hmd⟩ : ∃ m, m = max cn 1 := ⟨_, rfl⟩
  rw [← hmd] at hm
  have hm1 : 1 ≤ m ∧ m ≤ 60 := by omega
  (try (simp (disch := first | omega | (simp <;> omega) | fail) only [push_cast, ↓reduceIte, Nat.reduceEqDiff, Nat.reduceAdd, Nat.reduceMul, Nat.reduceSub, Nat.reduceLT, Int.reduceToNat]))
  refine T_for 17 (fun i e h' => Pins e [(0, .int .i64 cn), (1, .int .i64 ln), (6, .int .i64 i)] ∧ h' = h ∧ i ≤ 16 ∧ widF m ln (20 - i) i = wid cn ln) ?_ ?_
  · (try (simp (disch := first | omega | (simp <;> omega) | fail) only [push_cast, ↓reduceIte, Nat.reduceEqDiff, Nat.reduceAdd, Nat.reduceMul, Nat.reduceSub, Nat.reduceLT, Int.reduceToNat]))
    all_goals (try (unfold wid; rw [← hmd]))
  rintro i e h' hi ⟨hp, rfl, hi6, hw⟩
  refine T_pins hp fun e => ?_
  have hpw : 2 ^ (i + 1) ≤ 2 ^ 17 := Nat.pow_le_pow_right (by decide) (by omega)
  have hml : m * 2 ^ (i + 1) ≤ 60 * 2 ^ 17 := Nat.mul_le_mul hm1.2 hpw
  have hsh : IntKind.i64.wrap ((m : Int) * 2 ^ (min (i + 1) IntKind.i64.bits)) = ((m * 2 ^ (i + 1) : Nat) : Int) := by
    have := shlN (a := m) (b := i + 1) (by omega) (by omega)
    simpa using this
  obtain ⟨g, hg⟩ : ∃ g, g = m * 2 ^ (i + 1) := ⟨_, rfl⟩
  rw [← hg] at hsh hml
  have hwf : widF m ln (20 - i) i = if g ≤ ln then widF m ln (20 - (i + 1)) (i + 1) else i := by
    rw [show 20 - i = (20 - (i + 1)) + 1 by omega, widF, ← hg]
  (try (simp (disch := first | omega | (simp <;> omega) | fail) only [push_cast, ↓reduceIte, Nat.reduceEqDiff, Nat.reduceAdd, Nat.reduceMul, Nat.reduceSub, Nat.reduceLT, Int.reduceToNat, hm, hsh]))
  first | refine goC_split (fun hc => ?_) (fun hc => ?_) | refine cnd_split (fun hc => ?_) (fun hc => ?_)
  · (try (simp only [decide_eq_true_eq, decide_eq_false_iff_not, Bool.not_eq_true', Bool.not_eq_false', Bool.and_eq_true, Bool.or_eq_true, Int.not_lt, Int.not_le] at hc)); (try (simp (disch := first | omega | (simp <;> omega) | fail) only [push_cast, ↓reduceIte, Nat.reduceEqDiff, Nat.reduceAdd, Nat.reduceMul, Nat.reduceSub, Nat.reduceLT, Int.reduceToNat]))
    have hgl : g ≤ ln := by omega
    have hlt := wid_lt (m := m) (l := ln) (w := i) hm1.1 (by omega) (by rw [← hg]; exact hgl)
    rw [if_pos hgl] at hwf
    (try (simp (disch := first | omega | (simp <;> omega) | fail) only [push_cast, ↓reduceIte, Nat.reduceEqDiff, Nat.reduceAdd, Nat.reduceMul, Nat.reduceSub, Nat.reduceLT, Int.reduceToNat]))
    all_goals (try exact ⟨by omega, hwf.symm.trans hw⟩)
    all_goals (try exact hwf.symm.trans hw)
  · (try (simp only [decide_eq_true_eq, decide_eq_false_iff_not, Bool.not_eq_true', Bool.not_eq_false', Bool.and_eq_true, Bool.or_eq_true, Int.not_lt, Int.not_le] at hc)); (try (simp (disch := first | omega | (simp <;> omega) | fail) only [push_cast, ↓reduceIte, Nat.reduceEqDiff, Nat.reduceAdd, Nat.reduceMul, Nat.reduceSub, Nat.reduceLT, Int.reduceToNat]))
    rw [if_neg (by omega)] at hwf
    rw [← hw, hwf]

theorem c_spec_biField (b : Bt) (B m a w : Nat) (hw : lI b.words = wordsN B m) (ha : a + w ≤ 16 * m) (hm : m ≤ 100000) (hw2 : w ≤ 20) : Fn Tryz.prog 59 [eB b, .int .i64 a, .int .i64 w] (· = .int .i64 (fldN B a w)) := by
  refine Fn.of free_int fun h => ?_
  refine enter (by kernel_rfl) e59 (by kernel_rfl) rfl fun hok => ?_
  simp only [r59, initEnv_3]
  (try (simp (disch := first | omega | (simp <;> omega) | fail) only [push_cast, ↓reduceIte, Nat.reduceEqDiff, Nat.reduceAdd, Nat.reduceMul, Nat.reduceSub, Nat.reduceLT, Int.reduceToNat]))
  refine T_for w (fun i e h' => Pins e [(1, .int .i64 a), (3, .adr h.length 0), (7, .int .i64 (fldN B (a + (w - i)) i)), (8, .int .i64 ((w : Int) - ((i : Int) + 1)))] ∧ h' = h ++ [some (.cells (cB b))]) ?_ ?_
  · (try (simp (disch := first | omega | (simp <;> omega) | fail) only [push_cast, ↓reduceIte, Nat.reduceEqDiff, Nat.reduceAdd, Nat.reduceMul, Nat.reduceSub, Nat.reduceLT, Int.reduceToNat]))
    all_goals (try simp [fldN])
  rintro i e h' hi ⟨hp, rfl⟩
  refine T_pins hp fun e => ?_
  have hbx : ∀ l, H.cells (h ++ ([some (.cells (cB b))] ++ l)) h.length = some (cB b) := fun l => by rw [cells_h0]; rfl
  (try (simp (disch := first | omega | (simp <;> omega) | fail) only [push_cast, ↓reduceIte, Nat.reduceEqDiff, Nat.reduceAdd, Nat.reduceMul, Nat.reduceSub, Nat.reduceLT, Int.reduceToNat]))
  first | refine goC_split (fun hc => ?_) (fun hc => ?_) | refine cnd_split (fun hc => ?_) (fun hc => ?_)
  · (try (simp only [decide_eq_true_eq, decide_eq_false_iff_not, Bool.not_eq_true', Bool.not_eq_false', Bool.and_eq_true, Bool.or_eq_true, Int.not_lt, Int.not_le] at hc)); (try (simp (disch := first | omega | (simp <;> omega) | fail) only [push_cast, ↓reduceIte, Nat.reduceEqDiff, Nat.reduceAdd, Nat.reduceMul, Nat.reduceSub, Nat.reduceLT, Int.reduceToNat]))
    have hi2 : i < w := by omega
    have hdn := fldN_down (B := B) (a := a + (w - (i + 1))) (k := i)
    rw [show a + (w - (i + 1)) + 1 = a + (w - i) by omega] at hdn
    have hfl := fldN_lt (B := B) (a := a + (w - i)) (w := i)
    have hpw : 2 ^ i ≤ 2 ^ 20 := Nat.pow_le_pow_right (by decide) (by omega)
    obtain ⟨q, hq⟩ : ∃ q : Nat, q = a + (w - (i + 1)) := ⟨_, rfl⟩
    have hat : (a : Int) + ((w : Int) - ((i : Int) + 1)) = (q : Int) := by omega
    have hq2 : q + 1 = a + (w - i) := by omega
    rw [← hq] at hdn
    obtain ⟨V, hV⟩ : ∃ V, V = fldN B (a + (w - i)) i := ⟨_, rfl⟩
    rw [← hV] at hdn hfl ⊢
    (try (simp (disch := first | omega | (simp <;> omega) | fail) only [push_cast, ↓reduceIte, Nat.reduceEqDiff, Nat.reduceAdd, Nat.reduceMul, Nat.reduceSub, Nat.reduceLT, Int.reduceToNat, hat]))
    refine (c_spec_biAt b B m q hw (by omega) (by omega)).call ?_
    cases hb : B.testBit q
    · rw [hb] at hdn
      have hdi : ((fldN B (a + (w - (i + 1))) (i + 1) : Nat) : Int) = (V : Int) * 2 := by rw [← hq, hdn]; simp; omega
      (try (simp (disch := first | omega | (simp <;> omega) | fail) only [push_cast, ↓reduceIte, Nat.reduceEqDiff, Nat.reduceAdd, Nat.reduceMul, Nat.reduceSub, Nat.reduceLT, Int.reduceToNat]))
      all_goals (try exact ⟨hdi.symm, by omega⟩)
      all_goals (try (rw [hdi]))
      all_goals (try omega)
    · rw [hb] at hdn
      have hdi : ((fldN B (a + (w - (i + 1))) (i + 1) : Nat) : Int) = (V : Int) * 2 + 1 := by rw [← hq, hdn]; simp; omega
      (try (simp (disch := first | omega | (simp <;> omega) | fail) only [push_cast, ↓reduceIte, Nat.reduceEqDiff, Nat.reduceAdd, Nat.reduceMul, Nat.reduceSub, Nat.reduceLT, Int.reduceToNat]))
      all_goals (try exact ⟨hdi.symm, by omega⟩)
      all_goals (try (rw [hdi]))
      all_goals (try omega)
  · (try (simp only [decide_eq_true_eq, decide_eq_false_iff_not, Bool.not_eq_true', Bool.not_eq_false', Bool.and_eq_true, Bool.or_eq_true, Int.not_lt, Int.not_le] at hc)); (try (simp (disch := first | omega | (simp <;> omega) | fail) only [push_cast, ↓reduceIte, Nat.reduceEqDiff, Nat.reduceAdd, Nat.reduceMul, Nat.reduceSub, Nat.reduceLT, Int.reduceToNat]))
    have hie : i = w := by omega
    subst hie
    have e0 : a + (i - i) = a := by omega
    rw [e0]

theorem c_impl_Bits_at (ws : Option (List Int)) (B m i : Nat) (cs : List AV) (off : Nat) (h1 : cs[off + 1]? = some (eI ws)) (hw : lI ws = wordsN B m) (hi : i < 16 * m) (hm : m ≤ 1000000) : Fn Tryz.prog 46 [.rad cs off, .int .i64 i] (· = .bool (B.testBit i)) := by
  refine Fn.of free_bool fun h => ?_
  refine enter (by kernel_rfl) e46 (by kernel_rfl) rfl fun hok => ?_
  simp only [r46, initEnv_2]
  have hln : (lI ws).length = m := by rw [hw, wordsN_len]
  have hat := at_word hw hi
  (try (simp (disch := first | omega | (simp <;> omega) | fail) only [push_cast, ↓reduceIte, Nat.reduceEqDiff, Nat.reduceAdd, Nat.reduceMul, Nat.reduceSub, Nat.reduceLT, Int.reduceToNat, h1]))
  rw [← hat]
  (first | refine goC_split (fun hc => ?_) (fun hc => ?_) | refine cnd_split (fun hc => ?_) (fun hc => ?_)) <;> ((try (simp (disch := first | omega | (simp <;> omega) | fail) only [push_cast, ↓reduceIte, Nat.reduceEqDiff, Nat.reduceAdd, Nat.reduceMul, Nat.reduceSub, Nat.reduceLT, Int.reduceToNat]))) <;> (try rw [hc])

theorem c_impl_Bits_field (ws : Option (List Int)) (B m a w : Nat) (cs : List AV) (off : Nat) (h1 : cs[off + 1]? = some (eI ws)) (hw : lI ws = wordsN B m) (ha : a + w ≤ 16 * m) (hm : m ≤ 100000) (hw2 : w ≤ 20) : Fn Tryz.prog 47 [.rad cs off, .int .i64 a, .int .i64 w] (· = .int .i64 (fldN B a w)) := by
  refine Fn.of free_int fun h => ?_
  refine enter (by kernel_rfl) e47 (by kernel_rfl) rfl fun hok => ?_
  simp only [r47, initEnv_3]
  (try (simp (disch := first | omega | (simp <;> omega) | fail) only [push_cast, ↓reduceIte, Nat.reduceEqDiff, Nat.reduceAdd, Nat.reduceMul, Nat.reduceSub, Nat.reduceLT, Int.reduceToNat]))
  refine T_for w (fun i e h' => Pins e [(0, .rad cs off), (1, .int .i64 a), (7, .int .i64 (fldN B a i)), (9, .int .i64 w), (10, .int .i64 i)] ∧ h' = h) ?_ ?_
  · (try (simp (disch := first | omega | (simp <;> omega) | fail) only [push_cast, ↓reduceIte, Nat.reduceEqDiff, Nat.reduceAdd, Nat.reduceMul, Nat.reduceSub, Nat.reduceLT, Int.reduceToNat]))
    all_goals (try simp [fldN])
    all_goals (try (rw [Nat.mod_one]))
  rintro i e h' hi ⟨hp, rfl⟩
  refine T_pins hp fun e => ?_
  (try (simp (disch := first | omega | (simp <;> omega) | fail) only [push_cast, ↓reduceIte, Nat.reduceEqDiff, Nat.reduceAdd, Nat.reduceMul, Nat.reduceSub, Nat.reduceLT, Int.reduceToNat]))
  first | refine goC_split (fun hc => ?_) (fun hc => ?_) | refine cnd_split (fun hc => ?_) (fun hc => ?_)
  · (try (simp only [decide_eq_true_eq, decide_eq_false_iff_not, Bool.not_eq_true', Bool.not_eq_false', Bool.and_eq_true, Bool.or_eq_true, Int.not_lt, Int.not_le] at hc)); (try (simp (disch := first | omega | (simp <;> omega) | fail) only [push_cast, ↓reduceIte, Nat.reduceEqDiff, Nat.reduceAdd, Nat.reduceMul, Nat.reduceSub, Nat.reduceLT, Int.reduceToNat]))
    have hi2 : i < w := by omega
    have hup := fldN_up (B := B) (a := a) (k := i)
    have hfl := fldN_lt (B := B) (a := a) (w := i)
    have hpw : 2 ^ i ≤ 2 ^ 20 := Nat.pow_le_pow_right (by decide) (by omega)
    have hsh : IntKind.i64.wrap (1 * 2 ^ (min i IntKind.i64.bits)) = ((2 ^ i : Nat) : Int) := by
      have := shlN (a := 1) (b := i) (by omega) (by omega)
      simpa using this
    obtain ⟨g, hg⟩ : ∃ g, g = 2 ^ i := ⟨_, rfl⟩
    rw [← hg] at hsh hup hfl hpw
    obtain ⟨V, hV⟩ : ∃ V, V = fldN B a i := ⟨_, rfl⟩
    rw [← hV] at hup hfl ⊢
    have hor := bitsI_or (x := V) (y := g) (by omega) (by omega)
    (try (simp (disch := first | omega | (simp <;> omega) | fail) only [push_cast, ↓reduceIte, Nat.reduceEqDiff, Nat.reduceAdd, Nat.reduceMul, Nat.reduceSub, Nat.reduceLT, Int.reduceToNat]))
    refine (c_impl_Bits_at ws B m (a + i) cs off h1 hw (by omega) (by omega)).call ?_
    cases hb : B.testBit (a + i)
    · rw [hb] at hup
      have hui : fldN B a (i + 1) = V := by rw [hup]; simp
      (try (simp (disch := first | omega | (simp <;> omega) | fail) only [push_cast, ↓reduceIte, Nat.reduceEqDiff, Nat.reduceAdd, Nat.reduceMul, Nat.reduceSub, Nat.reduceLT, Int.reduceToNat]))
      all_goals (try (rw [hui]))
    · rw [hb] at hup
      have hui : fldN B a (i + 1) = V ||| g := by rw [hup]; simp
      (try (simp (disch := first | omega | (simp <;> omega) | fail) only [push_cast, ↓reduceIte, Nat.reduceEqDiff, Nat.reduceAdd, Nat.reduceMul, Nat.reduceSub, Nat.reduceLT, Int.reduceToNat, hsh, hor]))
      all_goals (try (rw [hui]))
  · (try (simp only [decide_eq_true_eq, decide_eq_false_iff_not, Bool.not_eq_true', Bool.not_eq_false', Bool.and_eq_true, Bool.or_eq_true, Int.not_lt, Int.not_le] at hc)); (try (simp (disch := first | omega | (simp <;> omega) | fail) only [push_cast, ↓reduceIte, Nat.reduceEqDiff, Nat.reduceAdd, Nat.reduceMul, Nat.reduceSub, Nat.reduceLT, Int.reduceToNat]))
    have hie : i = w := by omega
    subst hie
    rfl

theorem c_impl_sortedOk (o : Option (List Int)) (lim : Int) (h0 : -1000000000000 ≤ lim) (h9 : lim ≤ 9223372036854775807) : Fn Tryz.prog 48 [eI o, .int .i64 lim] (· = .bool (srt (lI o) lim)) := by
  refine Fn.of free_bool fun h => ?_
  refine enter (by kernel_rfl) e48 (by kernel_rfl) rfl fun hok => ?_
  simp only [r48, initEnv_2]
  have hlen := ok_eI (okV_0 hok)
  (try (simp (disch := first | omega | (simp <;> omega) | fail) only [push_cast, ↓reduceIte, Nat.reduceEqDiff, Nat.reduceAdd, Nat.reduceMul, Nat.reduceSub, Nat.reduceLT, Int.reduceToNat]))
  refine T_for (lI o).length (fun i e h' => Pins e [(0, eI o), (1, .int .i64 lim), (7, eI o), (8, .int .i64 (lI o).length), (9, .int .i64 i)] ∧ h' = h ∧ srtP (lI o) lim i = true) ?_ ?_
  · (try (simp (disch := first | omega | (simp <;> omega) | fail) only [push_cast, ↓reduceIte, Nat.reduceEqDiff, Nat.reduceAdd, Nat.reduceMul, Nat.reduceSub, Nat.reduceLT, Int.reduceToNat]))
    all_goals (try rfl)
  rintro i e h' hi ⟨hp, rfl, ha⟩
  refine T_pins hp fun e => ?_
  (try (simp (disch := first | omega | (simp <;> omega) | fail) only [push_cast, ↓reduceIte, Nat.reduceEqDiff, Nat.reduceAdd, Nat.reduceMul, Nat.reduceSub, Nat.reduceLT, Int.reduceToNat]))
  first | refine goC_split (fun hc => ?_) (fun hc => ?_) | refine cnd_split (fun hc => ?_) (fun hc => ?_)
  · (try (simp only [decide_eq_true_eq, decide_eq_false_iff_not, Bool.not_eq_true', Bool.not_eq_false', Bool.and_eq_true, Bool.or_eq_true, Int.not_lt, Int.not_le] at hc)); (try (simp (disch := first | omega | (simp <;> omega) | fail) only [push_cast, ↓reduceIte, Nat.reduceEqDiff, Nat.reduceAdd, Nat.reduceMul, Nat.reduceSub, Nat.reduceLT, Int.reduceToNat]))
    have hi2 : i < (lI o).length := by omega
    have hsu := srtP_succ (L := lI o) (lim := lim) (i := i)
    rw [ha] at hsu
    have hbad : srtP (lI o) lim (i + 1) = false → srt (lI o) lim = false := fun h5 => by
      unfold srt
      rw [srtP_no hi2 h5]
      rfl
    (try (simp (disch := first | omega | (simp <;> omega) | fail) only [push_cast, ↓reduceIte, Nat.reduceEqDiff, Nat.reduceAdd, Nat.reduceMul, Nat.reduceSub, Nat.reduceLT, Int.reduceToNat]))
    refine (c_impl_in _ _ _).call ?_
    cases hin : (decide (0 ≤ (lI o).getD i 0) && decide ((lI o).getD i 0 ≤ lim - 1))
    · rw [hin] at hsu
      rw [hbad (by rw [hsu]; rfl)]
      (try (simp (disch := first | omega | (simp <;> omega) | fail) only [push_cast, ↓reduceIte, Nat.reduceEqDiff, Nat.reduceAdd, Nat.reduceMul, Nat.reduceSub, Nat.reduceLT, Int.reduceToNat]))
    rw [hin] at hsu
    by_cases h0i : 0 < i
    · have e1 : ((i : Int) - 1).toNat = i - 1 := by omega
      have hd1 : decide (0 < (i : Int)) = true := by simp [h0i]
      rw [hd1] at hsu
      by_cases hlt : (lI o).getD i 0 < (lI o).getD (i - 1) 0
      · rw [hbad (by rw [hsu, decide_eq_true hlt]; rfl)]
        (try (simp (disch := first | omega | (simp <;> omega) | fail) only [push_cast, ↓reduceIte, Nat.reduceEqDiff, Nat.reduceAdd, Nat.reduceMul, Nat.reduceSub, Nat.reduceLT, Int.reduceToNat, e1, hlt]))
      · have hgo : srtP (lI o) lim (i + 1) = true := by rw [hsu, decide_eq_false hlt]; rfl
        (try (simp (disch := first | omega | (simp <;> omega) | fail) only [push_cast, ↓reduceIte, Nat.reduceEqDiff, Nat.reduceAdd, Nat.reduceMul, Nat.reduceSub, Nat.reduceLT, Int.reduceToNat, e1, hlt]))
        all_goals (try exact hgo)
    · have h0 : i = 0 := by omega
      have hd1 : decide (0 < (i : Int)) = false := by simp; omega
      have hgo : srtP (lI o) lim (i + 1) = true := by rw [hsu, hd1]; rfl
      (try (simp (disch := first | omega | (simp <;> omega) | fail) only [push_cast, ↓reduceIte, Nat.reduceEqDiff, Nat.reduceAdd, Nat.reduceMul, Nat.reduceSub, Nat.reduceLT, Int.reduceToNat]))
      all_goals (try exact hgo)
  · (try (simp only [decide_eq_true_eq, decide_eq_false_iff_not, Bool.not_eq_true', Bool.not_eq_false', Bool.and_eq_true, Bool.or_eq_true, Int.not_lt, Int.not_le] at hc)); (try (simp (disch := first | omega | (simp <;> omega) | fail) only [push_cast, ↓reduceIte, Nat.reduceEqDiff, Nat.reduceAdd, Nat.reduceMul, Nat.reduceSub, Nat.reduceLT, Int.reduceToNat]))
    have hie : i = (lI o).length := by omega
    subst hie
    unfold srt
    rw [ha]
    (try (simp (disch := first | omega | (simp <;> omega) | fail) only [push_cast, ↓reduceIte, Nat.reduceEqDiff, Nat.reduceAdd, Nat.reduceMul, Nat.reduceSub, Nat.reduceLT, Int.reduceToNat]))
    refine (c_impl_limitOk lim).call ?_
    cases hlo : limOk lim
    · (try (simp (disch := first | omega | (simp <;> omega) | fail) only [push_cast, ↓reduceIte, Nat.reduceEqDiff, Nat.reduceAdd, Nat.reduceMul, Nat.reduceSub, Nat.reduceLT, Int.reduceToNat]))
      all_goals (try simp)
    · by_cases h60 : ((lI o).length : Int) ≤ 60
      · (try (simp (disch := first | omega | (simp <;> omega) | fail) only [push_cast, ↓reduceIte, Nat.reduceEqDiff, Nat.reduceAdd, Nat.reduceMul, Nat.reduceSub, Nat.reduceLT, Int.reduceToNat, h60]))
      · (try (simp (disch := first | omega | (simp <;> omega) | fail) only [push_cast, ↓reduceIte, Nat.reduceEqDiff, Nat.reduceAdd, Nat.reduceMul, Nat.reduceSub, Nat.reduceLT, Int.reduceToNat, h60]))

theorem c_spec_spList (s : Spa) (lb ml hb mh cnt w n : Nat) (ho : SpO s lb ml hb mh cnt w n) : Fn Tryz.prog 22 [eSp s] (fun x => ∃ o, x = eI o ∧ lI o = natI (spL hb lb w cnt n)) := by
  refine Fn.froze_ fun h => ?_
  refine enter (by kernel_rfl) e22 (by kernel_rfl) rfl fun hok => ?_
  simp only [r22, initEnv_1]
  obtain ⟨sc, sl, sw, ⟨ls, lws⟩, ⟨hsz, hws⟩⟩ := s
  obtain ⟨o1, o2, o3, o4, o5, o6, o7, o8, o9, o10, o11, o12⟩ := ho
  simp only at o1 o2 o3 o4 o5
  subst o3 o4 o5
  (try (simp (disch := first | omega | (simp <;> omega) | fail) only [push_cast, ↓reduceIte, Nat.reduceEqDiff, Nat.reduceAdd, Nat.reduceMul, Nat.reduceSub, Nat.reduceLT, Int.reduceToNat]))
  refine T_for n (fun i e h' => ∃ v, Pins e [(1, .adr h.length 0), (3, v), (4, .int .i64 i)] ∧ LsI (h.length + 1) h' v (spL hb lb w cnt i) ∧ H.cells h' h.length = some (cSp ⟨cnt, sl, w, ⟨ls, lws⟩, ⟨n, hws⟩⟩)) ?_ ?_
  · refine ⟨.nils, ?_⟩
    (try (simp (disch := first | omega | (simp <;> omega) | fail) only [push_cast, ↓reduceIte, Nat.reduceEqDiff, Nat.reduceAdd, Nat.reduceMul, Nat.reduceSub, Nat.reduceLT, Int.reduceToNat]))
    all_goals (try exact ⟨⟨by simp, [], S1.nil, by simp⟩, by rw [cells_h0]; rfl⟩)
    all_goals (try exact ⟨by simp, [], S1.nil, by simp⟩)
  rintro i e h' hi ⟨v, hp, hs, hbx⟩
  refine T_pins hp fun e => ?_
  have hlen := hs.len
  obtain ⟨l1, l2⟩ := spL_len (hb := hb) (lb := lb) (w := w) (cnt := cnt) i
  have hbx' : ∀ l, H.cells (h' ++ l) h.length = some (cSp ⟨cnt, sl, w, ⟨ls, lws⟩, ⟨n, hws⟩⟩) := fun l => cells_app hbx
  have hfin : ∀ m, m = n ∨ ¬ (spL hb lb w cnt i).length < cnt → i ≤ n → (m = i ∨ ¬ (spL hb lb w cnt i).length < cnt) → ∃ t, Vw h' h.length v t ∧ ∃ o, t = eI o ∧ lI o = natI (spL hb lb w cnt n) := fun m h1 h2 h3 => by
    obtain ⟨o, v1, v2⟩ := hs.vw (n := h.length) (by omega)
    refine ⟨_, v1, o, rfl, ?_⟩
    rw [v2]
    congr 1
    by_cases hf : (spL hb lb w cnt i).length < cnt
    · have : i = n := by rcases h1 with h1 | h1 <;> rcases h3 with h3 | h3 <;> first | omega | exact absurd hf h1 | exact absurd hf h3
      rw [this]
    · have := spL_full hf (n - i)
      rw [show i + (n - i) = n by omega] at this
      exact this.symm
  obtain ⟨L, hL⟩ : ∃ L, L = spL hb lb w cnt i := ⟨_, rfl⟩
  have hsu : spL hb lb w cnt (i + 1) = if hb.testBit i = true ∧ L.length < cnt then L ++ [(i - L.length) * 2 ^ w + fldN lb (L.length * w) w] else L := by rw [spL, ← hL]
  rw [← hL] at hs hlen l1 l2 hfin
  by_cases hin : i < n
  · by_cases hlc : L.length < cnt
    · have hlw : L.length * w ≤ 60 * 16 := Nat.mul_le_mul (by omega) o9
      have hlw2 : L.length * w + w ≤ 16 * ml := by
        have : (L.length + 1) * w ≤ cnt * w := Nat.mul_le_mul_right _ (by omega)
        rw [Nat.add_mul, Nat.one_mul] at this
        omega
      have hmul : (L.length : Int) * (w : Int) = ((L.length * w : Nat) : Int) := by simp
      have hpw : 2 ^ w ≤ 2 ^ 16 := Nat.pow_le_pow_right (by decide) o9
      have hgl : (i - L.length) * 2 ^ w ≤ 4096 * 2 ^ 16 := Nat.mul_le_mul (by omega) hpw
      have hsh : IntKind.i64.wrap (((i : Int) - (L.length : Int)) * 2 ^ (min w IntKind.i64.bits)) = (((i - L.length) * 2 ^ w : Nat) : Int) := by
        have := shlN (a := i - L.length) (b := w) (by omega) (by omega)
        rw [← this]
        congr 2
        omega
      have hfl := fldN_lt (B := lb) (a := L.length * w) (w := w)
      obtain ⟨lw, hlwd⟩ : ∃ lw, lw = L.length * w := ⟨_, rfl⟩
      obtain ⟨g, hg⟩ : ∃ g, g = (i - L.length) * 2 ^ w := ⟨_, rfl⟩
      rw [← hlwd] at hlw hlw2 hmul hfl hsu
      rw [← hg] at hgl hsh hsu
      have hc1 : decide ((i : Int) < (n : Int)) = true := by simp [hin]
      have hc2 : decide ((L.length : Int) < (cnt : Int)) = true := by simp [hlc]
      (try (simp (disch := first | omega | (simp <;> omega) | fail) only [push_cast, ↓reduceIte, Nat.reduceEqDiff, Nat.reduceAdd, Nat.reduceMul, Nat.reduceSub, Nat.reduceLT, Int.reduceToNat, hbx, hlen, hc1, hc2]))
      refine (c_spec_biAt ⟨n, hws⟩ hb mh i o2 (by omega) (by omega)).call ?_
      cases hbt : hb.testBit i
      · rw [hbt] at hsu
        have hsu2 : spL hb lb w cnt (i + 1) = L := by rw [hsu]; simp
        (try (simp (disch := first | omega | (simp <;> omega) | fail) only [push_cast, ↓reduceIte, Nat.reduceEqDiff, Nat.reduceAdd, Nat.reduceMul, Nat.reduceSub, Nat.reduceLT, Int.reduceToNat]))
        all_goals (try (rw [hsu2]))
        all_goals (try exact ⟨_, rfl, hs, hbx⟩)
        all_goals (try exact ⟨hs, hbx⟩)
      · rw [hbt] at hsu
        have hsu2 : spL hb lb w cnt (i + 1) = L ++ [g + fldN lb lw w] := by rw [hsu, if_pos ⟨rfl, hlc⟩]
        (try (simp (disch := first | omega | (simp <;> omega) | fail) only [push_cast, ↓reduceIte, Nat.reduceEqDiff, Nat.reduceAdd, Nat.reduceMul, Nat.reduceSub, Nat.reduceLT, Int.reduceToNat, hbx, hlen, hsh, hmul]))
        refine (c_spec_biField ⟨ls, lws⟩ lb ml lw w o1 (by omega) (by omega) (by omega)).call ?_
        obtain ⟨f, hf⟩ : ∃ f, f = fldN lb lw w := ⟨_, rfl⟩
        obtain ⟨y, hy⟩ : ∃ y, y = g + f := ⟨_, rfl⟩
        rw [← hf] at hsu2 hfl ⊢
        rw [← hy] at hsu2
        have hadd : (g : Int) + (f : Int) = (y : Int) := by omega
        (try (simp (disch := first | omega | (simp <;> omega) | fail) only [push_cast, ↓reduceIte, Nat.reduceEqDiff, Nat.reduceAdd, Nat.reduceMul, Nat.reduceSub, Nat.reduceLT, Int.reduceToNat, hadd, reads, List.mem_cons, List.mem_append, List.not_mem_nil, nat_ff, or_self, or_false, false_or, not_false_eq_true]))
        refine hs.app (fun c hc => by first | exact Or.inr (by omega) | exact ⟨Or.inr (by omega), by omega⟩ | exact ⟨Or.inr (by omega), by simp; omega⟩) (by omega) fun v' h'' q1 q2 q3 => ?_
        rw [← hsu2] at q1
        have hbx2 := cells_keep (q2 h.length (by omega)) hbx
        (try (simp (disch := first | omega | (simp <;> omega) | fail) only [push_cast, ↓reduceIte, Nat.reduceEqDiff, Nat.reduceAdd, Nat.reduceMul, Nat.reduceSub, Nat.reduceLT, Int.reduceToNat]))
        all_goals (try exact ⟨_, rfl, q1, hbx2⟩)
        all_goals (try exact ⟨q1, hbx2⟩)
    · have hc1 : decide ((i : Int) < (n : Int)) = true := by simp [hin]
      have hc2 : decide ((L.length : Int) < (cnt : Int)) = false := by simp; omega
      (try (simp (disch := first | omega | (simp <;> omega) | fail) only [push_cast, ↓reduceIte, Nat.reduceEqDiff, Nat.reduceAdd, Nat.reduceMul, Nat.reduceSub, Nat.reduceLT, Int.reduceToNat, hbx, hlen, hc1, hc2]))
      all_goals (try exact hfin i (.inr hlc) (by omega) (.inr hlc))
  · have hie : i = n := by omega
    subst hie
    have hc1 : decide ((i : Int) < (i : Int)) = false := by simp
    (try (simp (disch := first | omega | (simp <;> omega) | fail) only [push_cast, ↓reduceIte, Nat.reduceEqDiff, Nat.reduceAdd, Nat.reduceMul, Nat.reduceSub, Nat.reduceLT, Int.reduceToNat, hbx, hc1]))
    all_goals (try exact hfin i (.inl rfl) (by omega) (.inl rfl))

theorem c_impl_Bits_set (m B i b5 o bb : Nat) (on : Bool) (cs : List AV) (h : H) (h5 : h.cells b5 = some cs) (h1 : cs[o + 1]? = some (.sl bb 0 1 m m)) (hb : h.cells bb = some ((wordsN B m).map (.int .i64))) (hi : i < 16 * m) (hm : m ≤ 1000) (hne : b5 ≠ bb) :
    Call Tryz.prog 90 [.adr b5 o, .int .i64 i, .bool on] h (fun b' => b' = bb) (fun _ h' => h'.length = h.length ∧ (∀ c, c ≠ bb → h'[c]? = h[c]?) ∧ h'.cells bb = some ((wordsN (setB B i on) m).map (.int .i64))) := by
  refine enter (by kernel_rfl) e90 (by kernel_rfl) rfl fun hok => ?_
  simp only [r90, initEnv_3]
  have hbl := cells_lt hb
  have e1 : ((i : Int) / 16).toNat = i / 16 := by omega
  have e2 : ((i : Int) % 16).toNat = i % 16 := by omega
  obtain ⟨v, hv⟩ : ∃ v : Nat, v = 2 ^ (i % 16) := ⟨_, rfl⟩
  have hvl : v < 65536 := by
    rw [hv]
    have : 2 ^ (i % 16) < 2 ^ 16 := Nat.pow_lt_pow_right (by decide) (by omega)
    simpa using this
  have hsh := shl16 (j := i % 16) (by omega)
  rw [← hv] at hsh
  have hwl := wordN_lt (B := B) (k := i / 16)
  obtain ⟨r, hr⟩ : ∃ r : Nat, r = wordN B (i / 16) ^^^ (wordN B (i / 16) &&& v) := ⟨_, rfl⟩
  have han := bitsI_andNot (x := wordN B (i / 16)) (y := v) (by omega) (by omega)
  rw [← hr] at han
  have hlen : ((wordsN B m).map (AV.int .i64)).length = m := by simp [wordsN_len]
  have hgi : ((wordsN B m).map (AV.int .i64))[i / 16]? = some (.int .i64 (wordN B (i / 16) : Int)) := by
    rw [get_I (by rw [wordsN_len]; omega), wordsN_get (by omega)]
  obtain ⟨C, hC⟩ : ∃ C, C = B ^^^ (B &&& 2 ^ i) := ⟨_, rfl⟩
  have hos : over ((wordsN B m).map (AV.int .i64)) (i / 16) [.int .i64 (r : Int)] = (wordsN C m).map (.int .i64) := by
    rw [over_set (by rw [hlen]; omega), hC, ← wordsN_clr hi, ← hv, ← hr, List.map_set]
  have hpm : (bb = bb) = True := by simp
  have w5 : H.cells (wr h bb ((wordsN C m).map (.int .i64))) b5 = some cs := by
    rw [cells_eq]
    unfold wr
    rw [List.getElem?_set_ne (Ne.symm hne), ← cells_eq]
    exact h5
  have wb : H.cells (wr h bb ((wordsN C m).map (.int .i64))) bb = some ((wordsN C m).map (.int .i64)) := cells_wr2 hbl
  have hlen2 : ((wordsN C m).map (AV.int .i64)).length = m := by simp [wordsN_len]
  have hgi2 : ((wordsN C m).map (AV.int .i64))[i / 16]? = some (.int .i64 (wordN C (i / 16) : Int)) := by
    rw [get_I (by rw [wordsN_len]; omega), wordsN_get (by omega)]
  have hwl2 := wordN_lt (B := C) (k := i / 16)
  obtain ⟨r2, hr2⟩ : ∃ r : Nat, r = wordN C (i / 16) ||| v := ⟨_, rfl⟩
  have hor := bitsI_or (x := wordN C (i / 16)) (y := v) (by omega) (by omega)
  rw [← hr2] at hor
  have hos2 : over ((wordsN C m).map (AV.int .i64)) (i / 16) [.int .i64 (r2 : Int)] = (wordsN (C ||| 2 ^ i) m).map (.int .i64) := by
    rw [over_set (by rw [hlen2]; omega), ← wordsN_set hi, ← hv, ← hr2, List.map_set]
  have hres : setB B i on = if on then C ||| 2 ^ i else C := by
    unfold setB
    rw [hC]
    cases on <;> simp
  have hfr1 : ∀ c, c ≠ bb → (wr h bb ((wordsN C m).map (.int .i64)))[c]? = h[c]? := fun c hc => by
    unfold wr
    rw [List.getElem?_set_ne (Ne.symm hc)]
  cases on
  · rw [if_neg (by simp)] at hres
    rw [hres]
    (try (simp (disch := first | omega | (simp <;> omega) | fail) only [push_cast, ↓reduceIte, Nat.reduceEqDiff, Nat.reduceAdd, Nat.reduceMul, Nat.reduceSub, Nat.reduceLT, Int.reduceToNat, h5, h1, hb, e1, e2, hsh, hgi, han, hlen, hos, hpm, reads, List.mem_cons, List.mem_append, List.not_mem_nil, nat_ff, or_self, or_false, false_or, not_false_eq_true]))
    all_goals (try exact ⟨by simp [wr], hfr1, wb⟩)
  · rw [if_pos rfl] at hres
    rw [hres]
    (try (simp (disch := first | omega | (simp <;> omega) | fail) only [push_cast, ↓reduceIte, Nat.reduceEqDiff, Nat.reduceAdd, Nat.reduceMul, Nat.reduceSub, Nat.reduceLT, Int.reduceToNat, h5, h1, hb, e1, e2, hsh, hgi, han, hlen, hos, hpm, w5, wb, hgi2, hor, hlen2, hos2, reads, List.mem_cons, List.mem_append, List.not_mem_nil, nat_ff, or_self, or_false, false_or, not_false_eq_true]))
    all_goals (try exact ⟨by simp [wr], fun c hc => by
      unfold wr
      rw [List.getElem?_set_ne (Ne.symm hc)]
      exact hfr1 c hc, cells_wr2 (by simp [wr]; omega)⟩)

theorem c_impl_Bits_setField (m a w v b5 o bb : Nat) (cs : List AV) (g : Nat → Bool) (h : H) (h5 : h.cells b5 = some cs) (h1 : cs[o + 1]? = some (.sl bb 0 1 m m)) (hb : h.cells bb = some ((wordsN (mkN a g) m).map (.int .i64))) (hv : v < 65536) (hw : w ≤ 16) (hg : ∀ j, j < w → v.testBit j = g (a + j)) (ha : a + w ≤ 16 * m) (hm : m ≤ 1000) (hne : b5 ≠ bb) :
    Call Tryz.prog 107 [.adr b5 o, .int .i64 a, .int .i64 w, .int .i64 v] h (fun b' => b' = bb) (fun x h' => h'.length = h.length ∧ (∀ c, c ≠ bb → h'[c]? = h[c]?) ∧ h'.cells bb = some ((wordsN (mkN (a + w) g) m).map (.int .i64))) := by
  refine enter (by kernel_rfl) e107 (by kernel_rfl) rfl fun hok => ?_
  simp only [r107, initEnv_4]
  (try (simp (disch := first | omega | (simp <;> omega) | fail) only [push_cast, ↓reduceIte, Nat.reduceEqDiff, Nat.reduceAdd, Nat.reduceMul, Nat.reduceSub, Nat.reduceLT, Int.reduceToNat]))
  refine T_for w (fun i e h' => Pins e [(0, .adr b5 o), (1, .int .i64 a), (3, .int .i64 v), (9, .int .i64 w), (10, .int .i64 i)] ∧ (h'.length = h.length ∧ (∀ c, c ≠ bb → h'[c]? = h[c]?)) ∧ h'.cells bb = some ((wordsN (mkN (a + i) g) m).map (.int .i64))) ?_ ?_
  · (try (simp (disch := first | omega | (simp <;> omega) | fail) only [push_cast, ↓reduceIte, Nat.reduceEqDiff, Nat.reduceAdd, Nat.reduceMul, Nat.reduceSub, Nat.reduceLT, Int.reduceToNat]))
    all_goals (try exact hb)
    all_goals (try exact ⟨fun _ _ => trivial, hb⟩)
  rintro i e h' hi ⟨hp, ⟨q1, q2⟩, q3⟩
  refine T_pins hp fun e => ?_
  (try (simp (disch := first | omega | (simp <;> omega) | fail) only [push_cast, ↓reduceIte, Nat.reduceEqDiff, Nat.reduceAdd, Nat.reduceMul, Nat.reduceSub, Nat.reduceLT, Int.reduceToNat]))
  first | refine goC_split (fun hc => ?_) (fun hc => ?_) | refine cnd_split (fun hc => ?_) (fun hc => ?_)
  · (try (simp only [decide_eq_true_eq, decide_eq_false_iff_not, Bool.not_eq_true', Bool.not_eq_false', Bool.and_eq_true, Bool.or_eq_true, Int.not_lt, Int.not_le] at hc)); (try (simp (disch := first | omega | (simp <;> omega) | fail) only [push_cast, ↓reduceIte, Nat.reduceEqDiff, Nat.reduceAdd, Nat.reduceMul, Nat.reduceSub, Nat.reduceLT, Int.reduceToNat]))
    have hi2 : i < w := by omega
    have hab := at_bit (x := v) (j := i) hv (by omega)
    have h5' := cells_keep (q2 b5 hne) h5
    have hbb := cells_lt q3
    rw [hg i hi2] at hab
    (try (simp (disch := first | omega | (simp <;> omega) | fail) only [push_cast, ↓reduceIte, Nat.reduceEqDiff, Nat.reduceAdd, Nat.reduceMul, Nat.reduceSub, Nat.reduceLT, Int.reduceToNat, hab]))
    refine (c_impl_Bits_set m (mkN (a + i) g) (a + i) b5 o bb (g (a + i)) cs _ h5' h1 q3 (by omega) hm hne).mono (fun y h2 hy => ?_) (fun b' _ hb' => Or.inl hb')
    obtain ⟨y1, y2, y3⟩ := hy
    rw [← mkN_succ] at y3
    have f1 : h2.length = h.length := by omega
    have f2 : ∀ c, c ≠ bb → h2[c]? = h[c]? := fun c hc => (y2 c hc).trans (q2 c hc)
    (try (simp (disch := first | omega | (simp <;> omega) | fail) only [push_cast, ↓reduceIte, Nat.reduceEqDiff, Nat.reduceAdd, Nat.reduceMul, Nat.reduceSub, Nat.reduceLT, Int.reduceToNat]))
    all_goals (try exact ⟨⟨f1, f2⟩, y3⟩)
    all_goals (try exact ⟨f1, f2, y3⟩)
  · (try (simp only [decide_eq_true_eq, decide_eq_false_iff_not, Bool.not_eq_true', Bool.not_eq_false', Bool.and_eq_true, Bool.or_eq_true, Int.not_lt, Int.not_le] at hc)); (try (simp (disch := first | omega | (simp <;> omega) | fail) only [push_cast, ↓reduceIte, Nat.reduceEqDiff, Nat.reduceAdd, Nat.reduceMul, Nat.reduceSub, Nat.reduceLT, Int.reduceToNat]))
    have hie : i = w := by omega
    subst hie
    first | exact ⟨q1, q2, q3⟩ | exact ⟨⟨q1, q2⟩, q3⟩

theorem c_impl_words (n : Int) (h0 : 0 ≤ n) (h1 : n ≤ 1000000000) : Fn Tryz.prog 88 [.int .i64 n] (· = .int .i64 ((n + 15) / 16)) := by
  refine Fn.of free_int fun h => ?_
  refine enter (by kernel_rfl) e88 (by kernel_rfl) rfl fun hok => ?_
  simp only [r88, initEnv_1]
  (try (simp (disch := first | omega | (simp <;> omega) | fail) only [push_cast, ↓reduceIte, Nat.reduceEqDiff, Nat.reduceAdd, Nat.reduceMul, Nat.reduceSub, Nat.reduceLT, Int.reduceToNat]))
  all_goals (try omega)

theorem c_impl_blank_own (n m : Nat) (hn : n ≤ 1000000) (hm : (((n : Int) + 15) / 16) = (m : Int)) (h : H) : Call Tryz.prog 89 [.int .i64 n] h Nowhere (fun x h' => BnI h h' n m x) := by
  refine enter (by kernel_rfl) e89 (by kernel_rfl) rfl fun hok => ?_
  simp only [r89, initEnv_1]
  (try (simp (disch := first | omega | (simp <;> omega) | fail) only [push_cast, ↓reduceIte, Nat.reduceEqDiff, Nat.reduceAdd, Nat.reduceMul, Nat.reduceSub, Nat.reduceLT, Int.reduceToNat]))
  refine (c_impl_words n (by omega) (by omega)).call ?_
  (try (simp (disch := first | omega | (simp <;> omega) | fail) only [push_cast, ↓reduceIte, Nat.reduceEqDiff, Nat.reduceAdd, Nat.reduceMul, Nat.reduceSub, Nat.reduceLT, Int.reduceToNat, hm]))
  all_goals (try exact ⟨h.length + 1, rfl, by omega, ⟨_, rfl⟩, by rw [cells_hk]; simp [cellsO, rep_words]⟩)

def MdI (h h' : H) (n m b9 bb x : Nat) : Prop :=
  h.length ≤ h'.length ∧ (∀ c, c < h.length → h'[c]? = h[c]?) ∧ h'.cells b9 = some [.int .i64 n, .sl bb 0 1 m m] ∧ h'.cells bb = some ((wordsN x m).map (.int .i64)) ∧ h.length + 1 ≤ bb ∧ h.length + 1 ≤ b9 ∧ b9 ≠ bb ∧ h'.cells h.length = some [.int .i64 0, .nils]
theorem MdI.put {h h' h2 : H} {n m b9 bb x y : Nat} (hr : MdI h h' n m b9 bb x) (hl : h2.length = h'.length) (hf : ∀ c, c ≠ bb → h2[c]? = h'[c]?) (hc : h2.cells bb = some ((wordsN y m).map (.int .i64))) : MdI h h2 n m b9 bb y := by
  obtain ⟨h1, h2, h3, h4, h5, h6, h7, h8⟩ := hr
  exact ⟨by omega, fun c hc => (hf c (by omega)).trans (h2 c hc), cells_keep (hf _ h7) h3, hc, h5, h6, h7, cells_keep (hf _ (by omega)) h8⟩

theorem c_impl_fields (L : List Nat) (o : Option (List Int)) (w m : Nat) (ho : lI o = natI L) (hL : L.length ≤ 60) (hv : ∀ i, L.getD i 0 < 65536) (hw : w ≤ 16) (hm : ((((L.length * w : Nat) : Int) + 15) / 16) = (m : Int)) (h : H) :
    Call Tryz.prog 91 [eI o, .int .i64 w] h Nowhere (fun x h' => ∃ bb, x = .agg [.int .i64 ((L.length * w : Nat) : Int), .sl bb 0 1 m m] ∧ h.length ≤ bb ∧ h.length ≤ h'.length ∧ (∀ c, c < h.length → h'[c]? = h[c]?) ∧ h'.cells bb = some ((wordsN (mkN (L.length * w) (lowG L w)) m).map (.int .i64))) := by
  refine enter (by kernel_rfl) e91 (by kernel_rfl) rfl fun hok => ?_
  simp only [r91, initEnv_2]
  have hln : (lI o).length = L.length := by rw [ho, natI_len]
  have hlw : L.length * w ≤ 60 * 16 := Nat.mul_le_mul hL hw
  have hmul : (L.length : Int) * (w : Int) = ((L.length * w : Nat) : Int) := by simp
  obtain ⟨n, hn⟩ : ∃ n, n = L.length * w := ⟨_, rfl⟩
  have hnw : ∀ i, i < L.length → i * w + w ≤ n := fun i hi => by
    have : (i + 1) * w ≤ L.length * w := Nat.mul_le_mul_right _ hi
    rw [Nat.add_mul, Nat.one_mul] at this
    omega
  rw [← hn] at hlw hmul hm ⊢
  (try (simp (disch := first | omega | (simp <;> omega) | fail) only [push_cast, ↓reduceIte, Nat.reduceEqDiff, Nat.reduceAdd, Nat.reduceMul, Nat.reduceSub, Nat.reduceLT, Int.reduceToNat, hln, hmul]))
  refine (c_impl_blank_own n m (by omega) hm _).mono (fun x h1 hx => ?_) (fun _ _ h => h.elim)
  obtain ⟨bb, rfl, hbb, ⟨p, hp1⟩, hcb⟩ := hx
  simp only [List.length_append, List.length_cons, List.length_nil] at hbb
  have hl1 : h.length + 1 ≤ h1.length := by rw [hp1]; simp
  have hk1 : ∀ c, c < h.length → h1[c]? = h[c]? := fun c hc => by
    rw [hp1, List.append_assoc]
    exact List.getElem?_append_left hc
  have hc0 : h1.cells h.length = some [.int .i64 0, .nils] := by
    rw [hp1]
    refine cells_app ?_
    rw [cells_h0]
    rfl
  have hbl1 := cells_lt hcb
  clear hp1
  have hne : h1.length ≠ bb := by omega
  have hM0 : MdI h (h1 ++ [some (.cells [.int .i64 n, .sl bb 0 1 m m])]) n m h1.length bb (mkN (0 * w) (lowG L w)) := ⟨by simp; omega, fun c hc => (List.getElem?_append_left (by omega)).trans (hk1 c hc), by rw [cells_h0]; rfl, by rw [Nat.zero_mul]; exact cells_app hcb, hbb, hl1, hne, cells_app hc0⟩
  (try (simp (disch := first | omega | (simp <;> omega) | fail) only [push_cast, ↓reduceIte, Nat.reduceEqDiff, Nat.reduceAdd, Nat.reduceMul, Nat.reduceSub, Nat.reduceLT, Int.reduceToNat, hln]))
  refine T_for L.length (fun i e h' => Pins e [(1, .int .i64 w), (4, .adr h.length 0), (5, .adr h1.length 0), (13, eI o), (14, .int .i64 L.length), (15, .int .i64 i)] ∧ MdI h h' n m h1.length bb (mkN (i * w) (lowG L w))) ?_ ?_
  · have hM1 := hM0
    rw [Nat.zero_mul] at hM1
    (try (simp (disch := first | omega | (simp <;> omega) | fail) only [push_cast, ↓reduceIte, Nat.reduceEqDiff, Nat.reduceAdd, Nat.reduceMul, Nat.reduceSub, Nat.reduceLT, Int.reduceToNat, hln]))
    all_goals (try exact hM1)
  clear hM0
  rintro i e h' hi ⟨hp, hr⟩
  refine T_pins hp fun e => ?_
  obtain ⟨r1, r2, r3, r4, r5, r6, r7, r8⟩ := id hr
  (try (simp (disch := first | omega | (simp <;> omega) | fail) only [push_cast, ↓reduceIte, Nat.reduceEqDiff, Nat.reduceAdd, Nat.reduceMul, Nat.reduceSub, Nat.reduceLT, Int.reduceToNat]))
  first | refine goC_split (fun hc => ?_) (fun hc => ?_) | refine cnd_split (fun hc => ?_) (fun hc => ?_)
  · (try (simp only [decide_eq_true_eq, decide_eq_false_iff_not, Bool.not_eq_true', Bool.not_eq_false', Bool.and_eq_true, Bool.or_eq_true, Int.not_lt, Int.not_le] at hc)); (try (simp (disch := first | omega | (simp <;> omega) | fail) only [push_cast, ↓reduceIte, Nat.reduceEqDiff, Nat.reduceAdd, Nat.reduceMul, Nat.reduceSub, Nat.reduceLT, Int.reduceToNat]))
    have hi2 : i < L.length := by omega
    have hgi : (lI o).getD i 0 = ((L.getD i 0 : Nat) : Int) := by rw [ho, natI_get]
    have hiw := hnw i hi2
    have hmi : (i : Int) * (w : Int) = ((i * w : Nat) : Int) := by simp
    have hvi := hv i
    have hgb : ∀ j, j < w → (L.getD i 0).testBit j = lowG L w (i * w + j) := fun j hj => (lowG_at hj).symm
    have hsu : (i + 1) * w = i * w + w := by rw [Nat.add_mul, Nat.one_mul]
    obtain ⟨v, hvd⟩ : ∃ v, v = L.getD i 0 := ⟨_, rfl⟩
    obtain ⟨a, had⟩ : ∃ a, a = i * w := ⟨_, rfl⟩
    rw [← hvd] at hgi hvi hgb
    rw [← had] at hiw hmi hgb hsu r4 hr
    (try (simp (disch := first | omega | (simp <;> omega) | fail) only [push_cast, ↓reduceIte, Nat.reduceEqDiff, Nat.reduceAdd, Nat.reduceMul, Nat.reduceSub, Nat.reduceLT, Int.reduceToNat, hln, hgi, hmi]))
    refine (c_impl_Bits_setField m a w v h1.length 0 bb _ (lowG L w) _ r3 rfl r4 hvi hw hgb (by omega) (by omega) r7).mono (fun y h2 hy => ?_) (fun b' _ hb' => Or.inr (by omega))
    obtain ⟨y1, y2, y3⟩ := hy
    rw [← hsu] at y3
    have hfin := hr.put y1 y2 y3
    (try (simp (disch := first | omega | (simp <;> omega) | fail) only [push_cast, ↓reduceIte, Nat.reduceEqDiff, Nat.reduceAdd, Nat.reduceMul, Nat.reduceSub, Nat.reduceLT, Int.reduceToNat]))
    all_goals (try exact hfin)
  · (try (simp only [decide_eq_true_eq, decide_eq_false_iff_not, Bool.not_eq_true', Bool.not_eq_false', Bool.and_eq_true, Bool.or_eq_true, Int.not_lt, Int.not_le] at hc)); (try (simp (disch := first | omega | (simp <;> omega) | fail) only [push_cast, ↓reduceIte, Nat.reduceEqDiff, Nat.reduceAdd, Nat.reduceMul, Nat.reduceSub, Nat.reduceLT, Int.reduceToNat]))
    have hie : i = L.length := by omega
    subst hie
    rw [← hn] at r4 hr
    have hw2 := cells_wr2 (h := h') (b := h.length) (cells_lt r8) (cs := [AV.int .i64 (n : Int), .sl bb 0 1 m m])
    have hpm : (h.length ≤ h.length) = True := by simp
    have f2 : ∀ c, c < h.length → (wr h' h.length [AV.int .i64 (n : Int), .sl bb 0 1 m m])[c]? = h[c]? := fun c hc => by
      unfold wr
      rw [List.getElem?_set_ne (by omega)]
      exact r2 c hc
    have f3 : (wr h' h.length [AV.int .i64 (n : Int), .sl bb 0 1 m m]).cells bb = some ((wordsN (mkN n (lowG L w)) m).map (.int .i64)) := by
      rw [cells_eq]
      unfold wr
      rw [List.getElem?_set_ne (by omega), ← cells_eq]
      exact r4
    (try (simp (disch := first | omega | (simp <;> omega) | fail) only [push_cast, ↓reduceIte, Nat.reduceEqDiff, Nat.reduceAdd, Nat.reduceMul, Nat.reduceSub, Nat.reduceLT, Int.reduceToNat, r3, r8, hpm, hw2]))
    all_goals (try exact ⟨bb, rfl, by omega, f2, f3⟩)
    all_goals (try exact ⟨bb, rfl, by omega, by simp [wr]; omega, f2, f3⟩)

theorem c_impl_sparse_o (L : List Nat) (lim : Nat) (o : Option (List Int)) (ho : lI o = natI L) (hL : L.length ≤ 60) (h1 : 1 ≤ lim) (hl : lim ≤ 100000) (hlt : ∀ i, i < L.length → L.getD i 0 < lim) : FnO Tryz.prog 49 [eI o, .int .i64 lim] (· = eSp (spV L lim)) := by
  intro h
  refine enter (by kernel_rfl) e49 (by kernel_rfl) rfl fun hok => ?_
  simp only [r49, initEnv_2]
  have hln : (lI o).length = L.length := by rw [ho, natI_len]
  have hw16 := wid_le (c := L.length) hl
  have hsl := hiS_le hL hl
  have hWF := c_impl_WidthFor (L.length : Int) (lim : Int)
  have hcond : ((decide (0 ≤ (L.length : Int)) && decide ((L.length : Int) ≤ 60)) && limOk (lim : Int)) = true := by
    simp only [limOk, Bool.and_eq_true, decide_eq_true_eq]
    omega
  rw [hcond] at hWF
  simp only [if_true, Int.toNat_natCast] at hWF
  obtain ⟨w, hwd⟩ : ∃ w, w = wid L.length lim := ⟨_, rfl⟩
  have hsv : spV L lim = ⟨L.length, lim, w, lowB L w, hiB L lim w⟩ := by rw [hwd]; rfl
  rw [← hwd] at hWF hw16 hsl
  obtain ⟨hs, hhs⟩ : ∃ hs, hs = hiS L.length lim w := ⟨_, rfl⟩
  rw [← hhs] at hsl
  have hsh : Int.fdiv ((lim : Int) - 1) (2 ^ (min w IntKind.i64.bits)) = (((lim - 1) / 2 ^ w : Nat) : Int) := by
    rw [← shrN (a := lim - 1) (b := w) (by omega)]
    congr 1
    omega
  obtain ⟨sq, hsq⟩ : ∃ sq, sq = (lim - 1) / 2 ^ w := ⟨_, rfl⟩
  rw [← hsq] at hsh
  have hhs2 : hs = L.length + sq + 1 := by rw [hhs, hsq]; rfl
  have hsi : (L.length : Int) + (sq : Int) + 1 = (hs : Int) := by omega
  (try (simp (disch := first | omega | (simp <;> omega) | fail) only [push_cast, ↓reduceIte, Nat.reduceEqDiff, Nat.reduceAdd, Nat.reduceMul, Nat.reduceSub, Nat.reduceLT, Int.reduceToNat, hln]))
  refine hWF.call ?_
  (try (simp (disch := first | omega | (simp <;> omega) | fail) only [push_cast, ↓reduceIte, Nat.reduceEqDiff, Nat.reduceAdd, Nat.reduceMul, Nat.reduceSub, Nat.reduceLT, Int.reduceToNat, hln, hsh, hsi]))
  refine (c_impl_blank_own hs ((hs + 15) / 16) (by omega) (by omega) _).mono (fun x h1 hx => ?_) (fun _ _ h => h.elim)
  obtain ⟨bb, rfl, hbb, ⟨p, hp1⟩, hcb⟩ := hx
  simp only [List.length_append, List.length_cons, List.length_nil] at hbb
  have hl1 : h.length + 2 ≤ h1.length := by rw [hp1]; simp
  have hc0 : H.cells h1 h.length = some zero7 := by
    rw [hp1]
    refine cells_app ?_
    rw [cells_h0]
    rfl
  have hc1 : H.cells h1 (h.length + 1) = some [] := by
    rw [hp1]
    refine cells_app ?_
    rw [cells_hk]
    rfl
  have hbl1 := cells_lt hcb
  clear hp1
  obtain ⟨L', hL'⟩ : ∃ L', L' = L.map (· % 2 ^ w) := ⟨_, rfl⟩
  have hM0 : SzI h (h1 ++ [some (.cells [.int .i64 hs, .sl bb 0 1 ((hs + 15) / 16) ((hs + 15) / 16)])]) (.sl (h.length + 1) 0 1 0 0) (L'.take 0) h1.length bb hs ((hs + 15) / 16) (mkN hs (hiG L w 0)) := ⟨cells_app hc0, by rw [cells_h0]; rfl, by rw [hi_zero]; exact cells_app hcb, by omega, by omega, by omega, [h.length + 1], ⟨by simp [natI], .inr ⟨h.length + 1, rfl, rfl, by simpa [natI] using cells_app hc1⟩⟩, fun k hk => by simp at hk; omega⟩
  (try (simp (disch := first | omega | (simp <;> omega) | fail) only [push_cast, ↓reduceIte, Nat.reduceEqDiff, Nat.reduceAdd, Nat.reduceMul, Nat.reduceSub, Nat.reduceLT, Int.reduceToNat, hln]))
  refine T_for L.length (fun i e h' => ∃ v, Pins e [(0, eI o), (1, .int .i64 lim), (4, .adr h.length 0), (5, .int .i64 w), (7, v), (8, .adr h1.length 0), (28, eI o), (29, .int .i64 L.length), (30, .int .i64 i)] ∧ SzI h h' v (L'.take i) h1.length bb hs ((hs + 15) / 16) (mkN hs (hiG L w i))) ?_ ?_
  · refine ⟨.sl (h.length + 1) 0 1 0 0, ?_⟩
    (try (simp (disch := first | omega | (simp <;> omega) | fail) only [push_cast, ↓reduceIte, Nat.reduceEqDiff, Nat.reduceAdd, Nat.reduceMul, Nat.reduceSub, Nat.reduceLT, Int.reduceToNat, hln]))
    all_goals (try exact hM0)
  clear hM0
  rintro i e h' hi ⟨v, hp, hz⟩
  refine T_pins hp fun e => ?_
  (try (simp (disch := first | omega | (simp <;> omega) | fail) only [push_cast, ↓reduceIte, Nat.reduceEqDiff, Nat.reduceAdd, Nat.reduceMul, Nat.reduceSub, Nat.reduceLT, Int.reduceToNat]))
  first | refine goC_split (fun hc => ?_) (fun hc => ?_) | refine cnd_split (fun hc => ?_) (fun hc => ?_)
  · (try (simp only [decide_eq_true_eq, decide_eq_false_iff_not, Bool.not_eq_true', Bool.not_eq_false', Bool.and_eq_true, Bool.or_eq_true, Int.not_lt, Int.not_le] at hc)); (try (simp (disch := first | omega | (simp <;> omega) | fail) only [push_cast, ↓reduceIte, Nat.reduceEqDiff, Nat.reduceAdd, Nat.reduceMul, Nat.reduceSub, Nat.reduceLT, Int.reduceToNat]))
    have hi2 : i < L.length := by omega
    have hgi : (lI o).getD i 0 = ((L.getD i 0 : Nat) : Int) := by rw [ho, natI_get]
    have hni := hlt i hi2
    have hq := hi_lt (w := w) hi2 hni
    rw [← hhs] at hq
    have hst := hi_step (L := L) (w := w) (i := i) (hs := hs) hq
    have htk : L'.take (i + 1) = L'.take i ++ [L.getD i 0 % 2 ^ w] := by
      rw [List.take_add_one, hL']
      congr 1
      simp [hi2]
    have hpw : 2 ^ w ≤ 2 ^ 16 := Nat.pow_le_pow_right (by decide) hw16
    have hp0 : 1 ≤ 2 ^ w := Nat.pow_pos (by decide)
    have hsh1 : IntKind.i64.wrap (1 * 2 ^ (min w IntKind.i64.bits)) = ((2 ^ w : Nat) : Int) := by
      have := shlN (a := 1) (b := w) (by omega) (by omega)
      simpa using this
    have hand : bitsI .and .i64 ((L.getD i 0 : Nat) : Int) (((2 ^ w - 1 : Nat)) : Int) = ((L.getD i 0 % 2 ^ w : Nat) : Int) := by
      rw [bitsI_and (by omega) (by omega), Nat.and_two_pow_sub_one_eq_mod]
    have hshr := shrN (a := L.getD i 0) (b := w) (by omega)
    have hLl : (L'.take i).length ≤ 1000000 := by rw [List.length_take, hL', List.length_map]; omega
    obtain ⟨n, hn⟩ : ∃ n, n = L.getD i 0 := ⟨_, rfl⟩
    rw [← hn] at hgi hni hq hst htk hand hshr
    obtain ⟨P, hP⟩ : ∃ P, P = 2 ^ w := ⟨_, rfl⟩
    rw [← hP] at hpw hp0 hsh1 hand hshr hst hq htk
    have hP1 : (P : Int) - 1 = ((P - 1 : Nat) : Int) := by omega
    obtain ⟨P1, hP1d⟩ : ∃ P1, P1 = P - 1 := ⟨_, rfl⟩
    obtain ⟨md, hmd⟩ : ∃ md, md = n % P := ⟨_, rfl⟩
    obtain ⟨dv, hdv⟩ : ∃ dv, dv = n / P := ⟨_, rfl⟩
    rw [← hP1d] at hP1 hand
    rw [← hmd] at hand htk
    rw [← hdv] at hshr hst hq
    (try (simp (disch := first | omega | (simp <;> omega) | fail) only [push_cast, ↓reduceIte, Nat.reduceEqDiff, Nat.reduceAdd, Nat.reduceMul, Nat.reduceSub, Nat.reduceLT, Int.reduceToNat, hln, hgi, hsh1, hP1, hand]))
    refine hz.app (x := md) (fun c hc => Or.inr hc) hLl fun v' h'' q1 q2 => ?_
    rw [← htk] at q1
    obtain ⟨z1, z2, z3, z4, z5, z6, _⟩ := id q1
    (try (simp (disch := first | omega | (simp <;> omega) | fail) only [push_cast, ↓reduceIte, Nat.reduceEqDiff, Nat.reduceAdd, Nat.reduceMul, Nat.reduceSub, Nat.reduceLT, Int.reduceToNat, hshr]))
    refine (c_impl_Bits_set ((hs + 15) / 16) (mkN hs (hiG L w i)) (dv + i) h1.length 0 bb true _ _ z2 rfl z3 (by omega) (by omega) z6).mono (fun y h2 hy => ?_) (fun b' _ hb' => Or.inr (by omega))
    obtain ⟨y1, y2, y3⟩ := hy
    rw [hst] at y3
    have hfin := q1.set y2 y3
    (try (simp (disch := first | omega | (simp <;> omega) | fail) only [push_cast, ↓reduceIte, Nat.reduceEqDiff, Nat.reduceAdd, Nat.reduceMul, Nat.reduceSub, Nat.reduceLT, Int.reduceToNat]))
    all_goals (try exact ⟨_, rfl, hfin⟩)
    all_goals (try exact ⟨_, hfin⟩)
  · (try (simp only [decide_eq_true_eq, decide_eq_false_iff_not, Bool.not_eq_true', Bool.not_eq_false', Bool.and_eq_true, Bool.or_eq_true, Int.not_lt, Int.not_le] at hc)); (try (simp (disch := first | omega | (simp <;> omega) | fail) only [push_cast, ↓reduceIte, Nat.reduceEqDiff, Nat.reduceAdd, Nat.reduceMul, Nat.reduceSub, Nat.reduceLT, Int.reduceToNat]))
    have hie : i = L.length := by omega
    subst hie
    have hL'l : L'.length = L.length := by rw [hL', List.length_map]
    rw [show L'.take L.length = L' from List.take_of_length_le (by omega)] at hz
    obtain ⟨z1, z2, z3, z4, z5, z6, _⟩ := id hz
    obtain ⟨oo, hvo, hlo⟩ := hz.vw
    have hlb : lowB L w = ⟨((L'.length * w : Nat) : Int), some (wordsN (mkN (L'.length * w) (lowG L' w)) ((L'.length * w + 15) / 16))⟩ := by
      unfold lowB
      rw [hL'l]
      congr 3
      refine mkN_congr fun p hp => ?_
      have hw0 : 0 < w := by
        rcases Nat.eq_zero_or_pos w with h0 | h0
        · rw [h0] at hp
          simp at hp
        · exact h0
      rw [hL', lowG_mod hw0]
    have hfo : FnO Tryz.prog 91 [eI oo, .int .i64 w] (· = eB (lowB L w)) := fun g => (c_impl_fields L' oo w ((L'.length * w + 15) / 16) hlo (by omega) (fun j => by
      rw [hL']
      simp only [List.getD_eq_getElem?_getD, List.getElem?_map]
      have hpw : 2 ^ w ≤ 2 ^ 16 := Nat.pow_le_pow_right (by decide) hw16
      cases L[j]? with
      | none => simp
      | some y =>
        simp
        have := Nat.mod_lt y (Nat.two_pow_pos w)
        omega) hw16 (by omega) g).mono (fun x g1 hx => by
      obtain ⟨b2, rfl, q1, q2, q3, q4⟩ := hx
      rw [hlb]
      exact ⟨_, ow_B (G := fun c => g.length ≤ c) q1 q4 (by rw [wordsN_len]), rfl⟩) (fun _ _ h => h.elim)
    have hpm : (h.length ≤ h.length) = True := by simp
    have hbl := cells_lt z3
    have hlt0 := cells_lt z1
    have hend : ∀ (g1 : H) (w1 : AV) (F : Nat → Prop) cs, Ext h' g1 → Ow g1 [w1] [eI (lowB L w).words] F → (∀ c, F c → Seg h'.length g1 c) → ∃ t, Ow (wr g1 h.length cs) [.agg [.int .i64 L.length, .int .i64 lim, .int .i64 w, .int .i64 ((L.length * w : Nat) : Int), w1, .int .i64 hs, .sl bb 0 1 ((hs + 15) / 16) ((hs + 15) / 16)]] [t] (fun c => h.length ≤ c) ∧ t = eSp (spV L lim) := fun g1 w1 F cs hx ho hF => by
      have hwr : ∀ c, c ≠ h.length → (wr g1 h.length cs)[c]? = g1[c]? := fun c hc => by
        unfold wr
        rw [List.getElem?_set_ne (Ne.symm hc)]
      have hb3 := cells_keep (hwr bb (by omega)) (hx.cells z3)
      refine ⟨_, ow7 (n0 := h.length) (ho.frame fun c hc => hwr c (by have := (hF c hc).1; omega)) hb3 (by rw [wordsN_len]) (fun c hc => ⟨by have := (hF c hc).1; omega, by have := (hF c hc).1; omega⟩) (by omega), ?_⟩
      rw [hsv]
      unfold lowB hiB
      rw [← hhs]
    have hlb1 : (lowB L w).size = ((L.length * w : Nat) : Int) := rfl
    obtain ⟨lw, hlw⟩ : ∃ lw, lw = L.length * w := ⟨_, rfl⟩
    rw [← hlw] at hend hlb1
    (try (simp (disch := first | omega | (simp <;> omega) | fail) only [push_cast, ↓reduceIte, Nat.reduceEqDiff, Nat.reduceAdd, Nat.reduceMul, Nat.reduceSub, Nat.reduceLT, Int.reduceToNat, hln, z2, reads, List.mem_cons, List.mem_append, List.not_mem_nil, nat_ff, or_self, or_false, false_or, not_false_eq_true]))
    repeat' (with_reducible refine And.intro ?_ ?_)
    all_goals
      refine hfo.goL (.cons hvo (.free free_int .nil)) fun x t g1 hR hx how => ?_
      subst hR
      obtain ⟨w1, F, rfl, f1, f2, f3, f4, f5⟩ := ow_bt how
      have y1 := hx.cells z1
      have y2 := hx.cells z2
      have hw1 : ∀ cs, H.cells (wr g1 h.length cs) h.length = some cs := fun cs => cells_wr2 (cells_lt y1)
      have hfin := fun cs => hend g1 w1 F cs hx f1 f2
      rw [hlb1]
      unfold zero7 at y1
      (try (simp (disch := first | omega | (simp <;> omega) | fail) only [push_cast, ↓reduceIte, Nat.reduceEqDiff, Nat.reduceAdd, Nat.reduceMul, Nat.reduceSub, Nat.reduceLT, Int.reduceToNat, y1, y2, hpm, hw1, f3, f4, reads, List.mem_cons, List.mem_append, List.not_mem_nil, nat_ff, or_self, or_false, false_or, not_false_eq_true]))
      all_goals (try exact hfin _)

theorem c_spec_l1Same (a b : Option (List Int)) : Fn Tryz.prog 94 [eI a, eI b] (· = .bool (decide (lI a = lI b))) := by
  refine Fn.of free_bool fun h => ?_
  refine enter (by kernel_rfl) e94 (by kernel_rfl) rfl fun hok => ?_
  simp only [r94, initEnv_2]
  have ha := ok_eI (okV_0 hok)
  have hb := ok_eI (okV_1 hok)
  (try (simp (disch := first | omega | (simp <;> omega) | fail) only [push_cast, ↓reduceIte, Nat.reduceEqDiff, Nat.reduceAdd, Nat.reduceMul, Nat.reduceSub, Nat.reduceLT, Int.reduceToNat]))
  first | refine goC_split (fun hc => ?_) (fun hc => ?_) | refine cnd_split (fun hc => ?_) (fun hc => ?_)
  · (try (simp only [decide_eq_true_eq, decide_eq_false_iff_not, Bool.not_eq_true', Bool.not_eq_false', Bool.and_eq_true, Bool.or_eq_true, Int.not_lt, Int.not_le] at hc)); (try (simp (disch := first | omega | (simp <;> omega) | fail) only [push_cast, ↓reduceIte, Nat.reduceEqDiff, Nat.reduceAdd, Nat.reduceMul, Nat.reduceSub, Nat.reduceLT, Int.reduceToNat]))
    symm
    rw [decide_eq_false_iff_not]
    intro he
    rw [he] at hc
    exact hc rfl
  have hlen : (lI a).length = (lI b).length := by (try (simp only [decide_eq_true_eq, decide_eq_false_iff_not, Bool.not_eq_true', Bool.not_eq_false', Bool.and_eq_true, Bool.or_eq_true, Int.not_lt, Int.not_le] at hc)); (try (simp (disch := first | omega | (simp <;> omega) | fail) only [push_cast, ↓reduceIte, Nat.reduceEqDiff, Nat.reduceAdd, Nat.reduceMul, Nat.reduceSub, Nat.reduceLT, Int.reduceToNat])); omega
  (try (simp (disch := first | omega | (simp <;> omega) | fail) only [push_cast, ↓reduceIte, Nat.reduceEqDiff, Nat.reduceAdd, Nat.reduceMul, Nat.reduceSub, Nat.reduceLT, Int.reduceToNat]))
  refine T_for (lI a).length (fun i e h' => Pins e [(0, eI a), (1, eI b), (12, .int .i64 (lI a).length), (13, .int .i64 i)] ∧ h' = h ∧ (lI a).take i = (lI b).take i) ?_ ?_
  · (try (simp (disch := first | omega | (simp <;> omega) | fail) only [push_cast, ↓reduceIte, Nat.reduceEqDiff, Nat.reduceAdd, Nat.reduceMul, Nat.reduceSub, Nat.reduceLT, Int.reduceToNat]))
    simp
  rintro i e h' hi ⟨hp, rfl, he⟩
  refine T_pins hp fun e => ?_
  (try (simp (disch := first | omega | (simp <;> omega) | fail) only [push_cast, ↓reduceIte, Nat.reduceEqDiff, Nat.reduceAdd, Nat.reduceMul, Nat.reduceSub, Nat.reduceLT, Int.reduceToNat]))
  first | refine goC_split (fun hc => ?_) (fun hc => ?_) | refine cnd_split (fun hc => ?_) (fun hc => ?_)
  · (try (simp only [decide_eq_true_eq, decide_eq_false_iff_not, Bool.not_eq_true', Bool.not_eq_false', Bool.and_eq_true, Bool.or_eq_true, Int.not_lt, Int.not_le] at hc)); (try (simp (disch := first | omega | (simp <;> omega) | fail) only [push_cast, ↓reduceIte, Nat.reduceEqDiff, Nat.reduceAdd, Nat.reduceMul, Nat.reduceSub, Nat.reduceLT, Int.reduceToNat]))
    have hi : i < (lI a).length := by omega
    (try (simp (disch := first | omega | (simp <;> omega) | fail) only [push_cast, ↓reduceIte, Nat.reduceEqDiff, Nat.reduceAdd, Nat.reduceMul, Nat.reduceSub, Nat.reduceLT, Int.reduceToNat]))
    first | refine goC_split (fun hc => ?_) (fun hc => ?_) | refine cnd_split (fun hc => ?_) (fun hc => ?_)
    · (try (simp only [decide_eq_true_eq, decide_eq_false_iff_not, Bool.not_eq_true', Bool.not_eq_false', Bool.and_eq_true, Bool.or_eq_true, Int.not_lt, Int.not_le] at hc)); (try (simp (disch := first | omega | (simp <;> omega) | fail) only [push_cast, ↓reduceIte, Nat.reduceEqDiff, Nat.reduceAdd, Nat.reduceMul, Nat.reduceSub, Nat.reduceLT, Int.reduceToNat]))
      symm
      rw [decide_eq_false_iff_not]
      intro he
      rw [he] at hc
      exact hc rfl
    · (try (simp only [decide_eq_true_eq, decide_eq_false_iff_not, Bool.not_eq_true', Bool.not_eq_false', Bool.and_eq_true, Bool.or_eq_true, Int.not_lt, Int.not_le] at hc)); (try (simp (disch := first | omega | (simp <;> omega) | fail) only [push_cast, ↓reduceIte, Nat.reduceEqDiff, Nat.reduceAdd, Nat.reduceMul, Nat.reduceSub, Nat.reduceLT, Int.reduceToNat]))
      have h1 : i < (lI b).length := by omega
      simp [hi, h1] at hc
      rw [List.take_add_one, List.take_add_one, he]
      simp [hi, h1, hc]
  · (try (simp only [decide_eq_true_eq, decide_eq_false_iff_not, Bool.not_eq_true', Bool.not_eq_false', Bool.and_eq_true, Bool.or_eq_true, Int.not_lt, Int.not_le] at hc)); (try (simp (disch := first | omega | (simp <;> omega) | fail) only [push_cast, ↓reduceIte, Nat.reduceEqDiff, Nat.reduceAdd, Nat.reduceMul, Nat.reduceSub, Nat.reduceLT, Int.reduceToNat]))
    have hi2 : i = (lI a).length := by omega
    symm
    rw [decide_eq_true_iff]
    rw [hi2, List.take_length] at he
    rw [he, hlen, List.take_length]

theorem c_spec_biSame (a b : Bt) : Fn Tryz.prog 57 [eB a, eB b] (· = .bool (sameB a b)) := by
  refine Fn.of free_bool fun h => ?_
  refine enter (by kernel_rfl) e57 (by kernel_rfl) rfl fun hok => ?_
  simp only [r57, initEnv_2]
  unfold sameB
  cases hs : decide (a.size = b.size)
  · (try (simp (disch := first | omega | (simp <;> omega) | fail) only [push_cast, ↓reduceIte, Nat.reduceEqDiff, Nat.reduceAdd, Nat.reduceMul, Nat.reduceSub, Nat.reduceLT, Int.reduceToNat, hs]))
  (try (simp (disch := first | omega | (simp <;> omega) | fail) only [push_cast, ↓reduceIte, Nat.reduceEqDiff, Nat.reduceAdd, Nat.reduceMul, Nat.reduceSub, Nat.reduceLT, Int.reduceToNat, hs]))
  refine (c_spec_l1Same a.words b.words).call ?_
  (try (simp (disch := first | omega | (simp <;> omega) | fail) only [push_cast, ↓reduceIte, Nat.reduceEqDiff, Nat.reduceAdd, Nat.reduceMul, Nat.reduceSub, Nat.reduceLT, Int.reduceToNat, hs]))

theorem c_impl_IsBits (b : Bt) : Fn Tryz.prog 45 [eB b] (· = .bool (okBt b)) := by
  refine Fn.of free_bool fun h => ?_
  refine enter (by kernel_rfl) e45 (by kernel_rfl) rfl fun hok => ?_
  simp only [r45, initEnv_1]
  have hlen := ok_eI ((okV_0 hok).agg (eI b.words) (by simp [cB]))
  (try (simp (disch := first | omega | (simp <;> omega) | fail) only [push_cast, ↓reduceIte, Nat.reduceEqDiff, Nat.reduceAdd, Nat.reduceMul, Nat.reduceSub, Nat.reduceLT, Int.reduceToNat]))
  unfold okBt
  refine (c_impl_in _ _ _).call ?_
  cases h1 : (decide (0 ≤ b.size) && decide (b.size ≤ 4096))
  · (try (simp (disch := first | omega | (simp <;> omega) | fail) only [push_cast, ↓reduceIte, Nat.reduceEqDiff, Nat.reduceAdd, Nat.reduceMul, Nat.reduceSub, Nat.reduceLT, Int.reduceToNat]))
  have h3 : 0 ≤ b.size ∧ b.size ≤ 4096 := by simpa using h1
  (try (simp (disch := first | omega | (simp <;> omega) | fail) only [push_cast, ↓reduceIte, Nat.reduceEqDiff, Nat.reduceAdd, Nat.reduceMul, Nat.reduceSub, Nat.reduceLT, Int.reduceToNat]))
  refine (c_impl_words b.size (by omega) (by omega)).call ?_
  (try (simp (disch := first | omega | (simp <;> omega) | fail) only [push_cast, ↓reduceIte, Nat.reduceEqDiff, Nat.reduceAdd, Nat.reduceMul, Nat.reduceSub, Nat.reduceLT, Int.reduceToNat]))
  first | refine goC_split (fun hc => ?_) (fun hc => ?_) | refine cnd_split (fun hc => ?_) (fun hc => ?_)
  · (try (simp only [decide_eq_true_eq, decide_eq_false_iff_not, Bool.not_eq_true', Bool.not_eq_false', Bool.and_eq_true, Bool.or_eq_true, Int.not_lt, Int.not_le] at hc)); (try (simp (disch := first | omega | (simp <;> omega) | fail) only [push_cast, ↓reduceIte, Nat.reduceEqDiff, Nat.reduceAdd, Nat.reduceMul, Nat.reduceSub, Nat.reduceLT, Int.reduceToNat]))
    all_goals (try simp [hc])
  (try (simp only [decide_eq_true_eq, decide_eq_false_iff_not, Bool.not_eq_true', Bool.not_eq_false', Bool.and_eq_true, Bool.or_eq_true, Int.not_lt, Int.not_le] at hc)); (try (simp (disch := first | omega | (simp <;> omega) | fail) only [push_cast, ↓reduceIte, Nat.reduceEqDiff, Nat.reduceAdd, Nat.reduceMul, Nat.reduceSub, Nat.reduceLT, Int.reduceToNat]))
  have hc2 : ((lI b.words).length : Int) = (b.size + 15) / 16 := by omega
  refine T_for (lI b.words).length (fun i e h' => Pins e [(1, .adr h.length 0), (20, eI b.words), (21, .int .i64 (lI b.words).length), (22, .int .i64 i)] ∧ (h.length < h'.length ∧ H.cells h' h.length = some (cB b)) ∧ okWords ((lI b.words).take i) = true) ?_ ?_
  · (try (simp (disch := first | omega | (simp <;> omega) | fail) only [push_cast, ↓reduceIte, Nat.reduceEqDiff, Nat.reduceAdd, Nat.reduceMul, Nat.reduceSub, Nat.reduceLT, Int.reduceToNat]))
    all_goals (try simp [okWords, cB])
  rintro i e h' hi ⟨hp, ⟨hlt, hbox⟩, ha⟩
  refine T_pins hp fun e => ?_
  (try (simp (disch := first | omega | (simp <;> omega) | fail) only [push_cast, ↓reduceIte, Nat.reduceEqDiff, Nat.reduceAdd, Nat.reduceMul, Nat.reduceSub, Nat.reduceLT, Int.reduceToNat, hbox]))
  first | refine goC_split (fun hd => ?_) (fun hd => ?_) | refine cnd_split (fun hd => ?_) (fun hd => ?_)
  · (try (simp only [decide_eq_true_eq, decide_eq_false_iff_not, Bool.not_eq_true', Bool.not_eq_false', Bool.and_eq_true, Bool.or_eq_true, Int.not_lt, Int.not_le] at hd)); (try (simp (disch := first | omega | (simp <;> omega) | fail) only [push_cast, ↓reduceIte, Nat.reduceEqDiff, Nat.reduceAdd, Nat.reduceMul, Nat.reduceSub, Nat.reduceLT, Int.reduceToNat]))
    have hi2 : i < (lI b.words).length := by omega
    (try (simp (disch := first | omega | (simp <;> omega) | fail) only [push_cast, ↓reduceIte, Nat.reduceEqDiff, Nat.reduceAdd, Nat.reduceMul, Nat.reduceSub, Nat.reduceLT, Int.reduceToNat, hbox]))
    refine (c_impl_in _ _ _).call ?_
    have hn : okWords ((lI b.words).take (i + 1)) = (decide (0 ≤ (lI b.words).getD i 0) && decide ((lI b.words).getD i 0 ≤ 65535)) := by
      unfold okWords at ha ⊢
      rw [List.take_add_one, List.all_append, ha]
      simp [hi2]
    cases hk : (decide (0 ≤ (lI b.words).getD i 0) && decide ((lI b.words).getD i 0 ≤ 65535))
    · have hno : okWords (lI b.words) = false := by
        unfold okWords
        rw [List.all_eq_false]
        exact ⟨(lI b.words).getD i 0, by simp [hi2], by rw [hk]; simp⟩
      (try (simp (disch := first | omega | (simp <;> omega) | fail) only [push_cast, ↓reduceIte, Nat.reduceEqDiff, Nat.reduceAdd, Nat.reduceMul, Nat.reduceSub, Nat.reduceLT, Int.reduceToNat, hbox]))
      rw [hno]
      all_goals (try simp)
    · (try (simp (disch := first | omega | (simp <;> omega) | fail) only [push_cast, ↓reduceIte, Nat.reduceEqDiff, Nat.reduceAdd, Nat.reduceMul, Nat.reduceSub, Nat.reduceLT, Int.reduceToNat, hbox]))
      rw [hn, hk]
      all_goals (try simp)
      all_goals (try exact hbox)
  · (try (simp only [decide_eq_true_eq, decide_eq_false_iff_not, Bool.not_eq_true', Bool.not_eq_false', Bool.and_eq_true, Bool.or_eq_true, Int.not_lt, Int.not_le] at hd)); (try (simp (disch := first | omega | (simp <;> omega) | fail) only [push_cast, ↓reduceIte, Nat.reduceEqDiff, Nat.reduceAdd, Nat.reduceMul, Nat.reduceSub, Nat.reduceLT, Int.reduceToNat]))
    have he : (lI b.words).take i = lI b.words := List.take_of_length_le (by omega)
    rw [he] at ha
    have hdec : decide (((lI b.words).length : Int) = (b.size + 15) / 16) = true := by simp [hc2]
    rw [ha]
    try rw [hdec]
    unfold lastOk
    by_cases hz : b.size % 16 = 0
    · (try (simp (disch := first | omega | (simp <;> omega) | fail) only [push_cast, ↓reduceIte, Nat.reduceEqDiff, Nat.reduceAdd, Nat.reduceMul, Nat.reduceSub, Nat.reduceLT, Int.reduceToNat, hbox, hz]))
      all_goals (try simp)
    · have hln : 1 ≤ (lI b.words).length := by omega
      have hm : 0 ≤ b.size % 16 ∧ b.size % 16 ≤ 15 := by omega
      (try (simp (disch := first | omega | (simp <;> omega) | fail) only [push_cast, ↓reduceIte, Nat.reduceEqDiff, Nat.reduceAdd, Nat.reduceMul, Nat.reduceSub, Nat.reduceLT, Int.reduceToNat, hbox, hz]))
      (first | refine goC_split (fun hc => ?_) (fun hc => ?_) | refine cnd_split (fun hc => ?_) (fun hc => ?_)) <;> ((try (simp (disch := first | omega | (simp <;> omega) | fail) only [push_cast, ↓reduceIte, Nat.reduceEqDiff, Nat.reduceAdd, Nat.reduceMul, Nat.reduceSub, Nat.reduceLT, Int.reduceToNat]))) <;> (try rw [hc])

theorem c_slices_Equal_int (a b : Option (List Int)) : Fn Tryz.prog 92 [eI a, eI b] (· = .bool (decide (lI a = lI b))) := by
  refine Fn.of free_bool fun h => ?_
  refine enter (by kernel_rfl) e92 (by kernel_rfl) rfl fun hok => ?_
  simp only [r92, initEnv_2]
  have ha := ok_eI (okV_0 hok)
  have hb := ok_eI (okV_1 hok)
  (try (simp (disch := first | omega | (simp <;> omega) | fail) only [push_cast, ↓reduceIte, Nat.reduceEqDiff, Nat.reduceAdd, Nat.reduceMul, Nat.reduceSub, Nat.reduceLT, Int.reduceToNat]))
  first | refine goC_split (fun hc => ?_) (fun hc => ?_) | refine cnd_split (fun hc => ?_) (fun hc => ?_)
  · (try (simp only [decide_eq_true_eq, decide_eq_false_iff_not, Bool.not_eq_true', Bool.not_eq_false', Bool.and_eq_true, Bool.or_eq_true, Int.not_lt, Int.not_le] at hc)); (try (simp (disch := first | omega | (simp <;> omega) | fail) only [push_cast, ↓reduceIte, Nat.reduceEqDiff, Nat.reduceAdd, Nat.reduceMul, Nat.reduceSub, Nat.reduceLT, Int.reduceToNat]))
    symm
    rw [decide_eq_false_iff_not]
    intro he
    rw [he] at hc
    exact hc rfl
  have hlen : (lI a).length = (lI b).length := by (try (simp only [decide_eq_true_eq, decide_eq_false_iff_not, Bool.not_eq_true', Bool.not_eq_false', Bool.and_eq_true, Bool.or_eq_true, Int.not_lt, Int.not_le] at hc)); (try (simp (disch := first | omega | (simp <;> omega) | fail) only [push_cast, ↓reduceIte, Nat.reduceEqDiff, Nat.reduceAdd, Nat.reduceMul, Nat.reduceSub, Nat.reduceLT, Int.reduceToNat])); omega
  (try (simp (disch := first | omega | (simp <;> omega) | fail) only [push_cast, ↓reduceIte, Nat.reduceEqDiff, Nat.reduceAdd, Nat.reduceMul, Nat.reduceSub, Nat.reduceLT, Int.reduceToNat]))
  refine T_for (lI a).length (fun i e h' => Pins e [(0, eI a), (1, eI b), (11, eI a), (12, .int .i64 (lI a).length), (13, .int .i64 i)] ∧ h' = h ∧ (lI a).take i = (lI b).take i) ?_ ?_
  · (try (simp (disch := first | omega | (simp <;> omega) | fail) only [push_cast, ↓reduceIte, Nat.reduceEqDiff, Nat.reduceAdd, Nat.reduceMul, Nat.reduceSub, Nat.reduceLT, Int.reduceToNat]))
    simp
  rintro i e h' hi ⟨hp, rfl, he⟩
  refine T_pins hp fun e => ?_
  (try (simp (disch := first | omega | (simp <;> omega) | fail) only [push_cast, ↓reduceIte, Nat.reduceEqDiff, Nat.reduceAdd, Nat.reduceMul, Nat.reduceSub, Nat.reduceLT, Int.reduceToNat]))
  first | refine goC_split (fun hc => ?_) (fun hc => ?_) | refine cnd_split (fun hc => ?_) (fun hc => ?_)
  · (try (simp only [decide_eq_true_eq, decide_eq_false_iff_not, Bool.not_eq_true', Bool.not_eq_false', Bool.and_eq_true, Bool.or_eq_true, Int.not_lt, Int.not_le] at hc)); (try (simp (disch := first | omega | (simp <;> omega) | fail) only [push_cast, ↓reduceIte, Nat.reduceEqDiff, Nat.reduceAdd, Nat.reduceMul, Nat.reduceSub, Nat.reduceLT, Int.reduceToNat]))
    have hi : i < (lI a).length := by omega
    (try (simp (disch := first | omega | (simp <;> omega) | fail) only [push_cast, ↓reduceIte, Nat.reduceEqDiff, Nat.reduceAdd, Nat.reduceMul, Nat.reduceSub, Nat.reduceLT, Int.reduceToNat]))
    first | refine goC_split (fun hc => ?_) (fun hc => ?_) | refine cnd_split (fun hc => ?_) (fun hc => ?_)
    · (try (simp only [decide_eq_true_eq, decide_eq_false_iff_not, Bool.not_eq_true', Bool.not_eq_false', Bool.and_eq_true, Bool.or_eq_true, Int.not_lt, Int.not_le] at hc)); (try (simp (disch := first | omega | (simp <;> omega) | fail) only [push_cast, ↓reduceIte, Nat.reduceEqDiff, Nat.reduceAdd, Nat.reduceMul, Nat.reduceSub, Nat.reduceLT, Int.reduceToNat]))
      symm
      rw [decide_eq_false_iff_not]
      intro he
      rw [he] at hc
      exact hc rfl
    · (try (simp only [decide_eq_true_eq, decide_eq_false_iff_not, Bool.not_eq_true', Bool.not_eq_false', Bool.and_eq_true, Bool.or_eq_true, Int.not_lt, Int.not_le] at hc)); (try (simp (disch := first | omega | (simp <;> omega) | fail) only [push_cast, ↓reduceIte, Nat.reduceEqDiff, Nat.reduceAdd, Nat.reduceMul, Nat.reduceSub, Nat.reduceLT, Int.reduceToNat]))
      have h1 : i < (lI b).length := by omega
      simp [hi, h1] at hc
      rw [List.take_add_one, List.take_add_one, he]
      simp [hi, h1, hc]
  · (try (simp only [decide_eq_true_eq, decide_eq_false_iff_not, Bool.not_eq_true', Bool.not_eq_false', Bool.and_eq_true, Bool.or_eq_true, Int.not_lt, Int.not_le] at hc)); (try (simp (disch := first | omega | (simp <;> omega) | fail) only [push_cast, ↓reduceIte, Nat.reduceEqDiff, Nat.reduceAdd, Nat.reduceMul, Nat.reduceSub, Nat.reduceLT, Int.reduceToNat]))
    have hi2 : i = (lI a).length := by omega
    symm
    rw [decide_eq_true_iff]
    rw [hi2, List.take_length] at he
    rw [he, hlen, List.take_length]

theorem c_impl_sameBits (a b : Bt) : Fn Tryz.prog 50 [eB a, eB b] (· = .bool (sameB a b)) := by
  refine Fn.of free_bool fun h => ?_
  refine enter (by kernel_rfl) e50 (by kernel_rfl) rfl fun hok => ?_
  simp only [r50, initEnv_2]
  unfold sameB
  cases hs : decide (a.size = b.size)
  · (try (simp (disch := first | omega | (simp <;> omega) | fail) only [push_cast, ↓reduceIte, Nat.reduceEqDiff, Nat.reduceAdd, Nat.reduceMul, Nat.reduceSub, Nat.reduceLT, Int.reduceToNat, hs]))
  (try (simp (disch := first | omega | (simp <;> omega) | fail) only [push_cast, ↓reduceIte, Nat.reduceEqDiff, Nat.reduceAdd, Nat.reduceMul, Nat.reduceSub, Nat.reduceLT, Int.reduceToNat, hs]))
  refine (c_slices_Equal_int a.words b.words).call ?_
  (try (simp (disch := first | omega | (simp <;> omega) | fail) only [push_cast, ↓reduceIte, Nat.reduceEqDiff, Nat.reduceAdd, Nat.reduceMul, Nat.reduceSub, Nat.reduceLT, Int.reduceToNat, hs]))

theorem c_impl_Sparse_numbers_o (s : Spa) : FnO Tryz.prog 17 [.rad (cSp s) 0] (fun x => ∃ o, x = .tup [eI o, .bool (okSp s)] ∧ (okSp s = true → lI o = natI (spLs s)) ∧ (lI o).length ≤ 60 ∧ ∀ m ∈ lI o, inR m) := by
  intro h
  obtain ⟨sc, sl, sw, ⟨ls, lws⟩, ⟨hz, hws⟩⟩ := s
  refine enter (by kernel_rfl) e17 (by kernel_rfl) rfl fun hok => ?_
  simp only [r17, initEnv_1]
  have hnone : ∀ {hh : H}, okSp ⟨sc, sl, sw, ⟨ls, lws⟩, ⟨hz, hws⟩⟩ = false → ∃ t, Ow hh [.tup [.nils, .bool false]] [t] (fun c => h.length ≤ c) ∧ ∃ o, t = .tup [eI o, .bool (okSp ⟨sc, sl, sw, ⟨ls, lws⟩, ⟨hz, hws⟩⟩)] ∧ (okSp ⟨sc, sl, sw, ⟨ls, lws⟩, ⟨hz, hws⟩⟩ = true → lI o = natI (spLs ⟨sc, sl, sw, ⟨ls, lws⟩, ⟨hz, hws⟩⟩)) ∧ (lI o).length ≤ 60 ∧ ∀ m ∈ lI o, inR m := fun h1 => ⟨.tup [.nils, .bool false], (Ow.two (F := fun _ => False) (F' := fun _ => False) (.atom rfl .nil) (.atom rfl .nil) (fun c (hc : False) => hc.elim) (fun _ h => h.elim)).tupOf, none, by rw [h1]; rfl, (fun h5 => by rw [h1] at h5; cases h5), by simp [lI], fun m hm => by simp [lI] at hm⟩
  have hpre : preSp ⟨sc, sl, sw, ⟨ls, lws⟩, ⟨hz, hws⟩⟩ = false → okSp ⟨sc, sl, sw, ⟨ls, lws⟩, ⟨hz, hws⟩⟩ = false := fun h1 => by unfold okSp; rw [h1]; rfl
  have hWF := c_impl_WidthFor sc sl
  (try (simp (disch := first | omega | (simp <;> omega) | fail) only [push_cast, ↓reduceIte, Nat.reduceEqDiff, Nat.reduceAdd, Nat.reduceMul, Nat.reduceSub, Nat.reduceLT, Int.reduceToNat]))
  refine hWF.call ?_
  cases h1 : ((decide (0 ≤ sc) && decide (sc ≤ 60)) && limOk sl)
  · have hl := hpre (by unfold preSp; rw [h1]; rfl)
    (try (simp (disch := first | omega | (simp <;> omega) | fail) only [push_cast, ↓reduceIte, Nat.reduceEqDiff, Nat.reduceAdd, Nat.reduceMul, Nat.reduceSub, Nat.reduceLT, Int.reduceToNat]))
    all_goals (try exact hnone hl)
  simp only [if_true]
  by_cases hw : sw = ((wid sc.toNat sl.toNat : Nat) : Int)
  · have hweq : ((wid sc.toNat sl.toNat : Nat) : Int) = sw := hw.symm
    have hw16 := wid_le (c := sc.toNat) (l := sl.toNat) (by simp only [limOk, Bool.and_eq_true, decide_eq_true_eq] at h1; omega)
    rw [hweq]
    (try (simp (disch := first | omega | (simp <;> omega) | fail) only [push_cast, ↓reduceIte, Nat.reduceEqDiff, Nat.reduceAdd, Nat.reduceMul, Nat.reduceSub, Nat.reduceLT, Int.reduceToNat, reads, List.mem_cons, List.mem_append, List.not_mem_nil, nat_ff, or_self, or_false, false_or, not_false_eq_true]))
    refine (c_impl_IsBits ⟨ls, lws⟩).call ?_
    cases k1 : okBt ⟨ls, lws⟩
    · have hl := hpre (by unfold preSp; rw [k1]; simp)
      (try (simp (disch := first | omega | (simp <;> omega) | fail) only [push_cast, ↓reduceIte, Nat.reduceEqDiff, Nat.reduceAdd, Nat.reduceMul, Nat.reduceSub, Nat.reduceLT, Int.reduceToNat]))
      all_goals (try exact hnone hl)
    (try (simp (disch := first | omega | (simp <;> omega) | fail) only [push_cast, ↓reduceIte, Nat.reduceEqDiff, Nat.reduceAdd, Nat.reduceMul, Nat.reduceSub, Nat.reduceLT, Int.reduceToNat, reads, List.mem_cons, List.mem_append, List.not_mem_nil, nat_ff, or_self, or_false, false_or, not_false_eq_true]))
    refine (c_impl_IsBits ⟨hz, hws⟩).call ?_
    cases k2 : okBt ⟨hz, hws⟩
    · have hl := hpre (by unfold preSp; rw [k2]; simp)
      (try (simp (disch := first | omega | (simp <;> omega) | fail) only [push_cast, ↓reduceIte, Nat.reduceEqDiff, Nat.reduceAdd, Nat.reduceMul, Nat.reduceSub, Nat.reduceLT, Int.reduceToNat]))
      all_goals (try exact hnone hl)
    have hcb : 0 ≤ sc ∧ sc ≤ 60 := by simp only [Bool.and_eq_true, decide_eq_true_eq] at h1; omega
    have hmb := mul_bd (x := sw) (y := sc) (a := 16) (b := 60) (by omega) (by omega) (by omega) (by omega)
    by_cases hsz : ls = sw * sc
    · have hp : preSp ⟨sc, sl, sw, ⟨ls, lws⟩, ⟨hz, hws⟩⟩ = true := by unfold preSp; rw [h1, k1, k2, decide_eq_true hw, decide_eq_true hsz]; rfl
      obtain ⟨cnt, lim, n, e1, e2, e3, e4, e5, e6, e7, e8, e9, ho, hls⟩ := preSp_of hp
      simp only at e1 e2 e3 e4 e7 e8 e9
      obtain ⟨w, hwd⟩ : ∃ w, w = wid cnt lim := ⟨_, rfl⟩
      rw [← hwd] at e3 e9 ho hls
      subst e1 e2 e3 e4
      obtain ⟨o1, o2, o3, o4, o5, o6, o7, o8, o9, o10, o11, o12⟩ := ho
      simp only at o1 o2
      obtain ⟨lb, hlb⟩ : ∃ lb, lb = numW (lI lws) := ⟨_, rfl⟩
      obtain ⟨hb, hhb⟩ : ∃ hb, hb = numW (lI hws) := ⟨_, rfl⟩
      obtain ⟨ml, hml⟩ : ∃ ml, ml = (lI lws).length := ⟨_, rfl⟩
      obtain ⟨mh, hmh⟩ : ∃ mh, mh = (lI hws).length := ⟨_, rfl⟩
      simp only at hls o6 o7 o11 o12
      rw [← hlb, ← hml] at o1
      rw [← hhb, ← hmh] at o2
      rw [← hml] at o6 o11
      rw [← hmh] at o7 o12
      rw [← hlb, ← hhb] at hls
      have hws5 : (cSp ⟨(cnt : Int), (lim : Int), (w : Int), ⟨ls, lws⟩, ⟨(n : Int), hws⟩⟩)[5 + 1]? = some (eI hws) := rfl
      have hws3 : (cSp ⟨(cnt : Int), (lim : Int), (w : Int), ⟨ls, lws⟩, ⟨(n : Int), hws⟩⟩)[3 + 1]? = some (eI lws) := rfl
      have hdz : decide (ls = (w : Int) * (cnt : Int)) = true := decide_eq_true hsz
      (try (simp (disch := first | omega | (simp <;> omega) | fail) only [push_cast, ↓reduceIte, Nat.reduceEqDiff, Nat.reduceAdd, Nat.reduceMul, Nat.reduceSub, Nat.reduceLT, Int.reduceToNat, hdz]))
      refine T_for n (fun i e h' => ∃ v, Pins e [(0, .rad (cSp ⟨(cnt : Int), (lim : Int), (w : Int), ⟨ls, lws⟩, ⟨(n : Int), hws⟩⟩) 0), (4, .int .i64 w), (6, v), (67, .int .i64 n), (68, .int .i64 i)] ∧ LsI h.length h' v (spL hb lb w cnt i)) ?_ ?_
      · refine ⟨.sl h.length 0 1 0 0, ?_⟩
        have hini : LsI h.length (h ++ [some (.cells [])]) (.sl h.length 0 1 0 0) (spL hb lb w cnt 0) := ⟨by simp, [h.length], ⟨by simp [spL, natI], .inr ⟨h.length, rfl, rfl, by rw [cells_h0]; rfl⟩⟩, by simp⟩
        (try (simp (disch := first | omega | (simp <;> omega) | fail) only [push_cast, ↓reduceIte, Nat.reduceEqDiff, Nat.reduceAdd, Nat.reduceMul, Nat.reduceSub, Nat.reduceLT, Int.reduceToNat]))
        all_goals (try exact hini)
      rintro i e h' hi ⟨v, hp2, hs⟩
      refine T_pins hp2 fun e => ?_
      have hlen := hs.len
      obtain ⟨l1, l2⟩ := spL_len (hb := hb) (lb := lb) (w := w) (cnt := cnt) i
      obtain ⟨L, hL⟩ : ∃ L, L = spL hb lb w cnt i := ⟨_, rfl⟩
      have hsu : spL hb lb w cnt (i + 1) = if hb.testBit i = true ∧ L.length < cnt then L ++ [(i - L.length) * 2 ^ w + fldN lb (L.length * w) w] else L := by rw [spL, ← hL]
      rw [← hL] at hs hlen l1 l2
      (try (simp (disch := first | omega | (simp <;> omega) | fail) only [push_cast, ↓reduceIte, Nat.reduceEqDiff, Nat.reduceAdd, Nat.reduceMul, Nat.reduceSub, Nat.reduceLT, Int.reduceToNat]))
      first | refine goC_split (fun hc => ?_) (fun hc => ?_) | refine cnd_split (fun hc => ?_) (fun hc => ?_)
      · (try (simp only [decide_eq_true_eq, decide_eq_false_iff_not, Bool.not_eq_true', Bool.not_eq_false', Bool.and_eq_true, Bool.or_eq_true, Int.not_lt, Int.not_le] at hc)); (try (simp (disch := first | omega | (simp <;> omega) | fail) only [push_cast, ↓reduceIte, Nat.reduceEqDiff, Nat.reduceAdd, Nat.reduceMul, Nat.reduceSub, Nat.reduceLT, Int.reduceToNat]))
        have hin : i < n := by omega
        (try (simp (disch := first | omega | (simp <;> omega) | fail) only [push_cast, ↓reduceIte, Nat.reduceEqDiff, Nat.reduceAdd, Nat.reduceMul, Nat.reduceSub, Nat.reduceLT, Int.reduceToNat, hlen]))
        refine (c_impl_Bits_at hws hb mh i _ 5 hws5 o2 (by omega) (by omega)).call ?_
        cases hbt : hb.testBit i
        · rw [hbt] at hsu
          have hsu2 : spL hb lb w cnt (i + 1) = L := by rw [hsu]; simp
          (try (simp (disch := first | omega | (simp <;> omega) | fail) only [push_cast, ↓reduceIte, Nat.reduceEqDiff, Nat.reduceAdd, Nat.reduceMul, Nat.reduceSub, Nat.reduceLT, Int.reduceToNat]))
          all_goals (try (rw [hsu2]))
          all_goals (try exact ⟨_, rfl, hs⟩)
          all_goals (try exact ⟨_, hs⟩)
          all_goals (try exact hs)
        by_cases hlc : L.length < cnt
        · have hlw : L.length * w ≤ 60 * 16 := Nat.mul_le_mul (by omega) o9
          have hlw2 : L.length * w + w ≤ 16 * ml := by
            have : (L.length + 1) * w ≤ cnt * w := Nat.mul_le_mul_right _ (by omega)
            rw [Nat.add_mul, Nat.one_mul] at this
            omega
          have hmul : (L.length : Int) * (w : Int) = ((L.length * w : Nat) : Int) := by simp
          have hpw : 2 ^ w ≤ 2 ^ 16 := Nat.pow_le_pow_right (by decide) o9
          have hgl : (i - L.length) * 2 ^ w ≤ 4096 * 2 ^ 16 := Nat.mul_le_mul (by omega) hpw
          have hsh : IntKind.i64.wrap (((i : Int) - (L.length : Int)) * 2 ^ (min w IntKind.i64.bits)) = (((i - L.length) * 2 ^ w : Nat) : Int) := by
            have := shlN (a := i - L.length) (b := w) (by omega) (by omega)
            rw [← this]
            congr 2
            omega
          have hfl := fldN_lt (B := lb) (a := L.length * w) (w := w)
          have hora := or_add (a := i - L.length) (f := fldN lb (L.length * w) w) (w := w) hfl
          have horb := bitsI_or (x := (i - L.length) * 2 ^ w) (y := fldN lb (L.length * w) w) (by omega) (by omega)
          rw [hora] at horb
          obtain ⟨lw, hlwd⟩ : ∃ lw, lw = L.length * w := ⟨_, rfl⟩
          obtain ⟨g, hg⟩ : ∃ g, g = (i - L.length) * 2 ^ w := ⟨_, rfl⟩
          rw [← hlwd] at hlw hlw2 hmul hfl hsu horb
          rw [← hg] at hgl hsh hsu horb
          obtain ⟨f, hf⟩ : ∃ f, f = fldN lb lw w := ⟨_, rfl⟩
          have hfd := c_impl_Bits_field lws lb ml lw w _ 3 hws3 o1 hlw2 (by omega) (by omega)
          rw [← hf] at hfl hsu horb hfd
          obtain ⟨y, hy⟩ : ∃ y, y = g + f := ⟨_, rfl⟩
          rw [← hy] at hsu horb
          rw [hbt] at hsu
          have hsu2 : spL hb lb w cnt (i + 1) = L ++ [y] := by rw [hsu, if_pos ⟨rfl, hlc⟩]
          have hc2 : decide ((L.length : Int) < (cnt : Int)) = true := by simp [hlc]
          (try (simp (disch := first | omega | (simp <;> omega) | fail) only [push_cast, ↓reduceIte, Nat.reduceEqDiff, Nat.reduceAdd, Nat.reduceMul, Nat.reduceSub, Nat.reduceLT, Int.reduceToNat, hc2, hsh, hmul]))
          refine hfd.call ?_
          (try (simp (disch := first | omega | (simp <;> omega) | fail) only [push_cast, ↓reduceIte, Nat.reduceEqDiff, Nat.reduceAdd, Nat.reduceMul, Nat.reduceSub, Nat.reduceLT, Int.reduceToNat, horb, reads, List.mem_cons, List.mem_append, List.not_mem_nil, nat_ff, or_self, or_false, false_or, not_false_eq_true]))
          refine hs.app (fun c hc => by first | exact Or.inr (by omega) | exact ⟨Or.inr (by omega), by omega⟩ | exact ⟨Or.inr (by omega), by simp; omega⟩) (by omega) fun v' h'' q1 q2 q3 => ?_
          rw [← hsu2] at q1
          (try (simp (disch := first | omega | (simp <;> omega) | fail) only [push_cast, ↓reduceIte, Nat.reduceEqDiff, Nat.reduceAdd, Nat.reduceMul, Nat.reduceSub, Nat.reduceLT, Int.reduceToNat]))
          all_goals (try exact ⟨_, rfl, q1⟩)
          all_goals (try exact ⟨_, q1⟩)
          all_goals (try exact q1)
        · have hc2 : decide ((L.length : Int) < (cnt : Int)) = false := by simp; omega
          rw [if_neg (fun h5 => hlc h5.2)] at hsu
          (try (simp (disch := first | omega | (simp <;> omega) | fail) only [push_cast, ↓reduceIte, Nat.reduceEqDiff, Nat.reduceAdd, Nat.reduceMul, Nat.reduceSub, Nat.reduceLT, Int.reduceToNat, hc2]))
          all_goals (try (rw [hsu]))
          all_goals (try exact ⟨_, rfl, hs⟩)
          all_goals (try exact ⟨_, hs⟩)
          all_goals (try exact hs)
      · (try (simp only [decide_eq_true_eq, decide_eq_false_iff_not, Bool.not_eq_true', Bool.not_eq_false', Bool.and_eq_true, Bool.or_eq_true, Int.not_lt, Int.not_le] at hc)); (try (simp (disch := first | omega | (simp <;> omega) | fail) only [push_cast, ↓reduceIte, Nat.reduceEqDiff, Nat.reduceAdd, Nat.reduceMul, Nat.reduceSub, Nat.reduceLT, Int.reduceToNat]))
        have hie : i = n := by omega
        subst hie
        rw [← hL] at hls
        obtain ⟨oo, hvo, hlo⟩ := hs.vw (n := 0) (Nat.zero_le _)
        obtain ⟨o2', hvo2, hlo2⟩ := hs.vw (n := h.length) (Nat.le_refl _)
        have hxL : ∀ x ∈ L, x < 100000000000 := fun x hx => by
          have h5 := spL_lt i x (by rw [← hL]; exact hx)
          have h6 : 2 ^ w ≤ 2 ^ 16 := Nat.pow_le_pow_right (by decide) o9
          have h7 : i * 2 ^ w ≤ 4096 * 2 ^ 16 := Nat.mul_le_mul o10 h6
          omega
        have hrng : ∀ m ∈ natI L, inR m := fun m hm => by
          obtain ⟨x, hx, rfl⟩ := List.mem_map.1 hm
          have := hxL x hx
          unfold inR
          omega
        have hl60 : (natI L).length ≤ 60 := by rw [natI_len]; omega
        have hres : ∀ (hh : H) (b : Bool), (∀ c, h.length ≤ c → c < h'.length → hh[c]? = h'[c]?) → okSp ⟨(cnt : Int), (lim : Int), (w : Int), ⟨ls, lws⟩, ⟨(i : Int), hws⟩⟩ = b → ∃ t, Ow hh [.tup [v, .bool b]] [t] (fun c => h.length ≤ c) ∧ ∃ o, t = .tup [eI o, .bool (okSp ⟨(cnt : Int), (lim : Int), (w : Int), ⟨ls, lws⟩, ⟨(i : Int), hws⟩⟩)] ∧ (okSp ⟨(cnt : Int), (lim : Int), (w : Int), ⟨ls, lws⟩, ⟨(i : Int), hws⟩⟩ = true → lI o = natI (spLs ⟨(cnt : Int), (lim : Int), (w : Int), ⟨ls, lws⟩, ⟨(i : Int), hws⟩⟩)) ∧ (lI o).length ≤ 60 ∧ ∀ m ∈ lI o, inR m := fun hh b hk hb2 => by
          have hs3 : LsI h.length hh v L ∨ True := .inr trivial
          obtain ⟨_, B, hS, hB⟩ := id hs
          have hS2 := hS.frame (h' := hh) fun c hc => hk c (hB c hc) (hS.lt c hc)
          rcases hS2.2 with ⟨rfl, h0, _⟩ | ⟨b2, rfl, hbb, hcb⟩
          · have hL0 : L = [] := List.length_eq_zero_iff.1 h0
            refine ⟨.tup [eI none, .bool b], (Ow.two (F := fun _ => False) (F' := fun _ => False) (.atom rfl .nil) (.atom rfl .nil) (fun c (hc : False) => hc.elim) (fun _ h => h.elim)).tupOf, none, by rw [hb2], fun _ => by rw [hls, hL0]; rfl, by simp [lI], fun m hm => by simp [lI] at hm⟩
          · have ho2 : Ow hh [.sl b2 0 1 L.length L.length] [.ro 1 ((natI L).map (.int .i64)) L.length] (fun c => h.length ≤ c) := ow_map (f := AV.int .i64) (fun _ => rfl) hcb natI_len (hB b2 (by rw [hbb]; simp))
            refine ⟨_, (Ow.two (F' := fun _ => False) ho2 (.atom rfl .nil) (fun c hc => hc) (fun _ h => h.elim)).tupOf, some (natI L), ?_, fun _ => by rw [hls]; rfl, hl60, hrng⟩
            rw [hb2]
            show AV.tup [.ro 1 ((natI L).map (.int .i64)) L.length, .bool b] = AV.tup [.ro 1 ((natI L).map (.int .i64)) (natI L).length, .bool b]
            rw [natI_len]
        have hmid : midSp ⟨(cnt : Int), (lim : Int), (w : Int), ⟨ls, lws⟩, ⟨(i : Int), hws⟩⟩ = (decide (L.length = cnt) && srt (natI L) lim) := by
          unfold midSp
          rw [hls]
          rfl
        have hfin : finSp ⟨(cnt : Int), (lim : Int), (w : Int), ⟨ls, lws⟩, ⟨(i : Int), hws⟩⟩ = (sameB (lowB L w) ⟨ls, lws⟩ && sameB (hiB L lim w) ⟨(i : Int), hws⟩) := by
          unfold finSp
          rw [hls]
          rfl
        have hok2 : okSp ⟨(cnt : Int), (lim : Int), (w : Int), ⟨ls, lws⟩, ⟨(i : Int), hws⟩⟩ = ((decide (L.length = cnt) && srt (natI L) lim) && (sameB (lowB L w) ⟨ls, lws⟩ && sameB (hiB L lim w) ⟨(i : Int), hws⟩)) := by
          unfold okSp
          rw [hp, hmid, hfin]
          rfl
        by_cases hlc : L.length = cnt
        · have hd1 : decide ((L.length : Int) = (cnt : Int)) = true := by simp [hlc]
          rw [decide_eq_true hlc, Bool.true_and] at hok2
          (try (simp (disch := first | omega | (simp <;> omega) | fail) only [push_cast, ↓reduceIte, Nat.reduceEqDiff, Nat.reduceAdd, Nat.reduceMul, Nat.reduceSub, Nat.reduceLT, Int.reduceToNat, hlen, hd1]))
          refine (c_impl_sortedOk oo lim (by omega) (by omega)).lendL (.cons hvo (.free free_int .nil)) own_bool ?_
          rw [hlo]
          cases hsr : srt (natI L) lim
          · rw [hsr] at hok2
            have hl := hok2
            simp only [Bool.false_and] at hl
            (try (simp (disch := first | omega | (simp <;> omega) | fail) only [push_cast, ↓reduceIte, Nat.reduceEqDiff, Nat.reduceAdd, Nat.reduceMul, Nat.reduceSub, Nat.reduceLT, Int.reduceToNat]))
            all_goals (try exact hnone hl)
          · rw [hsr, Bool.true_and] at hok2
            obtain ⟨s1, s2, s3, s4⟩ := srt_in hsr
            rw [natI_len] at s1 s4
            have hlt : ∀ j, j < L.length → L.getD j 0 < lim := fun j hj => by
              have := (s4 j hj).2
              rw [natI_get] at this
              omega
            have hwl : wid L.length lim = w := by rw [hlc, hwd]
            have hspo := c_impl_sparse_o L lim oo hlo s1 e5 e6 hlt
            have hsv : spV L lim = ⟨L.length, lim, w, lowB L w, hiB L lim w⟩ := by unfold spV; rw [hwl]
            rw [hsv] at hspo
            (try (simp (disch := first | omega | (simp <;> omega) | fail) only [push_cast, ↓reduceIte, Nat.reduceEqDiff, Nat.reduceAdd, Nat.reduceMul, Nat.reduceSub, Nat.reduceLT, Int.reduceToNat]))
            refine hspo.goL (.cons hvo (.free free_int .nil)) fun x t g1 hR hx how => ?_
            subst hR
            obtain ⟨x5, x7, F5, F7, rfl, p5, p7, u5, u7, _⟩ := ow_sp how
            obtain ⟨c1, c2⟩ := ow_eI p5
            obtain ⟨c3, c4⟩ := ow_eI p7
            have v5 : ∀ l, Vw (g1 ++ l) 0 (.agg [.int .i64 (lowB L w).size, x5]) (eB (lowB L w)) := fun l => .agg rfl fun j y t hy ht => by
              rcases j with _ | _ | j
              · simp [cB] at hy ht
                subst hy ht
                exact .free free_int
              · simp [cB] at hy ht
                subst hy ht
                exact (p5.frame (h' := g1 ++ l) fun c hc => List.getElem?_append_left (u5 c hc).2).vw0
              · simp at hy
            have v7 : ∀ l, Vw (g1 ++ l) 0 (.agg [.int .i64 (hiB L lim w).size, x7]) (eB (hiB L lim w)) := fun l => .agg rfl fun j y t hy ht => by
              rcases j with _ | _ | j
              · simp [cB] at hy ht
                subst hy ht
                exact .free free_int
              · simp [cB] at hy ht
                subst hy ht
                exact (p7.frame (h' := g1 ++ l) fun c hc => List.getElem?_append_left (u7 c hc).1.2).vw0
              · simp at hy
            have hl1 := hx.len
            simp only
            generalize (lowB L w) = lB at *
            generalize (hiB L lim w) = hB2 at *
            have hkk : ∀ l : H, ∀ c, h.length ≤ c → c < h'.length → (g1 ++ l)[c]? = h'[c]? := fun l c _ hc => (List.getElem?_append_left (by omega)).trans (hx.at_ hc)
            have hlg : h.length ≤ g1.length := by have := hs.1; omega
            have hpm9 : (h.length ≤ g1.length) = True := eq_true hlg
            (try (simp (disch := first | omega | (simp <;> omega) | fail) only [push_cast, ↓reduceIte, Nat.reduceEqDiff, Nat.reduceAdd, Nat.reduceMul, Nat.reduceSub, Nat.reduceLT, Int.reduceToNat, c1, c2, c3, c4, hpm9, or_true, true_and, reads, List.mem_cons, List.mem_append, List.not_mem_nil, nat_ff, or_self, or_false, false_or, not_false_eq_true]))
            refine (c_impl_sameBits lB ⟨ls, lws⟩).lendL (.cons (v5 _) (.free (free_eB (b := ⟨ls, lws⟩)) .nil)) own_bool ?_
            cases hs1 : sameB lB ⟨ls, lws⟩
            · rw [hs1, Bool.false_and] at hok2
              have hfn := fun l => hres (g1 ++ l) false (hkk l) hok2
              (try (simp (disch := first | omega | (simp <;> omega) | fail) only [push_cast, ↓reduceIte, Nat.reduceEqDiff, Nat.reduceAdd, Nat.reduceMul, Nat.reduceSub, Nat.reduceLT, Int.reduceToNat, c1, c2, c3, c4, reads, List.mem_cons, List.mem_append, List.not_mem_nil, nat_ff, or_self, or_false, false_or, not_false_eq_true]))
              all_goals (try exact hfn _)
            · rw [hs1, Bool.true_and] at hok2
              (try (simp (disch := first | omega | (simp <;> omega) | fail) only [push_cast, ↓reduceIte, Nat.reduceEqDiff, Nat.reduceAdd, Nat.reduceMul, Nat.reduceSub, Nat.reduceLT, Int.reduceToNat, c1, c2, c3, c4, reads, List.mem_cons, List.mem_append, List.not_mem_nil, nat_ff, or_self, or_false, false_or, not_false_eq_true]))
              refine (c_impl_sameBits hB2 ⟨(i : Int), hws⟩).lendL (.cons (v7 _) (.free (free_eB (b := ⟨(i : Int), hws⟩)) .nil)) own_bool ?_
              have hfn := fun l => hres (g1 ++ l) _ (hkk l) hok2
              (try (simp (disch := first | omega | (simp <;> omega) | fail) only [push_cast, ↓reduceIte, Nat.reduceEqDiff, Nat.reduceAdd, Nat.reduceMul, Nat.reduceSub, Nat.reduceLT, Int.reduceToNat, c1, c2, c3, c4, reads, List.mem_cons, List.mem_append, List.not_mem_nil, nat_ff, or_self, or_false, false_or, not_false_eq_true]))
              all_goals (try exact hfn _)
        · have hd1 : decide ((L.length : Int) = (cnt : Int)) = false := by simp; omega
          rw [decide_eq_false hlc] at hok2
          have hl := hok2
          simp only [Bool.false_and] at hl
          (try (simp (disch := first | omega | (simp <;> omega) | fail) only [push_cast, ↓reduceIte, Nat.reduceEqDiff, Nat.reduceAdd, Nat.reduceMul, Nat.reduceSub, Nat.reduceLT, Int.reduceToNat, hlen, hd1]))
          all_goals (try exact hnone hl)
    · have hl := hpre (by unfold preSp; rw [decide_eq_false hsz]; simp)
      (try (simp (disch := first | omega | (simp <;> omega) | fail) only [push_cast, ↓reduceIte, Nat.reduceEqDiff, Nat.reduceAdd, Nat.reduceMul, Nat.reduceSub, Nat.reduceLT, Int.reduceToNat, hsz]))
      all_goals (try exact hnone hl)
  · have hl := hpre (by unfold preSp; rw [decide_eq_false hw]; simp)
    have hw2 : ¬ ((wid sc.toNat sl.toNat : Nat) : Int) = sw := fun h5 => hw h5.symm
    (try (simp (disch := first | omega | (simp <;> omega) | fail) only [push_cast, ↓reduceIte, Nat.reduceEqDiff, Nat.reduceAdd, Nat.reduceMul, Nat.reduceSub, Nat.reduceLT, Int.reduceToNat, hw2, reads, List.mem_cons, List.mem_append, List.not_mem_nil, nat_ff, or_self, or_false, false_or, not_false_eq_true]))
    all_goals (try exact hnone hl)

theorem c_strconv_Itoa (n : Int) (h0 : -9223372036854775808 ≤ n) (h1 : n ≤ 9223372036854775807) : Fn Tryz.prog 18 [.int .i64 n] (· = .str (Lib.itoa n)) :=
  Fn.ofGrow (canEnter_of Tryz.func18 (by kernel_rfl) (by kernel_rfl)) fun S w μ cargs hg ha => by
    obtain ⟨v, rfl, hv⟩ := ar_1 ha
    rw [hv.int_]
    refine ⟨.string ⟨(Lib.itoa n).toArray⟩, fun S w μ => .str _ (by
      have := Lib.itoa_length_le n h0 h1
      omega), Tryz.strconv_Itoa n h0 h1 w (gl_tab hg (List.mem_singleton.2 rfl) (by kernel_rfl))⟩

theorem c_impl_SealText (s : Str) (hl : s.length ≤ 1000000000) : Fn Tryz.prog 52 [.str s] (· = sealV s) := by
  refine Fn.of free_sealV fun h => ?_
  refine enter (by kernel_rfl) e52 (by kernel_rfl) rfl fun hok => ?_
  simp only [r52, initEnv_1]
  (try (simp (disch := first | omega | (simp <;> omega) | fail) only [push_cast, ↓reduceIte, Nat.reduceEqDiff, Nat.reduceAdd, Nat.reduceMul, Nat.reduceSub, Nat.reduceLT, Int.reduceToNat]))
  refine T_for s.length (fun i e h' => Pins e [(0, .str s), (4, .int .i64 (chk s i)), (7, .int .i64 s.length), (8, .int .i64 i)] ∧ h' = h ∧ plain (s.take i) = true) ?_ ?_
  · (try (simp (disch := first | omega | (simp <;> omega) | fail) only [push_cast, ↓reduceIte, Nat.reduceEqDiff, Nat.reduceAdd, Nat.reduceMul, Nat.reduceSub, Nat.reduceLT, Int.reduceToNat]))
    all_goals (try exact ⟨rfl, rfl⟩)
    all_goals (try rfl)
  rintro i e h' hi ⟨hp, rfl, ha⟩
  refine T_pins hp fun e => ?_
  obtain ⟨k0, k1⟩ := chk_bd s i
  (try (simp (disch := first | omega | (simp <;> omega) | fail) only [push_cast, ↓reduceIte, Nat.reduceEqDiff, Nat.reduceAdd, Nat.reduceMul, Nat.reduceSub, Nat.reduceLT, Int.reduceToNat]))
  first | refine goC_split (fun hc => ?_) (fun hc => ?_) | refine cnd_split (fun hc => ?_) (fun hc => ?_)
  · (try (simp only [decide_eq_true_eq, decide_eq_false_iff_not, Bool.not_eq_true', Bool.not_eq_false', Bool.and_eq_true, Bool.or_eq_true, Int.not_lt, Int.not_le] at hc)); (try (simp (disch := first | omega | (simp <;> omega) | fail) only [push_cast, ↓reduceIte, Nat.reduceEqDiff, Nat.reduceAdd, Nat.reduceMul, Nat.reduceSub, Nat.reduceLT, Int.reduceToNat]))
    have hi2 : i < s.length := by omega
    have hpt := plain_take hi2
    have hcb : (s.getD i 0).toNat < 256 := UInt8.toNat_lt _
    have hm := mul_bd (x := (i : Int) + 1) (y := ((s.getD i 0).toNat : Int)) (a := 1000000001) (b := 255) (by omega) (by omega) (by omega) (by omega)
    have hs : chk s (i + 1) = (chk s i + ((i : Int) + 1) * ((s.getD i 0).toNat : Int)) % 65521 := rfl
    cases hk : okCh (s.getD i 0)
    · have hno := plain_no hi2 hk
      unfold sealV plainV
      rw [hno]
      simp only [okCh, Bool.and_eq_false_iff, decide_eq_false_iff_not] at hk
      by_cases h32 : ((s.getD i 0).toNat : Int) < 32
      · (try (simp (disch := first | omega | (simp <;> omega) | fail) only [push_cast, ↓reduceIte, Nat.reduceEqDiff, Nat.reduceAdd, Nat.reduceMul, Nat.reduceSub, Nat.reduceLT, Int.reduceToNat]))
        all_goals (try rfl)
      · have h125 : 125 < ((s.getD i 0).toNat : Int) := by omega
        (try (simp (disch := first | omega | (simp <;> omega) | fail) only [push_cast, ↓reduceIte, Nat.reduceEqDiff, Nat.reduceAdd, Nat.reduceMul, Nat.reduceSub, Nat.reduceLT, Int.reduceToNat]))
        all_goals (try rfl)
    · have hk2 := hk
      simp only [okCh, Bool.and_eq_true, decide_eq_true_eq] at hk2
      obtain ⟨hk3, hk4⟩ := hk2
      have hpt2 : plain (s.take (i + 1)) = true := by rw [hpt, ha, hk]; rfl
      (try (simp (disch := first | omega | (simp <;> omega) | fail) only [push_cast, ↓reduceIte, Nat.reduceEqDiff, Nat.reduceAdd, Nat.reduceMul, Nat.reduceSub, Nat.reduceLT, Int.reduceToNat, hpt2]))
      all_goals (try (rw [hs]))
  · (try (simp only [decide_eq_true_eq, decide_eq_false_iff_not, Bool.not_eq_true', Bool.not_eq_false', Bool.and_eq_true, Bool.or_eq_true, Int.not_lt, Int.not_le] at hc)); (try (simp (disch := first | omega | (simp <;> omega) | fail) only [push_cast, ↓reduceIte, Nat.reduceEqDiff, Nat.reduceAdd, Nat.reduceMul, Nat.reduceSub, Nat.reduceLT, Int.reduceToNat]))
    have hie : i = s.length := by omega
    subst hie
    rw [List.take_length] at ha
    unfold sealV plainV
    rw [ha]
    obtain ⟨n, hn⟩ : ∃ n : Nat, chk s s.length = (n : Int) := ⟨_, (Int.toNat_of_nonneg k0).symm⟩
    have hdl := dec_len (n := n) (by omega)
    have hst : sealT s = s ++ 126 :: Lib.decDigits n := by
      unfold sealT
      rw [hn, Int.toNat_natCast]
    have hit : Lib.itoa (n : Int) = Lib.decDigits n := by rw [itoa_nn (by omega), Int.toNat_natCast]
    rw [hn]
    by_cases h6 : 6000 < s.length
    · (try (simp (disch := first | omega | (simp <;> omega) | fail) only [push_cast, ↓reduceIte, Nat.reduceEqDiff, Nat.reduceAdd, Nat.reduceMul, Nat.reduceSub, Nat.reduceLT, Int.reduceToNat]))
      all_goals (try rfl)
    · (try (simp (disch := first | omega | (simp <;> omega) | fail) only [push_cast, ↓reduceIte, Nat.reduceEqDiff, Nat.reduceAdd, Nat.reduceMul, Nat.reduceSub, Nat.reduceLT, Int.reduceToNat]))
      refine (c_strconv_Itoa n (by omega) (by omega)).call ?_
      rw [hit]
      (try (simp (disch := first | omega | (simp <;> omega) | fail) only [push_cast, ↓reduceIte, Nat.reduceEqDiff, Nat.reduceAdd, Nat.reduceMul, Nat.reduceSub, Nat.reduceLT, Int.reduceToNat]))
      rw [hst]
      all_goals (try simp)

theorem c_impl_sealed (s : Str) (b : Bool) (hl : s.length ≤ 1000000000) : Fn Tryz.prog 19 [.str s, .bool b] (· = if b then sealV s else .tup [.str [], .bool false]) := by
  refine Fn.of (by cases b; exact free_tup (free_cons_ free_str (free_cons_ free_bool free_nil_)); exact free_sealV) fun h => ?_
  refine enter (by kernel_rfl) e19 (by kernel_rfl) rfl fun hok => ?_
  simp only [r19, initEnv_2]
  cases b
  · (try (simp (disch := first | omega | (simp <;> omega) | fail) only [push_cast, ↓reduceIte, Nat.reduceEqDiff, Nat.reduceAdd, Nat.reduceMul, Nat.reduceSub, Nat.reduceLT, Int.reduceToNat]))
    all_goals (try rfl)
  (try (simp (disch := first | omega | (simp <;> omega) | fail) only [push_cast, ↓reduceIte, Nat.reduceEqDiff, Nat.reduceAdd, Nat.reduceMul, Nat.reduceSub, Nat.reduceLT, Int.reduceToNat]))
  refine (c_impl_SealText s hl).call ?_
  have hv : ∃ t b, sealV s = .tup [.str t, .bool b] := by
    unfold sealV
    split <;> exact ⟨_, _, rfl⟩
  obtain ⟨t, b, hv⟩ := hv
  rw [hv]
  (try (simp (disch := first | omega | (simp <;> omega) | fail) only [push_cast, ↓reduceIte, Nat.reduceEqDiff, Nat.reduceAdd, Nat.reduceMul, Nat.reduceSub, Nat.reduceLT, Int.reduceToNat]))
  all_goals (try rfl)

def spT (lim : Int) (l : List Int) (i : Nat) : Str := [115, 112, 97, 114, 115, 101, 32] ++ (Lib.itoa lim ++ (l.take i).flatMap fun m => 32 :: Lib.itoa m)
theorem spT_zero {lim : Int} {l : List Int} : spT lim l 0 = [115, 112, 97, 114, 115, 101, 32] ++ Lib.itoa lim := by simp [spT]
theorem spT_succ {lim : Int} {l : List Int} {i : Nat} (hi : i < l.length) : spT lim l (i + 1) = spT lim l i ++ 32 :: Lib.itoa (l.getD i 0) := by
  unfold spT
  rw [List.take_add_one, List.flatMap_append]
  simp [hi]
theorem spT_len {lim : Int} {l : List Int} (h0 : inR lim) (h : ∀ m ∈ l, inR m) (hl : l.length ≤ 60) (i : Nat) : (spT lim l i).length ≤ 2000 := by
  have key : ∀ k : List Int, (∀ m ∈ k, inR m) → (k.flatMap fun m => 32 :: Lib.itoa m).length ≤ 22 * k.length := by
    intro k
    induction k with
    | nil => simp
    | cons m k ih =>
      intro hk
      have h1 := itoa_len (hk m (by simp))
      have h2 := ih fun x hx => hk x (List.mem_cons_of_mem _ hx)
      rw [List.flatMap_cons, List.length_append, List.length_cons, List.length_cons]
      omega
  have h1 := itoa_len h0
  have h2 := key (l.take i) fun m hm => h m (List.mem_of_mem_take hm)
  rw [List.length_take] at h2
  unfold spT
  simp only [List.length_append, List.length_cons, List.length_nil]
  omega
def imgSV (s : Spa) : AV := if okSp s then sealV (spT s.limit (natI (spLs s)) (spLs s).length) else .tup [.str [], .bool false]
theorem free_imgSV {s : Spa} : Free (imgSV s) := by
  unfold imgSV
  split
  · exact free_sealV
  · exact free_tup (free_cons_ free_str (free_cons_ free_bool free_nil_))
theorem natI_in {L : List Nat} (h : ∀ x ∈ L, x < 1000000) : ∀ m ∈ natI L, inR m := fun m hm => by
  obtain ⟨x, hx, rfl⟩ := List.mem_map.1 hm
  have := h x hx
  unfold inR
  omega
theorem okSp_lt {s : Spa} (h : okSp s = true) : (spLs s).length ≤ 60 ∧ (∀ x ∈ spLs s, x < 1000000) ∧ 1 ≤ s.limit ∧ s.limit ≤ 100000 := by
  simp only [okSp, Bool.and_eq_true] at h
  have hm := h.2.1
  simp only [midSp, Bool.and_eq_true] at hm
  obtain ⟨s1, s2, s3, s4⟩ := srt_in hm.2
  rw [natI_len] at s1 s4
  refine ⟨s1, fun x hx => ?_, s2, s3⟩
  obtain ⟨j, hj, rfl⟩ := List.mem_iff_getElem.1 hx
  have := (s4 j hj).2
  rw [natI_get] at this
  have h5 : (spLs s).getD j 0 = (spLs s)[j] := by simp [hj]
  rw [h5] at this
  omega

theorem c_impl_ImageOfSparse (s : Spa) (hlr : inR s.limit) : Fn Tryz.prog 7 [eSp s] (· = imgSV s) := by
  refine Fn.of free_imgSV fun h => ?_
  refine enter (by kernel_rfl) e7 (by kernel_rfl) rfl fun hok => ?_
  simp only [r7, initEnv_1]
  have hnum := c_impl_Sparse_numbers_o s
  (try (simp (disch := first | omega | (simp <;> omega) | fail) only [push_cast, ↓reduceIte, Nat.reduceEqDiff, Nat.reduceAdd, Nat.reduceMul, Nat.reduceSub, Nat.reduceLT, Int.reduceToNat]))
  refine hnum.goL (Lend.adr (cs := cSp s) (by rw [cells_h0]; rfl) free_cSp .nil) fun x t g1 hR hx how => ?_
  obtain ⟨o, rfl, g2, g3, g4⟩ := hR
  obtain ⟨y, rfl, how2⟩ := ow_tup2 how
  have hbx := hx.cells (b := h.length) (cs := cSp s) (by rw [cells_h0]; rfl)
  have htl := spT_len hlr g4 g3
  have hz := spT_zero (lim := s.limit) (l := lI o)
  have i1 := itoa_len hlr
  have hend : okSp s = true → spT s.limit (lI o) (lI o).length = spT s.limit (natI (spLs s)) (spLs s).length := fun h5 => by rw [g2 h5, natI_len]
  have hsl := fun b => c_impl_sealed (spT s.limit (lI o) (lI o).length) b (by have := htl (lI o).length; omega)
  have hval : ∀ b, okSp s = b → (if b then sealV (spT s.limit (lI o) (lI o).length) else .tup [.str [], .bool false]) = imgSV s := fun b hb => by
    unfold imgSV
    rw [hb]
    cases b
    · rfl
    · rw [hend hb]
  have hsv : ∃ t b, imgSV s = .tup [.str t, .bool b] := by
    unfold imgSV sealV
    split
    · split <;> exact ⟨_, _, rfl⟩
    · exact ⟨_, _, rfl⟩
  obtain ⟨t5, b5, hsv⟩ := hsv
  obtain ⟨b, hb⟩ : ∃ b, okSp s = b := ⟨_, rfl⟩
  have hvb := hval b hb
  have hslb := hsl b
  rw [hvb, hsv] at hslb
  rw [hb, hsv]
  have hitl := c_strconv_Itoa s.limit hlr.1 hlr.2
  cases o with
  | none =>
    have hy : y = .nils := how2.atomOf rfl
    subst hy
    have h0 : spT s.limit (lI none) (lI none).length = [115, 112, 97, 114, 115, 101, 32] ++ Lib.itoa s.limit := spT_zero
    rw [h0] at hslb
    simp only [List.cons_append, List.nil_append] at hslb
    (try (simp (disch := first | omega | (simp <;> omega) | fail) only [push_cast, ↓reduceIte, Nat.reduceEqDiff, Nat.reduceAdd, Nat.reduceMul, Nat.reduceSub, Nat.reduceLT, Int.reduceToNat, hbx]))
    refine hitl.call ?_
    (try (simp (disch := first | omega | (simp <;> omega) | fail) only [push_cast, ↓reduceIte, Nat.reduceEqDiff, Nat.reduceAdd, Nat.reduceMul, Nat.reduceSub, Nat.reduceLT, Int.reduceToNat, hbx]))
    refine T_for 0 (fun i e h' => Pins e [(5, .bool b), (6, .str ([115, 112, 97, 114, 115, 101, 32] ++ Lib.itoa s.limit)), (17, .nils), (18, .int .i64 0), (19, .int .i64 0)] ∧ h'.length = h'.length) ?_ ?_
    · (try (simp (disch := first | omega | (simp <;> omega) | fail) only [push_cast, ↓reduceIte, Nat.reduceEqDiff, Nat.reduceAdd, Nat.reduceMul, Nat.reduceSub, Nat.reduceLT, Int.reduceToNat]))
      all_goals (try simp)
    rintro i e h' hi ⟨hp, _⟩
    refine T_pins hp fun e => ?_
    simp only [List.cons_append, List.nil_append]
    (try (simp (disch := first | omega | (simp <;> omega) | fail) only [push_cast, ↓reduceIte, Nat.reduceEqDiff, Nat.reduceAdd, Nat.reduceMul, Nat.reduceSub, Nat.reduceLT, Int.reduceToNat]))
    refine hslb.call ?_
    (try (simp (disch := first | omega | (simp <;> omega) | fail) only [push_cast, ↓reduceIte, Nat.reduceEqDiff, Nat.reduceAdd, Nat.reduceMul, Nat.reduceSub, Nat.reduceLT, Int.reduceToNat]))
    all_goals (try rfl)
  | some l =>
    obtain ⟨bb, cs, F, rfl, hcc, hcl, hbn, hF, hin, hre⟩ := (show Ow g1 [y] [.ro 1 (l.map (.int .i64)) l.length] _ from how2).open_
    have hcs : cs = l.map (.int .i64) := ow_atoms_eq2 hin (by simp [M.atom])
    subst hcs
    have htl : ∀ i, (spT s.limit l i).length ≤ 2000 := htl
    have hz : spT s.limit l 0 = [115, 112, 97, 114, 115, 101, 32] ++ Lib.itoa s.limit := hz
    have hslb : Fn Tryz.prog 19 [.str (spT s.limit l l.length), .bool b] (· = .tup [.str t5, .bool b5]) := hslb
    have g4 : ∀ m ∈ l, inR m := g4
    have g3 : l.length ≤ 60 := g3
    clear hend hval hvb hsl g2 hnum
    have hz2 : spT s.limit l 0 = 115 :: 112 :: 97 :: 114 :: 115 :: 101 :: 32 :: Lib.itoa s.limit := by rw [hz]; rfl
    (try (simp (disch := first | omega | (simp <;> omega) | fail) only [push_cast, ↓reduceIte, Nat.reduceEqDiff, Nat.reduceAdd, Nat.reduceMul, Nat.reduceSub, Nat.reduceLT, Int.reduceToNat, hbx]))
    refine hitl.call ?_
    (try (simp (disch := first | omega | (simp <;> omega) | fail) only [push_cast, ↓reduceIte, Nat.reduceEqDiff, Nat.reduceAdd, Nat.reduceMul, Nat.reduceSub, Nat.reduceLT, Int.reduceToNat, hbx]))
    refine T_for l.length (fun i e h' => Pins e [(5, .bool b), (6, .str (spT s.limit l i)), (17, .sl bb 0 1 l.length l.length), (18, .int .i64 l.length), (19, .int .i64 i)] ∧ H.cells h' bb = some (l.map (.int .i64))) ?_ ?_
    · (try (simp (disch := first | omega | (simp <;> omega) | fail) only [push_cast, ↓reduceIte, Nat.reduceEqDiff, Nat.reduceAdd, Nat.reduceMul, Nat.reduceSub, Nat.reduceLT, Int.reduceToNat, hz2]))
      all_goals (try exact ⟨rfl, hcc⟩)
      all_goals (try exact hcc)
    rintro i e h' hi ⟨hp, hc2⟩
    refine T_pins hp fun e => ?_
    have ht0 := htl i
    (try (simp (disch := first | omega | (simp <;> omega) | fail) only [push_cast, ↓reduceIte, Nat.reduceEqDiff, Nat.reduceAdd, Nat.reduceMul, Nat.reduceSub, Nat.reduceLT, Int.reduceToNat]))
    first | refine goC_split (fun hc => ?_) (fun hc => ?_) | refine cnd_split (fun hc => ?_) (fun hc => ?_)
    · (try (simp only [decide_eq_true_eq, decide_eq_false_iff_not, Bool.not_eq_true', Bool.not_eq_false', Bool.and_eq_true, Bool.or_eq_true, Int.not_lt, Int.not_le] at hc)); (try (simp (disch := first | omega | (simp <;> omega) | fail) only [push_cast, ↓reduceIte, Nat.reduceEqDiff, Nat.reduceAdd, Nat.reduceMul, Nat.reduceSub, Nat.reduceLT, Int.reduceToNat]))
      have hi2 : i < l.length := by omega
      have hsu := spT_succ (lim := s.limit) (l := l) (i := i) hi2
      have hgi : (l.map (AV.int .i64))[i]? = some (.int .i64 (l.getD i 0)) := get_I hi2
      have hml : l.length = (l.map (AV.int .i64)).length := by simp
      have hm := g4 (l.getD i 0) (by simp [hi2])
      obtain ⟨k, hk⟩ : ∃ k, k = l.getD i 0 := ⟨_, rfl⟩
      rw [← hk] at hsu hgi hm
      have i2 := itoa_len hm
      (try (simp (disch := first | omega | (simp <;> omega) | fail) only [push_cast, ↓reduceIte, Nat.reduceEqDiff, Nat.reduceAdd, Nat.reduceMul, Nat.reduceSub, Nat.reduceLT, Int.reduceToNat, hc2, hgi]))
      refine (c_strconv_Itoa k hm.1 hm.2).call ?_
      (try (simp (disch := first | omega | (simp <;> omega) | fail) only [push_cast, ↓reduceIte, Nat.reduceEqDiff, Nat.reduceAdd, Nat.reduceMul, Nat.reduceSub, Nat.reduceLT, Int.reduceToNat]))
      all_goals (try exact ⟨by rw [hsu], hc2⟩)
      all_goals (try (rw [hsu]))
      all_goals (try exact hc2)
    · (try (simp only [decide_eq_true_eq, decide_eq_false_iff_not, Bool.not_eq_true', Bool.not_eq_false', Bool.and_eq_true, Bool.or_eq_true, Int.not_lt, Int.not_le] at hc)); (try (simp (disch := first | omega | (simp <;> omega) | fail) only [push_cast, ↓reduceIte, Nat.reduceEqDiff, Nat.reduceAdd, Nat.reduceMul, Nat.reduceSub, Nat.reduceLT, Int.reduceToNat]))
      have hie : i = l.length := by omega
      subst hie
      (try (simp (disch := first | omega | (simp <;> omega) | fail) only [push_cast, ↓reduceIte, Nat.reduceEqDiff, Nat.reduceAdd, Nat.reduceMul, Nat.reduceSub, Nat.reduceLT, Int.reduceToNat]))
      refine hslb.call ?_
      (try (simp (disch := first | omega | (simp <;> omega) | fail) only [push_cast, ↓reduceIte, Nat.reduceEqDiff, Nat.reduceAdd, Nat.reduceMul, Nat.reduceSub, Nat.reduceLT, Int.reduceToNat]))
      all_goals (try rfl)

theorem c_spec_biGood (b : Bt) : Fn Tryz.prog 56 [eB b] (· = .bool (okBt b)) := by
  refine Fn.of free_bool fun h => ?_
  refine enter (by kernel_rfl) e56 (by kernel_rfl) rfl fun hok => ?_
  simp only [r56, initEnv_1]
  (try (simp (disch := first | omega | (simp <;> omega) | fail) only [push_cast, ↓reduceIte, Nat.reduceEqDiff, Nat.reduceAdd, Nat.reduceMul, Nat.reduceSub, Nat.reduceLT, Int.reduceToNat]))
  unfold okBt
  refine (c_spec_l1In _ _ _).call ?_
  cases h1 : (decide (0 ≤ b.size) && decide (b.size ≤ 4096))
  · (try (simp (disch := first | omega | (simp <;> omega) | fail) only [push_cast, ↓reduceIte, Nat.reduceEqDiff, Nat.reduceAdd, Nat.reduceMul, Nat.reduceSub, Nat.reduceLT, Int.reduceToNat]))
  have h3 : 0 ≤ b.size ∧ b.size ≤ 4096 := by simpa using h1
  (try (simp (disch := first | omega | (simp <;> omega) | fail) only [push_cast, ↓reduceIte, Nat.reduceEqDiff, Nat.reduceAdd, Nat.reduceMul, Nat.reduceSub, Nat.reduceLT, Int.reduceToNat]))
  first | refine goC_split (fun hc => ?_) (fun hc => ?_) | refine cnd_split (fun hc => ?_) (fun hc => ?_)
  · (try (simp only [decide_eq_true_eq, decide_eq_false_iff_not, Bool.not_eq_true', Bool.not_eq_false', Bool.and_eq_true, Bool.or_eq_true, Int.not_lt, Int.not_le] at hc)); (try (simp (disch := first | omega | (simp <;> omega) | fail) only [push_cast, ↓reduceIte, Nat.reduceEqDiff, Nat.reduceAdd, Nat.reduceMul, Nat.reduceSub, Nat.reduceLT, Int.reduceToNat]))
    all_goals (try simp [hc])
  (try (simp only [decide_eq_true_eq, decide_eq_false_iff_not, Bool.not_eq_true', Bool.not_eq_false', Bool.and_eq_true, Bool.or_eq_true, Int.not_lt, Int.not_le] at hc)); (try (simp (disch := first | omega | (simp <;> omega) | fail) only [push_cast, ↓reduceIte, Nat.reduceEqDiff, Nat.reduceAdd, Nat.reduceMul, Nat.reduceSub, Nat.reduceLT, Int.reduceToNat]))
  refine (c_spec_l1All _ _ _).call ?_
  rw [show ((lI b.words).all fun m => decide (0 ≤ m) && decide (m ≤ 65535)) = okWords (lI b.words) from rfl]
  cases h2 : okWords (lI b.words)
  · (try (simp (disch := first | omega | (simp <;> omega) | fail) only [push_cast, ↓reduceIte, Nat.reduceEqDiff, Nat.reduceAdd, Nat.reduceMul, Nat.reduceSub, Nat.reduceLT, Int.reduceToNat]))
    all_goals (try simp)
  unfold lastOk
  by_cases hz : b.size % 16 = 0
  · (try (simp (disch := first | omega | (simp <;> omega) | fail) only [push_cast, ↓reduceIte, Nat.reduceEqDiff, Nat.reduceAdd, Nat.reduceMul, Nat.reduceSub, Nat.reduceLT, Int.reduceToNat, hz]))
    all_goals (try simp [hc])
  · have hln : 1 ≤ (lI b.words).length := by omega
    have hm : 0 ≤ b.size % 16 ∧ b.size % 16 ≤ 15 := by omega
    (try (simp (disch := first | omega | (simp <;> omega) | fail) only [push_cast, ↓reduceIte, Nat.reduceEqDiff, Nat.reduceAdd, Nat.reduceMul, Nat.reduceSub, Nat.reduceLT, Int.reduceToNat, hz]))
    (first | refine goC_split (fun hc => ?_) (fun hc => ?_) | refine cnd_split (fun hc => ?_) (fun hc => ?_)) <;> ((try (simp (disch := first | omega | (simp <;> omega) | fail) only [push_cast, ↓reduceIte, Nat.reduceEqDiff, Nat.reduceAdd, Nat.reduceMul, Nat.reduceSub, Nat.reduceLT, Int.reduceToNat]))) <;> (try rw [hc])

theorem c_spec_spGood (s : Spa) : Fn Tryz.prog 20 [eSp s] (· = .bool (okSp s)) := by
  refine Fn.of free_bool fun h => ?_
  obtain ⟨sc, sl, sw, ⟨ls, lws⟩, ⟨hz, hws⟩⟩ := s
  refine enter (by kernel_rfl) e20 (by kernel_rfl) rfl fun hok => ?_
  simp only [r20, initEnv_1]
  have hpre : preSp ⟨sc, sl, sw, ⟨ls, lws⟩, ⟨hz, hws⟩⟩ = false → okSp ⟨sc, sl, sw, ⟨ls, lws⟩, ⟨hz, hws⟩⟩ = false := fun h1 => by unfold okSp; rw [h1]; rfl
  (try (simp (disch := first | omega | (simp <;> omega) | fail) only [push_cast, ↓reduceIte, Nat.reduceEqDiff, Nat.reduceAdd, Nat.reduceMul, Nat.reduceSub, Nat.reduceLT, Int.reduceToNat, reads, List.mem_cons, List.mem_append, List.not_mem_nil, nat_ff, or_self, or_false, false_or, not_false_eq_true]))
  refine (c_spec_l1In _ _ _).call ?_
  cases h1 : (decide (0 ≤ sc) && decide (sc ≤ 60))
  · rw [hpre (by unfold preSp; rw [h1]; rfl)]
    (try (simp (disch := first | omega | (simp <;> omega) | fail) only [push_cast, ↓reduceIte, Nat.reduceEqDiff, Nat.reduceAdd, Nat.reduceMul, Nat.reduceSub, Nat.reduceLT, Int.reduceToNat, reads, List.mem_cons, List.mem_append, List.not_mem_nil, nat_ff, or_self, or_false, false_or, not_false_eq_true]))
  (try (simp (disch := first | omega | (simp <;> omega) | fail) only [push_cast, ↓reduceIte, Nat.reduceEqDiff, Nat.reduceAdd, Nat.reduceMul, Nat.reduceSub, Nat.reduceLT, Int.reduceToNat, reads, List.mem_cons, List.mem_append, List.not_mem_nil, nat_ff, or_self, or_false, false_or, not_false_eq_true]))
  refine (c_spec_spLimit sl).call ?_
  cases h2 : limOk sl
  · rw [hpre (by unfold preSp; rw [h2]; simp)]
    (try (simp (disch := first | omega | (simp <;> omega) | fail) only [push_cast, ↓reduceIte, Nat.reduceEqDiff, Nat.reduceAdd, Nat.reduceMul, Nat.reduceSub, Nat.reduceLT, Int.reduceToNat, reads, List.mem_cons, List.mem_append, List.not_mem_nil, nat_ff, or_self, or_false, false_or, not_false_eq_true]))
  have hcb : 0 ≤ sc ∧ sc ≤ 60 := by simp only [Bool.and_eq_true, decide_eq_true_eq] at h1; omega
  have hlb : 1 ≤ sl ∧ sl ≤ 100000 := by simp only [limOk, Bool.and_eq_true, decide_eq_true_eq] at h2; omega
  obtain ⟨cnt, rfl⟩ : ∃ k : Nat, sc = (k : Int) := ⟨sc.toNat, by omega⟩
  obtain ⟨lim, rfl⟩ : ∃ k : Nat, sl = (k : Int) := ⟨sl.toNat, by omega⟩
  (try (simp (disch := first | omega | (simp <;> omega) | fail) only [push_cast, ↓reduceIte, Nat.reduceEqDiff, Nat.reduceAdd, Nat.reduceMul, Nat.reduceSub, Nat.reduceLT, Int.reduceToNat, reads, List.mem_cons, List.mem_append, List.not_mem_nil, nat_ff, or_self, or_false, false_or, not_false_eq_true]))
  refine (c_spec_spWidth cnt lim (by omega) (by omega)).call ?_
  have hw16 := wid_le (c := cnt) (l := lim) (by omega)
  have hsl := hiS_le (n := cnt) (lim := lim) (by omega) (by omega)
  have hwid : (wid (cnt : Int).toNat (lim : Int).toNat) = wid cnt lim := rfl
  obtain ⟨w, hwd⟩ : ∃ w, w = wid cnt lim := ⟨_, rfl⟩
  rw [← hwd] at hw16 hsl hwid ⊢
  by_cases hw : sw = (w : Int)
  · subst hw
    (try (simp (disch := first | omega | (simp <;> omega) | fail) only [push_cast, ↓reduceIte, Nat.reduceEqDiff, Nat.reduceAdd, Nat.reduceMul, Nat.reduceSub, Nat.reduceLT, Int.reduceToNat, reads, List.mem_cons, List.mem_append, List.not_mem_nil, nat_ff, or_self, or_false, false_or, not_false_eq_true]))
    refine (c_spec_biGood ⟨ls, lws⟩).call ?_
    cases k1 : okBt ⟨ls, lws⟩
    · rw [hpre (by unfold preSp; rw [k1]; simp)]
      (try (simp (disch := first | omega | (simp <;> omega) | fail) only [push_cast, ↓reduceIte, Nat.reduceEqDiff, Nat.reduceAdd, Nat.reduceMul, Nat.reduceSub, Nat.reduceLT, Int.reduceToNat, reads, List.mem_cons, List.mem_append, List.not_mem_nil, nat_ff, or_self, or_false, false_or, not_false_eq_true]))
    (try (simp (disch := first | omega | (simp <;> omega) | fail) only [push_cast, ↓reduceIte, Nat.reduceEqDiff, Nat.reduceAdd, Nat.reduceMul, Nat.reduceSub, Nat.reduceLT, Int.reduceToNat, reads, List.mem_cons, List.mem_append, List.not_mem_nil, nat_ff, or_self, or_false, false_or, not_false_eq_true]))
    refine (c_spec_biGood ⟨hz, hws⟩).call ?_
    cases k2 : okBt ⟨hz, hws⟩
    · rw [hpre (by unfold preSp; rw [k2]; simp)]
      (try (simp (disch := first | omega | (simp <;> omega) | fail) only [push_cast, ↓reduceIte, Nat.reduceEqDiff, Nat.reduceAdd, Nat.reduceMul, Nat.reduceSub, Nat.reduceLT, Int.reduceToNat, reads, List.mem_cons, List.mem_append, List.not_mem_nil, nat_ff, or_self, or_false, false_or, not_false_eq_true]))
    have hmb := mul_bd (x := (cnt : Int)) (y := (w : Int)) (a := 60) (b := 16) (by omega) (by omega) (by omega) (by omega)
    have hcomm : (cnt : Int) * (w : Int) = (w : Int) * (cnt : Int) := Int.mul_comm _ _
    have hsh : Int.fdiv ((lim : Int) - 1) (2 ^ (min w IntKind.i64.bits)) = (((lim - 1) / 2 ^ w : Nat) : Int) := by
      rw [← shrN (a := lim - 1) (b := w) (by omega)]
      congr 1
      omega
    by_cases hsz : ls = (cnt : Int) * (w : Int)
    · have hp : preSp ⟨(cnt : Int), (lim : Int), (w : Int), ⟨ls, lws⟩, ⟨hz, hws⟩⟩ = true := by
        unfold preSp
        simp only
        rw [h1, h2, k1, k2, decide_eq_true (show ls = (w : Int) * (cnt : Int) by rw [hsz, hcomm]), hwid]
        simp
      have hdz : decide (ls = (cnt : Int) * (w : Int)) = true := decide_eq_true hsz
      obtain ⟨cnt2, lim2, n, e1, e2, e3, e4, e5, e6, e7, e8, e9, ho, hls⟩ := preSp_of hp
      simp only at e1 e2 e3 e4 e7 e8 e9
      have e1' : cnt2 = cnt := by omega
      have e2' : lim2 = lim := by omega
      subst e1' e2' e4
      rw [← hwd] at e3 e9 ho hls
      have hhiS : (cnt2 : Int) + (((lim2 - 1) / 2 ^ w : Nat) : Int) + 1 = ((hiS cnt2 lim2 w : Nat) : Int) := by unfold hiS; omega
      obtain ⟨sq, hsq⟩ : ∃ sq, sq = (lim2 - 1) / 2 ^ w := ⟨_, rfl⟩
      rw [← hsq] at hsh hhiS
      obtain ⟨hs, hhs⟩ : ∃ hs, hs = hiS cnt2 lim2 w := ⟨_, rfl⟩
      rw [← hhs] at hhiS hsl
      have hlist := c_spec_spList ⟨(cnt2 : Int), (lim2 : Int), (w : Int), ⟨ls, lws⟩, ⟨(n : Int), hws⟩⟩ _ _ _ _ _ _ _ ho
      rw [← hls] at hlist
      have hok2 : okSp ⟨(cnt2 : Int), (lim2 : Int), (w : Int), ⟨ls, lws⟩, ⟨(n : Int), hws⟩⟩ = ((decide ((spLs ⟨(cnt2 : Int), (lim2 : Int), (w : Int), ⟨ls, lws⟩, ⟨(n : Int), hws⟩⟩).length = cnt2) && srt (natI (spLs ⟨(cnt2 : Int), (lim2 : Int), (w : Int), ⟨ls, lws⟩, ⟨(n : Int), hws⟩⟩)) lim2) && (sameB (lowB (spLs ⟨(cnt2 : Int), (lim2 : Int), (w : Int), ⟨ls, lws⟩, ⟨(n : Int), hws⟩⟩) w) ⟨ls, lws⟩ && sameB (hiB (spLs ⟨(cnt2 : Int), (lim2 : Int), (w : Int), ⟨ls, lws⟩, ⟨(n : Int), hws⟩⟩) lim2 w) ⟨(n : Int), hws⟩)) := by
        unfold okSp
        rw [hp]
        rfl
      clear hls
      generalize spLs ⟨(cnt2 : Int), (lim2 : Int), (w : Int), ⟨ls, lws⟩, ⟨(n : Int), hws⟩⟩ = L at *
      by_cases hns : n = hs
      · have hdn : decide ((n : Int) = (hs : Int)) = true := by simp [hns]
        (try (simp (disch := first | omega | (simp <;> omega) | fail) only [push_cast, ↓reduceIte, Nat.reduceEqDiff, Nat.reduceAdd, Nat.reduceMul, Nat.reduceSub, Nat.reduceLT, Int.reduceToNat, hdz, hsh, hhiS, hdn, reads, List.mem_cons, List.mem_append, List.not_mem_nil, nat_ff, or_self, or_false, false_or, not_false_eq_true]))
        refine hlist.use ?_
        rintro x ⟨o, rfl, hol⟩
        have hln : (lI o).length = L.length := by rw [hol, natI_len]
        by_cases hlc : L.length = cnt2
        · have hd1 : decide ((L.length : Int) = (cnt2 : Int)) = true := by simp [hlc]
          rw [decide_eq_true hlc, Bool.true_and] at hok2
          (try (simp (disch := first | omega | (simp <;> omega) | fail) only [push_cast, ↓reduceIte, Nat.reduceEqDiff, Nat.reduceAdd, Nat.reduceMul, Nat.reduceSub, Nat.reduceLT, Int.reduceToNat, hln, hd1, reads, List.mem_cons, List.mem_append, List.not_mem_nil, nat_ff, or_self, or_false, false_or, not_false_eq_true]))
          refine (c_spec_spSorted o lim2 (by omega) (by omega)).call ?_
          rw [hol]
          cases hsr : srt (natI L) lim2
          · rw [hsr] at hok2
            rw [hok2]
            (try (simp (disch := first | omega | (simp <;> omega) | fail) only [push_cast, ↓reduceIte, Nat.reduceEqDiff, Nat.reduceAdd, Nat.reduceMul, Nat.reduceSub, Nat.reduceLT, Int.reduceToNat, reads, List.mem_cons, List.mem_append, List.not_mem_nil, nat_ff, or_self, or_false, false_or, not_false_eq_true]))
          · rw [hsr, Bool.true_and] at hok2
            obtain ⟨s1, s2, s3, s4⟩ := srt_in hsr
            rw [natI_len] at s1 s4
            have hlt : ∀ j, j < L.length → L.getD j 0 < lim2 := fun j hj => by
              have := (s4 j hj).2
              rw [natI_get] at this
              omega
            have hsv : spV L lim2 = ⟨L.length, lim2, w, lowB L w, hiB L lim2 w⟩ := by unfold spV; rw [hlc, ← hwd]
            have hspo := c_spec_spOf L lim2 o hol s1 e5 e6 hlt
            rw [hsv] at hspo
            (try (simp (disch := first | omega | (simp <;> omega) | fail) only [push_cast, ↓reduceIte, Nat.reduceEqDiff, Nat.reduceAdd, Nat.reduceMul, Nat.reduceSub, Nat.reduceLT, Int.reduceToNat, reads, List.mem_cons, List.mem_append, List.not_mem_nil, nat_ff, or_self, or_false, false_or, not_false_eq_true]))
            refine hspo.call ?_
            generalize (lowB L w) = lB at *
            generalize (hiB L lim2 w) = hB2 at *
            obtain ⟨z1, z2⟩ := lB
            obtain ⟨z3, z4⟩ := hB2
            have hsym : ∀ a b : Bt, sameB a b = sameB b a := fun a b => by
              unfold sameB
              rw [show decide (a.size = b.size) = decide (b.size = a.size) by rw [decide_eq_decide]; exact eq_comm, show decide (lI a.words = lI b.words) = decide (lI b.words = lI a.words) by rw [decide_eq_decide]; exact eq_comm]
            (try (simp (disch := first | omega | (simp <;> omega) | fail) only [push_cast, ↓reduceIte, Nat.reduceEqDiff, Nat.reduceAdd, Nat.reduceMul, Nat.reduceSub, Nat.reduceLT, Int.reduceToNat, reads, List.mem_cons, List.mem_append, List.not_mem_nil, nat_ff, or_self, or_false, false_or, not_false_eq_true]))
            refine (c_spec_biSame ⟨ls, lws⟩ ⟨z1, z2⟩).call ?_
            rw [hsym]
            cases hs1 : sameB ⟨z1, z2⟩ ⟨ls, lws⟩
            · rw [hs1, Bool.false_and] at hok2
              rw [hok2]
              (try (simp (disch := first | omega | (simp <;> omega) | fail) only [push_cast, ↓reduceIte, Nat.reduceEqDiff, Nat.reduceAdd, Nat.reduceMul, Nat.reduceSub, Nat.reduceLT, Int.reduceToNat, reads, List.mem_cons, List.mem_append, List.not_mem_nil, nat_ff, or_self, or_false, false_or, not_false_eq_true]))
            · rw [hs1, Bool.true_and] at hok2
              rw [hok2]
              (try (simp (disch := first | omega | (simp <;> omega) | fail) only [push_cast, ↓reduceIte, Nat.reduceEqDiff, Nat.reduceAdd, Nat.reduceMul, Nat.reduceSub, Nat.reduceLT, Int.reduceToNat, reads, List.mem_cons, List.mem_append, List.not_mem_nil, nat_ff, or_self, or_false, false_or, not_false_eq_true]))
              refine (c_spec_biSame ⟨(n : Int), hws⟩ ⟨z3, z4⟩).call ?_
              rw [hsym]
              (try (simp (disch := first | omega | (simp <;> omega) | fail) only [push_cast, ↓reduceIte, Nat.reduceEqDiff, Nat.reduceAdd, Nat.reduceMul, Nat.reduceSub, Nat.reduceLT, Int.reduceToNat, reads, List.mem_cons, List.mem_append, List.not_mem_nil, nat_ff, or_self, or_false, false_or, not_false_eq_true]))
        · have hd1 : decide ((L.length : Int) = (cnt2 : Int)) = false := by simp; omega
          rw [decide_eq_false hlc] at hok2
          rw [hok2]
          (try (simp (disch := first | omega | (simp <;> omega) | fail) only [push_cast, ↓reduceIte, Nat.reduceEqDiff, Nat.reduceAdd, Nat.reduceMul, Nat.reduceSub, Nat.reduceLT, Int.reduceToNat, hln, hd1, reads, List.mem_cons, List.mem_append, List.not_mem_nil, nat_ff, or_self, or_false, false_or, not_false_eq_true]))
      · have hbad : okSp ⟨(cnt2 : Int), (lim2 : Int), (w : Int), ⟨ls, lws⟩, ⟨(n : Int), hws⟩⟩ = false := by
          rw [hok2]
          by_cases hlc : L.length = cnt2
          · have : sameB (hiB L lim2 w) ⟨(n : Int), hws⟩ = false := by
              unfold sameB
              rw [decide_eq_false (show ¬ (hiB L lim2 w).size = (n : Int) from fun h5 => hns (by
                have h6 : (hiB L lim2 w).size = ((hiS L.length lim2 w : Nat) : Int) := rfl
                rw [h6, hlc, ← hhs] at h5
                omega))]
              rfl
            rw [this]
            simp
          · rw [decide_eq_false hlc]
            rfl
        rw [hbad]
        have hdn : decide ((n : Int) = (hs : Int)) = false := by simp; omega
        (try (simp (disch := first | omega | (simp <;> omega) | fail) only [push_cast, ↓reduceIte, Nat.reduceEqDiff, Nat.reduceAdd, Nat.reduceMul, Nat.reduceSub, Nat.reduceLT, Int.reduceToNat, hdz, hsh, hhiS, hdn, reads, List.mem_cons, List.mem_append, List.not_mem_nil, nat_ff, or_self, or_false, false_or, not_false_eq_true]))
    · rw [hpre (by unfold preSp; simp only; rw [decide_eq_false (show ¬ ls = (w : Int) * (cnt : Int) from fun h5 => hsz (by rw [h5, hcomm]))]; simp)]
      have hdz : decide (ls = (cnt : Int) * (w : Int)) = false := decide_eq_false hsz
      (try (simp (disch := first | omega | (simp <;> omega) | fail) only [push_cast, ↓reduceIte, Nat.reduceEqDiff, Nat.reduceAdd, Nat.reduceMul, Nat.reduceSub, Nat.reduceLT, Int.reduceToNat, hdz, reads, List.mem_cons, List.mem_append, List.not_mem_nil, nat_ff, or_self, or_false, false_or, not_false_eq_true]))
  · rw [hpre (by unfold preSp; simp only; rw [hwid, decide_eq_false hw]; simp)]
    have hdw : decide (sw = (w : Int)) = false := decide_eq_false hw
    (try (simp (disch := first | omega | (simp <;> omega) | fail) only [push_cast, ↓reduceIte, Nat.reduceEqDiff, Nat.reduceAdd, Nat.reduceMul, Nat.reduceSub, Nat.reduceLT, Int.reduceToNat, hdw, reads, List.mem_cons, List.mem_append, List.not_mem_nil, nat_ff, or_self, or_false, false_or, not_false_eq_true]))

theorem c_spec_l1Num (n : Nat) (hn : n < 1000000000000) : Fn Tryz.prog 21 [.int .i64 n] (· = .str (Lib.decDigits n)) := by
  induction n using Nat.strongRecOn with
  | _ n ih =>
    refine Fn.of free_str fun h => ?_
    refine enter (by kernel_rfl) e21 (by kernel_rfl) rfl fun hok => ?_
    simp only [r21, initEnv_1]
    rw [dec_rec]
    (try (simp (disch := first | omega | (simp <;> omega) | fail) only [push_cast, ↓reduceIte, Nat.reduceEqDiff, Nat.reduceAdd, Nat.reduceMul, Nat.reduceSub, Nat.reduceLT, Int.reduceToNat]))
    first | refine goC_split (fun hc => ?_) (fun hc => ?_) | refine cnd_split (fun hc => ?_) (fun hc => ?_)
    · have hc2 : n < 10 := by
        simp only [decide_eq_true_eq] at hc
        omega
      have e1 : ((48 : Int) + n).toNat = 48 + n := by omega
      rw [if_pos hc2]
      (try (simp only [decide_eq_true_eq, decide_eq_false_iff_not, Bool.not_eq_true', Bool.not_eq_false', Bool.and_eq_true, Bool.or_eq_true, Int.not_lt, Int.not_le] at hc)); (try (simp (disch := first | omega | (simp <;> omega) | fail) only [push_cast, ↓reduceIte, Nat.reduceEqDiff, Nat.reduceAdd, Nat.reduceMul, Nat.reduceSub, Nat.reduceLT, Int.reduceToNat]))
      (try (simp (disch := first | omega | (simp <;> omega) | fail) only [push_cast, ↓reduceIte, Nat.reduceEqDiff, Nat.reduceAdd, Nat.reduceMul, Nat.reduceSub, Nat.reduceLT, Int.reduceToNat, e1]))
    · have hc2 : ¬ n < 10 := by
        simp only [decide_eq_false_iff_not] at hc
        omega
      have e1 : ((48 : Int) + (n : Int) % 10).toNat = 48 + n % 10 := by omega
      have e2 : ((n / 10 : Nat) : Int) = (n : Int) / 10 := by omega
      have hm : 0 ≤ (n : Int) % 10 ∧ (n : Int) % 10 ≤ 9 := by omega
      have hrec := ih (n / 10) (by omega) (by omega)
      rw [e2] at hrec
      have hdl := dec_len (n := n / 10) (by omega)
      rw [if_neg hc2]
      (try (simp only [decide_eq_true_eq, decide_eq_false_iff_not, Bool.not_eq_true', Bool.not_eq_false', Bool.and_eq_true, Bool.or_eq_true, Int.not_lt, Int.not_le] at hc)); (try (simp (disch := first | omega | (simp <;> omega) | fail) only [push_cast, ↓reduceIte, Nat.reduceEqDiff, Nat.reduceAdd, Nat.reduceMul, Nat.reduceSub, Nat.reduceLT, Int.reduceToNat]))
      refine ⟨?_, ?_⟩
      · refine hrec.call ?_
        (try (simp (disch := first | omega | (simp <;> omega) | fail) only [push_cast, ↓reduceIte, Nat.reduceEqDiff, Nat.reduceAdd, Nat.reduceMul, Nat.reduceSub, Nat.reduceLT, Int.reduceToNat, e1]))
      · (try (simp (disch := first | omega | (simp <;> omega) | fail) only [push_cast, ↓reduceIte, Nat.reduceEqDiff, Nat.reduceAdd, Nat.reduceMul, Nat.reduceSub, Nat.reduceLT, Int.reduceToNat, e1]))
        refine hrec.call ?_
        (try (simp (disch := first | omega | (simp <;> omega) | fail) only [push_cast, ↓reduceIte, Nat.reduceEqDiff, Nat.reduceAdd, Nat.reduceMul, Nat.reduceSub, Nat.reduceLT, Int.reduceToNat, e1]))
theorem c_spec_l1Num_i (n : Int) (h0 : 0 ≤ n) (h1 : n < 1000000000000) : Fn Tryz.prog 21 [.int .i64 n] (· = .str (Lib.itoa n)) := by
  obtain ⟨m, rfl⟩ : ∃ m : Nat, n = (m : Int) := ⟨n.toNat, by omega⟩
  rw [itoa_nn (by omega), Int.toNat_natCast]
  exact c_spec_l1Num m (by omega)

theorem c_spec_stPlain (s : Str) : Fn Tryz.prog 60 [.str s] (· = .bool (plainV s)) := by
  refine Fn.of free_bool fun h => ?_
  refine enter (by kernel_rfl) e60 (by kernel_rfl) rfl fun hok => ?_
  simp only [r60, initEnv_1]
  have hlen := (okV_0 hok).str
  (try (simp (disch := first | omega | (simp <;> omega) | fail) only [push_cast, ↓reduceIte, Nat.reduceEqDiff, Nat.reduceAdd, Nat.reduceMul, Nat.reduceSub, Nat.reduceLT, Int.reduceToNat]))
  refine T_for s.length (fun i e h' => Pins e [(0, .str s), (3, .int .i64 i)] ∧ h' = h ∧ plain (s.take i) = true) ?_ ?_
  · (try (simp (disch := first | omega | (simp <;> omega) | fail) only [push_cast, ↓reduceIte, Nat.reduceEqDiff, Nat.reduceAdd, Nat.reduceMul, Nat.reduceSub, Nat.reduceLT, Int.reduceToNat]))
    all_goals (try simp [plain])
  rintro i e h' hi ⟨hp, rfl, ha⟩
  refine T_pins hp fun e => ?_
  (try (simp (disch := first | omega | (simp <;> omega) | fail) only [push_cast, ↓reduceIte, Nat.reduceEqDiff, Nat.reduceAdd, Nat.reduceMul, Nat.reduceSub, Nat.reduceLT, Int.reduceToNat]))
  first | refine goC_split (fun hc => ?_) (fun hc => ?_) | refine cnd_split (fun hc => ?_) (fun hc => ?_)
  · (try (simp only [decide_eq_true_eq, decide_eq_false_iff_not, Bool.not_eq_true', Bool.not_eq_false', Bool.and_eq_true, Bool.or_eq_true, Int.not_lt, Int.not_le] at hc)); (try (simp (disch := first | omega | (simp <;> omega) | fail) only [push_cast, ↓reduceIte, Nat.reduceEqDiff, Nat.reduceAdd, Nat.reduceMul, Nat.reduceSub, Nat.reduceLT, Int.reduceToNat]))
    have hi2 : i < s.length := by omega
    have hpt := plain_take hi2
    cases hk : okCh (s.getD i 0)
    · have hno := plain_no hi2 hk
      unfold plainV
      rw [hno]
      simp only [okCh, Bool.and_eq_false_iff, decide_eq_false_iff_not] at hk
      by_cases h32 : ((s.getD i 0).toNat : Int) < 32
      · (try (simp (disch := first | omega | (simp <;> omega) | fail) only [push_cast, ↓reduceIte, Nat.reduceEqDiff, Nat.reduceAdd, Nat.reduceMul, Nat.reduceSub, Nat.reduceLT, Int.reduceToNat]))
      · have h125 : 125 < ((s.getD i 0).toNat : Int) := by omega
        (try (simp (disch := first | omega | (simp <;> omega) | fail) only [push_cast, ↓reduceIte, Nat.reduceEqDiff, Nat.reduceAdd, Nat.reduceMul, Nat.reduceSub, Nat.reduceLT, Int.reduceToNat]))
    · have hk2 := hk
      simp only [okCh, Bool.and_eq_true, decide_eq_true_eq] at hk2
      obtain ⟨hk3, hk4⟩ := hk2
      (try (simp (disch := first | omega | (simp <;> omega) | fail) only [push_cast, ↓reduceIte, Nat.reduceEqDiff, Nat.reduceAdd, Nat.reduceMul, Nat.reduceSub, Nat.reduceLT, Int.reduceToNat]))
      rw [hpt, ha, hk]
      all_goals (try rfl)
  · (try (simp only [decide_eq_true_eq, decide_eq_false_iff_not, Bool.not_eq_true', Bool.not_eq_false', Bool.and_eq_true, Bool.or_eq_true, Int.not_lt, Int.not_le] at hc)); (try (simp (disch := first | omega | (simp <;> omega) | fail) only [push_cast, ↓reduceIte, Nat.reduceEqDiff, Nat.reduceAdd, Nat.reduceMul, Nat.reduceSub, Nat.reduceLT, Int.reduceToNat]))
    have he : s.take i = s := List.take_of_length_le (by omega)
    rw [he] at ha
    unfold plainV
    rw [ha]
    (first | refine goC_split (fun hc => ?_) (fun hc => ?_) | refine cnd_split (fun hc => ?_) (fun hc => ?_)) <;> ((try (simp (disch := first | omega | (simp <;> omega) | fail) only [push_cast, ↓reduceIte, Nat.reduceEqDiff, Nat.reduceAdd, Nat.reduceMul, Nat.reduceSub, Nat.reduceLT, Int.reduceToNat]))) <;> (try rw [hc])

theorem c_spec_stSeal (s : Str) (hl : s.length ≤ 1000000000) : Fn Tryz.prog 61 [.str s] (· = .str (sealT s)) := by
  refine Fn.of free_str fun h => ?_
  refine enter (by kernel_rfl) e61 (by kernel_rfl) rfl fun hok => ?_
  simp only [r61, initEnv_1]
  (try (simp (disch := first | omega | (simp <;> omega) | fail) only [push_cast, ↓reduceIte, Nat.reduceEqDiff, Nat.reduceAdd, Nat.reduceMul, Nat.reduceSub, Nat.reduceLT, Int.reduceToNat]))
  refine T_for s.length (fun i e h' => Pins e [(0, .str s), (3, .int .i64 (chk s i)), (4, .int .i64 i)] ∧ h' = h) ?_ ?_
  · (try (simp (disch := first | omega | (simp <;> omega) | fail) only [push_cast, ↓reduceIte, Nat.reduceEqDiff, Nat.reduceAdd, Nat.reduceMul, Nat.reduceSub, Nat.reduceLT, Int.reduceToNat]))
    all_goals (try rfl)
  rintro i e h' hi ⟨hp, rfl⟩
  refine T_pins hp fun e => ?_
  obtain ⟨k0, k1⟩ := chk_bd s i
  (try (simp (disch := first | omega | (simp <;> omega) | fail) only [push_cast, ↓reduceIte, Nat.reduceEqDiff, Nat.reduceAdd, Nat.reduceMul, Nat.reduceSub, Nat.reduceLT, Int.reduceToNat]))
  first | refine goC_split (fun hc => ?_) (fun hc => ?_) | refine cnd_split (fun hc => ?_) (fun hc => ?_)
  · (try (simp only [decide_eq_true_eq, decide_eq_false_iff_not, Bool.not_eq_true', Bool.not_eq_false', Bool.and_eq_true, Bool.or_eq_true, Int.not_lt, Int.not_le] at hc)); (try (simp (disch := first | omega | (simp <;> omega) | fail) only [push_cast, ↓reduceIte, Nat.reduceEqDiff, Nat.reduceAdd, Nat.reduceMul, Nat.reduceSub, Nat.reduceLT, Int.reduceToNat]))
    have hi2 : i < s.length := by omega
    have hcb : (s.getD i 0).toNat < 256 := UInt8.toNat_lt _
    have hm := mul_bd (x := (i : Int) + 1) (y := ((s.getD i 0).toNat : Int)) (a := 1000000001) (b := 255) (by omega) (by omega) (by omega) (by omega)
    have hs : chk s (i + 1) = (chk s i + ((i : Int) + 1) * ((s.getD i 0).toNat : Int)) % 65521 := rfl
    (try (simp (disch := first | omega | (simp <;> omega) | fail) only [push_cast, ↓reduceIte, Nat.reduceEqDiff, Nat.reduceAdd, Nat.reduceMul, Nat.reduceSub, Nat.reduceLT, Int.reduceToNat]))
    all_goals (try (rw [hs]))
  · (try (simp only [decide_eq_true_eq, decide_eq_false_iff_not, Bool.not_eq_true', Bool.not_eq_false', Bool.and_eq_true, Bool.or_eq_true, Int.not_lt, Int.not_le] at hc)); (try (simp (disch := first | omega | (simp <;> omega) | fail) only [push_cast, ↓reduceIte, Nat.reduceEqDiff, Nat.reduceAdd, Nat.reduceMul, Nat.reduceSub, Nat.reduceLT, Int.reduceToNat]))
    have hie : i = s.length := by omega
    subst hie
    obtain ⟨n, hn⟩ : ∃ n : Nat, chk s s.length = (n : Int) := ⟨_, (Int.toNat_of_nonneg k0).symm⟩
    have hdl := dec_len (n := n) (by omega)
    have hst : sealT s = s ++ 126 :: Lib.decDigits n := by
      unfold sealT
      rw [hn, Int.toNat_natCast]
    rw [hn]
    (try (simp (disch := first | omega | (simp <;> omega) | fail) only [push_cast, ↓reduceIte, Nat.reduceEqDiff, Nat.reduceAdd, Nat.reduceMul, Nat.reduceSub, Nat.reduceLT, Int.reduceToNat]))
    refine (c_spec_l1Num n (by omega)).call ?_
    (try (simp (disch := first | omega | (simp <;> omega) | fail) only [push_cast, ↓reduceIte, Nat.reduceEqDiff, Nat.reduceAdd, Nat.reduceMul, Nat.reduceSub, Nat.reduceLT, Int.reduceToNat]))
    rw [hst]
    all_goals (try simp)

theorem c_spec_stSealed (s : Str) : Fn Tryz.prog 23 [.str s] (· = sealV s) := by
  refine Fn.of free_sealV fun h => ?_
  refine enter (by kernel_rfl) e23 (by kernel_rfl) rfl fun hok => ?_
  simp only [r23, initEnv_1]
  (try (simp (disch := first | omega | (simp <;> omega) | fail) only [push_cast, ↓reduceIte, Nat.reduceEqDiff, Nat.reduceAdd, Nat.reduceMul, Nat.reduceSub, Nat.reduceLT, Int.reduceToNat]))
  refine (c_spec_stPlain s).call ?_
  unfold sealV
  cases hp : plainV s
  · (try (simp (disch := first | omega | (simp <;> omega) | fail) only [push_cast, ↓reduceIte, Nat.reduceEqDiff, Nat.reduceAdd, Nat.reduceMul, Nat.reduceSub, Nat.reduceLT, Int.reduceToNat]))
    all_goals (try rfl)
  have hl : s.length ≤ 6000 := by
    simp only [plainV, Bool.and_eq_true, decide_eq_true_eq] at hp
    omega
  (try (simp (disch := first | omega | (simp <;> omega) | fail) only [push_cast, ↓reduceIte, Nat.reduceEqDiff, Nat.reduceAdd, Nat.reduceMul, Nat.reduceSub, Nat.reduceLT, Int.reduceToNat]))
  refine (c_spec_stSeal s (by omega)).call ?_
  (try (simp (disch := first | omega | (simp <;> omega) | fail) only [push_cast, ↓reduceIte, Nat.reduceEqDiff, Nat.reduceAdd, Nat.reduceMul, Nat.reduceSub, Nat.reduceLT, Int.reduceToNat]))
  all_goals (try rfl)

theorem c_spec_ImageOfSparse (s : Spa) : Fn Tryz.prog 8 [eSp s] (· = imgSV s) := by
  refine Fn.of free_imgSV fun h => ?_
  refine enter (by kernel_rfl) e8 (by kernel_rfl) rfl fun hok => ?_
  simp only [r8, initEnv_1]
  (try (simp (disch := first | omega | (simp <;> omega) | fail) only [push_cast, ↓reduceIte, Nat.reduceEqDiff, Nat.reduceAdd, Nat.reduceMul, Nat.reduceSub, Nat.reduceLT, Int.reduceToNat]))
  refine (c_spec_spGood s).call ?_
  unfold imgSV
  cases hk : okSp s
  · (try (simp (disch := first | omega | (simp <;> omega) | fail) only [push_cast, ↓reduceIte, Nat.reduceEqDiff, Nat.reduceAdd, Nat.reduceMul, Nat.reduceSub, Nat.reduceLT, Int.reduceToNat]))
    all_goals (try rfl)
  obtain ⟨b1, b2, b3, b4⟩ := okSp_lt hk
  have hp : preSp s = true := by simp only [okSp, Bool.and_eq_true] at hk; exact hk.1
  obtain ⟨cnt, lim, n, e1, e2, e3, e4, e5, e6, e7, e8, e9, ho, hls⟩ := preSp_of hp
  have hlist := c_spec_spList s _ _ _ _ _ _ _ ho
  rw [← hls] at hlist
  have hlr : inR s.limit := by unfold inR; omega
  have htl := spT_len hlr (natI_in b2) (by rw [natI_len]; exact b1)
  have hz := spT_zero (lim := s.limit) (l := natI (spLs s))
  have i1 := itoa_len hlr
  simp only [if_true]
  generalize spLs s = L at *
  (try (simp (disch := first | omega | (simp <;> omega) | fail) only [push_cast, ↓reduceIte, Nat.reduceEqDiff, Nat.reduceAdd, Nat.reduceMul, Nat.reduceSub, Nat.reduceLT, Int.reduceToNat]))
  refine (c_spec_l1Num_i s.limit (by omega) (by omega)).call ?_
  (try (simp (disch := first | omega | (simp <;> omega) | fail) only [push_cast, ↓reduceIte, Nat.reduceEqDiff, Nat.reduceAdd, Nat.reduceMul, Nat.reduceSub, Nat.reduceLT, Int.reduceToNat]))
  refine hlist.use ?_
  rintro x ⟨o, rfl, hol⟩
  have hln : (lI o).length = L.length := by rw [hol, natI_len]
  (try (simp (disch := first | omega | (simp <;> omega) | fail) only [push_cast, ↓reduceIte, Nat.reduceEqDiff, Nat.reduceAdd, Nat.reduceMul, Nat.reduceSub, Nat.reduceLT, Int.reduceToNat, hln]))
  refine T_for L.length (fun i e h' => Pins e [(4, .str (spT s.limit (natI L) i)), (15, eI o), (16, .int .i64 L.length), (17, .int .i64 i)] ∧ h'.length = h'.length) ?_ ?_
  · (try (simp (disch := first | omega | (simp <;> omega) | fail) only [push_cast, ↓reduceIte, Nat.reduceEqDiff, Nat.reduceAdd, Nat.reduceMul, Nat.reduceSub, Nat.reduceLT, Int.reduceToNat, hln]))
    all_goals (try (rw [hz]; simp))
    all_goals (try simp [hz])
  rintro i e h' hi ⟨hp, _⟩
  refine T_pins hp fun e => ?_
  have ht0 := htl i
  (try (simp (disch := first | omega | (simp <;> omega) | fail) only [push_cast, ↓reduceIte, Nat.reduceEqDiff, Nat.reduceAdd, Nat.reduceMul, Nat.reduceSub, Nat.reduceLT, Int.reduceToNat]))
  first | refine goC_split (fun hc => ?_) (fun hc => ?_) | refine cnd_split (fun hc => ?_) (fun hc => ?_)
  · (try (simp only [decide_eq_true_eq, decide_eq_false_iff_not, Bool.not_eq_true', Bool.not_eq_false', Bool.and_eq_true, Bool.or_eq_true, Int.not_lt, Int.not_le] at hc)); (try (simp (disch := first | omega | (simp <;> omega) | fail) only [push_cast, ↓reduceIte, Nat.reduceEqDiff, Nat.reduceAdd, Nat.reduceMul, Nat.reduceSub, Nat.reduceLT, Int.reduceToNat]))
    have hi2 : i < L.length := by omega
    have hsu := spT_succ (lim := s.limit) (l := natI L) (i := i) (by rw [natI_len]; exact hi2)
    rw [natI_get] at hsu
    have hgi : (lI o).getD i 0 = ((L.getD i 0 : Nat) : Int) := by rw [hol, natI_get]
    have hx : L.getD i 0 < 1000000 := b2 _ (by simp [hi2])
    obtain ⟨k, hk⟩ : ∃ k, k = L.getD i 0 := ⟨_, rfl⟩
    rw [← hk] at hsu hgi hx
    have i2 := itoa_len (n := (k : Int)) (by unfold inR; omega)
    (try (simp (disch := first | omega | (simp <;> omega) | fail) only [push_cast, ↓reduceIte, Nat.reduceEqDiff, Nat.reduceAdd, Nat.reduceMul, Nat.reduceSub, Nat.reduceLT, Int.reduceToNat, hln, hgi]))
    refine (c_spec_l1Num_i (k : Int) (by omega) (by omega)).call ?_
    (try (simp (disch := first | omega | (simp <;> omega) | fail) only [push_cast, ↓reduceIte, Nat.reduceEqDiff, Nat.reduceAdd, Nat.reduceMul, Nat.reduceSub, Nat.reduceLT, Int.reduceToNat]))
    all_goals (try (rw [hsu]))
    all_goals (try simp)
  · (try (simp only [decide_eq_true_eq, decide_eq_false_iff_not, Bool.not_eq_true', Bool.not_eq_false', Bool.and_eq_true, Bool.or_eq_true, Int.not_lt, Int.not_le] at hc)); (try (simp (disch := first | omega | (simp <;> omega) | fail) only [push_cast, ↓reduceIte, Nat.reduceEqDiff, Nat.reduceAdd, Nat.reduceMul, Nat.reduceSub, Nat.reduceLT, Int.reduceToNat]))
    have hie : i = L.length := by omega
    subst hie
    (try (simp (disch := first | omega | (simp <;> omega) | fail) only [push_cast, ↓reduceIte, Nat.reduceEqDiff, Nat.reduceAdd, Nat.reduceMul, Nat.reduceSub, Nat.reduceLT, Int.reduceToNat]))
    refine (c_spec_stSealed _).call ?_
    have hv : ∃ t b, sealV (spT s.limit (natI L) L.length) = .tup [.str t, .bool b] := by
      unfold sealV
      split <;> exact ⟨_, _, rfl⟩
    obtain ⟨t, b, hv⟩ := hv
    rw [hv]
    (try (simp (disch := first | omega | (simp <;> omega) | fail) only [push_cast, ↓reduceIte, Nat.reduceEqDiff, Nat.reduceAdd, Nat.reduceMul, Nat.reduceSub, Nat.reduceLT, Int.reduceToNat]))
    all_goals (try rfl)

end Go.Proofs.YtbkcenkfecndjaaGreatDoor.M
