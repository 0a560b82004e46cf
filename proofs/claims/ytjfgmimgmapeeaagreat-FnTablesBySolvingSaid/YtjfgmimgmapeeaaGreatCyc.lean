/-
  What the functions return.
-/
import Derived.Test.YtjfgmimgmapeeaaGreatFyc
import Derived.Test.YtjfgmimgmapeeaaGreatShelf
import Derived.Test.YtjfgmimgmapeeaaGreatCyb
namespace Go.Proofs.YtjfgmimgmapeeaaGreat.M
open Go Go.RowKit
set_option linter.unusedVariables false
set_option linter.unusedSimpArgs false
set_option maxRecDepth 4000

theorem c_Clone_ints_own (l : List Int) (hl : l.length ≤ 1000000) (h : H) : Call Tryz.prog 72 [eI (some l)] h Nowhere (fun x h' => ∃ b, x = .sl b 0 1 l.length l.length ∧ h.length ≤ b ∧ (∃ p, h' = h ++ p) ∧ h'.cells b = some (l.map (.int .i64))) := by
  show Call Tryz.prog 72 [.ro 1 (l.map (.int .i64)) l.length] h Nowhere _
  refine enter (by kernel_rfl) e72 (by kernel_rfl) rfl fun hok => ?_
  simp only [r72, initEnv_1]
  (try (simp (disch := first | omega | (simp <;> omega) | fail) only [push_cast, ↓reduceIte, Nat.reduceEqDiff, Nat.reduceAdd, Nat.reduceMul, Nat.reduceSub, Nat.reduceLT, Int.reduceToNat]))
  have hs0 : S1 (h ++ [some (.cells [])]) 1 (.sl h.length 0 1 0 0) 0 [] [h.length] := ⟨by simp, .inr ⟨h.length, rfl, rfl, by rw [cells_h0]; rfl⟩⟩
  by_cases h0 : l.length = 0
  · have hl0 : l = [] := List.eq_nil_of_length_eq_zero h0
    subst hl0
    (try (simp (disch := first | omega | (simp <;> omega) | fail) only [push_cast, ↓reduceIte, Nat.reduceEqDiff, Nat.reduceAdd, Nat.reduceMul, Nat.reduceSub, Nat.reduceLT, Int.reduceToNat, lI]))
    all_goals (try exact ⟨_, rfl, Nat.le_refl _, ⟨_, rfl⟩, by rw [cells_h0]; rfl⟩)
  · (try (simp (disch := first | omega | (simp <;> omega) | fail) only [push_cast, ↓reduceIte, Nat.reduceEqDiff, Nat.reduceAdd, Nat.reduceMul, Nat.reduceSub, Nat.reduceLT, Int.reduceToNat, lI]))
    all_goals (try exact ⟨_, rfl, by omega, ⟨_, rfl⟩, by rw [cells_hk]; simp [cellsO, List.take_of_length_le]⟩)

theorem cells_tl {h p : H} {a a' c c' : Option AObj} {b : Nat} {cs : List AV} (hb : h.length + 2 ≤ b) (hc : H.cells (h ++ a :: c :: p) b = some cs) : H.cells (h ++ a' :: c' :: p) b = some cs := by
  rw [cells_eq] at hc ⊢
  rw [List.getElem?_append_right (by omega)] at hc ⊢
  obtain ⟨k, hk⟩ : ∃ k, b - h.length = k + 2 := ⟨b - h.length - 2, by omega⟩
  rw [hk] at hc ⊢
  simpa using hc
theorem c_impl_cloneBits_own (n : Int) (l : List Int) (hl : l.length ≤ 1000000) (h : H) : Call Tryz.prog 115 [eB ⟨n, some l⟩] h Nowhere (fun x h' => ∃ b, x = .agg [.int .i64 n, .sl b 0 1 l.length l.length] ∧ h.length ≤ b ∧ (∃ p, h' = h ++ p) ∧ h'.cells b = some (l.map (.int .i64))) := by
  refine enter (by kernel_rfl) e115 (by kernel_rfl) rfl fun hok => ?_
  simp only [r115, initEnv_1]
  (try (simp (disch := first | omega | (simp <;> omega) | fail) only [push_cast, ↓reduceIte, Nat.reduceEqDiff, Nat.reduceAdd, Nat.reduceMul, Nat.reduceSub, Nat.reduceLT, Int.reduceToNat]))
  repeat' (with_reducible refine And.intro ?_ ?_)
  all_goals
    refine (c_Clone_ints_own l hl _).mono (fun x h1 hx => ?_) (fun _ _ h => h.elim)
    obtain ⟨b, rfl, hb, ⟨p, rfl⟩, hc⟩ := hx
    simp only [List.append_assoc, List.cons_append, List.nil_append, List.length_append, List.length_cons, List.length_nil] at hb hc
    (try (simp (disch := first | omega | (simp <;> omega) | fail) only [push_cast, ↓reduceIte, Nat.reduceEqDiff, Nat.reduceAdd, Nat.reduceMul, Nat.reduceSub, Nat.reduceLT, Int.reduceToNat, reads, List.mem_cons, List.mem_append, List.not_mem_nil, nat_ff, or_self, or_false, false_or, not_false_eq_true]))
    try exact ⟨b, rfl, by omega, ⟨_, rfl⟩, cells_tl (by omega) hc⟩

theorem c_impl_Bits_at (ws : Option (List Int)) (B m i : Nat) (cs : List AV) (off : Nat) (h1 : cs[off + 1]? = some (eI ws)) (hw : lI ws = wordsN B m) (hi : i < 16 * m) (hm : m ≤ 1000000) : Fn Tryz.prog 89 [.rad cs off, .int .i64 i] (· = .bool (B.testBit i)) := by
  refine Fn.of free_bool fun h => ?_
  refine enter (by kernel_rfl) e89 (by kernel_rfl) rfl fun hok => ?_
  simp only [r89, initEnv_2]
  have hln : (lI ws).length = m := by rw [hw, wordsN_len]
  have hat := at_word hw hi
  (try (simp (disch := first | omega | (simp <;> omega) | fail) only [push_cast, ↓reduceIte, Nat.reduceEqDiff, Nat.reduceAdd, Nat.reduceMul, Nat.reduceSub, Nat.reduceLT, Int.reduceToNat, h1]))
  rw [← hat]
  (first | refine goC_split (fun hc => ?_) (fun hc => ?_) | refine cnd_split (fun hc => ?_) (fun hc => ?_)) <;> ((try (simp (disch := first | omega | (simp <;> omega) | fail) only [push_cast, ↓reduceIte, Nat.reduceEqDiff, Nat.reduceAdd, Nat.reduceMul, Nat.reduceSub, Nat.reduceLT, Int.reduceToNat]))) <;> (try rw [hc])

theorem c_impl_Bits_next (ws : Option (List Int)) (n B m : Nat) (cs : List AV) (off : Nat) (h0 : cs[off]? = some (.int .i64 n)) (h1 : cs[off + 1]? = some (eI ws)) (hw : lI ws = wordsN B m) (hm : n ≤ 16 * m) (hm2 : m ≤ 100000) : Fn Tryz.prog 106 [.rad cs off, .int .i64 0, .bool true] (fun x => ∃ k : Int, x = .int .i64 k ∧ decide (k = n) = noBit B n) := by
  intro h
  refine Call.gc (Call.mono (?_ : Call Tryz.prog 106 [.rad cs off, .int .i64 0, .bool true] h Nowhere (fun x _ => ∃ k : Int, x = .int .i64 k ∧ decide (k = n) = noBit B n)) (fun x _ ⟨k, hk, hx⟩ => ⟨⟨k, hk, hx⟩, by rw [hk]; exact free_int⟩) (fun _ _ h => h))
  refine enter (by kernel_rfl) e106 (by kernel_rfl) rfl fun hok => ?_
  simp only [r106, initEnv_3]
  (try (simp (disch := first | omega | (simp <;> omega) | fail) only [push_cast, ↓reduceIte, Nat.reduceEqDiff, Nat.reduceAdd, Nat.reduceMul, Nat.reduceSub, Nat.reduceLT, Int.reduceToNat]))
  refine T_for n (fun i e h' => Pins e [(0, .rad cs off), (1, .int .i64 i), (2, .bool true)] ∧ noBit B i = true) ?_ ?_
  · (try (simp (disch := first | omega | (simp <;> omega) | fail) only [push_cast, ↓reduceIte, Nat.reduceEqDiff, Nat.reduceAdd, Nat.reduceMul, Nat.reduceSub, Nat.reduceLT, Int.reduceToNat]))
    all_goals (try rfl)
  rintro i e h' hi ⟨hp, ha⟩
  refine T_pins hp fun e => ?_
  (try (simp (disch := first | omega | (simp <;> omega) | fail) only [push_cast, ↓reduceIte, Nat.reduceEqDiff, Nat.reduceAdd, Nat.reduceMul, Nat.reduceSub, Nat.reduceLT, Int.reduceToNat, h0]))
  first | refine goC_split (fun hc => ?_) (fun hc => ?_) | refine cnd_split (fun hc => ?_) (fun hc => ?_)
  · (try (simp only [decide_eq_true_eq, decide_eq_false_iff_not, Bool.not_eq_true', Bool.not_eq_false', Bool.and_eq_true, Bool.or_eq_true, Int.not_lt, Int.not_le] at hc)); (try (simp (disch := first | omega | (simp <;> omega) | fail) only [push_cast, ↓reduceIte, Nat.reduceEqDiff, Nat.reduceAdd, Nat.reduceMul, Nat.reduceSub, Nat.reduceLT, Int.reduceToNat]))
    have hin : i < n := by omega
    (try (simp (disch := first | omega | (simp <;> omega) | fail) only [push_cast, ↓reduceIte, Nat.reduceEqDiff, Nat.reduceAdd, Nat.reduceMul, Nat.reduceSub, Nat.reduceLT, Int.reduceToNat, h0]))
    refine (c_impl_Bits_at ws B m i cs off h1 hw (by omega) (by omega)).call ?_
    have hns := noBit_succ (B := B) (n := i)
    cases hb : B.testBit i
    · have hno : noBit B (i + 1) = true := by rw [hns, ha, hb]; rfl
      (try (simp (disch := first | omega | (simp <;> omega) | fail) only [push_cast, ↓reduceIte, Nat.reduceEqDiff, Nat.reduceAdd, Nat.reduceMul, Nat.reduceSub, Nat.reduceLT, Int.reduceToNat, hno]))
      all_goals (try exact hno)
    · have hno := noBit_no hin hb
      (try (simp (disch := first | omega | (simp <;> omega) | fail) only [push_cast, ↓reduceIte, Nat.reduceEqDiff, Nat.reduceAdd, Nat.reduceMul, Nat.reduceSub, Nat.reduceLT, Int.reduceToNat]))
      refine ⟨_, rfl, ?_⟩
      rw [hno]
      simp
      try omega
  · (try (simp only [decide_eq_true_eq, decide_eq_false_iff_not, Bool.not_eq_true', Bool.not_eq_false', Bool.and_eq_true, Bool.or_eq_true, Int.not_lt, Int.not_le] at hc)); (try (simp (disch := first | omega | (simp <;> omega) | fail) only [push_cast, ↓reduceIte, Nat.reduceEqDiff, Nat.reduceAdd, Nat.reduceMul, Nat.reduceSub, Nat.reduceLT, Int.reduceToNat]))
    have hin : i = n := by omega
    subst hin
    (try (simp (disch := first | omega | (simp <;> omega) | fail) only [push_cast, ↓reduceIte, Nat.reduceEqDiff, Nat.reduceAdd, Nat.reduceMul, Nat.reduceSub, Nat.reduceLT, Int.reduceToNat]))
    refine ⟨_, rfl, ?_⟩
    rw [ha]
    simp
theorem c_impl_Bits_next2 (ws : Option (List Int)) (n B m : Nat) (cs : List AV) (off : Nat) (h0 : cs[off]? = some (.int .i64 n)) (h1 : cs[off + 1]? = some (eI ws)) (hw : lI ws = wordsN B m) (hm : n ≤ 16 * m) (hm2 : m ≤ 100000) : Fn Tryz.prog 106 [.rad cs off, .int .i64 0, .bool true] (· = .int .i64 (lead n B)) := by
  refine Fn.of free_int fun h => ?_
  refine enter (by kernel_rfl) e106 (by kernel_rfl) rfl fun hok => ?_
  simp only [r106, initEnv_3]
  (try (simp (disch := first | omega | (simp <;> omega) | fail) only [push_cast, ↓reduceIte, Nat.reduceEqDiff, Nat.reduceAdd, Nat.reduceMul, Nat.reduceSub, Nat.reduceLT, Int.reduceToNat]))
  refine T_for n (fun i e h' => Pins e [(0, .rad cs off), (1, .int .i64 i), (2, .bool true)] ∧ noBit B i = true) ?_ ?_
  · (try (simp (disch := first | omega | (simp <;> omega) | fail) only [push_cast, ↓reduceIte, Nat.reduceEqDiff, Nat.reduceAdd, Nat.reduceMul, Nat.reduceSub, Nat.reduceLT, Int.reduceToNat]))
    all_goals (try rfl)
  rintro i e h' hi ⟨hp, ha⟩
  refine T_pins hp fun e => ?_
  (try (simp (disch := first | omega | (simp <;> omega) | fail) only [push_cast, ↓reduceIte, Nat.reduceEqDiff, Nat.reduceAdd, Nat.reduceMul, Nat.reduceSub, Nat.reduceLT, Int.reduceToNat, h0]))
  first | refine goC_split (fun hc => ?_) (fun hc => ?_) | refine cnd_split (fun hc => ?_) (fun hc => ?_)
  · (try (simp only [decide_eq_true_eq, decide_eq_false_iff_not, Bool.not_eq_true', Bool.not_eq_false', Bool.and_eq_true, Bool.or_eq_true, Int.not_lt, Int.not_le] at hc)); (try (simp (disch := first | omega | (simp <;> omega) | fail) only [push_cast, ↓reduceIte, Nat.reduceEqDiff, Nat.reduceAdd, Nat.reduceMul, Nat.reduceSub, Nat.reduceLT, Int.reduceToNat]))
    have hin : i < n := by omega
    (try (simp (disch := first | omega | (simp <;> omega) | fail) only [push_cast, ↓reduceIte, Nat.reduceEqDiff, Nat.reduceAdd, Nat.reduceMul, Nat.reduceSub, Nat.reduceLT, Int.reduceToNat, h0]))
    refine (c_impl_Bits_at ws B m i cs off h1 hw (by omega) (by omega)).call ?_
    have hns := noBit_succ (B := B) (n := i)
    cases hb : B.testBit i
    · have hno : noBit B (i + 1) = true := by rw [hns, ha, hb]; rfl
      (try (simp (disch := first | omega | (simp <;> omega) | fail) only [push_cast, ↓reduceIte, Nat.reduceEqDiff, Nat.reduceAdd, Nat.reduceMul, Nat.reduceSub, Nat.reduceLT, Int.reduceToNat, hno]))
      all_goals (try exact hno)
    · have hl := lead_is (n := n) hin hb fun j hj => noBit_all ha hj
      (try (simp (disch := first | omega | (simp <;> omega) | fail) only [push_cast, ↓reduceIte, Nat.reduceEqDiff, Nat.reduceAdd, Nat.reduceMul, Nat.reduceSub, Nat.reduceLT, Int.reduceToNat]))
      all_goals (try rw [hl])
  · (try (simp only [decide_eq_true_eq, decide_eq_false_iff_not, Bool.not_eq_true', Bool.not_eq_false', Bool.and_eq_true, Bool.or_eq_true, Int.not_lt, Int.not_le] at hc)); (try (simp (disch := first | omega | (simp <;> omega) | fail) only [push_cast, ↓reduceIte, Nat.reduceEqDiff, Nat.reduceAdd, Nat.reduceMul, Nat.reduceSub, Nat.reduceLT, Int.reduceToNat]))
    have hin : i = n := by omega
    subst hin
    have hl := lead_of_none (n := i) fun j hj => noBit_all ha hj
    (try (simp (disch := first | omega | (simp <;> omega) | fail) only [push_cast, ↓reduceIte, Nat.reduceEqDiff, Nat.reduceAdd, Nat.reduceMul, Nat.reduceSub, Nat.reduceLT, Int.reduceToNat]))
    all_goals (try rw [hl])

set_option maxHeartbeats 1000000 in
theorem c_impl_equation_add (n n2 : Int) (b5 bb bx m A B : Nat) (r r2 : Bool) (wx : Option (List Int)) (h : H) (h5 : h.cells b5 = some [.int .i64 n, .sl bb 0 1 m m, .bool r, .int .u64 0]) (hb : h.cells bb = some ((wordsN A m).map (.int .i64))) (hx : h.cells bx = some [.int .i64 n2, eI wx, .bool r2, .int .u64 0]) (hwx : lI wx = wordsN B m) (hm : m ≤ 1000) (d1 : b5 ≠ bb) (d2 : b5 ≠ bx) (d3 : bx ≠ bb) :
    Call Tryz.prog 105 [.adr b5 0, .adr bx 0] h (fun b' => b' = bb ∨ b' = b5) (fun _ h' => AdI h h' n b5 bb m (A ^^^ B) (r != r2)) := by
  refine enter (by kernel_rfl) e105 (by kernel_rfl) rfl fun hok => ?_
  simp only [r105, initEnv_2]
  have hlx : (lI wx).length = m := by rw [hwx, wordsN_len]
  have hl5 := cells_lt h5
  have hlb := cells_lt hb
  have hlxx := cells_lt hx
  (try (simp (disch := first | omega | (simp <;> omega) | fail) only [push_cast, ↓reduceIte, Nat.reduceEqDiff, Nat.reduceAdd, Nat.reduceMul, Nat.reduceSub, Nat.reduceLT, Int.reduceToNat, hx, hlx]))
  refine T_for m (fun i e h' => Pins e [(0, .adr b5 0), (1, .adr bx 0), (10, eI wx), (11, .int .i64 m), (12, .int .i64 i)] ∧ (h'.length = h.length ∧ (∀ b', b' ≠ bb → h'[b']? = h[b']?) ∧ h'.cells bb = some ((xorUp A B m i).map (.int .i64)))) ?_ ?_
  · (try (simp (disch := first | omega | (simp <;> omega) | fail) only [push_cast, ↓reduceIte, Nat.reduceEqDiff, Nat.reduceAdd, Nat.reduceMul, Nat.reduceSub, Nat.reduceLT, Int.reduceToNat]))
    all_goals (try exact ⟨fun _ _ => trivial, by rw [xorUp_0]; exact hb⟩)
  rintro i e h' hi ⟨hp, g1, g2, g3⟩
  refine T_pins hp fun e => ?_
  have k5 := cells_fr2 g2 h5 d1
  have kx := cells_fr2 g2 hx d3
  (try (simp (disch := first | omega | (simp <;> omega) | fail) only [push_cast, ↓reduceIte, Nat.reduceEqDiff, Nat.reduceAdd, Nat.reduceMul, Nat.reduceSub, Nat.reduceLT, Int.reduceToNat]))
  first | refine goC_split (fun hc => ?_) (fun hc => ?_) | refine cnd_split (fun hc => ?_) (fun hc => ?_)
  · (try (simp only [decide_eq_true_eq, decide_eq_false_iff_not, Bool.not_eq_true', Bool.not_eq_false', Bool.and_eq_true, Bool.or_eq_true, Int.not_lt, Int.not_le] at hc)); (try (simp (disch := first | omega | (simp <;> omega) | fail) only [push_cast, ↓reduceIte, Nat.reduceEqDiff, Nat.reduceAdd, Nat.reduceMul, Nat.reduceSub, Nat.reduceLT, Int.reduceToNat]))
    have hi2 : i < m := by omega
    have hgx : (lI wx).getD i 0 = (wordN B i : Int) := by rw [hwx, wordsN_get hi2]
    have hwl := wordN_lt (B := A) (k := i)
    have hwl2 := wordN_lt (B := B) (k := i)
    have hgi : ((xorUp A B m i).map (AV.int .i64))[i]? = some (.int .i64 (wordN A i : Int)) := by
      rw [get_I (by rw [xorUp_len]; omega), xorUp_get hi2]
    have hlen : ((xorUp A B m i).map (AV.int .i64)).length = m := by simp [xorUp_len]
    have hxr := bitsI_xor (x := wordN A i) (y := wordN B i) (by omega) (by omega)
    have hos : over ((xorUp A B m i).map (AV.int .i64)) i [.int .i64 ((wordN A i ^^^ wordN B i : Nat) : Int)] = (xorUp A B m (i + 1)).map (.int .i64) := by
      rw [over_set (by rw [hlen]; omega), ← List.map_set, xorUp_next hi2]
    (try (simp (disch := first | omega | (simp <;> omega) | fail) only [push_cast, ↓reduceIte, Nat.reduceEqDiff, Nat.reduceAdd, Nat.reduceMul, Nat.reduceSub, Nat.reduceLT, Int.reduceToNat, k5, kx, g3, hgx, hgi, hlen, hxr, hos, reads, List.mem_cons, List.mem_append, List.not_mem_nil, nat_ff, or_self, or_false, false_or, not_false_eq_true]))
    all_goals (try exact ⟨by simp [wr]; omega, fun b' h2 => by unfold wr; rw [List.getElem?_set_ne (Ne.symm h2)]; exact g2 b' h2, by rw [cells_wr2 (by omega)]⟩)
  · (try (simp only [decide_eq_true_eq, decide_eq_false_iff_not, Bool.not_eq_true', Bool.not_eq_false', Bool.and_eq_true, Bool.or_eq_true, Int.not_lt, Int.not_le] at hc)); (try (simp (disch := first | omega | (simp <;> omega) | fail) only [push_cast, ↓reduceIte, Nat.reduceEqDiff, Nat.reduceAdd, Nat.reduceMul, Nat.reduceSub, Nat.reduceLT, Int.reduceToNat]))
    have hin : i = m := by omega
    subst hin
    rw [xorUp_all] at g3
    have hbeq : (r != r2) = !(r == r2) := rfl
    rw [hbeq]
    have w5 : ∀ q : Bool, H.cells (wr h' b5 [.int .i64 n, .sl bb 0 1 i i, .bool q, .int .u64 0]) b5 = some [.int .i64 n, .sl bb 0 1 i i, .bool q, .int .u64 0] := fun q => cells_wr2 (by omega)
    have wX : ∀ q : Bool, H.cells (wr h' b5 [.int .i64 n, .sl bb 0 1 i i, .bool q, .int .u64 0]) bx = some [.int .i64 n2, eI wx, .bool r2, .int .u64 0] := fun q => by
      rw [cells_eq]
      unfold wr
      rw [List.getElem?_set_ne d2, ← cells_eq]
      exact kx
    have hz : bitsI .xor .u64 0 0 = 0 := by decide
    have hfin : ∀ q : Bool, AdI h (wr (wr h' b5 [.int .i64 n, .sl bb 0 1 i i, .bool q, .int .u64 0]) b5 [.int .i64 n, .sl bb 0 1 i i, .bool q, .int .u64 0]) n b5 bb i (A ^^^ B) q := fun q => by
      refine ⟨by simp [wr]; omega, fun b' _ h1 h2 => ?_, cells_wr2 (by simp [wr]; omega), ?_⟩
      · unfold wr
        rw [List.getElem?_set_ne (Ne.symm h2), List.getElem?_set_ne (Ne.symm h2)]
        exact g2 b' h1
      · rw [cells_eq]
        unfold wr
        rw [List.getElem?_set_ne d1, List.getElem?_set_ne d1, ← cells_eq]
        exact g3
    cases hq : (r == r2)
    · (try (simp (disch := first | omega | (simp <;> omega) | fail) only [push_cast, ↓reduceIte, Nat.reduceEqDiff, Nat.reduceAdd, Nat.reduceMul, Nat.reduceSub, Nat.reduceLT, Int.reduceToNat, k5, kx, hq, w5, wX, hz, reads, List.mem_cons, List.mem_append, List.not_mem_nil, nat_ff, or_self, or_false, false_or, not_false_eq_true]))
      all_goals (try exact ⟨⟨hfin _, hfin _⟩, hfin _, hfin _⟩)
      all_goals (try exact hfin _)
    · (try (simp (disch := first | omega | (simp <;> omega) | fail) only [push_cast, ↓reduceIte, Nat.reduceEqDiff, Nat.reduceAdd, Nat.reduceMul, Nat.reduceSub, Nat.reduceLT, Int.reduceToNat, k5, kx, hq, w5, wX, hz, reads, List.mem_cons, List.mem_append, List.not_mem_nil, nat_ff, or_self, or_false, false_or, not_false_eq_true]))
      all_goals (try exact ⟨⟨hfin _, hfin _⟩, hfin _, hfin _⟩)
      all_goals (try exact hfin _)
set_option maxHeartbeats 1000000 in
theorem c_impl_equation_add2 (m A X u u2 be oe bw bx ox bxw : Nat) (r r2 : Bool) (ce cx : List AV) (h : H) (hm : m ≤ 1000)
    (he : h.cells be = some ce) (hw : h.cells bw = some ((wordsN A m).map (.int .i64))) (hx : h.cells bx = some cx) (hxw : h.cells bxw = some ((wordsN X m).map (.int .i64)))
    (g1 : ce[oe + 1]? = some (.sl bw 0 1 m m)) (g2 : ce[oe + 2]? = some (.bool r)) (g3 : ce[oe + 3]? = some (.int .u64 u))
    (k1 : cx[ox + 1]? = some (.sl bxw 0 1 m m)) (k2 : cx[ox + 2]? = some (.bool r2)) (k3 : cx[ox + 3]? = some (.int .u64 u2))
    (d1 : be ≠ bw) (d2 : bx ≠ be) (d3 : bxw ≠ be) (d4 : bx ≠ bw) (d5 : bxw ≠ bw) (hu : u < 18446744073709551616) (hu2 : u2 < 18446744073709551616) :
    Call Tryz.prog 105 [.adr be oe, .adr bx ox] h (fun b' => b' = bw ∨ b' = be) (fun _ h' => h'.length = h.length ∧ (∀ b', b' ≠ bw → b' ≠ be → h'[b']? = h[b']?) ∧ h'.cells be = some ((ce.set (oe + 2) (.bool (!(r == r2)))).set (oe + 3) (.int .u64 ((u ^^^ u2 : Nat) : Int))) ∧ h'.cells bw = some ((wordsN (A ^^^ X) m).map (.int .i64))) := by
  refine enter (by kernel_rfl) e105 (by kernel_rfl) rfl fun hok => ?_
  simp only [r105, initEnv_2]
  have hl5 := cells_lt he
  have hlb := cells_lt hw
  have hlen : oe + 3 < ce.length := (List.getElem?_eq_some_iff.1 g3).1
  (try (simp (disch := first | omega | (simp <;> omega) | fail) only [push_cast, ↓reduceIte, Nat.reduceEqDiff, Nat.reduceAdd, Nat.reduceMul, Nat.reduceSub, Nat.reduceLT, Int.reduceToNat, hx, k1]))
  refine T_for m (fun i e h' => Pins e [(0, .adr be oe), (1, .adr bx ox), (10, .sl bxw 0 1 m m), (11, .int .i64 m), (12, .int .i64 i)] ∧ (h'.length = h.length ∧ (∀ b', b' ≠ bw → h'[b']? = h[b']?) ∧ h'.cells bw = some ((xorUp A X m i).map (.int .i64)))) ?_ ?_
  · (try (simp (disch := first | omega | (simp <;> omega) | fail) only [push_cast, ↓reduceIte, Nat.reduceEqDiff, Nat.reduceAdd, Nat.reduceMul, Nat.reduceSub, Nat.reduceLT, Int.reduceToNat]))
    all_goals (try exact ⟨rfl, fun _ _ => rfl, by rw [xorUp_0]; exact hw⟩)
    all_goals (try exact ⟨fun _ _ => trivial, by rw [xorUp_0]; exact hw⟩)
  rintro i e h' hi ⟨hp, q1, q2, q3⟩
  refine T_pins hp fun e => ?_
  have ke := cells_fr2 q2 he d1
  have kx := cells_fr2 q2 hx d4
  have kxw := cells_fr2 q2 hxw d5
  (try (simp (disch := first | omega | (simp <;> omega) | fail) only [push_cast, ↓reduceIte, Nat.reduceEqDiff, Nat.reduceAdd, Nat.reduceMul, Nat.reduceSub, Nat.reduceLT, Int.reduceToNat]))
  first | refine goC_split (fun hc => ?_) (fun hc => ?_) | refine cnd_split (fun hc => ?_) (fun hc => ?_)
  · (try (simp only [decide_eq_true_eq, decide_eq_false_iff_not, Bool.not_eq_true', Bool.not_eq_false', Bool.and_eq_true, Bool.or_eq_true, Int.not_lt, Int.not_le] at hc)); (try (simp (disch := first | omega | (simp <;> omega) | fail) only [push_cast, ↓reduceIte, Nat.reduceEqDiff, Nat.reduceAdd, Nat.reduceMul, Nat.reduceSub, Nat.reduceLT, Int.reduceToNat]))
    have hi2 : i < m := by omega
    have hgx : ((wordsN X m).map (AV.int .i64))[i]? = some (.int .i64 (wordN X i : Int)) := by rw [get_I (by rw [wordsN_len]; omega), wordsN_get hi2]
    have hwl := wordN_lt (B := A) (k := i)
    have hwl2 := wordN_lt (B := X) (k := i)
    have hgi : ((xorUp A X m i).map (AV.int .i64))[i]? = some (.int .i64 (wordN A i : Int)) := by
      rw [get_I (by rw [xorUp_len]; omega), xorUp_get hi2]
    have hlen2 : ((xorUp A X m i).map (AV.int .i64)).length = m := by simp [xorUp_len]
    have hxr := bitsI_xor (x := wordN A i) (y := wordN X i) (by omega) (by omega)
    have hos : over ((xorUp A X m i).map (AV.int .i64)) i [.int .i64 ((wordN A i ^^^ wordN X i : Nat) : Int)] = (xorUp A X m (i + 1)).map (.int .i64) := by
      rw [over_set (by rw [hlen2]; omega), ← List.map_set, xorUp_next hi2]
    (try (simp (disch := first | omega | (simp <;> omega) | fail) only [push_cast, ↓reduceIte, Nat.reduceEqDiff, Nat.reduceAdd, Nat.reduceMul, Nat.reduceSub, Nat.reduceLT, Int.reduceToNat, kxw, hgx, ke, g1, q3, hgi, hlen2, hxr, hos, reads, List.mem_cons, List.mem_append, List.not_mem_nil, nat_ff, or_self, or_false, false_or, not_false_eq_true]))
    all_goals (try exact ⟨by simp [wr]; omega, fun b' h2 => by unfold wr; rw [List.getElem?_set_ne (Ne.symm h2)]; exact q2 b' h2, by rw [cells_wr2 (by omega)]⟩)
  · (try (simp only [decide_eq_true_eq, decide_eq_false_iff_not, Bool.not_eq_true', Bool.not_eq_false', Bool.and_eq_true, Bool.or_eq_true, Int.not_lt, Int.not_le] at hc)); (try (simp (disch := first | omega | (simp <;> omega) | fail) only [push_cast, ↓reduceIte, Nat.reduceEqDiff, Nat.reduceAdd, Nat.reduceMul, Nat.reduceSub, Nat.reduceLT, Int.reduceToNat]))
    have hin : i = m := by omega
    subst hin
    rw [xorUp_all] at q3
    have o1 : ∀ q : Bool, over ce (oe + 2) [.bool q] = ce.set (oe + 2) (.bool q) := fun q => over_set (by omega)
    have o2 : ∀ q : Bool, over (ce.set (oe + 2) (.bool q)) (oe + 3) [.int .u64 ((u ^^^ u2 : Nat) : Int)] = (ce.set (oe + 2) (.bool q)).set (oe + 3) (.int .u64 ((u ^^^ u2 : Nat) : Int)) := fun q => over_set (by simp; omega)
    have w5 : ∀ q : Bool, H.cells (wr h' be (ce.set (oe + 2) (.bool q))) be = some (ce.set (oe + 2) (.bool q)) := fun q => cells_wr2 (by omega)
    have w6 : ∀ q : Bool, (ce.set (oe + 2) (.bool q))[oe + 3]? = some (.int .u64 u) := fun q => by
      rw [List.getElem?_set_ne (by omega)]
      exact g3
    have wX : ∀ q : Bool, H.cells (wr h' be (ce.set (oe + 2) (.bool q))) bx = some cx := fun q => by
      rw [cells_eq]
      unfold wr
      rw [List.getElem?_set_ne (Ne.symm d2), ← cells_eq]
      exact kx
    have hll : oe + 2 + 1 ≤ ce.length := by omega
    have hll2 : ∀ q : Bool, oe + 3 + 1 ≤ (ce.set (oe + 2) (.bool q)).length := fun q => by simp; omega
    have hz := bitsI_xor_u64 hu hu2
    have hfin : ∀ q : Bool, (wr (wr h' be (ce.set (oe + 2) (.bool q))) be ((ce.set (oe + 2) (.bool q)).set (oe + 3) (.int .u64 ((u ^^^ u2 : Nat) : Int)))).length = h.length ∧ (∀ b', b' ≠ bw → b' ≠ be → (wr (wr h' be (ce.set (oe + 2) (.bool q))) be ((ce.set (oe + 2) (.bool q)).set (oe + 3) (.int .u64 ((u ^^^ u2 : Nat) : Int))))[b']? = h[b']?) ∧ H.cells (wr (wr h' be (ce.set (oe + 2) (.bool q))) be ((ce.set (oe + 2) (.bool q)).set (oe + 3) (.int .u64 ((u ^^^ u2 : Nat) : Int)))) be = some ((ce.set (oe + 2) (.bool q)).set (oe + 3) (.int .u64 ((u ^^^ u2 : Nat) : Int))) ∧ H.cells (wr (wr h' be (ce.set (oe + 2) (.bool q))) be ((ce.set (oe + 2) (.bool q)).set (oe + 3) (.int .u64 ((u ^^^ u2 : Nat) : Int)))) bw = some ((wordsN (A ^^^ X) i).map (.int .i64)) := fun q => by
      refine ⟨by simp [wr]; omega, fun b' h1 h2 => ?_, cells_wr2 (by simp [wr]; omega), ?_⟩
      · unfold wr
        rw [List.getElem?_set_ne (Ne.symm h2), List.getElem?_set_ne (Ne.symm h2)]
        exact q2 b' h1
      · rw [cells_eq]
        unfold wr
        rw [List.getElem?_set_ne d1, List.getElem?_set_ne d1, ← cells_eq]
        exact q3
    cases hrr : (r == r2)
    · (try (simp (disch := first | omega | (simp <;> omega) | fail) only [push_cast, ↓reduceIte, Nat.reduceEqDiff, Nat.reduceAdd, Nat.reduceMul, Nat.reduceSub, Nat.reduceLT, Int.reduceToNat, ke, kx, g2, k2, k3, hrr, o1, hll, w5, wX, w6, hz, o2, hll2, reads, List.mem_cons, List.mem_append, List.not_mem_nil, nat_ff, or_self, or_false, false_or, not_false_eq_true]))
      all_goals (try exact ⟨⟨hfin _, hfin _⟩, hfin _, hfin _⟩)
      all_goals (try exact hfin _)
    · (try (simp (disch := first | omega | (simp <;> omega) | fail) only [push_cast, ↓reduceIte, Nat.reduceEqDiff, Nat.reduceAdd, Nat.reduceMul, Nat.reduceSub, Nat.reduceLT, Int.reduceToNat, ke, kx, g2, k2, k3, hrr, o1, hll, w5, wX, w6, hz, o2, hll2, reads, List.mem_cons, List.mem_append, List.not_mem_nil, nat_ff, or_self, or_false, false_or, not_false_eq_true]))
      all_goals (try exact ⟨⟨hfin _, hfin _⟩, hfin _, hfin _⟩)
      all_goals (try exact hfin _)

theorem ce_sortEq : CanEnter Tryz.prog (Tryz.sortEq_ren.f 6) := canEnter_of (Tryz.func144) (by kernel_rfl) (by kernel_rfl)
theorem aE_sortEq : ∀ w, (isAgg (Tryz.sortEq_ren.t 24)).run Tryz.prog w = .ok true w := Tryz.isAgg127
theorem zE_sortEq : ∀ w, (Go.sizeOf (Tryz.sortEq_ren.t 24)).run Tryz.prog w = .ok 4 w := Tryz.sizeOf127

theorem lend_Q {h : H} {b n m X : Nat} (hc : h.cells b = some (cQ n m X)) {xs ts : List AV} (hr : Lend h xs ts) : Lend h (.adr b 0 :: xs) (.rad (cQ n m X) 0 :: ts) := .adr hc free_cQ hr
theorem c_impl_reduced_1 (n m X Y : Nat) (hm : n ≤ 16 * m) (hm2 : m ≤ 100000) : Fn Tryz.prog 145 [.agg (cQ n m X), .agg (cQ n m Y)] (· = .int .i64 ((lead n X : Int) - (lead n Y : Int))) := by
  refine Fn.of free_int fun h => ?_
  refine enter (by kernel_rfl) e145 (by kernel_rfl) rfl fun hok => ?_
  simp only [r145, initEnv_2]
  have hl1 := lead_le (n := n) (X := X)
  have hl2 := lead_le (n := n) (X := Y)
  have hX := c_impl_Bits_next2 (some (wordsN (X % 2 ^ n) m)) n (X % 2 ^ n) m (cQ n m X) 0 rfl rfl rfl hm hm2
  have hY := c_impl_Bits_next2 (some (wordsN (Y % 2 ^ n) m)) n (Y % 2 ^ n) m (cQ n m Y) 0 rfl rfl rfl hm hm2
  rw [lead_mod] at hX hY
  have oX : (cQ n m X).all one = true := rfl
  have oY : (cQ n m Y).all one = true := rfl
  (try (simp (disch := first | omega | (simp <;> omega) | fail) only [push_cast, ↓reduceIte, Nat.reduceEqDiff, Nat.reduceAdd, Nat.reduceMul, Nat.reduceSub, Nat.reduceLT, Int.reduceToNat, oX, oY]))
  refine hX.lendL ?_ own_int ?_
  · exact lend_Q (by rw [cells_h0]; rfl) (.free free_int (.free free_bool .nil))
  (try (simp (disch := first | omega | (simp <;> omega) | fail) only [push_cast, ↓reduceIte, Nat.reduceEqDiff, Nat.reduceAdd, Nat.reduceMul, Nat.reduceSub, Nat.reduceLT, Int.reduceToNat]))
  refine hY.lendL ?_ own_int ?_
  · exact lend_Q (by rw [cells_hk]; rfl) (.free free_int (.free free_bool .nil))
  (try (simp (disch := first | omega | (simp <;> omega) | fail) only [push_cast, ↓reduceIte, Nat.reduceEqDiff, Nat.reduceAdd, Nat.reduceMul, Nat.reduceSub, Nat.reduceLT, Int.reduceToNat]))

set_option maxHeartbeats 4000000 in
theorem c_impl_reduced (s : Sy) (n m : Nat) (ho : OkE s n m) : Fn Tryz.prog 90 [eSy s] (redR s n m) := by
  refine Fn.froze_ fun h => ?_
  refine enter (by kernel_rfl) e90 (by kernel_rfl) rfl fun hok => ?_
  simp only [r90, initEnv_1]
  have hnr := ho.nr
  have hlr := ho.lr
  have hsz := ho.sz
  have hn1 := ho.n1
  have hn2 := ho.n2
  have hm := ho.hm
  generalize hD : RCode.dreg _ = D
  (try (simp (disch := first | omega | (simp <;> omega) | fail) only [push_cast, ↓reduceIte, Nat.reduceEqDiff, Nat.reduceAdd, Nat.reduceMul, Nat.reduceSub, Nat.reduceLT, Int.reduceToNat, hsz]))
  refine T_for (lB s.rows).length (fun i e h' => ∃ v B L, Pins e [(1, .adr h.length 0), (2, v), (3, .int .u64 (ofN n (stI s n i).2 : Int)), (11, eBS s.rows), (12, .int .i64 (lB s.rows).length), (13, .int .i64 i)] ∧ OI h h' s n m v B L ∧ L.map (·.1) = (stI s n i).1) ?_ ?_
  · (try (simp (disch := first | omega | (simp <;> omega) | fail) only [push_cast, ↓reduceIte, Nat.reduceEqDiff, Nat.reduceAdd, Nat.reduceMul, Nat.reduceSub, Nat.reduceLT, Int.reduceToNat, hsz]))
    exact ⟨_, [], [], ⟨rfl, by simp [ofN, stI]⟩, ⟨by rw [cells_h0]; rfl, ⟨.nil, by simp, by simp, by simp⟩, fun _ => rfl⟩, rfl⟩
  rintro i e h' hi ⟨v, B, L, hp, hs, hL⟩
  refine T_pins hp fun e => ?_
  have o1 := hs.1
  have hlt1 := cells_lt o1
  (try (simp (disch := first | omega | (simp <;> omega) | fail) only [push_cast, ↓reduceIte, Nat.reduceEqDiff, Nat.reduceAdd, Nat.reduceMul, Nat.reduceSub, Nat.reduceLT, Int.reduceToNat]))
  first | refine goC_split (fun hc => ?_) (fun hc => ?_) | refine cnd_split (fun hc => ?_) (fun hc => ?_)
  · (try (simp only [decide_eq_true_eq, decide_eq_false_iff_not, Bool.not_eq_true', Bool.not_eq_false', Bool.and_eq_true, Bool.or_eq_true, Int.not_lt, Int.not_le] at hc)); (try (simp (disch := first | omega | (simp <;> omega) | fail) only [push_cast, ↓reduceIte, Nat.reduceEqDiff, Nat.reduceAdd, Nat.reduceMul, Nat.reduceSub, Nat.reduceLT, Int.reduceToNat]))
    have hi2 : i < (lB s.rows).length := by omega
    have hlt := ho.lt i hi2
    have hw1 := ho.some hi2
    have hw2 := (ho.w i hi2).2
    (try (simp (disch := first | omega | (simp <;> omega) | fail) only [push_cast, ↓reduceIte, Nat.reduceEqDiff, Nat.reduceAdd, Nat.reduceMul, Nat.reduceSub, Nat.reduceLT, Int.reduceToNat, hw1, hw2, o1]))
    refine T_cut (fun e h1 => ∃ be bw, Pins e [(1, .adr h.length 0), (2, v), (3, .int .u64 (ofN n (stI s n i).2 : Int)), (6, .adr be 0), (11, eBS s.rows), (12, .int .i64 (lB s.rows).length), (13, .int .i64 i)] ∧ RS h h1 s n m v B L be bw (rowE s n i)) ?_ ?_
    · rw [← hD]
      obtain ⟨w, hw⟩ : ∃ w : Nat, w = 2 ^ i := ⟨_, rfl⟩
      have hshl := u64_shl (i := i) (by omega)
      rw [← hw] at hshl
      have hof : ofN n (rowE s n i) = w := by
        rw [hw]
        exact rowE_of hlt
      have hce : ∀ b, cEq n m (rowE s n i, b) = [.int .i64 n, .sl b 0 1 m m, .bool ((lO s.right).getD i false), .int .u64 (w : Int)] := fun b => by
        unfold cEq
        simp only [hof, rowE_right hlt]
      have hrw : rowE s n i % 2 ^ n = rowB s i := rowE_row hlt
      clear hw
      have o1' : ∀ l : H, H.cells (h' ++ l) h.length = .some [.int .i64 n, eBS s.rows, eO s.right] := fun l => cells_app o1
      (try (simp (disch := first | omega | (simp <;> omega) | fail) only [push_cast, ↓reduceIte, Nat.reduceEqDiff, Nat.reduceAdd, Nat.reduceMul, Nat.reduceSub, Nat.reduceLT, Int.reduceToNat, o1', hshl, reads, List.mem_cons, List.mem_append, List.not_mem_nil, nat_ff, or_self, or_false, false_or, not_false_eq_true]))
      refine ⟨?_, ?_⟩
      · refine (c_impl_cloneBits_own n (wordsN (rowB s i) m) (by rw [wordsN_len]; omega) _).mono (fun x h2 hx => ?_) (fun _ _ h => h.elim)
        obtain ⟨b, rfl, hb, ⟨p, rfl⟩, hcw⟩ := hx
        rw [wordsN_len]
        have hbl := cells_lt hcw
        simp only [List.length_append, List.length_cons, List.length_nil] at hb hbl
        (try (simp (disch := first | omega | (simp <;> omega) | fail) only [push_cast, ↓reduceIte, Nat.reduceEqDiff, Nat.reduceAdd, Nat.reduceMul, Nat.reduceSub, Nat.reduceLT, Int.reduceToNat, reads, List.mem_cons, List.mem_append, List.not_mem_nil, nat_ff, or_self, or_false, false_or, not_false_eq_true]))
        refine ⟨_, b, rfl, hs.start (fun b hb => List.getElem?_append_left hb) (by omega) (by omega) (by omega) ?_ ?_⟩
        · rw [hce, cells_hk]
          simp [cellsO]
        · rw [hrw]
          have := cells_app (l := [some (AObj.cells [AV.int .i64 n, .sl b 0 1 m m, .bool ((lO s.right).getD i false), .int .u64 (w : Int)])]) hcw
          simpa using this
      · (try (simp (disch := first | omega | (simp <;> omega) | fail) only [push_cast, ↓reduceIte, Nat.reduceEqDiff, Nat.reduceAdd, Nat.reduceMul, Nat.reduceSub, Nat.reduceLT, Int.reduceToNat, reads, List.mem_cons, List.mem_append, List.not_mem_nil, nat_ff, or_self, or_false, false_or, not_false_eq_true]))
        refine (c_impl_cloneBits_own n (wordsN (rowB s i) m) (by rw [wordsN_len]; omega) _).mono (fun x h2 hx => ?_) (fun _ _ h => h.elim)
        obtain ⟨b, rfl, hb, ⟨p, rfl⟩, hcw⟩ := hx
        rw [wordsN_len]
        have hbl := cells_lt hcw
        simp only [List.length_append, List.length_cons, List.length_nil] at hb hbl
        (try (simp (disch := first | omega | (simp <;> omega) | fail) only [push_cast, ↓reduceIte, Nat.reduceEqDiff, Nat.reduceAdd, Nat.reduceMul, Nat.reduceSub, Nat.reduceLT, Int.reduceToNat, reads, List.mem_cons, List.mem_append, List.not_mem_nil, nat_ff, or_self, or_false, false_or, not_false_eq_true]))
        refine ⟨_, b, rfl, hs.start (fun b hb => List.getElem?_append_left hb) (by omega) (by omega) (by omega) ?_ ?_⟩
        · rw [hce, cells_hk]
          simp [cellsO]
        · rw [hrw]
          have hcw2 : H.cells (h' ++ some (AObj.cells [AV.int .i64 n, eI (some (wordsN (rowB s i) m))]) :: some (AObj.cells [AV.int .i64 0, .nils, .bool false, .int .u64 0]) :: p) b = .some ((wordsN (rowB s i) m).map (.int .i64)) := by simpa using hcw
          exact cells_tl (by omega) hcw2
    have hsim := stI_sim (s := s) (n := n) (i := i)
    have hlead : ∀ p ∈ L, lead n p.1 < n := fun p hp => hsim.ei.lt _ (by rw [← hL]; exact List.mem_map_of_mem hp)
    have hbnd : ∀ p ∈ L, p.1 < 2 ^ (n + 42) := fun p hp => ho.bnd (i := i) (by omega) _ (by rw [← hL]; exact List.mem_map_of_mem hp)
    have hEb : rowE s n i < 2 ^ (n + 42) := Nat.lt_of_lt_of_le (rowE_lt hlt) (Nat.pow_le_pow_right (by decide) (by omega))
    have hLl : L.length ≤ 40 := by
      have h1 := stI_len (s := s) (n := n) (i := i)
      have h2 := congrArg List.length hL
      rw [List.length_map] at h2
      omega
    have hstI := stI_succ (s := s) (n := n) (i := i)
    have hm16 : n ≤ 16 * m := by omega
    have hm1000 : m ≤ 1000 := by omega
    have hnil := hs.2.2
    rintro e h1 ⟨be, bw, hp, hr⟩
    refine K_pins hp fun e => ?_
    have hlv : lenA v = some (.int .i64 L.length) := by
      rcases hs.2.1.1.2 with ⟨rfl, h0, _⟩ | ⟨b, rfl, _, _⟩
      · rw [h0]
        rfl
      · rfl
    have hvb : 0 < L.length → ∃ b, v = .sl b 0 4 L.length L.length ∧ B = [b] := fun h0 => by
      rcases hs.2.1.1.2 with ⟨rfl, h1, _⟩ | ⟨b, rfl, hB, _⟩
      · omega
      · exact ⟨b, rfl, hB⟩
    clear hp hs o1 hlt1 hw1 hw2
    (try (simp (disch := first | omega | (simp <;> omega) | fail) only [push_cast, ↓reduceIte, Nat.reduceEqDiff, Nat.reduceAdd, Nat.reduceMul, Nat.reduceSub, Nat.reduceLT, Int.reduceToNat, hlv]))
    refine T_for L.length (fun k e h1 => Pins e [(1, .adr h.length 0), (2, v), (3, .int .u64 (ofN n (stI s n i).2 : Int)), (6, .adr be 0), (11, eBS s.rows), (12, .int .i64 (lB s.rows).length), (13, .int .i64 i), (29, .int .i64 L.length), (30, .int .i64 k)] ∧ RS h h1 s n m v B L be bw (redI n ((L.map (·.1)).take k) (rowE s n i))) ?_ ?_
    · (try (simp (disch := first | omega | (simp <;> omega) | fail) only [push_cast, ↓reduceIte, Nat.reduceEqDiff, Nat.reduceAdd, Nat.reduceMul, Nat.reduceSub, Nat.reduceLT, Int.reduceToNat]))
      all_goals (try exact hr)
    · clear hr
      rintro k e h1 hk ⟨hp, hr⟩
      refine T_pins hp fun e => ?_
      (try (simp (disch := first | omega | (simp <;> omega) | fail) only [push_cast, ↓reduceIte, Nat.reduceEqDiff, Nat.reduceAdd, Nat.reduceMul, Nat.reduceSub, Nat.reduceLT, Int.reduceToNat]))
      first | refine goC_split (fun hd => ?_) (fun hd => ?_) | refine cnd_split (fun hd => ?_) (fun hd => ?_)
      · (try (simp only [decide_eq_true_eq, decide_eq_false_iff_not, Bool.not_eq_true', Bool.not_eq_false', Bool.and_eq_true, Bool.or_eq_true, Int.not_lt, Int.not_le] at hd)); (try (simp (disch := first | omega | (simp <;> omega) | fail) only [push_cast, ↓reduceIte, Nat.reduceEqDiff, Nat.reduceAdd, Nat.reduceMul, Nat.reduceSub, Nat.reduceLT, Int.reduceToNat]))
        have hk2 : k < L.length := by omega
        obtain ⟨b, rfl, rfl⟩ := hvb (by omega)
        have htk := redI_take (n := n) (k := k) (L := L.map (·.1)) (x := rowE s n i) (by simpa using hk2)
        have hXb : redI n ((L.map (·.1)).take k) (rowE s n i) < 2 ^ (n + 42) := redI_lt (fun l hl => by
          obtain ⟨p, hp, rfl⟩ := List.mem_map.1 (List.mem_of_mem_take hl)
          exact hbnd p hp) hEb
        rw [getD_fst hk2] at htk
        generalize redI n ((L.map (·.1)).take k) (rowE s n i) = X at hr htk hXb
        have hmem := getD_mem (d := (0, 0)) hk2
        have hld := hlead _ hmem
        have hbd := hbnd _ hmem
        have g0 := EqL.get (n := n) (m := m) hk2 0 (by omega)
        have g1 := EqL.get (n := n) (m := m) hk2 1 (by omega)
        have g2 := EqL.get (n := n) (m := m) hk2 2 (by omega)
        have g3 := EqL.get (n := n) (m := m) hk2 3 (by omega)
        have hql : ∀ p : Nat × Nat, (cQ n m p.1).length = 4 := fun p => rfl
        have q0 := flatMap_get hql (0, 0) (k := 0) hk2 (by omega)
        have q1 := flatMap_get hql (0, 0) (k := 1) hk2 (by omega)
        have hpw := (hr.eq.2.2.1 _ hmem)
        have hbB := hr.eq.1.cells b (by simp)
        have hbe : b ≠ be := fun he => hr.beB (by simp [he])
        have hbw : b ≠ bw := fun he => hr.bwB (by simp [he])
        have hbb := hr.eq.2.1 b (by simp)
        have hpe := hr.beL _ hmem
        have hpb := hr.bwL _ hmem
        have hE := hr.ce
        have hW := hr.cw
        have hadr := hr.eq.adr (b := b) (o := k * 4)
        (try (simp (disch := first | omega | (simp <;> omega) | fail) only [push_cast, ↓reduceIte, Nat.reduceEqDiff, Nat.reduceAdd, Nat.reduceMul, Nat.reduceSub, Nat.reduceLT, Int.reduceToNat]))
        generalize L.getD k (0, 0) = p at htk hld hbd g0 g1 g2 g3 q0 q1 hpw hpe hpb
        have hnx := c_impl_Bits_next2 (some (wordsN (p.1 % 2 ^ n) m)) n (p.1 % 2 ^ n) m (L.flatMap fun p => cQ n m p.1) (k * 4) q0 q1 rfl hm16 (by omega)
        rw [lead_mod] at hnx
        refine hnx.lendL (.cons hadr (.free free_int (.free free_bool .nil))) own_int ?_
        (try (simp (disch := first | omega | (simp <;> omega) | fail) only [push_cast, ↓reduceIte, Nat.reduceEqDiff, Nat.reduceAdd, Nat.reduceMul, Nat.reduceSub, Nat.reduceLT, Int.reduceToNat]))
        have hat := c_impl_Bits_at (some (wordsN (X % 2 ^ n) m)) (X % 2 ^ n) m (lead n p.1) (cQ n m X) 0 rfl rfl (by omega) (by omega)
        have hmt : (X % 2 ^ n).testBit (lead n p.1) = X.testBit (lead n p.1) := by
          rw [Nat.testBit_mod_two_pow]
          simp [hld]
        rw [hmt] at hat
        refine hat.lendL (.cons (vw_eqAdr hE hW) (.free free_int .nil)) own_bool ?_
        cases hb : X.testBit (lead n p.1)
        · rw [if_neg (by simp [hb])] at htk
          (try (simp (disch := first | omega | (simp <;> omega) | fail) only [push_cast, ↓reduceIte, Nat.reduceEqDiff, Nat.reduceAdd, Nat.reduceMul, Nat.reduceSub, Nat.reduceLT, Int.reduceToNat]))
          all_goals (try (rw [htk]; exact hr))
        · rw [if_pos hb] at htk
          (try (simp (disch := first | omega | (simp <;> omega) | fail) only [push_cast, ↓reduceIte, Nat.reduceEqDiff, Nat.reduceAdd, Nat.reduceMul, Nat.reduceSub, Nat.reduceLT, Int.reduceToNat]))
          refine (c_impl_equation_add2 m (X % 2 ^ n) (p.1 % 2 ^ n) (ofN n X) (ofN n p.1) be 0 bw b (k * 4) p.2 (X.testBit n) (p.1.testBit n) (cEq n m (X, bw)) (L.flatMap (cEq n m)) h1 hm1000 hE hW hbB hpw.2.2 rfl rfl rfl g1 g2 g3 hr.hne hbe hpe hbw hpb (shr_lt hXb) (shr_lt hbd)).mono (fun y h2 hy => ?_) (fun b' _ hb' => Or.inr (by have := hr.be0; have := hr.bw0; rcases hb' with rfl | rfl <;> omega))
          obtain ⟨y1, y2, y3, y4⟩ := hy
          have hr2 := hr.addE y1 y2 y3 y4
          (try (simp (disch := first | omega | (simp <;> omega) | fail) only [push_cast, ↓reduceIte, Nat.reduceEqDiff, Nat.reduceAdd, Nat.reduceMul, Nat.reduceSub, Nat.reduceLT, Int.reduceToNat]))
          all_goals (try (rw [htk]; exact hr2))
      · (try (simp only [decide_eq_true_eq, decide_eq_false_iff_not, Bool.not_eq_true', Bool.not_eq_false', Bool.and_eq_true, Bool.or_eq_true, Int.not_lt, Int.not_le] at hd)); (try (simp (disch := first | omega | (simp <;> omega) | fail) only [push_cast, ↓reduceIte, Nat.reduceEqDiff, Nat.reduceAdd, Nat.reduceMul, Nat.reduceSub, Nat.reduceLT, Int.reduceToNat]))
        have hke : k = L.length := by omega
        subst hke
        have hXb : redI n (L.map (·.1)) (rowE s n i) < 2 ^ (n + 42) := redI_lt (fun l hl => by
          obtain ⟨p, hp, rfl⟩ := List.mem_map.1 hl
          exact hbnd p hp) hEb
        rw [show (L.map (·.1)).take L.length = L.map (·.1) from List.take_of_length_le (by simp)] at hr
        unfold M.stepI at hstI
        rw [← hL] at hstI
        generalize redI n (L.map (·.1)) (rowE s n i) = X at hr hXb hstI
        have hnx := c_impl_Bits_next2 (some (wordsN (X % 2 ^ n) m)) n (X % 2 ^ n) m (cQ n m X) 0 rfl rfl rfl hm16 (by omega)
        rw [lead_mod] at hnx
        have hE := hr.ce
        have hE2 : h1.cells be = .some [.int .i64 n, .sl bw 0 1 m m, .bool (X.testBit n), .int .u64 (ofN n X : Int)] := hE
        have hW := hr.cw
        have hbx := hr.box
        have hlX := lead_le (n := n) (X := X)
        (try (simp (disch := first | omega | (simp <;> omega) | fail) only [push_cast, ↓reduceIte, Nat.reduceEqDiff, Nat.reduceAdd, Nat.reduceMul, Nat.reduceSub, Nat.reduceLT, Int.reduceToNat]))
        refine hnx.lendL (.cons (vw_eqAdr hE hW) (.free free_int (.free free_bool .nil))) own_int ?_
        by_cases hl : lead n X = n
        · rw [if_neg (by omega)] at hstI
          have hmsk := (ho.msk (i := i) (by omega)).shr
          rw [hsim.ref] at hmsk
          have hout := hr.out hnil
          have hln : ((lead n X : Nat) : Int) = (n : Int) := by rw [hl]
          cases hq : X.testBit n
          · rw [if_neg (by simp [hq])] at hstI
            (try (simp (disch := first | omega | (simp <;> omega) | fail) only [push_cast, ↓reduceIte, Nat.reduceEqDiff, Nat.reduceAdd, Nat.reduceMul, Nat.reduceSub, Nat.reduceLT, Int.reduceToNat, hbx, hE2, hq, hln]))
            all_goals (try exact ⟨_, _, L, ⟨rfl, by rw [hstI]⟩, hout, by rw [hstI]; exact hL⟩)
          · by_cases hz : (stI s n i).2 = 0
            · rw [if_pos ⟨hq, hz⟩] at hstI
              have hz2 : ((ofN n (stI s n i).2 : Nat) : Int) = 0 := by rw [hmsk.2 hz]; rfl
              (try (simp (disch := first | omega | (simp <;> omega) | fail) only [push_cast, ↓reduceIte, Nat.reduceEqDiff, Nat.reduceAdd, Nat.reduceMul, Nat.reduceSub, Nat.reduceLT, Int.reduceToNat, hbx, hE2, hq, hln, hz2]))
              all_goals (try exact ⟨_, _, L, ⟨rfl, by rw [hstI]⟩, hout, by rw [hstI]⟩)
            · rw [if_neg (fun h5 => hz h5.2)] at hstI
              have hz2 : ¬ ((ofN n (stI s n i).2 : Nat) : Int) = 0 := fun h5 => hz (hmsk.1 (by omega))
              (try (simp (disch := first | omega | (simp <;> omega) | fail) only [push_cast, ↓reduceIte, Nat.reduceEqDiff, Nat.reduceAdd, Nat.reduceMul, Nat.reduceSub, Nat.reduceLT, Int.reduceToNat, hbx, hE2, hq, hln, hz2]))
              all_goals (try exact ⟨_, _, L, ⟨rfl, by rw [hstI]⟩, hout, by rw [hstI]; exact hL⟩)
        · have hll : lead n X < n := by omega
          have hln : ¬ ((lead n X : Nat) : Int) = (n : Int) := by omega
          rw [if_pos hll] at hstI
          (try (simp (disch := first | omega | (simp <;> omega) | fail) only [push_cast, ↓reduceIte, Nat.reduceEqDiff, Nat.reduceAdd, Nat.reduceMul, Nat.reduceSub, Nat.reduceLT, Int.reduceToNat, hbx, hln, hlv]))
          refine T_for L.length (fun k e h1 => Pins e [(1, .adr h.length 0), (2, v), (3, .int .u64 (ofN n (stI s n i).2 : Int)), (6, .adr be 0), (8, .int .i64 (lead n X : Int)), (11, eBS s.rows), (12, .int .i64 (lB s.rows).length), (13, .int .i64 i), (60, .int .i64 L.length), (61, .int .i64 k)] ∧ RS h h1 s n m v B (updT n X L k) be bw X) ?_ ?_
          · (try (simp (disch := first | omega | (simp <;> omega) | fail) only [push_cast, ↓reduceIte, Nat.reduceEqDiff, Nat.reduceAdd, Nat.reduceMul, Nat.reduceSub, Nat.reduceLT, Int.reduceToNat]))
            all_goals (try (rw [updT_0]; exact hr))
          clear hr hE hE2 hW hbx
          rintro k e h1 hk ⟨hp, hr⟩
          refine T_pins hp fun e => ?_
          (try (simp (disch := first | omega | (simp <;> omega) | fail) only [push_cast, ↓reduceIte, Nat.reduceEqDiff, Nat.reduceAdd, Nat.reduceMul, Nat.reduceSub, Nat.reduceLT, Int.reduceToNat]))
          first | refine goC_split (fun hd => ?_) (fun hd => ?_) | refine cnd_split (fun hd => ?_) (fun hd => ?_)
          · (try (simp only [decide_eq_true_eq, decide_eq_false_iff_not, Bool.not_eq_true', Bool.not_eq_false', Bool.and_eq_true, Bool.or_eq_true, Int.not_lt, Int.not_le] at hd)); (try (simp (disch := first | omega | (simp <;> omega) | fail) only [push_cast, ↓reduceIte, Nat.reduceEqDiff, Nat.reduceAdd, Nat.reduceMul, Nat.reduceSub, Nat.reduceLT, Int.reduceToNat]))
            have hk2 : k < L.length := by omega
            have hk3 : k < (updT n X L k).length := by rw [updT_len]; exact hk2
            obtain ⟨b, rfl, rfl⟩ := hvb (by omega)
            have hsu := updT_succ (n := n) (X := X) hk2
            have hbd := updT_fst (k := k) hbnd hXb _ (getD_mem (d := (0, 0)) hk3)
            have hgt := updT_get (n := n) (X := X) hk2
            have hmem := getD_mem (d := (0, 0)) hk3
            have g0 := EqL.get (n := n) (m := m) hk3 0 (by omega)
            have g1 := EqL.get (n := n) (m := m) hk3 1 (by omega)
            have g2 := EqL.get (n := n) (m := m) hk3 2 (by omega)
            have g3 := EqL.get (n := n) (m := m) hk3 3 (by omega)
            have hql : ∀ p : Nat × Nat, (cQ n m p.1).length = 4 := fun p => rfl
            have q1 := flatMap_get hql (0, 0) (k := 1) hk3 (by omega)
            have hpw := (hr.eq.2.2.1 _ hmem)
            have hbB := hr.eq.1.cells b (by simp)
            have hbe : b ≠ be := fun he => hr.beB (by simp [he])
            have hbw : b ≠ bw := fun he => hr.bwB (by simp [he])
            have hbb := hr.eq.2.1 b (by simp)
            have hpe := hr.beL _ hmem
            have hpb := hr.bwL _ hmem
            have hE := hr.ce
            have hW := hr.cw
            have hadr := hr.eq.adr (b := b) (o := k * 4)
            have hadd := fun h2 => hr.addL (h2 := h2) hk3
            rw [hgt] at hbd hmem g0 g1 g2 g3 q1 hpw hpe hpb hadd
            generalize updT n X L k = L2 at *
            generalize L.getD k (0, 0) = p at *
            have hat := c_impl_Bits_at (some (wordsN (p.1 % 2 ^ n) m)) (p.1 % 2 ^ n) m (lead n X) (L2.flatMap fun p => cQ n m p.1) (k * 4) q1 rfl (by omega) (by omega)
            have hmt : (p.1 % 2 ^ n).testBit (lead n X) = p.1.testBit (lead n X) := by
              rw [Nat.testBit_mod_two_pow]
              simp [hll]
            rw [hmt] at hat
            (try (simp (disch := first | omega | (simp <;> omega) | fail) only [push_cast, ↓reduceIte, Nat.reduceEqDiff, Nat.reduceAdd, Nat.reduceMul, Nat.reduceSub, Nat.reduceLT, Int.reduceToNat]))
            refine hat.lendL (.cons hadr (.free free_int .nil)) own_bool ?_
            cases hb : p.1.testBit (lead n X)
            · rw [if_neg (by simp [hb])] at hsu
              (try (simp (disch := first | omega | (simp <;> omega) | fail) only [push_cast, ↓reduceIte, Nat.reduceEqDiff, Nat.reduceAdd, Nat.reduceMul, Nat.reduceSub, Nat.reduceLT, Int.reduceToNat]))
              all_goals (try (rw [hsu]; exact hr))
            · rw [if_pos hb] at hsu
              (try (simp (disch := first | omega | (simp <;> omega) | fail) only [push_cast, ↓reduceIte, Nat.reduceEqDiff, Nat.reduceAdd, Nat.reduceMul, Nat.reduceSub, Nat.reduceLT, Int.reduceToNat]))
              refine (c_impl_equation_add2 m (p.1 % 2 ^ n) (X % 2 ^ n) (ofN n p.1) (ofN n X) b (k * 4) p.2 be 0 bw (p.1.testBit n) (X.testBit n) (L2.flatMap (cEq n m)) (cEq n m (X, bw)) h1 hm1000 hbB hpw.2.2 hE hW g1 g2 g3 rfl rfl rfl (fun he => hpw.2.1 (by simp [he])) (Ne.symm hbe) (Ne.symm hbw) (Ne.symm hpe) (Ne.symm hpb) (shr_lt hbd) (shr_lt hXb)).mono (fun y h2 hy => ?_) (fun b' _ hb' => Or.inr (by have := hpw.1; rcases hb' with rfl | rfl <;> omega))
              obtain ⟨y1, y2, y3, y4⟩ := hy
              have hr2 := hadd h2 y1 y2 y3 y4
              (try (simp (disch := first | omega | (simp <;> omega) | fail) only [push_cast, ↓reduceIte, Nat.reduceEqDiff, Nat.reduceAdd, Nat.reduceMul, Nat.reduceSub, Nat.reduceLT, Int.reduceToNat]))
              all_goals (try (rw [hsu]; exact hr2))
          · (try (simp only [decide_eq_true_eq, decide_eq_false_iff_not, Bool.not_eq_true', Bool.not_eq_false', Bool.and_eq_true, Bool.or_eq_true, Int.not_lt, Int.not_le] at hd)); (try (simp (disch := first | omega | (simp <;> omega) | fail) only [push_cast, ↓reduceIte, Nat.reduceEqDiff, Nat.reduceAdd, Nat.reduceMul, Nat.reduceSub, Nat.reduceLT, Int.reduceToNat]))
            have hke : k = L.length := by omega
            subst hke
            have hE2 : h1.cells be = .some [.int .i64 n, .sl bw 0 1 m m, .bool (X.testBit n), .int .u64 (ofN n X : Int)] := hr.ce
            have hfl : fillA [.int .i64 0, .nils, .bool false, .int .u64 0] [(0, 4, .agg [.int .i64 n, .sl bw 0 1 m m, .bool (X.testBit n), .int .u64 (ofN n X : Int)])] = some [.int .i64 n, .sl bw 0 1 m m, .bool (X.testBit n), .int .u64 (ofN n X : Int)] := rfl
            have hrow : rows [AV.int .i64 0, .nils, .bool false, .int .u64 0] 1 = [.int .i64 0, .nils, .bool false, .int .u64 0] := rfl
            have hfin : ∀ v' h2 B', OI h h2 s n m v' B' (updT n X L L.length ++ [(X, bw)]) → (updT n X L L.length ++ [(X, bw)]).map (·.1) = (stI s n (i + 1)).1 ∧ (stI s n (i + 1)).2 = (stI s n i).2 := fun v' h2 B' ho => by
              rw [List.map_append, updT_all, hstI]
              exact ⟨rfl, rfl⟩
            (try (simp (disch := first | omega | (simp <;> omega) | fail) only [push_cast, ↓reduceIte, Nat.reduceEqDiff, Nat.reduceAdd, Nat.reduceMul, Nat.reduceSub, Nat.reduceLT, Int.reduceToNat, hE2, hfl, hrow]))
            refine hr.app (l := [_]) (fun b hb => Or.inr hb) (by rw [updT_len]; omega) fun v' h2 B' hoi => ?_
            obtain ⟨f1, f2⟩ := hfin v' h2 B' hoi
            (try (simp (disch := first | omega | (simp <;> omega) | fail) only [push_cast, ↓reduceIte, Nat.reduceEqDiff, Nat.reduceAdd, Nat.reduceMul, Nat.reduceSub, Nat.reduceLT, Int.reduceToNat]))
            all_goals (try exact ⟨_, _, _, ⟨rfl, by rw [f2]⟩, hoi, f1⟩)
  · (try (simp only [decide_eq_true_eq, decide_eq_false_iff_not, Bool.not_eq_true', Bool.not_eq_false', Bool.and_eq_true, Bool.or_eq_true, Int.not_lt, Int.not_le] at hc)); (try (simp (disch := first | omega | (simp <;> omega) | fail) only [push_cast, ↓reduceIte, Nat.reduceEqDiff, Nat.reduceAdd, Nat.reduceMul, Nat.reduceSub, Nat.reduceLT, Int.reduceToNat]))
    have hie : i = (lB s.rows).length := by omega
    subst hie
    have hm16 : n ≤ 16 * m := by omega
    have hLl : L.length ≤ 40 := by
      have h1 := stI_len (s := s) (n := n) (i := (lB s.rows).length)
      have h2 := congrArg List.length hL
      rw [List.length_map] at h2
      omega
    (try (simp (disch := first | omega | (simp <;> omega) | fail) only [push_cast, ↓reduceIte, Nat.reduceEqDiff, Nat.reduceAdd, Nat.reduceMul, Nat.reduceSub, Nat.reduceLT, Int.reduceToNat]))
    rcases hs.2.1.1.2 with ⟨rfl, h0, _⟩ | ⟨b, rfl, rfl, hbc⟩
    · have hL0 : L = [] := List.eq_nil_of_length_eq_zero h0
      subst hL0
      refine Call.sortNil Tryz.sortEq ce_sortEq ?_
      (try (simp (disch := first | omega | (simp <;> omega) | fail) only [push_cast, ↓reduceIte, Nat.reduceEqDiff, Nat.reduceAdd, Nat.reduceMul, Nat.reduceSub, Nat.reduceLT, Int.reduceToNat]))
      refine ⟨.tup [eQs n m (optN []), .int .u64 (ofN n (stI s n (lB s.rows).length).2 : Int)], ?_, [], by rw [← hL]; simp, rfl⟩
      exact .free (free_tup (free_cons_ free_nils (free_cons_ free_int free_nil_)))
    · have hfree : ∀ p ∈ L, H.cells (filt (fun k => !(k == b)) h') p.2 = some ((wordsN (p.1 % 2 ^ n) m).map (.int .i64)) := fun p hp => by
        obtain ⟨q1, q2, q3⟩ := hs.2.1.2.2.1 p hp
        rw [cells_filt (by simpa using q2)]
        exact q3
      have hb0 := hs.2.1.2.1 b (by simp)
      refine (Call.sortK Tryz.sortEq (sz := 4) (by omega) aE_sortEq zE_sortEq ce_sortEq hbc (flatMap_len (cEq_len n m) L) (by omega) (ts := fun i => .agg (cQ n m (L.getD i (0, 0)).1)) (fun i hi => ?_) (key := fun i => (lead n (L.getD i (0, 0)).1 : Int)) (fun i j hi hj => c_impl_reduced_1 n m _ _ hm16 (by omega))).mono (fun y h2 hy => ?_) (fun b' _ hb' => Or.inr (by subst hb'; omega))
      · rw [rowAt_flat hi]
        exact vw_cEq (Nat.zero_le _) (hfree _ (getD_mem hi))
      · obtain ⟨rfl, l, hl, rfl⟩ := hy
        have hlt : ∀ i ∈ l, i < L.length := fun i hi => List.mem_range.1 (hl.mem_iff.1 hi)
        have hcs : l.flatMap (rowAt (L.flatMap (cEq n m)) 4) = (l.map fun i => L.getD i (0, 0)).flatMap (cEq n m) := by
          rw [List.flatMap_map]
          exact flatMap_cong fun i hi => rowAt_flat (hlt i hi)
        have hp := perm_get (d := (0, 0)) hl
        rw [hcs]
        generalize l.map (fun i => L.getD i (0, 0)) = L' at hp
        have hlen := hp.length_eq
        have hne : L' = [] → AV.sl b 0 4 L.length L.length = .nils := fun h0 => by
          rw [h0] at hlen
          have hL0 : L = [] := List.eq_nil_of_length_eq_zero hlen.symm
          exact hs.2.2 hL0
        have hEq : EqL (wr h' b (L'.flatMap (cEq n m))) (h.length + 1) n m (.sl b 0 4 L'.length L'.length) L' [b] := by
          refine ⟨⟨flatMap_len (cEq_len n m) L', .inr ⟨b, rfl, rfl, cells_wr2 (cells_lt hbc)⟩⟩, hs.2.1.2.1, fun p hp2 => ?_, ?_⟩
          · obtain ⟨q1, q2, q3⟩ := hs.2.1.2.2.1 p (hp.mem_iff.1 hp2)
            refine ⟨q1, q2, ?_⟩
            rw [cells_eq]
            unfold wr
            rw [List.getElem?_set_ne (fun he => q2 (by simp [he])), ← cells_eq]
            exact q3
          · exact (hp.map (·.2)).nodup_iff.2 hs.2.1.2.2.2
        have hvw := hEq.vw (fun h0 => by rw [hlen]; exact hne h0)
        rw [hlen] at hvw
        (try (simp (disch := first | omega | (simp <;> omega) | fail) only [push_cast, ↓reduceIte, Nat.reduceEqDiff, Nat.reduceAdd, Nat.reduceMul, Nat.reduceSub, Nat.reduceLT, Int.reduceToNat]))
        refine ⟨.tup [eQs n m (optN (L'.map (·.1))), .int .u64 (ofN n (stI s n (lB s.rows).length).2 : Int)], ?_, L'.map (·.1), ?_, rfl⟩
        · refine .tup rfl fun k y t hy ht => ?_
          rcases k with _ | _ | k
          · simp at hy ht
            subst hy ht
            exact hvw.mono (by omega)
          · simp at hy ht
            subst hy ht
            exact .free free_int
          · simp at hy
        · rw [← hL]
          exact hp.map _

theorem at_bit64 {x j : Nat} (hx : x < 18446744073709551616) (hj : j < 64) : decide (bitsI .and .u64 (Int.fdiv (x : Int) (2 ^ (min j IntKind.u64.bits))) 1 = 1) = x.testBit j := by
  have h1 : min j IntKind.u64.bits = j := by
    simp [IntKind.bits]
    omega
  have h2 : Int.fdiv (x : Int) (2 ^ j) = ((x >>> j : Nat) : Int) := by
    rw [Nat.shiftRight_eq_div_pow]
    have : ((2 : Int) ^ j) = ((2 ^ j : Nat) : Int) := by simp
    rw [this]
    exact (Int.ofNat_fdiv x (2 ^ j)).symm
  have h3 : x >>> j ≤ x := Nat.shiftRight_le x j
  have h4 : bitsI .and .u64 ((x >>> j : Nat) : Int) ((1 : Nat) : Int) = ((x >>> j &&& 1 : Nat) : Int) := by
    have h5 : x >>> j &&& 1 ≤ 1 := Nat.and_le_right
    show IntKind.u64.wrap ((BitVec.ofInt 64 ((x >>> j : Nat) : Int) &&& BitVec.ofInt 64 ((1 : Nat) : Int)).toNat : Int) = _
    rw [ofInt_nat, ofInt_nat, BitVec.toNat_and, BitVec.toNat_ofNat, BitVec.toNat_ofNat, Nat.mod_eq_of_lt (by omega), Nat.mod_eq_of_lt (by omega)]
    exact u64_nat (by omega)
  rw [h1, h2]
  rw [show ((1 : Nat) : Int) = 1 from rfl] at h4
  rw [h4, Nat.and_one_is_mod, Nat.testBit_eq_decide_div_mod_eq, Nat.shiftRight_eq_div_pow, decide_eq_decide]
  omega
def setTo (M i : Nat) : List Int := ((List.range i).filter fun j => M.testBit j).map fun j : Nat => (j : Int)
theorem setTo_all {M : Nat} : setTo M 64 = setL M := rfl
theorem setTo_succ {M i : Nat} : setTo M (i + 1) = if M.testBit i = true then setTo M i ++ [(i : Int)] else setTo M i := by
  unfold setTo
  rw [List.range_succ, List.filter_append, List.map_append]
  cases h : M.testBit i <;> simp [h]
theorem setTo_len {M i : Nat} : (setTo M i).length ≤ i := by
  unfold setTo
  rw [List.length_map]
  exact Nat.le_trans (List.length_filter_le _ _) (by simp)

theorem c_impl_indices_o (M : Nat) (hM : M < 18446744073709551616) : FnO Tryz.prog 91 [.int .u64 M] (· = eI (some (setL M))) := by
  intro h
  refine enter (by kernel_rfl) e91 (by kernel_rfl) rfl fun hok => ?_
  simp only [r91, initEnv_1]
  (try (simp (disch := first | omega | (simp <;> omega) | fail) only [push_cast, ↓reduceIte, Nat.reduceEqDiff, Nat.reduceAdd, Nat.reduceMul, Nat.reduceSub, Nat.reduceLT, Int.reduceToNat]))
  refine T_for 64 (fun i e h' => ∃ v B, Pins e [(0, .int .u64 M), (3, v), (6, .int .i64 i)] ∧ h.length ≤ h'.length ∧ S1 h' 1 v (setTo M i).length ((setTo M i).map (.int .i64)) B ∧ (∀ b ∈ B, h.length ≤ b) ∧ v ≠ .nils) ?_ ?_
  · (try (simp (disch := first | omega | (simp <;> omega) | fail) only [push_cast, ↓reduceIte, Nat.reduceEqDiff, Nat.reduceAdd, Nat.reduceMul, Nat.reduceSub, Nat.reduceLT, Int.reduceToNat]))
    all_goals (try exact ⟨_, [h.length], rfl, ⟨by simp [setTo], .inr ⟨h.length, rfl, rfl, by rw [cells_h0]; rfl⟩⟩, by simp, by simp⟩)
    all_goals (try exact ⟨_, [h.length], rfl, by simp, ⟨by simp [setTo], .inr ⟨h.length, rfl, rfl, by rw [cells_h0]; rfl⟩⟩, by simp, by simp⟩)
  rintro i e h' hi ⟨v, B, hp, hlt, hs, hB, hn⟩
  refine T_pins hp fun e => ?_
  have hsl := setTo_len (M := M) (i := i)
  (try (simp (disch := first | omega | (simp <;> omega) | fail) only [push_cast, ↓reduceIte, Nat.reduceEqDiff, Nat.reduceAdd, Nat.reduceMul, Nat.reduceSub, Nat.reduceLT, Int.reduceToNat]))
  first | refine goC_split (fun hc => ?_) (fun hc => ?_) | refine cnd_split (fun hc => ?_) (fun hc => ?_)
  · (try (simp only [decide_eq_true_eq, decide_eq_false_iff_not, Bool.not_eq_true', Bool.not_eq_false', Bool.and_eq_true, Bool.or_eq_true, Int.not_lt, Int.not_le] at hc)); (try (simp (disch := first | omega | (simp <;> omega) | fail) only [push_cast, ↓reduceIte, Nat.reduceEqDiff, Nat.reduceAdd, Nat.reduceMul, Nat.reduceSub, Nat.reduceLT, Int.reduceToNat]))
    have hi2 : i < 64 := by omega
    have hat := at_bit64 hM hi2
    have hsu := setTo_succ (M := M) (i := i)
    cases hb : M.testBit i
    · rw [hb] at hat
      rw [if_neg (by simp [hb])] at hsu
      (try (simp (disch := first | omega | (simp <;> omega) | fail) only [push_cast, ↓reduceIte, Nat.reduceEqDiff, Nat.reduceAdd, Nat.reduceMul, Nat.reduceSub, Nat.reduceLT, Int.reduceToNat, hat]))
      all_goals (try exact ⟨_, B, rfl, hlt, by rw [hsu]; exact hs, hB, hn⟩)
      all_goals (try exact ⟨_, B, rfl, by rw [hsu]; exact hs, hB, hn⟩)
    · rw [hb] at hat
      rw [if_pos hb] at hsu
      (try (simp (disch := first | omega | (simp <;> omega) | fail) only [push_cast, ↓reduceIte, Nat.reduceEqDiff, Nat.reduceAdd, Nat.reduceMul, Nat.reduceSub, Nat.reduceLT, Int.reduceToNat, hat]))
      refine (hs.frame (h' := h' ++ [some (.cells [.int .i64 (i : Int)])]) fun c hc => List.getElem?_append_left (hs.lt c hc)).app0 (new := [.int .i64 (i : Int)]) (k := 1) (by_ := 8) (fun b hb => Or.inr (hB b hb)) rfl (by omega) fun v2 h2 B2 c1 c2 c3 c4 c5 => ?_
      simp only [List.length_append, List.length_cons, List.length_nil] at c2
      have c1' : S1 h2 1 v2 (setTo M (i + 1)).length ((setTo M (i + 1)).map (.int .i64)) B2 := by
        rw [hsu]
        simpa using c1
      (try (simp (disch := first | omega | (simp <;> omega) | fail) only [push_cast, ↓reduceIte, Nat.reduceEqDiff, Nat.reduceAdd, Nat.reduceMul, Nat.reduceSub, Nat.reduceLT, Int.reduceToNat]))
      all_goals (try exact ⟨_, B2, rfl, c1', fun b hb => by rcases c4 b hb with h5 | h5; exact hB b h5; simp at h5; omega, c5 hn⟩)
      all_goals (try exact ⟨_, B2, rfl, by omega, c1', fun b hb => by rcases c4 b hb with h5 | h5; exact hB b h5; simp at h5; omega, c5 hn⟩)
  · (try (simp only [decide_eq_true_eq, decide_eq_false_iff_not, Bool.not_eq_true', Bool.not_eq_false', Bool.and_eq_true, Bool.or_eq_true, Int.not_lt, Int.not_le] at hc)); (try (simp (disch := first | omega | (simp <;> omega) | fail) only [push_cast, ↓reduceIte, Nat.reduceEqDiff, Nat.reduceAdd, Nat.reduceMul, Nat.reduceSub, Nat.reduceLT, Int.reduceToNat]))
    have hie : i = 64 := by omega
    subst hie
    (try (simp (disch := first | omega | (simp <;> omega) | fail) only [push_cast, ↓reduceIte, Nat.reduceEqDiff, Nat.reduceAdd, Nat.reduceMul, Nat.reduceSub, Nat.reduceLT, Int.reduceToNat]))
    refine ⟨_, hs.ow (fun _ => rfl) hB hn, ?_⟩
    rw [setTo_all]
    rfl

theorem c_spec_biAt (b : Bt) (B m i : Nat) (hw : lI b.words = wordsN B m) (hi : i < 16 * m) (hm : m ≤ 1000000) : Fn Tryz.prog 111 [eB b, .int .i64 i] (· = .bool (B.testBit i)) := by
  refine Fn.of free_bool fun h => ?_
  refine enter (by kernel_rfl) e111 (by kernel_rfl) rfl fun hok => ?_
  simp only [r111, initEnv_2]
  have hln : (lI b.words).length = m := by rw [hw, wordsN_len]
  have hat := at_word hw hi
  (try (simp (disch := first | omega | (simp <;> omega) | fail) only [push_cast, ↓reduceIte, Nat.reduceEqDiff, Nat.reduceAdd, Nat.reduceMul, Nat.reduceSub, Nat.reduceLT, Int.reduceToNat]))
  rw [← hat]
  (first | refine goC_split (fun hc => ?_) (fun hc => ?_) | refine cnd_split (fun hc => ?_) (fun hc => ?_)) <;> ((try (simp (disch := first | omega | (simp <;> omega) | fail) only [push_cast, ↓reduceIte, Nat.reduceEqDiff, Nat.reduceAdd, Nat.reduceMul, Nat.reduceSub, Nat.reduceLT, Int.reduceToNat]))) <;> (try rw [hc])

theorem c_spec_biNext2 (w : Option (List Int)) (n m B : Nat) (hw : lI w = wordsN B m) (hm : n ≤ 16 * m) (hm2 : m ≤ 100000) : Fn Tryz.prog 203 [eB ⟨n, w⟩, .int .i64 0, .bool true] (· = .int .i64 (leadI n B)) := by
  refine Fn.of free_int fun h => ?_
  refine enter (by kernel_rfl) e203 (by kernel_rfl) rfl fun hok => ?_
  simp only [r203, initEnv_3]
  (try (simp (disch := first | omega | (simp <;> omega) | fail) only [push_cast, ↓reduceIte, Nat.reduceEqDiff, Nat.reduceAdd, Nat.reduceMul, Nat.reduceSub, Nat.reduceLT, Int.reduceToNat]))
  refine T_for n (fun i e h' => Pins e [(2, .bool true), (3, .adr h.length 0), (7, .int .i64 i)] ∧ (h.length < h'.length ∧ H.cells h' h.length = some [.int .i64 n, eI w]) ∧ noBit B i = true) ?_ ?_
  · (try (simp (disch := first | omega | (simp <;> omega) | fail) only [push_cast, ↓reduceIte, Nat.reduceEqDiff, Nat.reduceAdd, Nat.reduceMul, Nat.reduceSub, Nat.reduceLT, Int.reduceToNat]))
    all_goals (try rfl)
    all_goals (try exact ⟨by rw [cells_h0]; rfl, rfl⟩)
  rintro i e h' hi ⟨hp, ⟨hlt, hbox⟩, ha⟩
  refine T_pins hp fun e => ?_
  (try (simp (disch := first | omega | (simp <;> omega) | fail) only [push_cast, ↓reduceIte, Nat.reduceEqDiff, Nat.reduceAdd, Nat.reduceMul, Nat.reduceSub, Nat.reduceLT, Int.reduceToNat, hbox]))
  first | refine goC_split (fun hc => ?_) (fun hc => ?_) | refine cnd_split (fun hc => ?_) (fun hc => ?_)
  · (try (simp only [decide_eq_true_eq, decide_eq_false_iff_not, Bool.not_eq_true', Bool.not_eq_false', Bool.and_eq_true, Bool.or_eq_true, Int.not_lt, Int.not_le] at hc)); (try (simp (disch := first | omega | (simp <;> omega) | fail) only [push_cast, ↓reduceIte, Nat.reduceEqDiff, Nat.reduceAdd, Nat.reduceMul, Nat.reduceSub, Nat.reduceLT, Int.reduceToNat]))
    have hin : i < n := by omega
    (try (simp (disch := first | omega | (simp <;> omega) | fail) only [push_cast, ↓reduceIte, Nat.reduceEqDiff, Nat.reduceAdd, Nat.reduceMul, Nat.reduceSub, Nat.reduceLT, Int.reduceToNat, hbox]))
    refine (c_spec_biAt ⟨n, w⟩ B m i hw (by omega) (by omega)).call ?_
    have hns := noBit_succ (B := B) (n := i)
    cases hb : B.testBit i
    · have hno : noBit B (i + 1) = true := by rw [hns, ha, hb]; rfl
      (try (simp (disch := first | omega | (simp <;> omega) | fail) only [push_cast, ↓reduceIte, Nat.reduceEqDiff, Nat.reduceAdd, Nat.reduceMul, Nat.reduceSub, Nat.reduceLT, Int.reduceToNat, hbox, hno]))
      all_goals (try exact hbox)
      all_goals (try exact ⟨hbox, hno⟩)
    · have hl := lead_is (n := n) hin hb fun j hj => noBit_all ha hj
      have hli : leadI n B = i := by
        unfold leadI
        rw [hl, if_pos hin]
      (try (simp (disch := first | omega | (simp <;> omega) | fail) only [push_cast, ↓reduceIte, Nat.reduceEqDiff, Nat.reduceAdd, Nat.reduceMul, Nat.reduceSub, Nat.reduceLT, Int.reduceToNat, hbox]))
      all_goals (try rw [hli])
  · (try (simp only [decide_eq_true_eq, decide_eq_false_iff_not, Bool.not_eq_true', Bool.not_eq_false', Bool.and_eq_true, Bool.or_eq_true, Int.not_lt, Int.not_le] at hc)); (try (simp (disch := first | omega | (simp <;> omega) | fail) only [push_cast, ↓reduceIte, Nat.reduceEqDiff, Nat.reduceAdd, Nat.reduceMul, Nat.reduceSub, Nat.reduceLT, Int.reduceToNat]))
    have hin : i = n := by omega
    subst hin
    have hl := lead_of_none (n := i) fun j hj => noBit_all ha hj
    have hli : leadI i B = -1 := by
      unfold leadI
      rw [hl, if_neg (Nat.lt_irrefl _)]
    (try (simp (disch := first | omega | (simp <;> omega) | fail) only [push_cast, ↓reduceIte, Nat.reduceEqDiff, Nat.reduceAdd, Nat.reduceMul, Nat.reduceSub, Nat.reduceLT, Int.reduceToNat]))
    all_goals (try rw [hli])

theorem c_spec_reFirst2 (w : Option (List Int)) (n m B : Nat) (hw : lI w = wordsN B m) (hm : n ≤ 16 * m) (hm2 : m ≤ 100000) : Fn Tryz.prog 180 [eB ⟨n, w⟩] (· = .int .i64 (leadI n B)) := by
  refine Fn.of free_int fun h => ?_
  refine enter (by kernel_rfl) e180 (by kernel_rfl) rfl fun hok => ?_
  simp only [r180, initEnv_1]
  (try (simp (disch := first | omega | (simp <;> omega) | fail) only [push_cast, ↓reduceIte, Nat.reduceEqDiff, Nat.reduceAdd, Nat.reduceMul, Nat.reduceSub, Nat.reduceLT, Int.reduceToNat]))
  refine (c_spec_biNext2 w n m B hw hm hm2).call ?_
  (try (simp (disch := first | omega | (simp <;> omega) | fail) only [push_cast, ↓reduceIte, Nat.reduceEqDiff, Nat.reduceAdd, Nat.reduceMul, Nat.reduceSub, Nat.reduceLT, Int.reduceToNat]))

theorem c_spec_biNew_own (n m : Nat) (hn : n ≤ 1000000) (hm : (((n : Int) + 15) / 16) = (m : Int)) (h : H) : Call Tryz.prog 109 [.int .i64 n] h Nowhere (fun x h' => BnI h h' n m x) := by
  refine enter (by kernel_rfl) e109 (by kernel_rfl) rfl fun hok => ?_
  simp only [r109, initEnv_1]
  (try (simp (disch := first | omega | (simp <;> omega) | fail) only [push_cast, ↓reduceIte, Nat.reduceEqDiff, Nat.reduceAdd, Nat.reduceMul, Nat.reduceSub, Nat.reduceLT, Int.reduceToNat, hm]))
  all_goals (try exact ⟨h.length + 1, rfl, by omega, ⟨_, rfl⟩, by rw [cells_hk]; simp [cellsO, rep_words]⟩)
theorem c_spec_biSet (n : Int) (b m B i : Nat) (h : H) (hc : h.cells b = some ((wordsN B m).map (.int .i64))) (hi : i < 16 * m) (hm : m ≤ 100000) :
    Call Tryz.prog 112 [.agg [.int .i64 n, .sl b 0 1 m m], .int .i64 i] h (fun b' => b' = b) (fun x h' => h.length ≤ h'.length ∧ (∀ b', b' < h.length → b' ≠ b → h'[b']? = h[b']?) ∧ h'.cells b = some ((wordsN (B ||| 2 ^ i) m).map (.int .i64))) := by
  refine enter (by kernel_rfl) e112 (by kernel_rfl) rfl fun hok => ?_
  simp only [r112, initEnv_2]
  have hb := cells_lt hc
  have hcb : ∀ l : H, H.cells (h ++ l) b = some ((wordsN B m).map (.int .i64)) := fun l => cells_app hc
  have e1 : ((i : Int) / 16).toNat = i / 16 := by omega
  have e2 : ((i : Int) % 16).toNat = i % 16 := by omega
  have hgd := wordsN_get (B := B) (m := m) (k := i / 16) (by omega)
  have hwl := wordN_lt (B := B) (k := i / 16)
  obtain ⟨v, hv⟩ : ∃ v : Nat, v = 2 ^ (i % 16) := ⟨_, rfl⟩
  have hvl : v < 65536 := by
    rw [hv]
    have : 2 ^ (i % 16) < 2 ^ 16 := Nat.pow_lt_pow_right (by decide) (by omega)
    simpa using this
  have hsh := shl16 (j := i % 16) (by omega)
  rw [← hv] at hsh
  obtain ⟨r, hr⟩ : ∃ r : Nat, r = wordN B (i / 16) ||| v := ⟨_, rfl⟩
  have hor := bitsI_or (x := wordN B (i / 16)) (y := v) (by omega) (by omega)
  rw [← hr] at hor
  have hset : ((wordsN B m).map (AV.int .i64)).set (i / 16) (.int .i64 (r : Int)) = (wordsN (B ||| 2 ^ i) m).map (.int .i64) := by
    rw [← wordsN_set hi, ← hv, ← hr, List.map_set]
  have hlen : ((wordsN B m).map (AV.int .i64)).length = m := by simp [wordsN_len]
  have hgi : ((wordsN B m).map (AV.int .i64))[i / 16]? = some (.int .i64 (wordN B (i / 16) : Int)) := by
    rw [get_I (by rw [wordsN_len]; omega), hgd]
  have hos : over ((wordsN B m).map (AV.int .i64)) (i / 16) [.int .i64 (r : Int)] = (wordsN (B ||| 2 ^ i) m).map (.int .i64) := by
    rw [over_set (by rw [hlen]; omega), hset]
  have hpm : (b = b) = True := by simp
  (try (simp (disch := first | omega | (simp <;> omega) | fail) only [push_cast, ↓reduceIte, Nat.reduceEqDiff, Nat.reduceAdd, Nat.reduceMul, Nat.reduceSub, Nat.reduceLT, Int.reduceToNat, hcb, e1, e2, hgi, hsh, hor, hlen, hos, hpm, reads, List.not_mem_nil, not_false_eq_true]))
  all_goals (try exact ⟨by simp [wr], fun b' h1 h2 => by unfold wr; rw [List.getElem?_set_ne (Ne.symm h2), List.getElem?_append_left h1], by rw [cells_wr2 (by simp; omega)]⟩)

def XoI (h h' : H) (wa wb : Option (List Int)) (n nb : Int) (m b5 bb X : Nat) : Prop :=
  (h.length + 3 ≤ h'.length ∧ h'.cells h.length = some [.int .i64 n, eI wa] ∧ h'.cells (h.length + 1) = some [.int .i64 nb, eI wb] ∧ h'.cells (h.length + 2) = some [.int .i64 0, .nils]) ∧
  h'.cells b5 = some [.int .i64 n, .sl bb 0 1 m m] ∧ h'.cells bb = some ((wordsN X m).map (.int .i64)) ∧ h.length + 3 ≤ bb ∧ h.length + 3 ≤ b5 ∧ b5 ≠ bb
theorem cells_fr {h h2 : H} {bb c : Nat} {cs : List AV} (hfr : ∀ b', b' < h.length → b' ≠ bb → h2[b']? = h[b']?) (hc : h.cells c = some cs) (hne : c ≠ bb) : h2.cells c = some cs := by
  rw [cells_eq, hfr c (cells_lt hc) hne, ← cells_eq]
  exact hc
theorem XoI.put {h h' h2 : H} {wa wb : Option (List Int)} {n nb : Int} {m b5 bb X X' : Nat} (hx : XoI h h' wa wb n nb m b5 bb X) (hlen : h'.length ≤ h2.length) (hfr : ∀ b', b' < h'.length → b' ≠ bb → h2[b']? = h'[b']?) (hc : h2.cells bb = some ((wordsN X' m).map (.int .i64))) : XoI h h2 wa wb n nb m b5 bb X' := by
  obtain ⟨⟨x1, x2, x3, x4⟩, x5, x6, x7, x8, x9⟩ := hx
  exact ⟨⟨by omega, cells_fr hfr x2 (by omega), cells_fr hfr x3 (by omega), cells_fr hfr x4 (by omega)⟩, cells_fr hfr x5 x9, hc, x7, x8, x9⟩

theorem c_spec_biXor_o (wa wb : Option (List Int)) (nb : Int) (n m A B : Nat) (hwa : lI wa = wordsN A m) (hwb : lI wb = wordsN B m) (hm : (((n : Int) + 15) / 16) = (m : Int)) (hn : n ≤ 100000) : FnO Tryz.prog 158 [eB ⟨n, wa⟩, eB ⟨nb, wb⟩] (· = eB ⟨n, some (wordsN ((A ^^^ B) % 2 ^ n) m)⟩) := by
  intro h
  refine enter (by kernel_rfl) e158 (by kernel_rfl) rfl fun hok => ?_
  simp only [r158, initEnv_2]
  (try (simp (disch := first | omega | (simp <;> omega) | fail) only [push_cast, ↓reduceIte, Nat.reduceEqDiff, Nat.reduceAdd, Nat.reduceMul, Nat.reduceSub, Nat.reduceLT, Int.reduceToNat]))
  refine (c_spec_biNew_own n m (by omega) hm _).mono (fun x h1 hx => ?_) (fun _ _ h => h.elim)
  obtain ⟨bb, rfl, hbb, ⟨p, hp⟩, hcb⟩ := hx
  have hbb2 : h.length + 3 ≤ bb := by simp at hbb; omega
  have hbl := cells_lt hcb
  have f0 : h.length + 3 ≤ h1.length := by rw [hp]; simp only [List.length_append, List.length_cons, List.length_nil]; omega
  have f1 : h1.cells h.length = some [.int .i64 n, eI wa] := by
    rw [hp]
    refine cells_app ?_
    rw [cells_h0]
    rfl
  have f2 : h1.cells (h.length + 1) = some [.int .i64 nb, eI wb] := by
    rw [hp]
    refine cells_app ?_
    rw [cells_hk]
    rfl
  have f3 : h1.cells (h.length + 2) = some [.int .i64 0, .nils] := by
    rw [hp]
    refine cells_app ?_
    rw [cells_hk]
    rfl
  have hx0 : XoI h (h1 ++ [some (.cells [.int .i64 n, .sl bb 0 1 m m])]) wa wb n nb m h1.length bb ((A ^^^ B) % 2 ^ 0) := by
    refine ⟨⟨by simp; omega, cells_app f1, cells_app f2, cells_app f3⟩, ?_, ?_, hbb2, f0, by omega⟩
    · rw [cells_h0]
      rfl
    · rw [Nat.pow_zero, Nat.mod_one]
      exact cells_app hcb
  clear hp
  (try (simp (disch := first | omega | (simp <;> omega) | fail) only [push_cast, ↓reduceIte, Nat.reduceEqDiff, Nat.reduceAdd, Nat.reduceMul, Nat.reduceSub, Nat.reduceLT, Int.reduceToNat]))
  refine T_for n (fun i e h' => Pins e [(2, .adr h.length 0), (3, .adr (h.length + 1) 0), (4, .adr (h.length + 2) 0), (5, .adr h1.length 0), (6, .int .i64 i)] ∧ XoI h h' wa wb n nb m h1.length bb ((A ^^^ B) % 2 ^ i)) ?_ ?_
  · (try (simp (disch := first | omega | (simp <;> omega) | fail) only [push_cast, ↓reduceIte, Nat.reduceEqDiff, Nat.reduceAdd, Nat.reduceMul, Nat.reduceSub, Nat.reduceLT, Int.reduceToNat]))
    all_goals (try exact hx0)
  rintro i e h' hi ⟨hp, hx⟩
  refine T_pins hp fun e => ?_
  have x2 := hx.1.2.1
  have x3 := hx.1.2.2.1
  have x4 := hx.1.2.2.2
  have x5 := hx.2.1
  (try (simp (disch := first | omega | (simp <;> omega) | fail) only [push_cast, ↓reduceIte, Nat.reduceEqDiff, Nat.reduceAdd, Nat.reduceMul, Nat.reduceSub, Nat.reduceLT, Int.reduceToNat, x2]))
  first | refine goC_split (fun hc => ?_) (fun hc => ?_) | refine cnd_split (fun hc => ?_) (fun hc => ?_)
  · (try (simp only [decide_eq_true_eq, decide_eq_false_iff_not, Bool.not_eq_true', Bool.not_eq_false', Bool.and_eq_true, Bool.or_eq_true, Int.not_lt, Int.not_le] at hc)); (try (simp (disch := first | omega | (simp <;> omega) | fail) only [push_cast, ↓reduceIte, Nat.reduceEqDiff, Nat.reduceAdd, Nat.reduceMul, Nat.reduceSub, Nat.reduceLT, Int.reduceToNat]))
    have hin : i < n := by omega
    (try (simp (disch := first | omega | (simp <;> omega) | fail) only [push_cast, ↓reduceIte, Nat.reduceEqDiff, Nat.reduceAdd, Nat.reduceMul, Nat.reduceSub, Nat.reduceLT, Int.reduceToNat, x2, x3]))
    refine (c_spec_biAt ⟨n, wa⟩ A m i hwa (by omega) (by omega)).call ?_
    (try (simp (disch := first | omega | (simp <;> omega) | fail) only [push_cast, ↓reduceIte, Nat.reduceEqDiff, Nat.reduceAdd, Nat.reduceMul, Nat.reduceSub, Nat.reduceLT, Int.reduceToNat, x2, x3]))
    refine (c_spec_biAt ⟨nb, wb⟩ B m i hwb (by omega) (by omega)).call ?_
    have hxb : (A ^^^ B).testBit i = (A.testBit i ^^ B.testBit i) := Nat.testBit_xor ..
    by_cases hne : A.testBit i = B.testBit i
    · have hbf : (A ^^^ B).testBit i = false := by rw [hxb, hne]; simp
      rw [mod_bit_f hbf] at hx
      rw [hne]
      (try (simp (disch := first | omega | (simp <;> omega) | fail) only [push_cast, ↓reduceIte, Nat.reduceEqDiff, Nat.reduceAdd, Nat.reduceMul, Nat.reduceSub, Nat.reduceLT, Int.reduceToNat, x2, x3, x5]))
      all_goals (try exact hx)
    · have hbt : (A ^^^ B).testBit i = true := by
        rw [hxb]
        revert hne
        cases A.testBit i <;> cases B.testBit i <;> simp
      have hbeq : (A.testBit i == B.testBit i) = false := by simpa using hne
      (try (simp (disch := first | omega | (simp <;> omega) | fail) only [push_cast, ↓reduceIte, Nat.reduceEqDiff, Nat.reduceAdd, Nat.reduceMul, Nat.reduceSub, Nat.reduceLT, Int.reduceToNat, x2, x3, x5, hbeq]))
      refine (c_spec_biSet n bb m _ i h' hx.2.2.1 (by omega) (by omega)).mono (fun y h2 hy => ?_) (fun b' _ hb' => Or.inr (by have := hx.2.2.2.1; omega))
      obtain ⟨y1, y2, y3⟩ := hy
      rw [mod_bit_t hbt] at y3
      have hx2 := hx.put y1 y2 y3
      (try (simp (disch := first | omega | (simp <;> omega) | fail) only [push_cast, ↓reduceIte, Nat.reduceEqDiff, Nat.reduceAdd, Nat.reduceMul, Nat.reduceSub, Nat.reduceLT, Int.reduceToNat]))
      all_goals (try exact hx2)
  · (try (simp only [decide_eq_true_eq, decide_eq_false_iff_not, Bool.not_eq_true', Bool.not_eq_false', Bool.and_eq_true, Bool.or_eq_true, Int.not_lt, Int.not_le] at hc)); (try (simp (disch := first | omega | (simp <;> omega) | fail) only [push_cast, ↓reduceIte, Nat.reduceEqDiff, Nat.reduceAdd, Nat.reduceMul, Nat.reduceSub, Nat.reduceLT, Int.reduceToNat]))
    have hin : i = n := by omega
    subst hin
    have hlt := cells_lt x4
    have hpm : (h.length ≤ h.length + 2) = True := by simp
    have hw := cells_wr2 hlt (cs := [AV.int .i64 (i : Int), .sl bb 0 1 m m])
    (try (simp (disch := first | omega | (simp <;> omega) | fail) only [push_cast, ↓reduceIte, Nat.reduceEqDiff, Nat.reduceAdd, Nat.reduceMul, Nat.reduceSub, Nat.reduceLT, Int.reduceToNat, x4, x5, hpm, hw]))
    refine ⟨_, ow_B (G := fun c => h.length ≤ c) (by have := hx.2.2.2.1; omega) (b := bb) (ws := wordsN ((A ^^^ B) % 2 ^ i) m) ?_ wordsN_len, rfl⟩
    rw [cells_eq]
    unfold wr
    rw [List.getElem?_set_ne (by have := hx.2.2.2.1; omega), ← cells_eq]
    exact hx.2.2.1
theorem c_spec_biXor (wa wb : Option (List Int)) (nb : Int) (n m A B : Nat) (hwa : lI wa = wordsN A m) (hwb : lI wb = wordsN B m) (hm : (((n : Int) + 15) / 16) = (m : Int)) (hn : n ≤ 100000) : Fn Tryz.prog 158 [eB ⟨n, wa⟩, eB ⟨nb, wb⟩] (· = eB ⟨n, some (wordsN ((A ^^^ B) % 2 ^ n) m)⟩) :=
  (c_spec_biXor_o wa wb nb n m A B hwa hwb hm hn).fn

theorem c_spec_l1Has (a : Option (List Int)) (n : Int) : Fn Tryz.prog 191 [eI a, .int .i64 n] (· = .bool (decide (n ∈ lI a))) := by
  refine Fn.of free_bool fun h => ?_
  refine enter (by kernel_rfl) e191 (by kernel_rfl) rfl fun hok => ?_
  simp only [r191, initEnv_2]
  have hlen := ok_eI (okV_0 hok)
  (try (simp (disch := first | omega | (simp <;> omega) | fail) only [push_cast, ↓reduceIte, Nat.reduceEqDiff, Nat.reduceAdd, Nat.reduceMul, Nat.reduceSub, Nat.reduceLT, Int.reduceToNat]))
  refine T_for (lI a).length (fun i e h' => Pins e [(1, .int .i64 n), (7, eI a), (8, .int .i64 (lI a).length), (9, .int .i64 i)] ∧ h' = h ∧ n ∉ (lI a).take i) ?_ ?_
  · (try (simp (disch := first | omega | (simp <;> omega) | fail) only [push_cast, ↓reduceIte, Nat.reduceEqDiff, Nat.reduceAdd, Nat.reduceMul, Nat.reduceSub, Nat.reduceLT, Int.reduceToNat]))
    all_goals (try simp)
  rintro i e h' hi ⟨hp, rfl, hnd⟩
  refine T_pins hp fun e => ?_
  (try (simp (disch := first | omega | (simp <;> omega) | fail) only [push_cast, ↓reduceIte, Nat.reduceEqDiff, Nat.reduceAdd, Nat.reduceMul, Nat.reduceSub, Nat.reduceLT, Int.reduceToNat]))
  first | refine goC_split (fun hc => ?_) (fun hc => ?_) | refine cnd_split (fun hc => ?_) (fun hc => ?_)
  · (try (simp only [decide_eq_true_eq, decide_eq_false_iff_not, Bool.not_eq_true', Bool.not_eq_false', Bool.and_eq_true, Bool.or_eq_true, Int.not_lt, Int.not_le] at hc)); (try (simp (disch := first | omega | (simp <;> omega) | fail) only [push_cast, ↓reduceIte, Nat.reduceEqDiff, Nat.reduceAdd, Nat.reduceMul, Nat.reduceSub, Nat.reduceLT, Int.reduceToNat]))
    have hi2 : i < (lI a).length := by omega
    have htk : (lI a).take (i + 1) = (lI a).take i ++ [(lI a).getD i 0] := by
      rw [List.take_add_one]
      simp [hi2]
    (try (simp (disch := first | omega | (simp <;> omega) | fail) only [push_cast, ↓reduceIte, Nat.reduceEqDiff, Nat.reduceAdd, Nat.reduceMul, Nat.reduceSub, Nat.reduceLT, Int.reduceToNat]))
    first | refine goC_split (fun hd => ?_) (fun hd => ?_) | refine cnd_split (fun hd => ?_) (fun hd => ?_)
    · (try (simp only [decide_eq_true_eq, decide_eq_false_iff_not, Bool.not_eq_true', Bool.not_eq_false', Bool.and_eq_true, Bool.or_eq_true, Int.not_lt, Int.not_le] at hd)); (try (simp (disch := first | omega | (simp <;> omega) | fail) only [push_cast, ↓reduceIte, Nat.reduceEqDiff, Nat.reduceAdd, Nat.reduceMul, Nat.reduceSub, Nat.reduceLT, Int.reduceToNat]))
      symm
      rw [decide_eq_true_iff, ← hd]
      simp [hi2]
    · (try (simp only [decide_eq_true_eq, decide_eq_false_iff_not, Bool.not_eq_true', Bool.not_eq_false', Bool.and_eq_true, Bool.or_eq_true, Int.not_lt, Int.not_le] at hd)); (try (simp (disch := first | omega | (simp <;> omega) | fail) only [push_cast, ↓reduceIte, Nat.reduceEqDiff, Nat.reduceAdd, Nat.reduceMul, Nat.reduceSub, Nat.reduceLT, Int.reduceToNat]))
      rw [htk]
      simp only [List.mem_append, List.mem_singleton, not_or]
      exact ⟨hnd, fun he => hd he.symm⟩
  · (try (simp only [decide_eq_true_eq, decide_eq_false_iff_not, Bool.not_eq_true', Bool.not_eq_false', Bool.and_eq_true, Bool.or_eq_true, Int.not_lt, Int.not_le] at hc)); (try (simp (disch := first | omega | (simp <;> omega) | fail) only [push_cast, ↓reduceIte, Nat.reduceEqDiff, Nat.reduceAdd, Nat.reduceMul, Nat.reduceSub, Nat.reduceLT, Int.reduceToNat]))
    have he : (lI a).take i = lI a := List.take_of_length_le (by omega)
    rw [he] at hnd
    simp [hnd]

theorem c_spec_l1Put (a : Option (List Int)) (x : Int) (hal : (lI a).length ≤ 1000000) : Fn Tryz.prog 210 [eI a, .int .i64 x] (· = eI (putO a x)) := by
  refine Fn.froze_ fun h => ?_
  refine enter (by kernel_rfl) e210 (by kernel_rfl) rfl fun hok => ?_
  simp only [r210, initEnv_2]
  have hlen := ok_eI (okV_0 hok)
  obtain ⟨k1, k2, k3, k4, k5⟩ := takeWhile_all (p := fun y => decide (y < x)) (l := lI a)
  obtain ⟨K, hK⟩ : ∃ K, K = ((lI a).takeWhile fun y => decide (y < x)).length := ⟨_, rfl⟩
  rw [← hK] at k1 k2 k3 k4 k5
  (try (simp (disch := first | omega | (simp <;> omega) | fail) only [push_cast, ↓reduceIte, Nat.reduceEqDiff, Nat.reduceAdd, Nat.reduceMul, Nat.reduceSub, Nat.reduceLT, Int.reduceToNat]))
  refine T_for K (fun i e h' => Pins e [(0, eI a), (1, .int .i64 x), (5, .int .i64 i)] ∧ h' = h) ?_ ?_
  · (try (simp (disch := first | omega | (simp <;> omega) | fail) only [push_cast, ↓reduceIte, Nat.reduceEqDiff, Nat.reduceAdd, Nat.reduceMul, Nat.reduceSub, Nat.reduceLT, Int.reduceToNat]))
  rintro i e h' hi ⟨hp, rfl⟩
  refine T_pins hp fun e => ?_
  by_cases hiK : i < K
  · have hlt : i < (lI a).length := by omega
    have hx := k4 i hiK
    simp only [decide_eq_true_eq] at hx
    (try (simp (disch := first | omega | (simp <;> omega) | fail) only [push_cast, ↓reduceIte, Nat.reduceEqDiff, Nat.reduceAdd, Nat.reduceMul, Nat.reduceSub, Nat.reduceLT, Int.reduceToNat]))
  have hie : i = K := by omega
  subst hie
  have hput : ∀ h1 v1 B1, ((lI a).dropWhile (fun y => decide (y < x))).head? ≠ some x → S1 h1 1 v1 (i + 1 + ((lI a).length - i)) ((((lI a).take i).map (.int .i64) ++ [.int .i64 x]) ++ ((lI a).drop i).map (.int .i64)) B1 → (∀ b ∈ B1, h'.length ≤ b) → v1 ≠ .nils → ∃ t, Vw h1 h'.length v1 t ∧ t = eI (putO a x) := fun h1 v1 B1 hne hs hb hn => by
    have he : ((((lI a).take i).map (AV.int .i64) ++ [.int .i64 x]) ++ ((lI a).drop i).map (.int .i64)) = (putL (lI a) x).map (.int .i64) := by
      unfold putL
      rw [← k2, ← k3]
      simp
    rw [he] at hs
    refine ⟨_, hs.vwI hb hn, ?_⟩
    unfold putO
    rw [if_neg hne]
  have hs0 : S1 (h' ++ [some (.cells [])]) 1 (.sl h'.length 0 1 0 0) 0 [] [h'.length] := ⟨by simp, .inr ⟨h'.length, rfl, rfl, by rw [cells_h0]; rfl⟩⟩
  rcases k5 with ⟨g1, g2, g3⟩ | ⟨g1, g2⟩
  · have hx : ¬ (lI a).getD i 0 < x := by simpa using g2
    (try (simp (disch := first | omega | (simp <;> omega) | fail) only [push_cast, ↓reduceIte, Nat.reduceEqDiff, Nat.reduceAdd, Nat.reduceMul, Nat.reduceSub, Nat.reduceLT, Int.reduceToNat, hx]))
    by_cases hq : (lI a).getD i 0 = x
    · have hdone : putO a x = a := by
        unfold putO
        rw [if_pos (by rw [g3, hq])]
      (try (simp (disch := first | omega | (simp <;> omega) | fail) only [push_cast, ↓reduceIte, Nat.reduceEqDiff, Nat.reduceAdd, Nat.reduceMul, Nat.reduceSub, Nat.reduceLT, Int.reduceToNat, hq]))
      rw [hdone]
      exact ⟨_, .free free_eI, rfl⟩
    · have hne : ((lI a).dropWhile (fun y => decide (y < x))).head? ≠ some x := by
        rw [g3]
        intro hh
        injection hh with hh
        exact hq hh
      (try (simp (disch := first | omega | (simp <;> omega) | fail) only [push_cast, ↓reduceIte, Nat.reduceEqDiff, Nat.reduceAdd, Nat.reduceMul, Nat.reduceSub, Nat.reduceLT, Int.reduceToNat, hq]))
      rw [src_eI, lI_tk]
      refine hs0.app0 (fun b hb => Or.inr (by simp at hb; omega)) (by simp) (by simp only [List.length_take]; omega) fun v1 h1 B1 a1 a2 a3 a4 a5 => ?_
      simp only [List.length_append, List.length_cons, List.length_nil] at a2
      (try (simp (disch := first | omega | (simp <;> omega) | fail) only [push_cast, ↓reduceIte, Nat.reduceEqDiff, Nat.reduceAdd, Nat.reduceMul, Nat.reduceSub, Nat.reduceLT, Int.reduceToNat]))
      have b1 := a1.frame (h' := h1 ++ [some (.cells [.int .i64 x])]) fun c hc => List.getElem?_append_left (a1.lt c hc)
      refine b1.app0 (new := [.int .i64 x]) (k := 1) (fun b hb => Or.inr (by rcases a4 b hb with h5 | h5 <;> simp at h5 <;> omega)) (by simp) (by simp only [List.length_take]; omega) fun v2 h2 B2 c1 c2 c3 c4 c5 => ?_
      simp only [List.length_append, List.length_cons, List.length_nil] at c2
      (try (simp (disch := first | omega | (simp <;> omega) | fail) only [push_cast, ↓reduceIte, Nat.reduceEqDiff, Nat.reduceAdd, Nat.reduceMul, Nat.reduceSub, Nat.reduceLT, Int.reduceToNat]))
      rw [src_eI, lI_dr]
      refine c1.app0 (fun b hb => Or.inr (by rcases c4 b hb with h5 | h5; · rcases a4 b h5 with h6 | h6 <;> simp at h6 <;> omega
                                             · simp at h5; omega)) (by simp) (by simp only [List.length_take, List.length_drop]; omega) fun v3 h3 B3 d1 d2 d3 d4 d5 => ?_
      (try (simp (disch := first | omega | (simp <;> omega) | fail) only [push_cast, ↓reduceIte, Nat.reduceEqDiff, Nat.reduceAdd, Nat.reduceMul, Nat.reduceSub, Nat.reduceLT, Int.reduceToNat]))
      refine hput _ _ B3 hne ?_ (fun b hb => ?_) (d5 (c5 (a5 (by simp))))
      · have hlt : min i (lI a).length = i := by omega
        simp only [List.length_take, List.length_drop, Nat.zero_add, List.nil_append, hlt] at d1
        exact d1
      · rcases d4 b hb with h5 | h5
        · rcases c4 b h5 with h5 | h5
          · rcases a4 b h5 with h6 | h6 <;> simp at h6 <;> omega
          · simp at h5; omega
        · omega
  · have hne : ((lI a).dropWhile (fun y => decide (y < x))).head? ≠ some x := by
      rw [g2]
      simp
    have hnl : ¬ (i : Int) < (lI a).length := by omega
    (try (simp (disch := first | omega | (simp <;> omega) | fail) only [push_cast, ↓reduceIte, Nat.reduceEqDiff, Nat.reduceAdd, Nat.reduceMul, Nat.reduceSub, Nat.reduceLT, Int.reduceToNat, hnl]))
    rw [src_eI, lI_tk]
    refine hs0.app0 (fun b hb => Or.inr (by simp at hb; omega)) (by simp) (by simp only [List.length_take]; omega) fun v1 h1 B1 a1 a2 a3 a4 a5 => ?_
    simp only [List.length_append, List.length_cons, List.length_nil] at a2
    (try (simp (disch := first | omega | (simp <;> omega) | fail) only [push_cast, ↓reduceIte, Nat.reduceEqDiff, Nat.reduceAdd, Nat.reduceMul, Nat.reduceSub, Nat.reduceLT, Int.reduceToNat]))
    have b1 := a1.frame (h' := h1 ++ [some (.cells [.int .i64 x])]) fun c hc => List.getElem?_append_left (a1.lt c hc)
    refine b1.app0 (new := [.int .i64 x]) (k := 1) (fun b hb => Or.inr (by rcases a4 b hb with h5 | h5 <;> simp at h5 <;> omega)) (by simp) (by simp only [List.length_take]; omega) fun v2 h2 B2 c1 c2 c3 c4 c5 => ?_
    simp only [List.length_append, List.length_cons, List.length_nil] at c2
    (try (simp (disch := first | omega | (simp <;> omega) | fail) only [push_cast, ↓reduceIte, Nat.reduceEqDiff, Nat.reduceAdd, Nat.reduceMul, Nat.reduceSub, Nat.reduceLT, Int.reduceToNat]))
    rw [src_eI, lI_dr]
    refine c1.app0 (fun b hb => Or.inr (by rcases c4 b hb with h5 | h5; · rcases a4 b h5 with h6 | h6 <;> simp at h6 <;> omega
                                           · simp at h5; omega)) (by simp) (by simp only [List.length_take, List.length_drop]; omega) fun v3 h3 B3 d1 d2 d3 d4 d5 => ?_
    (try (simp (disch := first | omega | (simp <;> omega) | fail) only [push_cast, ↓reduceIte, Nat.reduceEqDiff, Nat.reduceAdd, Nat.reduceMul, Nat.reduceSub, Nat.reduceLT, Int.reduceToNat]))
    refine hput _ _ B3 hne ?_ (fun b hb => ?_) (d5 (c5 (a5 (by simp))))
    · have hlt : min i (lI a).length = i := by omega
      simp only [List.length_take, List.length_drop, Nat.zero_add, List.nil_append, hlt] at d1
      exact d1
    · rcases d4 b hb with h5 | h5
      · rcases c4 b h5 with h5 | h5
        · rcases a4 b h5 with h6 | h6 <;> simp at h6 <;> omega
        · simp at h5; omega
      · omega

set_option maxHeartbeats 2000000 in
theorem c_spec_reAdd2 (wa wb : Option (List Int)) (ra rb : Bool) (n m A B Ma Mb : Nat) (hwa : lI wa = wordsN A m) (hwb : lI wb = wordsN B m) (hm : (((n : Int) + 15) / 16) = (m : Int)) (hn : n ≤ 100000) :
    Fn Tryz.prog 202 [.agg [.int .i64 n, eI wa, .bool ra, eI (optL (setL Ma))], .agg [.int .i64 n, eI wb, .bool rb, eI (optL (setL Mb))]] (· = .agg [.int .i64 n, eI (some (wordsN ((A ^^^ B) % 2 ^ n) m)), .bool (ra != rb), eI (optL (setL (Ma ^^^ Mb)))]) := by
  refine Fn.of (free_agg (free_cons_ free_int (free_cons_ free_eI (free_cons_ free_bool (free_cons_ free_eI free_nil_))))) fun h => ?_
  refine enter (by kernel_rfl) e202 (by kernel_rfl) rfl fun hok => ?_
  simp only [r202, initEnv_2]
  have hbeq : (ra != rb) = !(ra == rb) := rfl
  rw [hbeq]
  have hla := setL_len (M := Ma)
  have hlb := setL_len (M := Mb)
  have hfl : ∀ q : Bool, fillA [.int .i64 0, .nils, .bool false, .nils] [(0, 2, .agg [.int .i64 n, eI (some (wordsN ((A ^^^ B) % 2 ^ n) m))]), (2, 1, .bool q)] = some [.int .i64 n, eI (some (wordsN ((A ^^^ B) % 2 ^ n) m)), .bool q, .nils] := fun q => rfl
  have hnil : AV.nils = eI (optL (setL 0)) := by
    have : setL 0 = [] := by
      unfold setL
      simp
    rw [this]
    rfl
  obtain ⟨q, hq⟩ : ∃ q : Bool, q = !(ra == rb) := ⟨_, rfl⟩
  rw [← hq]
  obtain ⟨W, hW⟩ : ∃ W, W = wordsN ((A ^^^ B) % 2 ^ n) m := ⟨_, rfl⟩
  rw [← hW]
  rw [← hW] at hfl
  have hxor := c_spec_biXor wa wb n n m A B hwa hwb hm hn
  rw [← hW] at hxor
  have fin : ∀ Mo, InUpTo Mo (fun j => Ma.testBit j && !Mb.testBit j) (setL Mb) (fun j => Ma.testBit j) → setL Mo = setL (Ma ^^^ Mb) := fun Mo hMo => setL_congr fun j hj => by
    rw [hMo.bits hj, Nat.testBit_xor]
    cases Ma.testBit j <;> cases Mb.testBit j <;> rfl
  (try (simp (disch := first | omega | (simp <;> omega) | fail) only [push_cast, ↓reduceIte, Nat.reduceEqDiff, Nat.reduceAdd, Nat.reduceMul, Nat.reduceSub, Nat.reduceLT, Int.reduceToNat, ← hq]))
  refine ⟨?_, ?_⟩
  · refine hxor.call ?_
    (try (simp (disch := first | omega | (simp <;> omega) | fail) only [push_cast, ↓reduceIte, Nat.reduceEqDiff, Nat.reduceAdd, Nat.reduceMul, Nat.reduceSub, Nat.reduceLT, Int.reduceToNat, hfl, reads, List.mem_cons, List.mem_append, List.not_mem_nil, nat_ff, or_self, or_false, false_or, not_false_eq_true]))
    refine T_for (setL Ma).length (fun i e h' => Pins e [(2, .adr h.length 0), (3, .adr (h.length + 1) 0), (4, .adr (h.length + 2) 0), (5, .adr (h.length + 3) 0), (22, eI (optL (setL Ma))), (23, .int .i64 (setL Ma).length), (24, .int .i64 i)] ∧ ∃ Mo, h' = linesO h n wa wb (some W) ra rb q Ma Mb Mo ∧ InUpTo Mo (fun _ => false) ((setL Ma).take i) (fun j => Mb.testBit j)) ?_ ?_
    · (try (simp (disch := first | omega | (simp <;> omega) | fail) only [push_cast, ↓reduceIte, Nat.reduceEqDiff, Nat.reduceAdd, Nat.reduceMul, Nat.reduceSub, Nat.reduceLT, Int.reduceToNat, lI_optL]))
      all_goals (try exact ⟨0, by rw [hnil]; rfl, .zero fun j hj => by simp⟩)
    rintro i e h' hi ⟨hp, Mo, rfl, hMo⟩
    refine T_pins hp fun e => ?_
    unfold linesO
    (try (simp (disch := first | omega | (simp <;> omega) | fail) only [push_cast, ↓reduceIte, Nat.reduceEqDiff, Nat.reduceAdd, Nat.reduceMul, Nat.reduceSub, Nat.reduceLT, Int.reduceToNat, lI_optL]))
    first | refine goC_split (fun hc => ?_) (fun hc => ?_) | refine cnd_split (fun hc => ?_) (fun hc => ?_)
    · (try (simp only [decide_eq_true_eq, decide_eq_false_iff_not, Bool.not_eq_true', Bool.not_eq_false', Bool.and_eq_true, Bool.or_eq_true, Int.not_lt, Int.not_le] at hc)); (try (simp (disch := first | omega | (simp <;> omega) | fail) only [push_cast, ↓reduceIte, Nat.reduceEqDiff, Nat.reduceAdd, Nat.reduceMul, Nat.reduceSub, Nat.reduceLT, Int.reduceToNat]))
      have hi2 : i < (setL Ma).length := by omega
      obtain ⟨ix, hix, hg, hbt⟩ := setL_get hi2
      have hst := hMo.step hi2 hg
      (try (simp (disch := first | omega | (simp <;> omega) | fail) only [push_cast, ↓reduceIte, Nat.reduceEqDiff, Nat.reduceAdd, Nat.reduceMul, Nat.reduceSub, Nat.reduceLT, Int.reduceToNat, hg, lI_optL]))
      refine (c_spec_l1Has (optL (setL Mb)) (ix : Int)).call ?_
      rw [lI_optL, hasL hix]
      cases hb : Mb.testBit ix
      · rw [hb, if_neg (by simp)] at hst
        (try (simp (disch := first | omega | (simp <;> omega) | fail) only [push_cast, ↓reduceIte, Nat.reduceEqDiff, Nat.reduceAdd, Nat.reduceMul, Nat.reduceSub, Nat.reduceLT, Int.reduceToNat]))
        refine (c_spec_l1Put (optL (setL Mo)) (ix : Int) (by rw [lI_optL]; have := setL_len (M := Mo); omega)).call ?_
        rw [putO_setL hix]
        (try (simp (disch := first | omega | (simp <;> omega) | fail) only [push_cast, ↓reduceIte, Nat.reduceEqDiff, Nat.reduceAdd, Nat.reduceMul, Nat.reduceSub, Nat.reduceLT, Int.reduceToNat]))
        all_goals (try exact ⟨_, rfl, hst⟩)
      · rw [hb, if_pos rfl] at hst
        (try (simp (disch := first | omega | (simp <;> omega) | fail) only [push_cast, ↓reduceIte, Nat.reduceEqDiff, Nat.reduceAdd, Nat.reduceMul, Nat.reduceSub, Nat.reduceLT, Int.reduceToNat]))
        all_goals (try exact ⟨_, rfl, hst⟩)
    · (try (simp only [decide_eq_true_eq, decide_eq_false_iff_not, Bool.not_eq_true', Bool.not_eq_false', Bool.and_eq_true, Bool.or_eq_true, Int.not_lt, Int.not_le] at hc)); (try (simp (disch := first | omega | (simp <;> omega) | fail) only [push_cast, ↓reduceIte, Nat.reduceEqDiff, Nat.reduceAdd, Nat.reduceMul, Nat.reduceSub, Nat.reduceLT, Int.reduceToNat]))
      have hie : i = (setL Ma).length := by omega
      subst hie
      rw [List.take_length] at hMo
      have h0 : InUpTo Mo (fun j => Ma.testBit j && !Mb.testBit j) ((setL Mb).take 0) (fun j => Ma.testBit j) := .zero fun j hj => by rw [hMo.bits hj]; simp
      (try (simp (disch := first | omega | (simp <;> omega) | fail) only [push_cast, ↓reduceIte, Nat.reduceEqDiff, Nat.reduceAdd, Nat.reduceMul, Nat.reduceSub, Nat.reduceLT, Int.reduceToNat]))
      refine T_for (setL Mb).length (fun i e h' => Pins e [(2, .adr h.length 0), (3, .adr (h.length + 1) 0), (4, .adr (h.length + 2) 0), (5, .adr (h.length + 3) 0), (40, eI (optL (setL Mb))), (41, .int .i64 (setL Mb).length), (42, .int .i64 i)] ∧ ∃ Mo, h' = linesO h n wa wb (some W) ra rb q Ma Mb Mo ∧ InUpTo Mo (fun j => Ma.testBit j && !Mb.testBit j) ((setL Mb).take i) (fun j => Ma.testBit j)) ?_ ?_
      · (try (simp (disch := first | omega | (simp <;> omega) | fail) only [push_cast, ↓reduceIte, Nat.reduceEqDiff, Nat.reduceAdd, Nat.reduceMul, Nat.reduceSub, Nat.reduceLT, Int.reduceToNat, lI_optL]))
        all_goals (try exact ⟨_, rfl, h0⟩)
      clear h0 hMo hp
      rintro i e h' hi ⟨hp, Mo, rfl, hMo⟩
      refine T_pins hp fun e => ?_
      unfold linesO
      (try (simp (disch := first | omega | (simp <;> omega) | fail) only [push_cast, ↓reduceIte, Nat.reduceEqDiff, Nat.reduceAdd, Nat.reduceMul, Nat.reduceSub, Nat.reduceLT, Int.reduceToNat, lI_optL]))
      first | refine goC_split (fun hc => ?_) (fun hc => ?_) | refine cnd_split (fun hc => ?_) (fun hc => ?_)
      · (try (simp only [decide_eq_true_eq, decide_eq_false_iff_not, Bool.not_eq_true', Bool.not_eq_false', Bool.and_eq_true, Bool.or_eq_true, Int.not_lt, Int.not_le] at hc)); (try (simp (disch := first | omega | (simp <;> omega) | fail) only [push_cast, ↓reduceIte, Nat.reduceEqDiff, Nat.reduceAdd, Nat.reduceMul, Nat.reduceSub, Nat.reduceLT, Int.reduceToNat]))
        have hi2 : i < (setL Mb).length := by omega
        obtain ⟨ix, hix, hg, hbt⟩ := setL_get hi2
        have hst := hMo.step hi2 hg
        (try (simp (disch := first | omega | (simp <;> omega) | fail) only [push_cast, ↓reduceIte, Nat.reduceEqDiff, Nat.reduceAdd, Nat.reduceMul, Nat.reduceSub, Nat.reduceLT, Int.reduceToNat, hg, lI_optL]))
        refine (c_spec_l1Has (optL (setL Ma)) (ix : Int)).call ?_
        rw [lI_optL, hasL hix]
        cases hb : Ma.testBit ix
        · rw [hb, if_neg (by simp)] at hst
          (try (simp (disch := first | omega | (simp <;> omega) | fail) only [push_cast, ↓reduceIte, Nat.reduceEqDiff, Nat.reduceAdd, Nat.reduceMul, Nat.reduceSub, Nat.reduceLT, Int.reduceToNat]))
          refine (c_spec_l1Put (optL (setL Mo)) (ix : Int) (by rw [lI_optL]; have := setL_len (M := Mo); omega)).call ?_
          rw [putO_setL hix]
          (try (simp (disch := first | omega | (simp <;> omega) | fail) only [push_cast, ↓reduceIte, Nat.reduceEqDiff, Nat.reduceAdd, Nat.reduceMul, Nat.reduceSub, Nat.reduceLT, Int.reduceToNat]))
          all_goals (try exact ⟨_, rfl, hst⟩)
        · rw [hb, if_pos rfl] at hst
          (try (simp (disch := first | omega | (simp <;> omega) | fail) only [push_cast, ↓reduceIte, Nat.reduceEqDiff, Nat.reduceAdd, Nat.reduceMul, Nat.reduceSub, Nat.reduceLT, Int.reduceToNat]))
          all_goals (try exact ⟨_, rfl, hst⟩)
      · (try (simp only [decide_eq_true_eq, decide_eq_false_iff_not, Bool.not_eq_true', Bool.not_eq_false', Bool.and_eq_true, Bool.or_eq_true, Int.not_lt, Int.not_le] at hc)); (try (simp (disch := first | omega | (simp <;> omega) | fail) only [push_cast, ↓reduceIte, Nat.reduceEqDiff, Nat.reduceAdd, Nat.reduceMul, Nat.reduceSub, Nat.reduceLT, Int.reduceToNat]))
        have hie : i = (setL Mb).length := by omega
        subst hie
        rw [List.take_length] at hMo
        have hf := fin Mo hMo
        (try (simp (disch := first | omega | (simp <;> omega) | fail) only [push_cast, ↓reduceIte, Nat.reduceEqDiff, Nat.reduceAdd, Nat.reduceMul, Nat.reduceSub, Nat.reduceLT, Int.reduceToNat]))
        rw [← hf]
  · (try (simp (disch := first | omega | (simp <;> omega) | fail) only [push_cast, ↓reduceIte, Nat.reduceEqDiff, Nat.reduceAdd, Nat.reduceMul, Nat.reduceSub, Nat.reduceLT, Int.reduceToNat]))
    refine hxor.call ?_
    (try (simp (disch := first | omega | (simp <;> omega) | fail) only [push_cast, ↓reduceIte, Nat.reduceEqDiff, Nat.reduceAdd, Nat.reduceMul, Nat.reduceSub, Nat.reduceLT, Int.reduceToNat, hfl, reads, List.mem_cons, List.mem_append, List.not_mem_nil, nat_ff, or_self, or_false, false_or, not_false_eq_true]))
    refine T_for (setL Ma).length (fun i e h' => Pins e [(2, .adr h.length 0), (3, .adr (h.length + 1) 0), (4, .adr (h.length + 2) 0), (5, .adr (h.length + 3) 0), (22, eI (optL (setL Ma))), (23, .int .i64 (setL Ma).length), (24, .int .i64 i)] ∧ ∃ Mo, h' = linesO h n wa wb (some W) ra rb q Ma Mb Mo ∧ InUpTo Mo (fun _ => false) ((setL Ma).take i) (fun j => Mb.testBit j)) ?_ ?_
    · (try (simp (disch := first | omega | (simp <;> omega) | fail) only [push_cast, ↓reduceIte, Nat.reduceEqDiff, Nat.reduceAdd, Nat.reduceMul, Nat.reduceSub, Nat.reduceLT, Int.reduceToNat, lI_optL]))
      all_goals (try exact ⟨0, by rw [hnil]; rfl, .zero fun j hj => by simp⟩)
    rintro i e h' hi ⟨hp, Mo, rfl, hMo⟩
    refine T_pins hp fun e => ?_
    unfold linesO
    (try (simp (disch := first | omega | (simp <;> omega) | fail) only [push_cast, ↓reduceIte, Nat.reduceEqDiff, Nat.reduceAdd, Nat.reduceMul, Nat.reduceSub, Nat.reduceLT, Int.reduceToNat, lI_optL]))
    first | refine goC_split (fun hc => ?_) (fun hc => ?_) | refine cnd_split (fun hc => ?_) (fun hc => ?_)
    · (try (simp only [decide_eq_true_eq, decide_eq_false_iff_not, Bool.not_eq_true', Bool.not_eq_false', Bool.and_eq_true, Bool.or_eq_true, Int.not_lt, Int.not_le] at hc)); (try (simp (disch := first | omega | (simp <;> omega) | fail) only [push_cast, ↓reduceIte, Nat.reduceEqDiff, Nat.reduceAdd, Nat.reduceMul, Nat.reduceSub, Nat.reduceLT, Int.reduceToNat]))
      have hi2 : i < (setL Ma).length := by omega
      obtain ⟨ix, hix, hg, hbt⟩ := setL_get hi2
      have hst := hMo.step hi2 hg
      (try (simp (disch := first | omega | (simp <;> omega) | fail) only [push_cast, ↓reduceIte, Nat.reduceEqDiff, Nat.reduceAdd, Nat.reduceMul, Nat.reduceSub, Nat.reduceLT, Int.reduceToNat, hg, lI_optL]))
      refine (c_spec_l1Has (optL (setL Mb)) (ix : Int)).call ?_
      rw [lI_optL, hasL hix]
      cases hb : Mb.testBit ix
      · rw [hb, if_neg (by simp)] at hst
        (try (simp (disch := first | omega | (simp <;> omega) | fail) only [push_cast, ↓reduceIte, Nat.reduceEqDiff, Nat.reduceAdd, Nat.reduceMul, Nat.reduceSub, Nat.reduceLT, Int.reduceToNat]))
        refine (c_spec_l1Put (optL (setL Mo)) (ix : Int) (by rw [lI_optL]; have := setL_len (M := Mo); omega)).call ?_
        rw [putO_setL hix]
        (try (simp (disch := first | omega | (simp <;> omega) | fail) only [push_cast, ↓reduceIte, Nat.reduceEqDiff, Nat.reduceAdd, Nat.reduceMul, Nat.reduceSub, Nat.reduceLT, Int.reduceToNat]))
        all_goals (try exact ⟨_, rfl, hst⟩)
      · rw [hb, if_pos rfl] at hst
        (try (simp (disch := first | omega | (simp <;> omega) | fail) only [push_cast, ↓reduceIte, Nat.reduceEqDiff, Nat.reduceAdd, Nat.reduceMul, Nat.reduceSub, Nat.reduceLT, Int.reduceToNat]))
        all_goals (try exact ⟨_, rfl, hst⟩)
    · (try (simp only [decide_eq_true_eq, decide_eq_false_iff_not, Bool.not_eq_true', Bool.not_eq_false', Bool.and_eq_true, Bool.or_eq_true, Int.not_lt, Int.not_le] at hc)); (try (simp (disch := first | omega | (simp <;> omega) | fail) only [push_cast, ↓reduceIte, Nat.reduceEqDiff, Nat.reduceAdd, Nat.reduceMul, Nat.reduceSub, Nat.reduceLT, Int.reduceToNat]))
      have hie : i = (setL Ma).length := by omega
      subst hie
      rw [List.take_length] at hMo
      have h0 : InUpTo Mo (fun j => Ma.testBit j && !Mb.testBit j) ((setL Mb).take 0) (fun j => Ma.testBit j) := .zero fun j hj => by rw [hMo.bits hj]; simp
      (try (simp (disch := first | omega | (simp <;> omega) | fail) only [push_cast, ↓reduceIte, Nat.reduceEqDiff, Nat.reduceAdd, Nat.reduceMul, Nat.reduceSub, Nat.reduceLT, Int.reduceToNat]))
      refine T_for (setL Mb).length (fun i e h' => Pins e [(2, .adr h.length 0), (3, .adr (h.length + 1) 0), (4, .adr (h.length + 2) 0), (5, .adr (h.length + 3) 0), (40, eI (optL (setL Mb))), (41, .int .i64 (setL Mb).length), (42, .int .i64 i)] ∧ ∃ Mo, h' = linesO h n wa wb (some W) ra rb q Ma Mb Mo ∧ InUpTo Mo (fun j => Ma.testBit j && !Mb.testBit j) ((setL Mb).take i) (fun j => Ma.testBit j)) ?_ ?_
      · (try (simp (disch := first | omega | (simp <;> omega) | fail) only [push_cast, ↓reduceIte, Nat.reduceEqDiff, Nat.reduceAdd, Nat.reduceMul, Nat.reduceSub, Nat.reduceLT, Int.reduceToNat, lI_optL]))
        all_goals (try exact ⟨_, rfl, h0⟩)
      clear h0 hMo hp
      rintro i e h' hi ⟨hp, Mo, rfl, hMo⟩
      refine T_pins hp fun e => ?_
      unfold linesO
      (try (simp (disch := first | omega | (simp <;> omega) | fail) only [push_cast, ↓reduceIte, Nat.reduceEqDiff, Nat.reduceAdd, Nat.reduceMul, Nat.reduceSub, Nat.reduceLT, Int.reduceToNat, lI_optL]))
      first | refine goC_split (fun hc => ?_) (fun hc => ?_) | refine cnd_split (fun hc => ?_) (fun hc => ?_)
      · (try (simp only [decide_eq_true_eq, decide_eq_false_iff_not, Bool.not_eq_true', Bool.not_eq_false', Bool.and_eq_true, Bool.or_eq_true, Int.not_lt, Int.not_le] at hc)); (try (simp (disch := first | omega | (simp <;> omega) | fail) only [push_cast, ↓reduceIte, Nat.reduceEqDiff, Nat.reduceAdd, Nat.reduceMul, Nat.reduceSub, Nat.reduceLT, Int.reduceToNat]))
        have hi2 : i < (setL Mb).length := by omega
        obtain ⟨ix, hix, hg, hbt⟩ := setL_get hi2
        have hst := hMo.step hi2 hg
        (try (simp (disch := first | omega | (simp <;> omega) | fail) only [push_cast, ↓reduceIte, Nat.reduceEqDiff, Nat.reduceAdd, Nat.reduceMul, Nat.reduceSub, Nat.reduceLT, Int.reduceToNat, hg, lI_optL]))
        refine (c_spec_l1Has (optL (setL Ma)) (ix : Int)).call ?_
        rw [lI_optL, hasL hix]
        cases hb : Ma.testBit ix
        · rw [hb, if_neg (by simp)] at hst
          (try (simp (disch := first | omega | (simp <;> omega) | fail) only [push_cast, ↓reduceIte, Nat.reduceEqDiff, Nat.reduceAdd, Nat.reduceMul, Nat.reduceSub, Nat.reduceLT, Int.reduceToNat]))
          refine (c_spec_l1Put (optL (setL Mo)) (ix : Int) (by rw [lI_optL]; have := setL_len (M := Mo); omega)).call ?_
          rw [putO_setL hix]
          (try (simp (disch := first | omega | (simp <;> omega) | fail) only [push_cast, ↓reduceIte, Nat.reduceEqDiff, Nat.reduceAdd, Nat.reduceMul, Nat.reduceSub, Nat.reduceLT, Int.reduceToNat]))
          all_goals (try exact ⟨_, rfl, hst⟩)
        · rw [hb, if_pos rfl] at hst
          (try (simp (disch := first | omega | (simp <;> omega) | fail) only [push_cast, ↓reduceIte, Nat.reduceEqDiff, Nat.reduceAdd, Nat.reduceMul, Nat.reduceSub, Nat.reduceLT, Int.reduceToNat]))
          all_goals (try exact ⟨_, rfl, hst⟩)
      · (try (simp only [decide_eq_true_eq, decide_eq_false_iff_not, Bool.not_eq_true', Bool.not_eq_false', Bool.and_eq_true, Bool.or_eq_true, Int.not_lt, Int.not_le] at hc)); (try (simp (disch := first | omega | (simp <;> omega) | fail) only [push_cast, ↓reduceIte, Nat.reduceEqDiff, Nat.reduceAdd, Nat.reduceMul, Nat.reduceSub, Nat.reduceLT, Int.reduceToNat]))
        have hie : i = (setL Mb).length := by omega
        subst hie
        rw [List.take_length] at hMo
        have hf := fin Mo hMo
        (try (simp (disch := first | omega | (simp <;> omega) | fail) only [push_cast, ↓reduceIte, Nat.reduceEqDiff, Nat.reduceAdd, Nat.reduceMul, Nat.reduceSub, Nat.reduceLT, Int.reduceToNat]))
        rw [← hf]

set_option maxHeartbeats 2000000 in
theorem c_spec_reReduce (n m x : Nat) (L : List Nat) (h : H) (v : AV) (B : List Nat) (hs : S1 h 4 v L.length (L.flatMap (cLn n m)) B) (hlen : L.length ≤ 1000000) (hm : (((n : Int) + 15) / 16) = (m : Int)) (hn : n ≤ 100000) :
    Call Tryz.prog 179 [v, .agg (cLn n m x)] h Nowhere (fun y h' => y = .agg (cLn n m (redS n L x)) ∧ h' = h) := by
  refine Call.gc (Call.mono (?_ : Call Tryz.prog 179 [v, .agg (cLn n m x)] h Nowhere (fun y _ => y = .agg (cLn n m (redS n L x)))) (fun y _ hy => ⟨hy, by rw [hy]; exact free_agg free_cLn⟩) (fun _ _ h => h))
  refine enter (by kernel_rfl) e179 (by kernel_rfl) rfl fun hok => ?_
  simp only [r179, initEnv_2]
  have hlv : lenA v = some (.int .i64 L.length) := by
    rcases hs.2 with ⟨rfl, h0, _⟩ | ⟨b, rfl, _, _⟩
    · rw [h0]
      rfl
    · rfl
  have hm1 : n ≤ 16 * m := by omega
  have hm2 : m ≤ 100000 := by omega
  unfold cLn
  (try (simp (disch := first | omega | (simp <;> omega) | fail) only [push_cast, ↓reduceIte, Nat.reduceEqDiff, Nat.reduceAdd, Nat.reduceMul, Nat.reduceSub, Nat.reduceLT, Int.reduceToNat]))
  refine T_for n (fun i e h' => Pins e [(0, v), (3, .adr h.length 0), (4, .adr (h.length + 1) 0), (5, .int .i64 i)] ∧ RdI h h' n m (redTo n L x i)) ?_ ?_
  · (try (simp (disch := first | omega | (simp <;> omega) | fail) only [push_cast, ↓reduceIte, Nat.reduceEqDiff, Nat.reduceAdd, Nat.reduceMul, Nat.reduceSub, Nat.reduceLT, Int.reduceToNat]))
    all_goals (try exact ⟨by simp, by rw [cells_h0]; rfl, by rw [cells_hk]; rfl, fun b hb => List.getElem?_append_left hb⟩)
  rintro i e h' hi ⟨hp, hr⟩
  refine T_pins hp fun e => ?_
  obtain ⟨r1, r2, r3, r4⟩ := hr
  (try (simp (disch := first | omega | (simp <;> omega) | fail) only [push_cast, ↓reduceIte, Nat.reduceEqDiff, Nat.reduceAdd, Nat.reduceMul, Nat.reduceSub, Nat.reduceLT, Int.reduceToNat, r2]))
  first | refine goC_split (fun hc => ?_) (fun hc => ?_) | refine cnd_split (fun hc => ?_) (fun hc => ?_)
  · (try (simp only [decide_eq_true_eq, decide_eq_false_iff_not, Bool.not_eq_true', Bool.not_eq_false', Bool.and_eq_true, Bool.or_eq_true, Int.not_lt, Int.not_le] at hc)); (try (simp (disch := first | omega | (simp <;> omega) | fail) only [push_cast, ↓reduceIte, Nat.reduceEqDiff, Nat.reduceAdd, Nat.reduceMul, Nat.reduceSub, Nat.reduceLT, Int.reduceToNat]))
    have hin : i < n := by omega
    (try (simp (disch := first | omega | (simp <;> omega) | fail) only [push_cast, ↓reduceIte, Nat.reduceEqDiff, Nat.reduceAdd, Nat.reduceMul, Nat.reduceSub, Nat.reduceLT, Int.reduceToNat, r2, hlv]))
    refine T_for L.length (fun j e h' => Pins e [(0, v), (3, .adr h.length 0), (4, .adr (h.length + 1) 0), (5, .int .i64 i), (15, v), (16, .int .i64 L.length), (17, .int .i64 j)] ∧ RdI h h' n m (redCol n i (L.take j) (redTo n L x i))) ?_ ?_
    · (try (simp (disch := first | omega | (simp <;> omega) | fail) only [push_cast, ↓reduceIte, Nat.reduceEqDiff, Nat.reduceAdd, Nat.reduceMul, Nat.reduceSub, Nat.reduceLT, Int.reduceToNat]))
      all_goals (try exact ⟨r1, r2, r3, r4⟩)
    clear r1 r2 r3 r4 hp
    rintro j e h' hj ⟨hp, hr⟩
    refine T_pins hp fun e => ?_
    obtain ⟨X, hX⟩ : ∃ X, X = redCol n i (L.take j) (redTo n L x i) := ⟨_, rfl⟩
    rw [← hX] at hr
    have hr0 := hr
    obtain ⟨r1, r2, r3, r4⟩ := hr
    (try (simp (disch := first | omega | (simp <;> omega) | fail) only [push_cast, ↓reduceIte, Nat.reduceEqDiff, Nat.reduceAdd, Nat.reduceMul, Nat.reduceSub, Nat.reduceLT, Int.reduceToNat]))
    first | refine goC_split (fun hd => ?_) (fun hd => ?_) | refine cnd_split (fun hd => ?_) (fun hd => ?_)
    · (try (simp only [decide_eq_true_eq, decide_eq_false_iff_not, Bool.not_eq_true', Bool.not_eq_false', Bool.and_eq_true, Bool.or_eq_true, Int.not_lt, Int.not_le] at hd)); (try (simp (disch := first | omega | (simp <;> omega) | fail) only [push_cast, ↓reduceIte, Nat.reduceEqDiff, Nat.reduceAdd, Nat.reduceMul, Nat.reduceSub, Nat.reduceLT, Int.reduceToNat]))
      have hj2 : j < L.length := by omega
      obtain ⟨l, hl⟩ : ∃ l, l = L.getD j 0 := ⟨_, rfl⟩
      have hld : ld true 4 (L.flatMap (cLn n m)) (j * 4) = some (.agg [.int .i64 n, eI (some (wordsN (l % 2 ^ n) m)), .bool (l.testBit n), eI (optL (setL (l >>> (n + 1))))]) := by
        rw [ld_Ln hj2, ← hl]
        rfl
      have hst : redCol n i (L.take (j + 1)) (redTo n L x i) = if lead n l = i ∧ X.testBit i = true then X ^^^ l else X := by
        unfold redCol at hX ⊢
        rw [List.take_add_one, List.foldl_append, ← hX]
        simp [hj2, hl]
      obtain ⟨b, hb, hbc⟩ : ∃ b, v = .sl b 0 4 L.length L.length ∧ h.cells b = some (L.flatMap (cLn n m)) := by
        rcases hs.2 with ⟨_, h0, _⟩ | ⟨b, hb, _, hbc⟩
        · omega
        · exact ⟨b, hb, hbc⟩
      have hbc2 := cells_same hbc r4
      have hia : iaddrA 4 v (.int .i64 (j : Int)) = some (.adr b (j * 4)) := by
        rw [hb, iaddrA_sl (by omega) (by omega)]
        simp
      (try (simp (disch := first | omega | (simp <;> omega) | fail) only [push_cast, ↓reduceIte, Nat.reduceEqDiff, Nat.reduceAdd, Nat.reduceMul, Nat.reduceSub, Nat.reduceLT, Int.reduceToNat, hia, hbc2, hld]))
      refine (c_spec_reFirst2 (some (wordsN (l % 2 ^ n) m)) n m (l % 2 ^ n) rfl hm1 hm2).call ?_
      rw [leadI_mod]
      have hLi : (leadI n l = (i : Int)) ↔ lead n l = i := by
        unfold leadI
        split <;> omega
      have r2' := cells_app (l := [some (.cells [.int .i64 n, eI (some (wordsN (l % 2 ^ n) m)), .bool (l.testBit n), eI (optL (setL (l >>> (n + 1))))])]) r2
      by_cases hli : lead n l = i
      · have hli2 : leadI n l = (i : Int) := hLi.2 hli
        (try (simp (disch := first | omega | (simp <;> omega) | fail) only [push_cast, ↓reduceIte, Nat.reduceEqDiff, Nat.reduceAdd, Nat.reduceMul, Nat.reduceSub, Nat.reduceLT, Int.reduceToNat, hli2, r2']))
        refine (c_spec_biAt ⟨n, some (wordsN (X % 2 ^ n) m)⟩ (X % 2 ^ n) m i rfl (by omega) (by omega)).call ?_
        have hxb : (X % 2 ^ n).testBit i = X.testBit i := by
          rw [Nat.testBit_mod_two_pow]
          simp [hin]
        rw [hxb]
        cases hb : X.testBit i
        · rw [if_neg (by simp [hb])] at hst
          (try (simp (disch := first | omega | (simp <;> omega) | fail) only [push_cast, ↓reduceIte, Nat.reduceEqDiff, Nat.reduceAdd, Nat.reduceMul, Nat.reduceSub, Nat.reduceLT, Int.reduceToNat, r2']))
          all_goals (try rw [hst])
          all_goals (try exact hr0.app)
        · rw [if_pos ⟨hli, hb⟩] at hst
          have hadd := c_spec_reAdd2 (some (wordsN (X % 2 ^ n) m)) (some (wordsN (l % 2 ^ n) m)) (X.testBit n) (l.testBit n) n m (X % 2 ^ n) (l % 2 ^ n) (X >>> (n + 1)) (l >>> (n + 1)) rfl rfl hm hn
          rw [xor_mod, ← Nat.testBit_xor_, ← Nat.shiftRight_xor_distrib] at hadd
          (try (simp (disch := first | omega | (simp <;> omega) | fail) only [push_cast, ↓reduceIte, Nat.reduceEqDiff, Nat.reduceAdd, Nat.reduceMul, Nat.reduceSub, Nat.reduceLT, Int.reduceToNat, r2']))
          refine hadd.call ?_
          (try (simp (disch := first | omega | (simp <;> omega) | fail) only [push_cast, ↓reduceIte, Nat.reduceEqDiff, Nat.reduceAdd, Nat.reduceMul, Nat.reduceSub, Nat.reduceLT, Int.reduceToNat, r2']))
          all_goals (try rw [hst])
          all_goals (try exact hr0.app.put)
      · have hli2 : ¬ leadI n l = (i : Int) := fun h => hli (hLi.1 h)
        rw [if_neg (fun h => hli h.1)] at hst
        (try (simp (disch := first | omega | (simp <;> omega) | fail) only [push_cast, ↓reduceIte, Nat.reduceEqDiff, Nat.reduceAdd, Nat.reduceMul, Nat.reduceSub, Nat.reduceLT, Int.reduceToNat, hli2, r2']))
        all_goals (try rw [hst])
        all_goals (try exact hr0.app)
    · (try (simp only [decide_eq_true_eq, decide_eq_false_iff_not, Bool.not_eq_true', Bool.not_eq_false', Bool.and_eq_true, Bool.or_eq_true, Int.not_lt, Int.not_le] at hd)); (try (simp (disch := first | omega | (simp <;> omega) | fail) only [push_cast, ↓reduceIte, Nat.reduceEqDiff, Nat.reduceAdd, Nat.reduceMul, Nat.reduceSub, Nat.reduceLT, Int.reduceToNat]))
      have hje : j = L.length := by omega
      subst hje
      rw [List.take_length] at hX
      have hto : redTo n L x (i + 1) = X := by
        rw [redTo, hX]
      (try (simp (disch := first | omega | (simp <;> omega) | fail) only [push_cast, ↓reduceIte, Nat.reduceEqDiff, Nat.reduceAdd, Nat.reduceMul, Nat.reduceSub, Nat.reduceLT, Int.reduceToNat]))
      all_goals (try rw [hto])
      all_goals (try exact hr0)
  · (try (simp only [decide_eq_true_eq, decide_eq_false_iff_not, Bool.not_eq_true', Bool.not_eq_false', Bool.and_eq_true, Bool.or_eq_true, Int.not_lt, Int.not_le] at hc)); (try (simp (disch := first | omega | (simp <;> omega) | fail) only [push_cast, ↓reduceIte, Nat.reduceEqDiff, Nat.reduceAdd, Nat.reduceMul, Nat.reduceSub, Nat.reduceLT, Int.reduceToNat]))
    have hin : i = n := by omega
    subst hin
    have hw := cells_wr2 r1 (cs := [AV.int .i64 (i : Int), eI (some (wordsN (redTo i L x i % 2 ^ i) m)), .bool ((redTo i L x i).testBit i), eI (optL (setL (redTo i L x i >>> (i + 1))))])
    have hpm : (h.length ≤ h.length + 1) = True := by simp
    (try (simp (disch := first | omega | (simp <;> omega) | fail) only [push_cast, ↓reduceIte, Nat.reduceEqDiff, Nat.reduceAdd, Nat.reduceMul, Nat.reduceSub, Nat.reduceLT, Int.reduceToNat, r2, r3, hw, hpm]))
    all_goals (try rfl)

set_option maxHeartbeats 4000000 in
theorem c_spec_reLines (s : Sy) (n m : Nat) (ho : OkE s n m) : Fn Tryz.prog 147 [eSy s] (· = linesV s n m) := by
  refine Fn.froze_ fun h => ?_
  refine enter (by kernel_rfl) e147 (by kernel_rfl) rfl fun hok => ?_
  simp only [r147, initEnv_1]
  have hnr := ho.nr
  have hlr := ho.lr
  have hsz := ho.sz
  have hn1 := ho.n1
  have hn2 := ho.n2
  have hm := ho.hm
  (try (simp (disch := first | omega | (simp <;> omega) | fail) only [push_cast, ↓reduceIte, Nat.reduceEqDiff, Nat.reduceAdd, Nat.reduceMul, Nat.reduceSub, Nat.reduceLT, Int.reduceToNat]))
  refine T_for (lB s.rows).length (fun i e h' => ∃ v B, Pins e [(1, .adr h.length 0), (4, v), (5, eI (optL (setL ((stS s n i).2 >>> (n + 1))))), (10, eBS s.rows), (11, .int .i64 (lB s.rows).length), (12, .int .i64 i)] ∧ LnI h h' s n m v B (stS s n i).1) ?_ ?_
  · (try (simp (disch := first | omega | (simp <;> omega) | fail) only [push_cast, ↓reduceIte, Nat.reduceEqDiff, Nat.reduceAdd, Nat.reduceMul, Nat.reduceSub, Nat.reduceLT, Int.reduceToNat, hsz]))
    exact ⟨_, [], ⟨rfl, eM_zero⟩, by simp, by rw [cells_h0]; rfl, .nil, by simp, fun _ => rfl⟩
  rintro i e h' hi ⟨v, B, hp, hs⟩
  refine T_pins hp fun e => ?_
  obtain ⟨s1, s2, s3, s4, s5⟩ := hs
  (try (simp (disch := first | omega | (simp <;> omega) | fail) only [push_cast, ↓reduceIte, Nat.reduceEqDiff, Nat.reduceAdd, Nat.reduceMul, Nat.reduceSub, Nat.reduceLT, Int.reduceToNat]))
  first | refine goC_split (fun hc => ?_) (fun hc => ?_) | refine cnd_split (fun hc => ?_) (fun hc => ?_)
  · (try (simp only [decide_eq_true_eq, decide_eq_false_iff_not, Bool.not_eq_true', Bool.not_eq_false', Bool.and_eq_true, Bool.or_eq_true, Int.not_lt, Int.not_le] at hc)); (try (simp (disch := first | omega | (simp <;> omega) | fail) only [push_cast, ↓reduceIte, Nat.reduceEqDiff, Nat.reduceAdd, Nat.reduceMul, Nat.reduceSub, Nat.reduceLT, Int.reduceToNat]))
    have hi2 : i < (lB s.rows).length := by omega
    have hlt := ho.lt i hi2
    have hw1 := ho.some hi2
    have hw2 := (ho.w i hi2).2
    have hsl := stS_len (s := s) (n := n) (i := i)
    have hcl : cLn n m (rowE s n i) = [.int .i64 n, eI (some (wordsN (rowB s i) m)), .bool ((lO s.right).getD i false), .ro 1 [.int .i64 (i : Int)] 1] := by
      unfold cLn
      rw [rowE_row hlt, rowE_right hlt, rowE_of hlt, setL_pow (by omega)]
      rfl
    obtain ⟨X, hX⟩ : ∃ X, X = redS n (stS s n i).1 (rowE s n i) := ⟨_, rfl⟩
    have hcx : cLn n m X = [.int .i64 n, eI (some (wordsN (X % 2 ^ n) m)), .bool (X.testBit n), eI (optL (setL (X >>> (n + 1))))] := rfl
    have hst := stS_succ (s := s) (n := n) (i := i)
    unfold M.stepS at hst
    rw [← hX] at hst
    have hnone := (ho.msk (i := i) (by omega)).none (by omega)
    (try (simp (disch := first | omega | (simp <;> omega) | fail) only [push_cast, ↓reduceIte, Nat.reduceEqDiff, Nat.reduceAdd, Nat.reduceMul, Nat.reduceSub, Nat.reduceLT, Int.reduceToNat, s2, hw1, hw2]))
    refine ⟨⟨?_, ?_⟩, ?_⟩
    · refine Call.sink (fun k => k == h'.length + 1) (ts := [v, .agg (cLn n m (rowE s n i))]) rfl (sink_args (by rw [cells_hk]; rfl) hcl) (fun b' _ hb' => ⟨Or.inr (by simp at hb'; omega), by simp at hb'; subst hb'; (try (simp (disch := first | omega | (simp <;> omega) | fail) only [push_cast, ↓reduceIte, Nat.reduceEqDiff, Nat.reduceAdd, Nat.reduceMul, Nat.reduceSub, Nat.reduceLT, Int.reduceToNat, reads, List.mem_cons, List.mem_append, List.not_mem_nil, nat_ff, or_self, or_false, false_or, not_false_eq_true]))⟩) ?_
      rw [filt_at (g0 := h' ++ [_]) (l := []) (o := some (.cells [.int .i64 (i : Int)])) (by rw [List.append_assoc]; rfl) (by simp)]
      simp only [List.append_assoc, List.cons_append, List.nil_append]
      refine (c_spec_reReduce n m (rowE s n i) (stS s n i).1 _ v B (s3.frame fun b hb => List.getElem?_append_left (s3.lt b hb)) (by omega) hm (by omega)).mono (fun y h2 hy => ?_) (fun _ _ h => h.elim)
      obtain ⟨rfl, rfl⟩ := hy
      rw [← hX, hcx]
      (try (simp (disch := first | omega | (simp <;> omega) | fail) only [push_cast, ↓reduceIte, Nat.reduceEqDiff, Nat.reduceAdd, Nat.reduceMul, Nat.reduceSub, Nat.reduceLT, Int.reduceToNat, reads, List.mem_cons, List.mem_append, List.not_mem_nil, nat_ff, or_self, or_false, false_or, not_false_eq_true]))
      refine (c_spec_reFirst2 (some (wordsN (X % 2 ^ n) m)) n m (X % 2 ^ n) rfl (by omega) (by omega)).call ?_
      rw [leadI_mod]
      by_cases hl : lead n X < n
      · have hli : leadI n X = (lead n X : Int) := if_pos hl
        rw [if_pos hl] at hst
        have hfl : fillA [.int .i64 0, .nils, .bool false, .nils] [(0, 4, .agg [.int .i64 n, eI (some (wordsN (X % 2 ^ n) m)), .bool (X.testBit n), eI (optL (setL (X >>> (n + 1))))])] = some [.int .i64 n, eI (some (wordsN (X % 2 ^ n) m)), .bool (X.testBit n), eI (optL (setL (X >>> (n + 1))))] := rfl
        have hrow : rows [AV.int .i64 0, .nils, .bool false, .nils] 1 = [.int .i64 0, .nils, .bool false, .nils] := rfl
        (try (simp (disch := first | omega | (simp <;> omega) | fail) only [push_cast, ↓reduceIte, Nat.reduceEqDiff, Nat.reduceAdd, Nat.reduceMul, Nat.reduceSub, Nat.reduceLT, Int.reduceToNat, hli, hrow, hfl]))
        rw [← hcx]
        refine (s3.frame (h' := h' ++ _) fun b hb => List.getElem?_append_left (s3.lt b hb)).app0 (new := cLn n m X) (k := 1) (by_ := 64) (fun b hb => Or.inr (by have := s4 b hb; omega)) (by rfl) (by omega) fun v' h2 B' a1 a2 a3 a4 a5 => ?_
        have hfin : LnI h h2 s n m v' B' (stS s n (i + 1)).1 := by
          rw [hst]
          simp only [List.length_append, List.length_cons, List.length_nil] at a2 a3
          refine ⟨by omega, ?_, by simpa using a1, fun b hb => ?_, by simp⟩
          · rw [cells_eq, a3 _ (by omega) (fun hb => absurd (s4 _ hb) (Nat.lt_irrefl _)), ← cells_eq]
            exact cells_app s2
          · rcases a4 b hb with h5 | h5
            · exact s4 b h5
            · simp at h5
              omega
        have hst2 : (stS s n (i + 1)).2 = (stS s n i).2 := by rw [hst]
        (try (simp (disch := first | omega | (simp <;> omega) | fail) only [push_cast, ↓reduceIte, Nat.reduceEqDiff, Nat.reduceAdd, Nat.reduceMul, Nat.reduceSub, Nat.reduceLT, Int.reduceToNat]))
        all_goals (try rw [hst2])
        all_goals (try exact ⟨_, _, ⟨rfl, rfl⟩, hfin⟩)
      · have hli : leadI n X = -1 := if_neg hl
        rw [if_neg hl] at hst
        (try (simp (disch := first | omega | (simp <;> omega) | fail) only [push_cast, ↓reduceIte, Nat.reduceEqDiff, Nat.reduceAdd, Nat.reduceMul, Nat.reduceSub, Nat.reduceLT, Int.reduceToNat, hli]))
        have hfin0 : ∀ l : H, (stS s n (i + 1)).1 = (stS s n i).1 → LnI h (h' ++ l) s n m v B (stS s n (i + 1)).1 := fun l he => by
          rw [he]
          exact ⟨by simp; omega, cells_app s2, s3.frame fun b hb => List.getElem?_append_left (s3.lt b hb), s4, s5⟩
        cases hr : X.testBit n
        · rw [if_neg (by simp [hr])] at hst
          have hst2 : (stS s n (i + 1)).2 = (stS s n i).2 := by rw [hst]
          (try (simp (disch := first | omega | (simp <;> omega) | fail) only [push_cast, ↓reduceIte, Nat.reduceEqDiff, Nat.reduceAdd, Nat.reduceMul, Nat.reduceSub, Nat.reduceLT, Int.reduceToNat]))
          all_goals (try rw [hst2])
          all_goals (try exact ⟨_, _, ⟨rfl, rfl⟩, hfin0 _ (by rw [hst])⟩)
        · by_cases hz : (stS s n i).2 = 0
          · rw [if_pos ⟨hr, hz⟩] at hst
            have hz2 : ((lI (optL (setL ((stS s n i).2 >>> (n + 1))))).length : Int) = 0 := by
              rw [lI_optL]
              have := hnone.2 hz
              omega
            have hst2 : (stS s n (i + 1)).2 = X := by rw [hst]
            (try (simp (disch := first | omega | (simp <;> omega) | fail) only [push_cast, ↓reduceIte, Nat.reduceEqDiff, Nat.reduceAdd, Nat.reduceMul, Nat.reduceSub, Nat.reduceLT, Int.reduceToNat, hz2]))
            all_goals (try rw [hst2])
            all_goals (try exact ⟨_, _, ⟨rfl, rfl⟩, hfin0 _ (by rw [hst])⟩)
          · rw [if_neg (fun h5 => hz h5.2)] at hst
            have hst2 : (stS s n (i + 1)).2 = (stS s n i).2 := by rw [hst]
            have hz2 : ¬ ((lI (optL (setL ((stS s n i).2 >>> (n + 1))))).length : Int) = 0 := by
              rw [lI_optL]
              exact fun h5 => hz (hnone.1 (by omega))
            (try (simp (disch := first | omega | (simp <;> omega) | fail) only [push_cast, ↓reduceIte, Nat.reduceEqDiff, Nat.reduceAdd, Nat.reduceMul, Nat.reduceSub, Nat.reduceLT, Int.reduceToNat, hz2]))
            all_goals (try rw [hst2])
            all_goals (try exact ⟨_, _, ⟨rfl, rfl⟩, hfin0 _ (by rw [hst])⟩)
    · refine Call.sink (fun k => k == h'.length + 1) (ts := [v, .agg (cLn n m (rowE s n i))]) rfl (sink_args (by rw [cells_hk]; rfl) hcl) (fun b' _ hb' => ⟨Or.inr (by simp at hb'; omega), by simp at hb'; subst hb'; (try (simp (disch := first | omega | (simp <;> omega) | fail) only [push_cast, ↓reduceIte, Nat.reduceEqDiff, Nat.reduceAdd, Nat.reduceMul, Nat.reduceSub, Nat.reduceLT, Int.reduceToNat, reads, List.mem_cons, List.mem_append, List.not_mem_nil, nat_ff, or_self, or_false, false_or, not_false_eq_true]))⟩) ?_
      rw [filt_at (g0 := h' ++ [_]) (l := [_]) (o := some (.cells [.int .i64 (i : Int)])) (by rw [List.append_assoc]; rfl) (by simp)]
      simp only [List.append_assoc, List.cons_append, List.nil_append]
      refine (c_spec_reReduce n m (rowE s n i) (stS s n i).1 _ v B (s3.frame fun b hb => List.getElem?_append_left (s3.lt b hb)) (by omega) hm (by omega)).mono (fun y h2 hy => ?_) (fun _ _ h => h.elim)
      obtain ⟨rfl, rfl⟩ := hy
      rw [← hX, hcx]
      (try (simp (disch := first | omega | (simp <;> omega) | fail) only [push_cast, ↓reduceIte, Nat.reduceEqDiff, Nat.reduceAdd, Nat.reduceMul, Nat.reduceSub, Nat.reduceLT, Int.reduceToNat, reads, List.mem_cons, List.mem_append, List.not_mem_nil, nat_ff, or_self, or_false, false_or, not_false_eq_true]))
      refine (c_spec_reFirst2 (some (wordsN (X % 2 ^ n) m)) n m (X % 2 ^ n) rfl (by omega) (by omega)).call ?_
      rw [leadI_mod]
      by_cases hl : lead n X < n
      · have hli : leadI n X = (lead n X : Int) := if_pos hl
        rw [if_pos hl] at hst
        have hfl : fillA [.int .i64 0, .nils, .bool false, .nils] [(0, 4, .agg [.int .i64 n, eI (some (wordsN (X % 2 ^ n) m)), .bool (X.testBit n), eI (optL (setL (X >>> (n + 1))))])] = some [.int .i64 n, eI (some (wordsN (X % 2 ^ n) m)), .bool (X.testBit n), eI (optL (setL (X >>> (n + 1))))] := rfl
        have hrow : rows [AV.int .i64 0, .nils, .bool false, .nils] 1 = [.int .i64 0, .nils, .bool false, .nils] := rfl
        (try (simp (disch := first | omega | (simp <;> omega) | fail) only [push_cast, ↓reduceIte, Nat.reduceEqDiff, Nat.reduceAdd, Nat.reduceMul, Nat.reduceSub, Nat.reduceLT, Int.reduceToNat, hli, hrow, hfl]))
        rw [← hcx]
        refine (s3.frame (h' := h' ++ _) fun b hb => List.getElem?_append_left (s3.lt b hb)).app0 (new := cLn n m X) (k := 1) (by_ := 64) (fun b hb => Or.inr (by have := s4 b hb; omega)) (by rfl) (by omega) fun v' h2 B' a1 a2 a3 a4 a5 => ?_
        have hfin : LnI h h2 s n m v' B' (stS s n (i + 1)).1 := by
          rw [hst]
          simp only [List.length_append, List.length_cons, List.length_nil] at a2 a3
          refine ⟨by omega, ?_, by simpa using a1, fun b hb => ?_, by simp⟩
          · rw [cells_eq, a3 _ (by omega) (fun hb => absurd (s4 _ hb) (Nat.lt_irrefl _)), ← cells_eq]
            exact cells_app s2
          · rcases a4 b hb with h5 | h5
            · exact s4 b h5
            · simp at h5
              omega
        have hst2 : (stS s n (i + 1)).2 = (stS s n i).2 := by rw [hst]
        (try (simp (disch := first | omega | (simp <;> omega) | fail) only [push_cast, ↓reduceIte, Nat.reduceEqDiff, Nat.reduceAdd, Nat.reduceMul, Nat.reduceSub, Nat.reduceLT, Int.reduceToNat]))
        all_goals (try rw [hst2])
        all_goals (try exact ⟨_, _, ⟨rfl, rfl⟩, hfin⟩)
      · have hli : leadI n X = -1 := if_neg hl
        rw [if_neg hl] at hst
        (try (simp (disch := first | omega | (simp <;> omega) | fail) only [push_cast, ↓reduceIte, Nat.reduceEqDiff, Nat.reduceAdd, Nat.reduceMul, Nat.reduceSub, Nat.reduceLT, Int.reduceToNat, hli]))
        have hfin0 : ∀ l : H, (stS s n (i + 1)).1 = (stS s n i).1 → LnI h (h' ++ l) s n m v B (stS s n (i + 1)).1 := fun l he => by
          rw [he]
          exact ⟨by simp; omega, cells_app s2, s3.frame fun b hb => List.getElem?_append_left (s3.lt b hb), s4, s5⟩
        cases hr : X.testBit n
        · rw [if_neg (by simp [hr])] at hst
          have hst2 : (stS s n (i + 1)).2 = (stS s n i).2 := by rw [hst]
          (try (simp (disch := first | omega | (simp <;> omega) | fail) only [push_cast, ↓reduceIte, Nat.reduceEqDiff, Nat.reduceAdd, Nat.reduceMul, Nat.reduceSub, Nat.reduceLT, Int.reduceToNat]))
          all_goals (try rw [hst2])
          all_goals (try exact ⟨_, _, ⟨rfl, rfl⟩, hfin0 _ (by rw [hst])⟩)
        · by_cases hz : (stS s n i).2 = 0
          · rw [if_pos ⟨hr, hz⟩] at hst
            have hz2 : ((lI (optL (setL ((stS s n i).2 >>> (n + 1))))).length : Int) = 0 := by
              rw [lI_optL]
              have := hnone.2 hz
              omega
            have hst2 : (stS s n (i + 1)).2 = X := by rw [hst]
            (try (simp (disch := first | omega | (simp <;> omega) | fail) only [push_cast, ↓reduceIte, Nat.reduceEqDiff, Nat.reduceAdd, Nat.reduceMul, Nat.reduceSub, Nat.reduceLT, Int.reduceToNat, hz2]))
            all_goals (try rw [hst2])
            all_goals (try exact ⟨_, _, ⟨rfl, rfl⟩, hfin0 _ (by rw [hst])⟩)
          · rw [if_neg (fun h5 => hz h5.2)] at hst
            have hst2 : (stS s n (i + 1)).2 = (stS s n i).2 := by rw [hst]
            have hz2 : ¬ ((lI (optL (setL ((stS s n i).2 >>> (n + 1))))).length : Int) = 0 := by
              rw [lI_optL]
              exact fun h5 => hz (hnone.1 (by omega))
            (try (simp (disch := first | omega | (simp <;> omega) | fail) only [push_cast, ↓reduceIte, Nat.reduceEqDiff, Nat.reduceAdd, Nat.reduceMul, Nat.reduceSub, Nat.reduceLT, Int.reduceToNat, hz2]))
            all_goals (try rw [hst2])
            all_goals (try exact ⟨_, _, ⟨rfl, rfl⟩, hfin0 _ (by rw [hst])⟩)
    · refine Call.sink (fun k => k == h'.length + 2) (ts := [v, .agg (cLn n m (rowE s n i))]) rfl (sink_args (by rw [cells_hk]; rfl) hcl) (fun b' _ hb' => ⟨Or.inr (by simp at hb'; omega), by simp at hb'; subst hb'; (try (simp (disch := first | omega | (simp <;> omega) | fail) only [push_cast, ↓reduceIte, Nat.reduceEqDiff, Nat.reduceAdd, Nat.reduceMul, Nat.reduceSub, Nat.reduceLT, Int.reduceToNat, reads, List.mem_cons, List.mem_append, List.not_mem_nil, nat_ff, or_self, or_false, false_or, not_false_eq_true]))⟩) ?_
      rw [filt_at (g0 := h' ++ [_, _]) (l := []) (o := some (.cells [.int .i64 (i : Int)])) (by rw [List.append_assoc]; rfl) (by simp)]
      simp only [List.append_assoc, List.cons_append, List.nil_append]
      refine (c_spec_reReduce n m (rowE s n i) (stS s n i).1 _ v B (s3.frame fun b hb => List.getElem?_append_left (s3.lt b hb)) (by omega) hm (by omega)).mono (fun y h2 hy => ?_) (fun _ _ h => h.elim)
      obtain ⟨rfl, rfl⟩ := hy
      rw [← hX, hcx]
      (try (simp (disch := first | omega | (simp <;> omega) | fail) only [push_cast, ↓reduceIte, Nat.reduceEqDiff, Nat.reduceAdd, Nat.reduceMul, Nat.reduceSub, Nat.reduceLT, Int.reduceToNat, reads, List.mem_cons, List.mem_append, List.not_mem_nil, nat_ff, or_self, or_false, false_or, not_false_eq_true]))
      refine (c_spec_reFirst2 (some (wordsN (X % 2 ^ n) m)) n m (X % 2 ^ n) rfl (by omega) (by omega)).call ?_
      rw [leadI_mod]
      by_cases hl : lead n X < n
      · have hli : leadI n X = (lead n X : Int) := if_pos hl
        rw [if_pos hl] at hst
        have hfl : fillA [.int .i64 0, .nils, .bool false, .nils] [(0, 4, .agg [.int .i64 n, eI (some (wordsN (X % 2 ^ n) m)), .bool (X.testBit n), eI (optL (setL (X >>> (n + 1))))])] = some [.int .i64 n, eI (some (wordsN (X % 2 ^ n) m)), .bool (X.testBit n), eI (optL (setL (X >>> (n + 1))))] := rfl
        have hrow : rows [AV.int .i64 0, .nils, .bool false, .nils] 1 = [.int .i64 0, .nils, .bool false, .nils] := rfl
        (try (simp (disch := first | omega | (simp <;> omega) | fail) only [push_cast, ↓reduceIte, Nat.reduceEqDiff, Nat.reduceAdd, Nat.reduceMul, Nat.reduceSub, Nat.reduceLT, Int.reduceToNat, hli, hrow, hfl]))
        rw [← hcx]
        refine (s3.frame (h' := h' ++ _) fun b hb => List.getElem?_append_left (s3.lt b hb)).app0 (new := cLn n m X) (k := 1) (by_ := 64) (fun b hb => Or.inr (by have := s4 b hb; omega)) (by rfl) (by omega) fun v' h2 B' a1 a2 a3 a4 a5 => ?_
        have hfin : LnI h h2 s n m v' B' (stS s n (i + 1)).1 := by
          rw [hst]
          simp only [List.length_append, List.length_cons, List.length_nil] at a2 a3
          refine ⟨by omega, ?_, by simpa using a1, fun b hb => ?_, by simp⟩
          · rw [cells_eq, a3 _ (by omega) (fun hb => absurd (s4 _ hb) (Nat.lt_irrefl _)), ← cells_eq]
            exact cells_app s2
          · rcases a4 b hb with h5 | h5
            · exact s4 b h5
            · simp at h5
              omega
        have hst2 : (stS s n (i + 1)).2 = (stS s n i).2 := by rw [hst]
        (try (simp (disch := first | omega | (simp <;> omega) | fail) only [push_cast, ↓reduceIte, Nat.reduceEqDiff, Nat.reduceAdd, Nat.reduceMul, Nat.reduceSub, Nat.reduceLT, Int.reduceToNat]))
        all_goals (try rw [hst2])
        all_goals (try exact ⟨_, _, ⟨rfl, rfl⟩, hfin⟩)
      · have hli : leadI n X = -1 := if_neg hl
        rw [if_neg hl] at hst
        (try (simp (disch := first | omega | (simp <;> omega) | fail) only [push_cast, ↓reduceIte, Nat.reduceEqDiff, Nat.reduceAdd, Nat.reduceMul, Nat.reduceSub, Nat.reduceLT, Int.reduceToNat, hli]))
        have hfin0 : ∀ l : H, (stS s n (i + 1)).1 = (stS s n i).1 → LnI h (h' ++ l) s n m v B (stS s n (i + 1)).1 := fun l he => by
          rw [he]
          exact ⟨by simp; omega, cells_app s2, s3.frame fun b hb => List.getElem?_append_left (s3.lt b hb), s4, s5⟩
        cases hr : X.testBit n
        · rw [if_neg (by simp [hr])] at hst
          have hst2 : (stS s n (i + 1)).2 = (stS s n i).2 := by rw [hst]
          (try (simp (disch := first | omega | (simp <;> omega) | fail) only [push_cast, ↓reduceIte, Nat.reduceEqDiff, Nat.reduceAdd, Nat.reduceMul, Nat.reduceSub, Nat.reduceLT, Int.reduceToNat]))
          all_goals (try rw [hst2])
          all_goals (try exact ⟨_, _, ⟨rfl, rfl⟩, hfin0 _ (by rw [hst])⟩)
        · by_cases hz : (stS s n i).2 = 0
          · rw [if_pos ⟨hr, hz⟩] at hst
            have hz2 : ((lI (optL (setL ((stS s n i).2 >>> (n + 1))))).length : Int) = 0 := by
              rw [lI_optL]
              have := hnone.2 hz
              omega
            have hst2 : (stS s n (i + 1)).2 = X := by rw [hst]
            (try (simp (disch := first | omega | (simp <;> omega) | fail) only [push_cast, ↓reduceIte, Nat.reduceEqDiff, Nat.reduceAdd, Nat.reduceMul, Nat.reduceSub, Nat.reduceLT, Int.reduceToNat, hz2]))
            all_goals (try rw [hst2])
            all_goals (try exact ⟨_, _, ⟨rfl, rfl⟩, hfin0 _ (by rw [hst])⟩)
          · rw [if_neg (fun h5 => hz h5.2)] at hst
            have hst2 : (stS s n (i + 1)).2 = (stS s n i).2 := by rw [hst]
            have hz2 : ¬ ((lI (optL (setL ((stS s n i).2 >>> (n + 1))))).length : Int) = 0 := by
              rw [lI_optL]
              exact fun h5 => hz (hnone.1 (by omega))
            (try (simp (disch := first | omega | (simp <;> omega) | fail) only [push_cast, ↓reduceIte, Nat.reduceEqDiff, Nat.reduceAdd, Nat.reduceMul, Nat.reduceSub, Nat.reduceLT, Int.reduceToNat, hz2]))
            all_goals (try rw [hst2])
            all_goals (try exact ⟨_, _, ⟨rfl, rfl⟩, hfin0 _ (by rw [hst])⟩)
  · (try (simp only [decide_eq_true_eq, decide_eq_false_iff_not, Bool.not_eq_true', Bool.not_eq_false', Bool.and_eq_true, Bool.or_eq_true, Int.not_lt, Int.not_le] at hc)); (try (simp (disch := first | omega | (simp <;> omega) | fail) only [push_cast, ↓reduceIte, Nat.reduceEqDiff, Nat.reduceAdd, Nat.reduceMul, Nat.reduceSub, Nat.reduceLT, Int.reduceToNat]))
    have hie : i = (lB s.rows).length := by omega
    subst hie
    (try (simp (disch := first | omega | (simp <;> omega) | fail) only [push_cast, ↓reduceIte, Nat.reduceEqDiff, Nat.reduceAdd, Nat.reduceMul, Nat.reduceSub, Nat.reduceLT, Int.reduceToNat]))
    refine ⟨_, ?_, rfl⟩
    unfold linesV
    refine .tup rfl fun k y t hy ht => ?_
    rcases k with _ | _ | k
    · simp at hy ht
      subst hy ht
      exact s3.vwLs (fun b hb => Nat.le_of_lt (s4 b hb)) s5
    · simp at hy ht
      subst hy ht
      exact .free free_eI
    · simp at hy

theorem c_spec_reOdd (wa wb : Option (List Int)) (nb : Int) (n m A B : Nat) (hwa : lI wa = wordsN A m) (hwb : lI wb = wordsN B m) (hm : n ≤ 16 * m) (hm2 : m ≤ 1000) : Fn Tryz.prog 187 [eB ⟨n, wa⟩, eB ⟨nb, wb⟩] (· = .bool (oddN A B n)) := by
  refine Fn.of free_bool fun h => ?_
  refine enter (by kernel_rfl) e187 (by kernel_rfl) rfl fun hok => ?_
  simp only [r187, initEnv_2]
  (try (simp (disch := first | omega | (simp <;> omega) | fail) only [push_cast, ↓reduceIte, Nat.reduceEqDiff, Nat.reduceAdd, Nat.reduceMul, Nat.reduceSub, Nat.reduceLT, Int.reduceToNat]))
  refine T_for n (fun i e h' => Pins e [(2, .adr h.length 0), (3, .adr (h.length + 1) 0), (5, .bool (oddN A B i)), (6, .int .i64 i)] ∧ h' = h ++ [some (.cells [.int .i64 n, eI wa]), some (.cells [.int .i64 nb, eI wb])]) ?_ ?_
  · (try (simp (disch := first | omega | (simp <;> omega) | fail) only [push_cast, ↓reduceIte, Nat.reduceEqDiff, Nat.reduceAdd, Nat.reduceMul, Nat.reduceSub, Nat.reduceLT, Int.reduceToNat]))
    all_goals (try rfl)
  rintro i e h' hi ⟨hp, rfl⟩
  refine T_pins hp fun e => ?_
  (try (simp (disch := first | omega | (simp <;> omega) | fail) only [push_cast, ↓reduceIte, Nat.reduceEqDiff, Nat.reduceAdd, Nat.reduceMul, Nat.reduceSub, Nat.reduceLT, Int.reduceToNat]))
  first | refine goC_split (fun hc => ?_) (fun hc => ?_) | refine cnd_split (fun hc => ?_) (fun hc => ?_)
  · (try (simp only [decide_eq_true_eq, decide_eq_false_iff_not, Bool.not_eq_true', Bool.not_eq_false', Bool.and_eq_true, Bool.or_eq_true, Int.not_lt, Int.not_le] at hc)); (try (simp (disch := first | omega | (simp <;> omega) | fail) only [push_cast, ↓reduceIte, Nat.reduceEqDiff, Nat.reduceAdd, Nat.reduceMul, Nat.reduceSub, Nat.reduceLT, Int.reduceToNat]))
    have hin : i < n := by omega
    have hst : oddN A B (i + 1) = (oddN A B i != (A.testBit i && B.testBit i)) := rfl
    (try (simp (disch := first | omega | (simp <;> omega) | fail) only [push_cast, ↓reduceIte, Nat.reduceEqDiff, Nat.reduceAdd, Nat.reduceMul, Nat.reduceSub, Nat.reduceLT, Int.reduceToNat]))
    refine (c_spec_biAt ⟨n, wa⟩ A m i hwa (by omega) (by omega)).call ?_
    cases ha : A.testBit i
    · rw [ha] at hst
      have h2 : (oddN A B i == false) = !oddN A B i := by cases oddN A B i <;> rfl
      have h3 : oddN A B (i + 1) = oddN A B i := by rw [hst]; cases oddN A B i <;> rfl
      (try (simp (disch := first | omega | (simp <;> omega) | fail) only [push_cast, ↓reduceIte, Nat.reduceEqDiff, Nat.reduceAdd, Nat.reduceMul, Nat.reduceSub, Nat.reduceLT, Int.reduceToNat, h2]))
      all_goals (try rw [h3])
      cases hq : oddN A B i
      · (try (simp (disch := first | omega | (simp <;> omega) | fail) only [push_cast, ↓reduceIte, Nat.reduceEqDiff, Nat.reduceAdd, Nat.reduceMul, Nat.reduceSub, Nat.reduceLT, Int.reduceToNat, hq]))
        all_goals (try rw [h3, hq])
      · (try (simp (disch := first | omega | (simp <;> omega) | fail) only [push_cast, ↓reduceIte, Nat.reduceEqDiff, Nat.reduceAdd, Nat.reduceMul, Nat.reduceSub, Nat.reduceLT, Int.reduceToNat, hq]))
        all_goals (try rw [h3, hq])
    · rw [ha] at hst
      (try (simp (disch := first | omega | (simp <;> omega) | fail) only [push_cast, ↓reduceIte, Nat.reduceEqDiff, Nat.reduceAdd, Nat.reduceMul, Nat.reduceSub, Nat.reduceLT, Int.reduceToNat]))
      refine (c_spec_biAt ⟨nb, wb⟩ B m i hwb (by omega) (by omega)).call ?_
      cases hq : oddN A B i
      · rw [hq] at hst
        cases hb : B.testBit i
        · rw [hb] at hst
          (try (simp (disch := first | omega | (simp <;> omega) | fail) only [push_cast, ↓reduceIte, Nat.reduceEqDiff, Nat.reduceAdd, Nat.reduceMul, Nat.reduceSub, Nat.reduceLT, Int.reduceToNat, hq]))
          all_goals (try (rw [hst]; rfl))
        · rw [hb] at hst
          (try (simp (disch := first | omega | (simp <;> omega) | fail) only [push_cast, ↓reduceIte, Nat.reduceEqDiff, Nat.reduceAdd, Nat.reduceMul, Nat.reduceSub, Nat.reduceLT, Int.reduceToNat, hq]))
          all_goals (try (rw [hst]; rfl))
      · rw [hq] at hst
        cases hb : B.testBit i
        · rw [hb] at hst
          (try (simp (disch := first | omega | (simp <;> omega) | fail) only [push_cast, ↓reduceIte, Nat.reduceEqDiff, Nat.reduceAdd, Nat.reduceMul, Nat.reduceSub, Nat.reduceLT, Int.reduceToNat, hq]))
          all_goals (try (rw [hst]; rfl))
        · rw [hb] at hst
          (try (simp (disch := first | omega | (simp <;> omega) | fail) only [push_cast, ↓reduceIte, Nat.reduceEqDiff, Nat.reduceAdd, Nat.reduceMul, Nat.reduceSub, Nat.reduceLT, Int.reduceToNat, hq]))
          all_goals (try (rw [hst]; rfl))
  · (try (simp only [decide_eq_true_eq, decide_eq_false_iff_not, Bool.not_eq_true', Bool.not_eq_false', Bool.and_eq_true, Bool.or_eq_true, Int.not_lt, Int.not_le] at hc)); (try (simp (disch := first | omega | (simp <;> omega) | fail) only [push_cast, ↓reduceIte, Nat.reduceEqDiff, Nat.reduceAdd, Nat.reduceMul, Nat.reduceSub, Nat.reduceLT, Int.reduceToNat]))
    have hin : i = n := by omega
    subst hin
    (try (simp (disch := first | omega | (simp <;> omega) | fail) only [push_cast, ↓reduceIte, Nat.reduceEqDiff, Nat.reduceAdd, Nat.reduceMul, Nat.reduceSub, Nat.reduceLT, Int.reduceToNat]))

set_option maxHeartbeats 2000000 in
theorem c_spec_reFill (n m bb x : Nat) (L : List Nat) (q : Bool) (h : H) (hb : h.cells bb = some ((wordsN x m).map (.int .i64))) (hL : L.length ≤ 1000) (hm : n ≤ 16 * m) (hm2 : m ≤ 1000) (hn1 : 1 ≤ n) :
    Call Tryz.prog 166 [eLs n m (optN L), .agg [.int .i64 n, .sl bb 0 1 m m], .bool q] h (fun b' => b' = bb) (fun y h' => y = .agg [.int .i64 n, .sl bb 0 1 m m] ∧ h.length ≤ h'.length ∧ h'.cells bb = some ((wordsN (fillS n q L x n) m).map (.int .i64)) ∧ ∀ c, c < h.length → c ≠ bb → h'[c]? = h[c]?) := by
  refine enter (by kernel_rfl) e166 (by kernel_rfl) rfl fun hok => ?_
  simp only [r166, initEnv_3]
  have hbl := cells_lt hb
  (try (simp (disch := first | omega | (simp <;> omega) | fail) only [push_cast, ↓reduceIte, Nat.reduceEqDiff, Nat.reduceAdd, Nat.reduceMul, Nat.reduceSub, Nat.reduceLT, Int.reduceToNat]))
  refine T_for n (fun j e h' => Pins e [(0, eLs n m (optN L)), (2, .bool q), (4, .adr h.length 0), (6, .adr (h.length + 1) 0), (7, .int .i64 ((n : Int) - 1 - j))] ∧ FlI h h' n m bb (fillS n q L x j)) ?_ ?_
  · (try (simp (disch := first | omega | (simp <;> omega) | fail) only [push_cast, ↓reduceIte, Nat.reduceEqDiff, Nat.reduceAdd, Nat.reduceMul, Nat.reduceSub, Nat.reduceLT, Int.reduceToNat]))
    all_goals (try exact ⟨by simp, by rw [cells_h0]; rfl, by rw [cells_hk]; rfl, cells_app hb, hbl, fun c hc _ => List.getElem?_append_left hc⟩)
    all_goals (try exact ⟨by omega, by simp, by rw [cells_h0]; rfl, by rw [cells_hk]; rfl, cells_app hb, hbl, fun c hc _ => List.getElem?_append_left hc⟩)
  rintro j e h' hj ⟨hp, hr⟩
  refine T_pins hp fun e => ?_
  (try (simp (disch := first | omega | (simp <;> omega) | fail) only [push_cast, ↓reduceIte, Nat.reduceEqDiff, Nat.reduceAdd, Nat.reduceMul, Nat.reduceSub, Nat.reduceLT, Int.reduceToNat]))
  first | refine goC_split (fun hc => ?_) (fun hc => ?_) | refine cnd_split (fun hc => ?_) (fun hc => ?_)
  · (try (simp only [decide_eq_true_eq, decide_eq_false_iff_not, Bool.not_eq_true', Bool.not_eq_false', Bool.and_eq_true, Bool.or_eq_true, Int.not_lt, Int.not_le] at hc)); (try (simp (disch := first | omega | (simp <;> omega) | fail) only [push_cast, ↓reduceIte, Nat.reduceEqDiff, Nat.reduceAdd, Nat.reduceMul, Nat.reduceSub, Nat.reduceLT, Int.reduceToNat]))
    have hjn : j < n := by omega
    obtain ⟨i, hi⟩ : ∃ i, i = n - 1 - j := ⟨_, rfl⟩
    have hii : (n : Int) - 1 - (j : Int) = (i : Int) := by omega
    have hin : i < n := by omega
    have hnx : (i : Int) - 1 = (n : Int) - 1 - ((j : Int) + 1) := by omega
    have hfs : fillS n q L x (j + 1) = fillColS n q L i (fillS n q L x j) := by rw [fillS, hi]
    (try (simp (disch := first | omega | (simp <;> omega) | fail) only [push_cast, ↓reduceIte, Nat.reduceEqDiff, Nat.reduceAdd, Nat.reduceMul, Nat.reduceSub, Nat.reduceLT, Int.reduceToNat, hii, lenA_eLs, lL_optN]))
    refine T_for L.length (fun k e h' => Pins e [(0, eLs n m (optN L)), (2, .bool q), (4, .adr h.length 0), (6, .adr (h.length + 1) 0), (7, .int .i64 i), (17, eLs n m (optN L)), (18, .int .i64 L.length), (19, .int .i64 k)] ∧ FlI h h' n m bb (fillColS n q (L.take k) i (fillS n q L x j))) ?_ ?_
    · (try (simp (disch := first | omega | (simp <;> omega) | fail) only [push_cast, ↓reduceIte, Nat.reduceEqDiff, Nat.reduceAdd, Nat.reduceMul, Nat.reduceSub, Nat.reduceLT, Int.reduceToNat]))
      all_goals (try exact hr)
    clear hp hr
    rintro k e h' hk ⟨hp, hr⟩
    refine T_pins hp fun e => ?_
    (try (simp (disch := first | omega | (simp <;> omega) | fail) only [push_cast, ↓reduceIte, Nat.reduceEqDiff, Nat.reduceAdd, Nat.reduceMul, Nat.reduceSub, Nat.reduceLT, Int.reduceToNat]))
    first | refine goC_split (fun hd => ?_) (fun hd => ?_) | refine cnd_split (fun hd => ?_) (fun hd => ?_)
    · (try (simp only [decide_eq_true_eq, decide_eq_false_iff_not, Bool.not_eq_true', Bool.not_eq_false', Bool.and_eq_true, Bool.or_eq_true, Int.not_lt, Int.not_le] at hd)); (try (simp (disch := first | omega | (simp <;> omega) | fail) only [push_cast, ↓reduceIte, Nat.reduceEqDiff, Nat.reduceAdd, Nat.reduceMul, Nat.reduceSub, Nat.reduceLT, Int.reduceToNat]))
      have hk2 : k < L.length := by omega
      have hst := fillCol_take (n := n) (q := q) (i := i) (x := fillS n q L x j) hk2
      generalize fillColS n q (L.take k) i (fillS n q L x j) = X at hr hst
      have hia : iaddrA 4 (eLs n m (optN L)) (.int .i64 (k : Int)) = some (.rad (L.flatMap (cLn n m)) (k * 4)) := by
        rw [iaddr_eLs (by omega) (by rw [lL_optN]; omega), lL_optN]
        rfl
      have hld := ld_Ln (n := n) (m := m) hk2
      generalize L.getD k 0 = l at hst hld
      have hcx : cLn n m l = [.int .i64 n, eI (some (wordsN (l % 2 ^ n) m)), .bool (l.testBit n), eI (optL (setL (l >>> (n + 1))))] := rfl
      rw [hcx] at hld
      have hr0 := hr.app (l := [some (.cells [.int .i64 n, eI (some (wordsN (l % 2 ^ n) m)), .bool (l.testBit n), eI (optL (setL (l >>> (n + 1))))])])
      obtain ⟨r1, r2, r3, r4, r5, r6⟩ := hr
      have r2' := cells_app (l := [some (.cells [.int .i64 n, eI (some (wordsN (l % 2 ^ n) m)), .bool (l.testBit n), eI (optL (setL (l >>> (n + 1))))])]) r2
      have r4' := cells_app (l := [some (.cells [.int .i64 n, eI (some (wordsN (l % 2 ^ n) m)), .bool (l.testBit n), eI (optL (setL (l >>> (n + 1))))])]) r4
      (try (simp (disch := first | omega | (simp <;> omega) | fail) only [push_cast, ↓reduceIte, Nat.reduceEqDiff, Nat.reduceAdd, Nat.reduceMul, Nat.reduceSub, Nat.reduceLT, Int.reduceToNat, hia, hld]))
      refine (c_spec_reFirst2 (some (wordsN (l % 2 ^ n) m)) n m (l % 2 ^ n) rfl hm (by omega)).call ?_
      rw [leadI_mod]
      have hLi : (leadI n l = (i : Int)) ↔ lead n l = i := by
        unfold leadI
        split <;> omega
      unfold fillStep at hst
      by_cases hli : lead n l = i
      · have hli2 : leadI n l = (i : Int) := hLi.2 hli
        (try (simp (disch := first | omega | (simp <;> omega) | fail) only [push_cast, ↓reduceIte, Nat.reduceEqDiff, Nat.reduceAdd, Nat.reduceMul, Nat.reduceSub, Nat.reduceLT, Int.reduceToNat, hli2, r2']))
        have hodd := c_spec_reOdd (some (wordsN (l % 2 ^ n) m)) (some (wordsN X m)) n n m (l % 2 ^ n) X rfl rfl hm hm2
        rw [oddN_mod] at hodd
        refine hodd.lendL (.free (free_eB (b := ⟨n, some (wordsN (l % 2 ^ n) m)⟩)) (.cons (vw_B (Nat.zero_le _) r4' wordsN_len) .nil)) own_bool ?_
        by_cases hne : oddN l X n = rgt q n l
        · rw [if_neg (fun h5 => h5.2 hne)] at hst
          have hX : fillColS n q (L.take (k + 1)) i (fillS n q L x j) = X := hst
          unfold rgt at hne
          cases q
          · rw [Bool.false_and] at hne
            (try (simp (disch := first | omega | (simp <;> omega) | fail) only [push_cast, ↓reduceIte, Nat.reduceEqDiff, Nat.reduceAdd, Nat.reduceMul, Nat.reduceSub, Nat.reduceLT, Int.reduceToNat, hne, r2']))
            all_goals (try (rw [hX]; exact hr0))
          · rw [Bool.true_and] at hne
            cases hln : l.testBit n
            · rw [hln] at hne hr0 r2' r4'
              (try (simp (disch := first | omega | (simp <;> omega) | fail) only [push_cast, ↓reduceIte, Nat.reduceEqDiff, Nat.reduceAdd, Nat.reduceMul, Nat.reduceSub, Nat.reduceLT, Int.reduceToNat, hne, hln, r2']))
              all_goals (try (rw [hX]; exact hr0))
            · rw [hln] at hne hr0 r2' r4'
              (try (simp (disch := first | omega | (simp <;> omega) | fail) only [push_cast, ↓reduceIte, Nat.reduceEqDiff, Nat.reduceAdd, Nat.reduceMul, Nat.reduceSub, Nat.reduceLT, Int.reduceToNat, hne, hln, r2']))
              all_goals (try (rw [hX]; exact hr0))
        · rw [if_pos ⟨hli, hne⟩] at hst
          have hset := c_spec_biSet n bb m X i _ r4' (by omega) (by omega)
          have hfin : ∀ (y : AV) (h2 : H), ((h' ++ [some (AObj.cells [AV.int .i64 n, eI (some (wordsN (l % 2 ^ n) m)), .bool (l.testBit n), eI (optL (setL (l >>> (n + 1))))])]).length ≤ h2.length ∧ (∀ b', b' < (h' ++ [some (AObj.cells [AV.int .i64 n, eI (some (wordsN (l % 2 ^ n) m)), .bool (l.testBit n), eI (optL (setL (l >>> (n + 1))))])]).length → b' ≠ bb → h2[b']? = (h' ++ [some (AObj.cells [AV.int .i64 n, eI (some (wordsN (l % 2 ^ n) m)), .bool (l.testBit n), eI (optL (setL (l >>> (n + 1))))])])[b']?) ∧ h2.cells bb = some ((wordsN (X ||| 2 ^ i) m).map (.int .i64))) → FlI h h2 n m bb (fillColS n q (L.take (k + 1)) i (fillS n q L x j)) := fun y h2 hy => by
            rw [hst]
            exact hr0.put hy.1 hy.2.1 hy.2.2
          unfold rgt at hne
          clear hst hr0
          cases q
          · rw [Bool.false_and, Bool.not_eq_false] at hne
            (try (simp (disch := first | omega | (simp <;> omega) | fail) only [push_cast, ↓reduceIte, Nat.reduceEqDiff, Nat.reduceAdd, Nat.reduceMul, Nat.reduceSub, Nat.reduceLT, Int.reduceToNat, hne, r2']))
            refine hset.mono (fun y h2 hy => ?_) (fun b' _ hb' => Or.inl hb')
            have := hfin y h2 hy
            (try (simp (disch := first | omega | (simp <;> omega) | fail) only [push_cast, ↓reduceIte, Nat.reduceEqDiff, Nat.reduceAdd, Nat.reduceMul, Nat.reduceSub, Nat.reduceLT, Int.reduceToNat]))
            all_goals (try exact this)
          · rw [Bool.true_and] at hne
            cases hln : l.testBit n
            · rw [hln, Bool.not_eq_false] at hne
              rw [hln] at hfin hset r2' r4'
              (try (simp (disch := first | omega | (simp <;> omega) | fail) only [push_cast, ↓reduceIte, Nat.reduceEqDiff, Nat.reduceAdd, Nat.reduceMul, Nat.reduceSub, Nat.reduceLT, Int.reduceToNat, hne, hln, r2']))
              refine hset.mono (fun y h2 hy => ?_) (fun b' _ hb' => Or.inl hb')
              have := hfin y h2 hy
              (try (simp (disch := first | omega | (simp <;> omega) | fail) only [push_cast, ↓reduceIte, Nat.reduceEqDiff, Nat.reduceAdd, Nat.reduceMul, Nat.reduceSub, Nat.reduceLT, Int.reduceToNat]))
              all_goals (try exact this)
            · rw [hln, Bool.not_eq_true] at hne
              rw [hln] at hfin hset r2' r4'
              (try (simp (disch := first | omega | (simp <;> omega) | fail) only [push_cast, ↓reduceIte, Nat.reduceEqDiff, Nat.reduceAdd, Nat.reduceMul, Nat.reduceSub, Nat.reduceLT, Int.reduceToNat, hne, hln, r2']))
              refine hset.mono (fun y h2 hy => ?_) (fun b' _ hb' => Or.inl hb')
              have := hfin y h2 hy
              (try (simp (disch := first | omega | (simp <;> omega) | fail) only [push_cast, ↓reduceIte, Nat.reduceEqDiff, Nat.reduceAdd, Nat.reduceMul, Nat.reduceSub, Nat.reduceLT, Int.reduceToNat]))
              all_goals (try exact this)
      · have hli2 : ¬ leadI n l = (i : Int) := fun h => hli (hLi.1 h)
        rw [if_neg (fun h => hli h.1)] at hst
        (try (simp (disch := first | omega | (simp <;> omega) | fail) only [push_cast, ↓reduceIte, Nat.reduceEqDiff, Nat.reduceAdd, Nat.reduceMul, Nat.reduceSub, Nat.reduceLT, Int.reduceToNat, hli2, r2']))
        all_goals (try (rw [hst]; exact hr0))
    · (try (simp only [decide_eq_true_eq, decide_eq_false_iff_not, Bool.not_eq_true', Bool.not_eq_false', Bool.and_eq_true, Bool.or_eq_true, Int.not_lt, Int.not_le] at hd)); (try (simp (disch := first | omega | (simp <;> omega) | fail) only [push_cast, ↓reduceIte, Nat.reduceEqDiff, Nat.reduceAdd, Nat.reduceMul, Nat.reduceSub, Nat.reduceLT, Int.reduceToNat]))
      have hke : k = L.length := by omega
      subst hke
      rw [List.take_length, ← hfs] at hr
      (try (simp (disch := first | omega | (simp <;> omega) | fail) only [push_cast, ↓reduceIte, Nat.reduceEqDiff, Nat.reduceAdd, Nat.reduceMul, Nat.reduceSub, Nat.reduceLT, Int.reduceToNat]))
      all_goals (try exact ⟨by omega, hr⟩)
      all_goals (try exact hr)
  · (try (simp only [decide_eq_true_eq, decide_eq_false_iff_not, Bool.not_eq_true', Bool.not_eq_false', Bool.and_eq_true, Bool.or_eq_true, Int.not_lt, Int.not_le] at hc)); (try (simp (disch := first | omega | (simp <;> omega) | fail) only [push_cast, ↓reduceIte, Nat.reduceEqDiff, Nat.reduceAdd, Nat.reduceMul, Nat.reduceSub, Nat.reduceLT, Int.reduceToNat]))
    have hjn : j = n := by omega
    subst hjn
    obtain ⟨r1, r2, r3, r4, r5, r6⟩ := hr
    have hw := cells_wr2 (h := h') (b := h.length + 1) (by omega) (cs := [AV.int .i64 (j : Int), .sl bb 0 1 m m])
    have hpm : (h.length ≤ h.length + 1) = True := by simp
    (try (simp (disch := first | omega | (simp <;> omega) | fail) only [push_cast, ↓reduceIte, Nat.reduceEqDiff, Nat.reduceAdd, Nat.reduceMul, Nat.reduceSub, Nat.reduceLT, Int.reduceToNat, r2, r3, hpm, hw]))
    all_goals (try exact ⟨by simp [wr]; omega, by rw [cells_eq]; unfold wr; rw [List.getElem?_set_ne (by omega), ← cells_eq]; exact r4, fun c hc hn => by unfold wr; rw [List.getElem?_set_ne (by omega)]; exact r6 c hc hn⟩)

theorem c_spec_reSolve (s : Sy) (m : Nat) (ho : OkE s (nSy s) m) (hk : okSy s = true) : Fn Tryz.prog 128 [eSy s] (· = solV s) := by
  refine Fn.froze_ fun h => ?_
  unfold solV solB solq
  have hmm := ho.mm
  have hnone : (setL (ofN (nSy s) (refN s))).length = 0 ↔ refN s = 0 := (ho.msk (i := (lB s.rows).length) (Nat.le_refl _)).none (by have := ho.nr; omega)
  unfold solN
  refine enter (by kernel_rfl) e128 (by kernel_rfl) rfl fun hok => ?_
  simp only [r128, initEnv_1]
  have hsz := ho.sz
  have hn1 := ho.n1
  have hn2 := ho.n2
  have hm := ho.hm
  have hnr := ho.nr
  have hlen := stS_len (s := s) (n := nSy s) (i := (lB s.rows).length)
  (try (simp (disch := first | omega | (simp <;> omega) | fail) only [push_cast, ↓reduceIte, Nat.reduceEqDiff, Nat.reduceAdd, Nat.reduceMul, Nat.reduceSub, Nat.reduceLT, Int.reduceToNat]))
  refine (c_spec_reLines s _ m ho).call ?_
  unfold linesV
  have hL : (stS s (nSy s) (lB s.rows).length).1 = linS s := rfl
  have hR : (stS s (nSy s) (lB s.rows).length).2 >>> (nSy s + 1) = ofN (nSy s) (refN s) := rfl
  rw [hL] at hlen
  rw [hL, hR]
  rw [← hmm]
  generalize nSy s = n at *
  generalize linS s = L at *
  generalize ofN n (refN s) = R at *
  clear hL hR
  by_cases h0 : refN s = 0
  · have hz : ¬ (0 : Int) < ((lI (optL (setL R))).length : Int) := by
      rw [lI_optL]
      have := hnone.2 h0
      omega
    have hcond : (okSy s = true ∧ refN s = 0) = True := by simp [hk, h0]
    have hq : (okSy s && decide (refN s = 0)) = true := by simp [hk, h0]
    rw [hq]
    simp only [hcond, if_true]
    (try (simp (disch := first | omega | (simp <;> omega) | fail) only [push_cast, ↓reduceIte, Nat.reduceEqDiff, Nat.reduceAdd, Nat.reduceMul, Nat.reduceSub, Nat.reduceLT, Int.reduceToNat, hz, hsz]))
    refine (c_spec_biNew_own n m (by omega) hm _).mono (fun x h1 hx => ?_) (fun _ _ h => h.elim)
    obtain ⟨bb, rfl, hbb, ⟨p, hp⟩, hcb⟩ := hx
    have hbb2 : h.length + 2 ≤ bb := by simp at hbb; omega
    have f2 : h1.cells (h.length + 1) = some [.int .i64 0, .nils] := by
      rw [hp]
      refine cells_app ?_
      rw [cells_hk]
      rfl
    have hl1 : h.length + 2 ≤ h1.length := by rw [hp]; simp
    clear hp
    (try (simp (disch := first | omega | (simp <;> omega) | fail) only [push_cast, ↓reduceIte, Nat.reduceEqDiff, Nat.reduceAdd, Nat.reduceMul, Nat.reduceSub, Nat.reduceLT, Int.reduceToNat]))
    refine (c_spec_reFill n m bb 0 L true h1 hcb (by omega) (by omega) (by omega) hn1).mono (fun y h2 hy => ?_) (fun b' _ hb' => Or.inr (by omega))
    obtain ⟨rfl, y1, y2, y3⟩ := hy
    have f3 := cells_keep (y3 (h.length + 1) (by omega) (by omega)) f2
    have hw := cells_wr2 (h := h2) (b := h.length + 1) (by omega) (cs := [AV.int .i64 (n : Int), .sl bb 0 1 m m])
    have hpm : (h.length ≤ h.length + 1) = True := by simp
    (try (simp (disch := first | omega | (simp <;> omega) | fail) only [push_cast, ↓reduceIte, Nat.reduceEqDiff, Nat.reduceAdd, Nat.reduceMul, Nat.reduceSub, Nat.reduceLT, Int.reduceToNat, f3, hpm, hw]))
    refine ⟨.tup [eB ⟨n, some (wordsN (fillS n true L 0 n) m)⟩, .bool true], .tup rfl fun k y t hy ht => ?_, rfl⟩
    rcases k with _ | _ | k
    · simp at hy ht
      subst hy ht
      refine vw_B (by omega) (b := bb) (ws := wordsN (fillS n true L 0 n) m) ?_ wordsN_len
      rw [cells_eq]
      unfold wr
      rw [List.getElem?_set_ne (by omega), ← cells_eq]
      exact y2
    · simp at hy ht
      subst hy ht
      exact .free free_bool
    · simp at hy
  · have hz : (0 : Int) < ((lI (optL (setL R))).length : Int) := by
      rw [lI_optL]
      have : (setL R).length ≠ 0 := fun h5 => h0 (hnone.1 h5)
      omega
    have hcond : (okSy s = true ∧ refN s = 0) = False := by simp [h0]
    have hq : (okSy s && decide (refN s = 0)) = false := by simp [h0]
    rw [hq]
    simp only [hcond, if_false]
    (try (simp (disch := first | omega | (simp <;> omega) | fail) only [push_cast, ↓reduceIte, Nat.reduceEqDiff, Nat.reduceAdd, Nat.reduceMul, Nat.reduceSub, Nat.reduceLT, Int.reduceToNat, hz]))
    exact ⟨_, .free (free_tup (free_cons_ (free_eB (b := ⟨0, none⟩)) (free_cons_ free_bool free_nil_))), rfl⟩

theorem setP_take {n k y : Nat} {g : Nat → Bool} {L : List Nat} (hk : k < L.length) : setP n g (L.take (k + 1)) y = setB (setP n g (L.take k) y) (lead n (L.getD k 0)) (g (L.getD k 0)) := by
  unfold setP
  rw [List.take_add_one, List.foldl_append]
  simp [hk]
def SvI (h h' : H) (n m b6 bb x : Nat) : Prop :=
  h'.cells (h.length + 1) = some [.int .i64 0, .nils] ∧ h'.cells b6 = some [.int .i64 n, .sl bb 0 1 m m] ∧ h'.cells bb = some ((wordsN x m).map (.int .i64)) ∧ h.length + 2 ≤ bb ∧ h.length + 2 ≤ b6 ∧ b6 ≠ bb
theorem SvI.app {h h' l : H} {n m b6 bb x : Nat} (hr : SvI h h' n m b6 bb x) : SvI h (h' ++ l) n m b6 bb x := by
  obtain ⟨h1, h2, h3, h4, h5, h6⟩ := hr
  exact ⟨cells_app h1, cells_app h2, cells_app h3, h4, h5, h6⟩
theorem SvI.put {h h' h2 : H} {n m b6 bb x y : Nat} (hr : SvI h h' n m b6 bb x) (hf : ∀ c, c ≠ bb → h2[c]? = h'[c]?) (hc : h2.cells bb = some ((wordsN y m).map (.int .i64))) : SvI h h2 n m b6 bb y := by
  obtain ⟨h1, h2, h3, h4, h5, h6⟩ := hr
  exact ⟨cells_keep (hf _ (by omega)) h1, cells_keep (hf _ h6) h2, hc, h4, h5, h6⟩
theorem c_impl_solve_o (s : Sy) (m : Nat) (ho : OkE s (nSy s) m) : FnO Tryz.prog 87 [eSy s] (· = .tup [eB ⟨nSy s, some (wordsN (solN s) m)⟩, .bool (decide (refN s = 0))]) := by
  intro h
  refine enter (by kernel_rfl) e87 (by kernel_rfl) rfl fun hok => ?_
  simp only [r87, initEnv_1]
  have hsz := ho.sz
  have hn1 := ho.n1
  have hn2 := ho.n2
  have hm := ho.hm
  have hnr := ho.nr
  have hll := stI_len (s := s) (n := nSy s) (i := (lB s.rows).length)
  have hmsk := (ho.msk (i := (lB s.rows).length) (Nat.le_refl _)).shr
  have hr : (stI s (nSy s) (lB s.rows).length).2 = refN s := (lin_sim s).ref.symm
  have hmsk2 : ofN (nSy s) (refN s) = 0 ↔ refN s = 0 := hmsk
  (try (simp (disch := first | omega | (simp <;> omega) | fail) only [push_cast, ↓reduceIte, Nat.reduceEqDiff, Nat.reduceAdd, Nat.reduceMul, Nat.reduceSub, Nat.reduceLT, Int.reduceToNat]))
  refine (c_impl_reduced s _ m ho).use ?_
  rintro x ⟨L, hp, rfl⟩
  have hL : L.length ≤ 40 := by
    have := hp.length_eq
    omega
  have hse := sol_eq hp
  have hlead : ∀ l ∈ L, lead (nSy s) l < nSy s := fun l hl => (lin_sim s).ei.lt l (hp.mem_iff.1 hl)
  have hdec : decide (((ofN (nSy s) (refN s) : Nat) : Int) = 0) = decide (refN s = 0) := by
    rw [decide_eq_decide, ← hmsk2]
    omega
  rw [hr]
  clear hp hr hmsk hmsk2 hll
  generalize nSy s = n at *
  generalize ofN n (refN s) = R at *
  (try (simp (disch := first | omega | (simp <;> omega) | fail) only [push_cast, ↓reduceIte, Nat.reduceEqDiff, Nat.reduceAdd, Nat.reduceMul, Nat.reduceSub, Nat.reduceLT, Int.reduceToNat, hsz]))
  refine (c_impl_blank_own n m (by omega) hm _).mono (fun x h1 hx => ?_) (fun _ _ h => h.elim)
  obtain ⟨bb, rfl, hbb, ⟨p, hp⟩, hcb⟩ := hx
  have hbb2 : h.length + 2 ≤ bb := by simp at hbb; omega
  have f2 : h1.cells (h.length + 1) = some [.int .i64 0, .nils] := by
    rw [hp]
    refine cells_app ?_
    rw [cells_hk]
    rfl
  have hl1 : h.length + 2 ≤ h1.length := by rw [hp]; simp
  have hbl := cells_lt hcb
  clear hp
  (try (simp (disch := first | omega | (simp <;> omega) | fail) only [push_cast, ↓reduceIte, Nat.reduceEqDiff, Nat.reduceAdd, Nat.reduceMul, Nat.reduceSub, Nat.reduceLT, Int.reduceToNat, lenA_eQs, lL_optN]))
  refine T_for L.length (fun k e h' => Pins e [(2, .adr (h.length + 1) 0), (5, .int .u64 R), (6, .adr h1.length 0), (17, eQs n m (optN L)), (18, .int .i64 L.length), (19, .int .i64 k)] ∧ SvI h h' n m h1.length bb (setP n (fun e => e.testBit n) (L.take k) 0)) ?_ ?_
  · (try (simp (disch := first | omega | (simp <;> omega) | fail) only [push_cast, ↓reduceIte, Nat.reduceEqDiff, Nat.reduceAdd, Nat.reduceMul, Nat.reduceSub, Nat.reduceLT, Int.reduceToNat]))
    all_goals (try exact ⟨cells_app f2, by rw [cells_h0]; rfl, cells_app hcb, hbb2, hl1, by omega⟩)
  rintro k e h' hk ⟨hp, hr⟩
  refine T_pins hp fun e => ?_
  (try (simp (disch := first | omega | (simp <;> omega) | fail) only [push_cast, ↓reduceIte, Nat.reduceEqDiff, Nat.reduceAdd, Nat.reduceMul, Nat.reduceSub, Nat.reduceLT, Int.reduceToNat]))
  first | refine goC_split (fun hc => ?_) (fun hc => ?_) | refine cnd_split (fun hc => ?_) (fun hc => ?_)
  · (try (simp only [decide_eq_true_eq, decide_eq_false_iff_not, Bool.not_eq_true', Bool.not_eq_false', Bool.and_eq_true, Bool.or_eq_true, Int.not_lt, Int.not_le] at hc)); (try (simp (disch := first | omega | (simp <;> omega) | fail) only [push_cast, ↓reduceIte, Nat.reduceEqDiff, Nat.reduceAdd, Nat.reduceMul, Nat.reduceSub, Nat.reduceLT, Int.reduceToNat]))
    have hk2 : k < L.length := by omega
    have hia : iaddrA 4 (eQs n m (optN L)) (.int .i64 (k : Int)) = some (.rad (L.flatMap (cQ n m)) (k * 4)) := by
      rw [iaddr_eQs (by omega) (by rw [lL_optN]; omega), lL_optN]
      rfl
    have hld := ld_Q (n := n) (m := m) hk2
    have hst := setP_take (n := n) (g := fun e => e.testBit n) (y := 0) hk2
    have hlt := hlead _ (getD_mem (d := 0) hk2)
    generalize L.getD k 0 = l at hst hld hlt
    have hcx : cQ n m l = [.int .i64 n, eI (some (wordsN (l % 2 ^ n) m)), .bool (l.testBit n), .int .u64 (ofN n l : Int)] := rfl
    rw [hcx] at hld
    have hr0 := hr.app (l := [some (.cells (cQ n m l))])
    obtain ⟨r1, r2, r3, r4, r5, r6⟩ := hr0
    have hlh : h.length ≤ h'.length := by
      have := cells_lt hr.1
      omega
    have hnx := c_impl_Bits_next2 (some (wordsN (l % 2 ^ n) m)) n (l % 2 ^ n) m (cQ n m l) 0 rfl rfl rfl (by omega) (by omega)
    rw [lead_mod] at hnx
    (try (simp (disch := first | omega | (simp <;> omega) | fail) only [push_cast, ↓reduceIte, Nat.reduceEqDiff, Nat.reduceAdd, Nat.reduceMul, Nat.reduceSub, Nat.reduceLT, Int.reduceToNat, hia, hld, reads, List.mem_cons, List.mem_append, List.not_mem_nil, nat_ff, or_self, or_false, false_or, not_false_eq_true]))
    refine hnx.lendL ?_ own_int ?_
    · exact .adr (cs := cQ n m l) (by rw [cells_h0]; rfl) free_cQ (.free free_int (.free free_bool .nil))
    (try (simp (disch := first | omega | (simp <;> omega) | fail) only [push_cast, ↓reduceIte, Nat.reduceEqDiff, Nat.reduceAdd, Nat.reduceMul, Nat.reduceSub, Nat.reduceLT, Int.reduceToNat, reads, List.mem_cons, List.mem_append, List.not_mem_nil, nat_ff, or_self, or_false, false_or, not_false_eq_true]))
    refine (c_impl_Bits_set m _ (lead n l) h1.length 0 bb (l.testBit n) _ _ r2 rfl r3 (by omega) (by omega) r6).mono (fun y h2 hy => ?_) (fun b' _ hb' => ⟨Or.inr (by omega), ?_⟩)
    · obtain ⟨y1, y2, y3⟩ := hy
      have hfin := (hr.app (l := [some (.cells (cQ n m l))])).put y2 y3
      rw [← hst] at hfin
      (try (simp (disch := first | omega | (simp <;> omega) | fail) only [push_cast, ↓reduceIte, Nat.reduceEqDiff, Nat.reduceAdd, Nat.reduceMul, Nat.reduceSub, Nat.reduceLT, Int.reduceToNat]))
      all_goals (try exact hfin)
    · subst hb'
      have := cells_lt hr.2.2.1
      (try (simp (disch := first | omega | (simp <;> omega) | fail) only [push_cast, ↓reduceIte, Nat.reduceEqDiff, Nat.reduceAdd, Nat.reduceMul, Nat.reduceSub, Nat.reduceLT, Int.reduceToNat, reads, List.mem_cons, List.mem_append, List.not_mem_nil, nat_ff, or_self, or_false, false_or, not_false_eq_true]))
      all_goals (try omega)
  · (try (simp only [decide_eq_true_eq, decide_eq_false_iff_not, Bool.not_eq_true', Bool.not_eq_false', Bool.and_eq_true, Bool.or_eq_true, Int.not_lt, Int.not_le] at hc)); (try (simp (disch := first | omega | (simp <;> omega) | fail) only [push_cast, ↓reduceIte, Nat.reduceEqDiff, Nat.reduceAdd, Nat.reduceMul, Nat.reduceSub, Nat.reduceLT, Int.reduceToNat]))
    have hke : k = L.length := by omega
    subst hke
    rw [List.take_length, hse] at hr
    obtain ⟨r1, r2, r3, r4, r5, r6⟩ := hr
    have hlt := cells_lt r1
    have hw := cells_wr2 hlt (cs := [AV.int .i64 (n : Int), .sl bb 0 1 m m])
    have hpm : (h.length ≤ h.length + 1) = True := by simp
    have hfin : ∀ q : Bool, ∃ t, Ow (wr h' (h.length + 1) [.int .i64 (n : Int), .sl bb 0 1 m m]) [.tup [.agg [.int .i64 (n : Int), .sl bb 0 1 m m], .bool q]] [t] (fun c => h.length ≤ c) ∧ t = .tup [.agg [.int .i64 (n : Int), eI (some (wordsN (solN s) m))], .bool q] := fun q => by
      refine ⟨_, (Ow.two (F := fun c => h.length ≤ c) (F' := fun _ => False) (Ow.aggOf (.atom rfl (ow_map (f := AV.int .i64) (l := wordsN (solN s) m) (fun _ => rfl) ?_ wordsN_len ?_))) (.atom rfl .nil) (fun c hc => hc) (fun _ h => h.elim)).tupOf, ?_⟩
      · rw [cells_eq]
        unfold wr
        rw [List.getElem?_set_ne (by omega), ← cells_eq]
        exact r3
      · omega
      · simp [eI, wordsN_len]
    cases hq : decide (refN s = 0)
    · rw [hq] at hdec
      (try (simp (disch := first | omega | (simp <;> omega) | fail) only [push_cast, ↓reduceIte, Nat.reduceEqDiff, Nat.reduceAdd, Nat.reduceMul, Nat.reduceSub, Nat.reduceLT, Int.reduceToNat, r2, r1, hpm, hw, hdec]))
      exact hfin _
    · rw [hq] at hdec
      (try (simp (disch := first | omega | (simp <;> omega) | fail) only [push_cast, ↓reduceIte, Nat.reduceEqDiff, Nat.reduceAdd, Nat.reduceMul, Nat.reduceSub, Nat.reduceLT, Int.reduceToNat, r2, r1, hpm, hw, hdec]))
      exact hfin _

theorem c_spec_l1All (a : Option (List Int)) (lo hi : Int) : Fn Tryz.prog 126 [eI a, .int .i64 lo, .int .i64 hi] (· = .bool ((lI a).all fun m => decide (lo ≤ m) && decide (m ≤ hi))) := by
  refine Fn.of free_bool fun h => ?_
  refine enter (by kernel_rfl) e126 (by kernel_rfl) rfl fun hok => ?_
  simp only [r126, initEnv_3]
  have hlen := ok_eI (okV_0 hok)
  (try (simp (disch := first | omega | (simp <;> omega) | fail) only [push_cast, ↓reduceIte, Nat.reduceEqDiff, Nat.reduceAdd, Nat.reduceMul, Nat.reduceSub, Nat.reduceLT, Int.reduceToNat]))
  refine T_for (lI a).length (fun i e h' => Pins e [(1, .int .i64 lo), (2, .int .i64 hi), (9, eI a), (10, .int .i64 (lI a).length), (11, .int .i64 i)] ∧ h' = h ∧ ((lI a).take i).all (fun m => decide (lo ≤ m) && decide (m ≤ hi)) = true) ?_ ?_
  · (try (simp (disch := first | omega | (simp <;> omega) | fail) only [push_cast, ↓reduceIte, Nat.reduceEqDiff, Nat.reduceAdd, Nat.reduceMul, Nat.reduceSub, Nat.reduceLT, Int.reduceToNat]))
    all_goals (try simp)
  rintro i e h' hi_ ⟨hp, rfl, ha⟩
  refine T_pins hp fun e => ?_
  (try (simp (disch := first | omega | (simp <;> omega) | fail) only [push_cast, ↓reduceIte, Nat.reduceEqDiff, Nat.reduceAdd, Nat.reduceMul, Nat.reduceSub, Nat.reduceLT, Int.reduceToNat]))
  first | refine goC_split (fun hc => ?_) (fun hc => ?_) | refine cnd_split (fun hc => ?_) (fun hc => ?_)
  · (try (simp only [decide_eq_true_eq, decide_eq_false_iff_not, Bool.not_eq_true', Bool.not_eq_false', Bool.and_eq_true, Bool.or_eq_true, Int.not_lt, Int.not_le] at hc)); (try (simp (disch := first | omega | (simp <;> omega) | fail) only [push_cast, ↓reduceIte, Nat.reduceEqDiff, Nat.reduceAdd, Nat.reduceMul, Nat.reduceSub, Nat.reduceLT, Int.reduceToNat]))
    have hi2 : i < (lI a).length := by omega
    (try (simp (disch := first | omega | (simp <;> omega) | fail) only [push_cast, ↓reduceIte, Nat.reduceEqDiff, Nat.reduceAdd, Nat.reduceMul, Nat.reduceSub, Nat.reduceLT, Int.reduceToNat]))
    refine (c_spec_l1In _ _ _).call ?_
    have hn : ((lI a).take (i + 1)).all (fun m => decide (lo ≤ m) && decide (m ≤ hi)) = (decide (lo ≤ (lI a).getD i 0) && decide ((lI a).getD i 0 ≤ hi)) := by
      rw [List.take_add_one, List.all_append, ha]
      simp [hi2]
    cases hk : (decide (lo ≤ (lI a).getD i 0) && decide ((lI a).getD i 0 ≤ hi))
    · (try (simp (disch := first | omega | (simp <;> omega) | fail) only [push_cast, ↓reduceIte, Nat.reduceEqDiff, Nat.reduceAdd, Nat.reduceMul, Nat.reduceSub, Nat.reduceLT, Int.reduceToNat]))
      symm
      rw [List.all_eq_false]
      refine ⟨(lI a).getD i 0, by simp [hi2], by rw [hk]; simp⟩
    · (try (simp (disch := first | omega | (simp <;> omega) | fail) only [push_cast, ↓reduceIte, Nat.reduceEqDiff, Nat.reduceAdd, Nat.reduceMul, Nat.reduceSub, Nat.reduceLT, Int.reduceToNat]))
      rw [hn, hk]
  · (try (simp only [decide_eq_true_eq, decide_eq_false_iff_not, Bool.not_eq_true', Bool.not_eq_false', Bool.and_eq_true, Bool.or_eq_true, Int.not_lt, Int.not_le] at hc)); (try (simp (disch := first | omega | (simp <;> omega) | fail) only [push_cast, ↓reduceIte, Nat.reduceEqDiff, Nat.reduceAdd, Nat.reduceMul, Nat.reduceSub, Nat.reduceLT, Int.reduceToNat]))
    have : (lI a).take i = lI a := List.take_of_length_le (by omega)
    rw [this] at ha
    rw [ha]

theorem c_spec_biGood (b : Bt) : Fn Tryz.prog 160 [eB b] (· = .bool (okBt b)) := by
  refine Fn.of free_bool fun h => ?_
  refine enter (by kernel_rfl) e160 (by kernel_rfl) rfl fun hok => ?_
  simp only [r160, initEnv_1]
  (try (simp (disch := first | omega | (simp <;> omega) | fail) only [push_cast, ↓reduceIte, Nat.reduceEqDiff, Nat.reduceAdd, Nat.reduceMul, Nat.reduceSub, Nat.reduceLT, Int.reduceToNat]))
  unfold okBt
  refine (c_spec_l1In _ _ _).call ?_
  cases h1 : (decide (0 ≤ b.size) && decide (b.size ≤ 4096))
  · (try (simp (disch := first | omega | (simp <;> omega) | fail) only [push_cast, ↓reduceIte, Nat.reduceEqDiff, Nat.reduceAdd, Nat.reduceMul, Nat.reduceSub, Nat.reduceLT, Int.reduceToNat]))
  have h3 : 0 ≤ b.size ∧ b.size ≤ 4096 := by simpa using h1
  (try (simp (disch := first | omega | (simp <;> omega) | fail) only [push_cast, ↓reduceIte, Nat.reduceEqDiff, Nat.reduceAdd, Nat.reduceMul, Nat.reduceSub, Nat.reduceLT, Int.reduceToNat]))
  first | refine goC_split (fun hc => ?_) (fun hc => ?_) | refine cnd_split (fun hc => ?_) (fun hc => ?_)
  · (try (simp only [decide_eq_true_eq, decide_eq_false_iff_not, Bool.not_eq_true', Bool.not_eq_false', Bool.and_eq_true, Bool.or_eq_true, Int.not_lt, Int.not_le] at hc)); (try (simp (disch := first | omega | (simp <;> omega) | fail) only [push_cast, ↓reduceIte, Nat.reduceEqDiff, Nat.reduceAdd, Nat.reduceMul, Nat.reduceSub, Nat.reduceLT, Int.reduceToNat]))
    all_goals (try simp [hc])
  (try (simp only [decide_eq_true_eq, decide_eq_false_iff_not, Bool.not_eq_true', Bool.not_eq_false', Bool.and_eq_true, Bool.or_eq_true, Int.not_lt, Int.not_le] at hc)); (try (simp (disch := first | omega | (simp <;> omega) | fail) only [push_cast, ↓reduceIte, Nat.reduceEqDiff, Nat.reduceAdd, Nat.reduceMul, Nat.reduceSub, Nat.reduceLT, Int.reduceToNat]))
  refine (c_spec_l1All _ _ _).call ?_
  rw [show ((lI b.words).all fun m => decide (0 ≤ m) && decide (m ≤ 65535)) = okWords (lI b.words) from rfl]
  cases h2 : okWords (lI b.words)
  · (try (simp (disch := first | omega | (simp <;> omega) | fail) only [push_cast, ↓reduceIte, Nat.reduceEqDiff, Nat.reduceAdd, Nat.reduceMul, Nat.reduceSub, Nat.reduceLT, Int.reduceToNat]))
    all_goals (try simp)
  unfold lastOk
  by_cases hz : b.size % 16 = 0
  · (try (simp (disch := first | omega | (simp <;> omega) | fail) only [push_cast, ↓reduceIte, Nat.reduceEqDiff, Nat.reduceAdd, Nat.reduceMul, Nat.reduceSub, Nat.reduceLT, Int.reduceToNat, hz]))
    all_goals (try simp [hc])
  · have hln : 1 ≤ (lI b.words).length := by omega
    have hm : 0 ≤ b.size % 16 ∧ b.size % 16 ≤ 15 := by omega
    (try (simp (disch := first | omega | (simp <;> omega) | fail) only [push_cast, ↓reduceIte, Nat.reduceEqDiff, Nat.reduceAdd, Nat.reduceMul, Nat.reduceSub, Nat.reduceLT, Int.reduceToNat, hz]))
    (first | refine goC_split (fun hc => ?_) (fun hc => ?_) | refine cnd_split (fun hc => ?_) (fun hc => ?_)) <;> ((try (simp (disch := first | omega | (simp <;> omega) | fail) only [push_cast, ↓reduceIte, Nat.reduceEqDiff, Nat.reduceAdd, Nat.reduceMul, Nat.reduceSub, Nat.reduceLT, Int.reduceToNat]))) <;> (try rw [hc])

theorem c_spec_reGood (s : Sy) : Fn Tryz.prog 108 [eSy s] (· = .bool (okSy s)) := by
  refine Fn.of free_bool fun h => ?_
  refine enter (by kernel_rfl) e108 (by kernel_rfl) rfl fun hok => ?_
  simp only [r108, initEnv_1]
  have hlen := ok_eBS ((okV_0 hok).agg (eBS s.rows) (by simp))
  (try (simp (disch := first | omega | (simp <;> omega) | fail) only [push_cast, ↓reduceIte, Nat.reduceEqDiff, Nat.reduceAdd, Nat.reduceMul, Nat.reduceSub, Nat.reduceLT, Int.reduceToNat]))
  unfold okSy
  refine (c_spec_l1In _ _ _).call ?_
  cases h1 : (decide (1 ≤ s.size) && decide (s.size ≤ 72))
  · (try (simp (disch := first | omega | (simp <;> omega) | fail) only [push_cast, ↓reduceIte, Nat.reduceEqDiff, Nat.reduceAdd, Nat.reduceMul, Nat.reduceSub, Nat.reduceLT, Int.reduceToNat]))
  (try (simp (disch := first | omega | (simp <;> omega) | fail) only [push_cast, ↓reduceIte, Nat.reduceEqDiff, Nat.reduceAdd, Nat.reduceMul, Nat.reduceSub, Nat.reduceLT, Int.reduceToNat]))
  by_cases h2 : ((lB s.rows).length : Int) ≤ 40
  · by_cases h3 : ((lO s.right).length : Int) = (lB s.rows).length
    · (try (simp (disch := first | omega | (simp <;> omega) | fail) only [push_cast, ↓reduceIte, Nat.reduceEqDiff, Nat.reduceAdd, Nat.reduceMul, Nat.reduceSub, Nat.reduceLT, Int.reduceToNat, h2, h3]))
      refine T_for (lB s.rows).length (fun i e h' => Pins e [(1, .adr h.length 0), (25, eBS s.rows), (26, .int .i64 (lB s.rows).length), (27, .int .i64 i)] ∧ (h.length < h'.length ∧ H.cells h' h.length = some [.int .i64 s.size, eBS s.rows, eO s.right]) ∧ ((lB s.rows).take i).all (okRow s.size) = true) ?_ ?_
      · (try (simp (disch := first | omega | (simp <;> omega) | fail) only [push_cast, ↓reduceIte, Nat.reduceEqDiff, Nat.reduceAdd, Nat.reduceMul, Nat.reduceSub, Nat.reduceLT, Int.reduceToNat]))
        all_goals (try simp)
      rintro i e h' hi ⟨hp, ⟨hlt, hbox⟩, ha⟩
      refine T_pins hp fun e => ?_
      have hbox2 : ∀ l : H, H.cells (h' ++ l) h.length = some [.int .i64 s.size, eBS s.rows, eO s.right] := fun l => cells_app hbox
      (try (simp (disch := first | omega | (simp <;> omega) | fail) only [push_cast, ↓reduceIte, Nat.reduceEqDiff, Nat.reduceAdd, Nat.reduceMul, Nat.reduceSub, Nat.reduceLT, Int.reduceToNat, hbox]))
      first | refine goC_split (fun hc => ?_) (fun hc => ?_) | refine cnd_split (fun hc => ?_) (fun hc => ?_)
      · (try (simp only [decide_eq_true_eq, decide_eq_false_iff_not, Bool.not_eq_true', Bool.not_eq_false', Bool.and_eq_true, Bool.or_eq_true, Int.not_lt, Int.not_le] at hc)); (try (simp (disch := first | omega | (simp <;> omega) | fail) only [push_cast, ↓reduceIte, Nat.reduceEqDiff, Nat.reduceAdd, Nat.reduceMul, Nat.reduceSub, Nat.reduceLT, Int.reduceToNat]))
        have hi2 : i < (lB s.rows).length := by omega
        have hrt := rows_take (f := okRow s.size) hi2
        (try (simp (disch := first | omega | (simp <;> omega) | fail) only [push_cast, ↓reduceIte, Nat.reduceEqDiff, Nat.reduceAdd, Nat.reduceMul, Nat.reduceSub, Nat.reduceLT, Int.reduceToNat, hbox, hbox2]))
        refine (c_spec_biGood ((lB s.rows).getD i default)).call ?_
        cases hk : okBt ((lB s.rows).getD i default)
        · rw [rows_no (f := okRow s.size) hi2 (by unfold okRow; rw [hk]; rfl)]
          (try (simp (disch := first | omega | (simp <;> omega) | fail) only [push_cast, ↓reduceIte, Nat.reduceEqDiff, Nat.reduceAdd, Nat.reduceMul, Nat.reduceSub, Nat.reduceLT, Int.reduceToNat, hbox, hbox2]))
          all_goals (try rfl)
        · by_cases hz : ((lB s.rows).getD i default).size = s.size
          · have hok2 : ((lB s.rows).take (i + 1)).all (okRow s.size) = true := by
              rw [hrt, ha]
              unfold okRow
              rw [hk, decide_eq_true hz]
              rfl
            (try (simp (disch := first | omega | (simp <;> omega) | fail) only [push_cast, ↓reduceIte, Nat.reduceEqDiff, Nat.reduceAdd, Nat.reduceMul, Nat.reduceSub, Nat.reduceLT, Int.reduceToNat, hbox, hbox2, hz, hok2]))
            all_goals (try exact hbox2 _)
            all_goals (try exact ⟨hbox2 _, hok2⟩)
          · rw [rows_no (f := okRow s.size) hi2 (by unfold okRow; rw [hk, decide_eq_false hz]; rfl)]
            (try (simp (disch := first | omega | (simp <;> omega) | fail) only [push_cast, ↓reduceIte, Nat.reduceEqDiff, Nat.reduceAdd, Nat.reduceMul, Nat.reduceSub, Nat.reduceLT, Int.reduceToNat, hbox, hbox2, hz]))
            all_goals (try rfl)
      · (try (simp only [decide_eq_true_eq, decide_eq_false_iff_not, Bool.not_eq_true', Bool.not_eq_false', Bool.and_eq_true, Bool.or_eq_true, Int.not_lt, Int.not_le] at hc)); (try (simp (disch := first | omega | (simp <;> omega) | fail) only [push_cast, ↓reduceIte, Nat.reduceEqDiff, Nat.reduceAdd, Nat.reduceMul, Nat.reduceSub, Nat.reduceLT, Int.reduceToNat]))
        have he : (lB s.rows).take i = lB s.rows := List.take_of_length_le (by omega)
        rw [he] at ha
        rw [ha]
        all_goals (try simp)
    · (try (simp (disch := first | omega | (simp <;> omega) | fail) only [push_cast, ↓reduceIte, Nat.reduceEqDiff, Nat.reduceAdd, Nat.reduceMul, Nat.reduceSub, Nat.reduceLT, Int.reduceToNat, h2, h3]))
      all_goals (try simp [h3])
  · (try (simp (disch := first | omega | (simp <;> omega) | fail) only [push_cast, ↓reduceIte, Nat.reduceEqDiff, Nat.reduceAdd, Nat.reduceMul, Nat.reduceSub, Nat.reduceLT, Int.reduceToNat, h2]))
    all_goals (try simp [h2])

theorem c_IndexFunc_Bits (a : Option (List Bt)) (f b0 : Nat) (cs : List AV) (g : Bt → Bool) (hg : ∀ x, Fn Tryz.prog f [eB x, .rad cs 0] (· = .bool (g x))) (hfree : ∀ c ∈ cs, Free c) (h : H) (hb : h.cells b0 = some cs) :
    Call Tryz.prog 183 [eBS a, .fn f [.adr b0 0]] h Nowhere (fun x h' => (∃ n : Int, x = .int .i64 n ∧ decide (0 ≤ n) = !((lB a).all fun m => !g m)) ∧ h' = h) := by
  refine Call.gc (Call.mono (?_ : Call Tryz.prog 183 [eBS a, .fn f [.adr b0 0]] h Nowhere (fun x _ => ∃ n : Int, x = .int .i64 n ∧ decide (0 ≤ n) = !((lB a).all fun m => !g m))) (fun x _ ⟨n, hn, hx⟩ => ⟨⟨n, hn, hx⟩, by rw [hn]; exact free_int⟩) (fun _ _ h => h))
  refine enter (by kernel_rfl) e183 (by kernel_rfl) rfl fun hok => ?_
  simp only [r183, initEnv_2]
  have hlen := ok_eBS (okV_0 hok)
  (try (simp (disch := first | omega | (simp <;> omega) | fail) only [push_cast, ↓reduceIte, Nat.reduceEqDiff, Nat.reduceAdd, Nat.reduceMul, Nat.reduceSub, Nat.reduceLT, Int.reduceToNat]))
  refine T_for (lB a).length (fun i e h' => Pins e [(0, eBS a), (1, .fn f [.adr b0 0]), (7, .int .i64 (lB a).length), (8, .int .i64 i)] ∧ h' = h ∧ ((lB a).take i).all (fun m => !g m) = true) ?_ ?_
  · (try (simp (disch := first | omega | (simp <;> omega) | fail) only [push_cast, ↓reduceIte, Nat.reduceEqDiff, Nat.reduceAdd, Nat.reduceMul, Nat.reduceSub, Nat.reduceLT, Int.reduceToNat]))
    all_goals (try simp)
  rintro i e h' hi ⟨hp, rfl, ha⟩
  refine T_pins hp fun e => ?_
  (try (simp (disch := first | omega | (simp <;> omega) | fail) only [push_cast, ↓reduceIte, Nat.reduceEqDiff, Nat.reduceAdd, Nat.reduceMul, Nat.reduceSub, Nat.reduceLT, Int.reduceToNat]))
  first | refine goC_split (fun hc => ?_) (fun hc => ?_) | refine cnd_split (fun hc => ?_) (fun hc => ?_)
  · (try (simp only [decide_eq_true_eq, decide_eq_false_iff_not, Bool.not_eq_true', Bool.not_eq_false', Bool.and_eq_true, Bool.or_eq_true, Int.not_lt, Int.not_le] at hc)); (try (simp (disch := first | omega | (simp <;> omega) | fail) only [push_cast, ↓reduceIte, Nat.reduceEqDiff, Nat.reduceAdd, Nat.reduceMul, Nat.reduceSub, Nat.reduceLT, Int.reduceToNat]))
    have hi2 : i < (lB a).length := by omega
    (try (simp (disch := first | omega | (simp <;> omega) | fail) only [push_cast, ↓reduceIte, Nat.reduceEqDiff, Nat.reduceAdd, Nat.reduceMul, Nat.reduceSub, Nat.reduceLT, Int.reduceToNat]))
    refine (hg _).lendL (.free free_eB (.adr hb hfree .nil)) own_bool ?_
    have hn := rows_take (f := fun m => !g m) hi2
    cases hk : g ((lB a).getD i default)
    · (try (simp (disch := first | omega | (simp <;> omega) | fail) only [push_cast, ↓reduceIte, Nat.reduceEqDiff, Nat.reduceAdd, Nat.reduceMul, Nat.reduceSub, Nat.reduceLT, Int.reduceToNat]))
      rw [hn, ha, hk]
      all_goals (try rfl)
    · (try (simp (disch := first | omega | (simp <;> omega) | fail) only [push_cast, ↓reduceIte, Nat.reduceEqDiff, Nat.reduceAdd, Nat.reduceMul, Nat.reduceSub, Nat.reduceLT, Int.reduceToNat]))
      refine ⟨_, rfl, ?_⟩
      rw [rows_no (f := fun m => !g m) hi2 (by rw [hk]; rfl)]
      simp
  · (try (simp only [decide_eq_true_eq, decide_eq_false_iff_not, Bool.not_eq_true', Bool.not_eq_false', Bool.and_eq_true, Bool.or_eq_true, Int.not_lt, Int.not_le] at hc)); (try (simp (disch := first | omega | (simp <;> omega) | fail) only [push_cast, ↓reduceIte, Nat.reduceEqDiff, Nat.reduceAdd, Nat.reduceMul, Nat.reduceSub, Nat.reduceLT, Int.reduceToNat]))
    have : (lB a).take i = lB a := List.take_of_length_le (by omega)
    rw [this] at ha
    refine ⟨_, rfl, ?_⟩
    rw [ha]
    rfl

theorem c_ContainsFunc_Bits (a : Option (List Bt)) (f b0 : Nat) (cs : List AV) (g : Bt → Bool) (hg : ∀ x, Fn Tryz.prog f [eB x, .rad cs 0] (· = .bool (g x))) (hfree : ∀ c ∈ cs, Free c) (h : H) (hb : h.cells b0 = some cs) :
    Call Tryz.prog 155 [eBS a, .fn f [.adr b0 0]] h Nowhere (fun x h' => x = .bool (!((lB a).all fun m => !g m)) ∧ h' = h) := by
  refine Call.gc (Call.mono (?_ : Call Tryz.prog 155 [eBS a, .fn f [.adr b0 0]] h Nowhere (fun x _ => x = .bool (!((lB a).all fun m => !g m)))) (fun x _ hx => ⟨hx, by rw [hx]; exact free_bool⟩) (fun _ _ h => h))
  refine enter (by kernel_rfl) e155 (by kernel_rfl) rfl fun hok => ?_
  simp only [r155, initEnv_2]
  (try (simp (disch := first | omega | (simp <;> omega) | fail) only [push_cast, ↓reduceIte, Nat.reduceEqDiff, Nat.reduceAdd, Nat.reduceMul, Nat.reduceSub, Nat.reduceLT, Int.reduceToNat]))
  refine (c_IndexFunc_Bits a f b0 cs g hg hfree h hb).mono (fun x h' hx => ?_) (fun _ _ h => h.elim)
  obtain ⟨⟨n, rfl, hn⟩, rfl⟩ := hx
  rw [← hn]
  (try (simp (disch := first | omega | (simp <;> omega) | fail) only [push_cast, ↓reduceIte, Nat.reduceEqDiff, Nat.reduceAdd, Nat.reduceMul, Nat.reduceSub, Nat.reduceLT, Int.reduceToNat]))
  (first | refine goC_split (fun hc => ?_) (fun hc => ?_) | refine cnd_split (fun hc => ?_) (fun hc => ?_)) <;> ((try (simp (disch := first | omega | (simp <;> omega) | fail) only [push_cast, ↓reduceIte, Nat.reduceEqDiff, Nat.reduceAdd, Nat.reduceMul, Nat.reduceSub, Nat.reduceLT, Int.reduceToNat]))) <;> (try rw [hc])

theorem c_impl_IsBits (b : Bt) : Fn Tryz.prog 118 [eB b] (· = .bool (okBt b)) := by
  refine Fn.of free_bool fun h => ?_
  refine enter (by kernel_rfl) e118 (by kernel_rfl) rfl fun hok => ?_
  simp only [r118, initEnv_1]
  have hlen := ok_eI ((okV_0 hok).agg (eI b.words) (by simp [cB]))
  (try (simp (disch := first | omega | (simp <;> omega) | fail) only [push_cast, ↓reduceIte, Nat.reduceEqDiff, Nat.reduceAdd, Nat.reduceMul, Nat.reduceSub, Nat.reduceLT, Int.reduceToNat]))
  unfold okBt
  refine (c_impl_in _ _ _).call ?_
  cases h1 : (decide (0 ≤ b.size) && decide (b.size ≤ 4096))
  · (try (simp (disch := first | omega | (simp <;> omega) | fail) only [push_cast, ↓reduceIte, Nat.reduceEqDiff, Nat.reduceAdd, Nat.reduceMul, Nat.reduceSub, Nat.reduceLT, Int.reduceToNat]))
  have h3 : 0 ≤ b.size ∧ b.size ≤ 4096 := by simpa using h1
  (try (simp (disch := first | omega | (simp <;> omega) | fail) only [push_cast, ↓reduceIte, Nat.reduceEqDiff, Nat.reduceAdd, Nat.reduceMul, Nat.reduceSub, Nat.reduceLT, Int.reduceToNat]))
  refine (c_impl_words b.size (by omega) (by omega)).call ?_
  (try (simp (disch := first | omega | (simp <;> omega) | fail) only [push_cast, ↓reduceIte, Nat.reduceEqDiff, Nat.reduceAdd, Nat.reduceMul, Nat.reduceSub, Nat.reduceLT, Int.reduceToNat]))
  first | refine goC_split (fun hc => ?_) (fun hc => ?_) | refine cnd_split (fun hc => ?_) (fun hc => ?_)
  · (try (simp only [decide_eq_true_eq, decide_eq_false_iff_not, Bool.not_eq_true', Bool.not_eq_false', Bool.and_eq_true, Bool.or_eq_true, Int.not_lt, Int.not_le] at hc)); (try (simp (disch := first | omega | (simp <;> omega) | fail) only [push_cast, ↓reduceIte, Nat.reduceEqDiff, Nat.reduceAdd, Nat.reduceMul, Nat.reduceSub, Nat.reduceLT, Int.reduceToNat]))
    all_goals (try simp [hc])
  (try (simp only [decide_eq_true_eq, decide_eq_false_iff_not, Bool.not_eq_true', Bool.not_eq_false', Bool.and_eq_true, Bool.or_eq_true, Int.not_lt, Int.not_le] at hc)); (try (simp (disch := first | omega | (simp <;> omega) | fail) only [push_cast, ↓reduceIte, Nat.reduceEqDiff, Nat.reduceAdd, Nat.reduceMul, Nat.reduceSub, Nat.reduceLT, Int.reduceToNat]))
  have hc2 : ((lI b.words).length : Int) = (b.size + 15) / 16 := by omega
  refine T_for (lI b.words).length (fun i e h' => Pins e [(1, .adr h.length 0), (20, eI b.words), (21, .int .i64 (lI b.words).length), (22, .int .i64 i)] ∧ (h.length < h'.length ∧ H.cells h' h.length = some (cB b)) ∧ okWords ((lI b.words).take i) = true) ?_ ?_
  · (try (simp (disch := first | omega | (simp <;> omega) | fail) only [push_cast, ↓reduceIte, Nat.reduceEqDiff, Nat.reduceAdd, Nat.reduceMul, Nat.reduceSub, Nat.reduceLT, Int.reduceToNat]))
    all_goals (try simp [okWords, cB])
  rintro i e h' hi ⟨hp, ⟨hlt, hbox⟩, ha⟩
  refine T_pins hp fun e => ?_
  (try (simp (disch := first | omega | (simp <;> omega) | fail) only [push_cast, ↓reduceIte, Nat.reduceEqDiff, Nat.reduceAdd, Nat.reduceMul, Nat.reduceSub, Nat.reduceLT, Int.reduceToNat, hbox]))
  first | refine goC_split (fun hd => ?_) (fun hd => ?_) | refine cnd_split (fun hd => ?_) (fun hd => ?_)
  · (try (simp only [decide_eq_true_eq, decide_eq_false_iff_not, Bool.not_eq_true', Bool.not_eq_false', Bool.and_eq_true, Bool.or_eq_true, Int.not_lt, Int.not_le] at hd)); (try (simp (disch := first | omega | (simp <;> omega) | fail) only [push_cast, ↓reduceIte, Nat.reduceEqDiff, Nat.reduceAdd, Nat.reduceMul, Nat.reduceSub, Nat.reduceLT, Int.reduceToNat]))
    have hi2 : i < (lI b.words).length := by omega
    (try (simp (disch := first | omega | (simp <;> omega) | fail) only [push_cast, ↓reduceIte, Nat.reduceEqDiff, Nat.reduceAdd, Nat.reduceMul, Nat.reduceSub, Nat.reduceLT, Int.reduceToNat, hbox]))
    refine (c_impl_in _ _ _).call ?_
    have hn : okWords ((lI b.words).take (i + 1)) = (decide (0 ≤ (lI b.words).getD i 0) && decide ((lI b.words).getD i 0 ≤ 65535)) := by
      unfold okWords at ha ⊢
      rw [List.take_add_one, List.all_append, ha]
      simp [hi2]
    cases hk : (decide (0 ≤ (lI b.words).getD i 0) && decide ((lI b.words).getD i 0 ≤ 65535))
    · have hno : okWords (lI b.words) = false := by
        unfold okWords
        rw [List.all_eq_false]
        exact ⟨(lI b.words).getD i 0, by simp [hi2], by rw [hk]; simp⟩
      (try (simp (disch := first | omega | (simp <;> omega) | fail) only [push_cast, ↓reduceIte, Nat.reduceEqDiff, Nat.reduceAdd, Nat.reduceMul, Nat.reduceSub, Nat.reduceLT, Int.reduceToNat, hbox]))
      rw [hno]
      all_goals (try simp)
    · (try (simp (disch := first | omega | (simp <;> omega) | fail) only [push_cast, ↓reduceIte, Nat.reduceEqDiff, Nat.reduceAdd, Nat.reduceMul, Nat.reduceSub, Nat.reduceLT, Int.reduceToNat, hbox]))
      rw [hn, hk]
      all_goals (try simp)
      all_goals (try exact hbox)
  · (try (simp only [decide_eq_true_eq, decide_eq_false_iff_not, Bool.not_eq_true', Bool.not_eq_false', Bool.and_eq_true, Bool.or_eq_true, Int.not_lt, Int.not_le] at hd)); (try (simp (disch := first | omega | (simp <;> omega) | fail) only [push_cast, ↓reduceIte, Nat.reduceEqDiff, Nat.reduceAdd, Nat.reduceMul, Nat.reduceSub, Nat.reduceLT, Int.reduceToNat]))
    have he : (lI b.words).take i = lI b.words := List.take_of_length_le (by omega)
    rw [he] at ha
    have hdec : decide (((lI b.words).length : Int) = (b.size + 15) / 16) = true := by simp [hc2]
    rw [ha]
    try rw [hdec]
    unfold lastOk
    by_cases hz : b.size % 16 = 0
    · (try (simp (disch := first | omega | (simp <;> omega) | fail) only [push_cast, ↓reduceIte, Nat.reduceEqDiff, Nat.reduceAdd, Nat.reduceMul, Nat.reduceSub, Nat.reduceLT, Int.reduceToNat, hbox, hz]))
      all_goals (try simp)
    · have hln : 1 ≤ (lI b.words).length := by omega
      have hm : 0 ≤ b.size % 16 ∧ b.size % 16 ≤ 15 := by omega
      (try (simp (disch := first | omega | (simp <;> omega) | fail) only [push_cast, ↓reduceIte, Nat.reduceEqDiff, Nat.reduceAdd, Nat.reduceMul, Nat.reduceSub, Nat.reduceLT, Int.reduceToNat, hbox, hz]))
      (first | refine goC_split (fun hc => ?_) (fun hc => ?_) | refine cnd_split (fun hc => ?_) (fun hc => ?_)) <;> ((try (simp (disch := first | omega | (simp <;> omega) | fail) only [push_cast, ↓reduceIte, Nat.reduceEqDiff, Nat.reduceAdd, Nat.reduceMul, Nat.reduceSub, Nat.reduceLT, Int.reduceToNat]))) <;> (try rw [hc])

theorem c_impl_IsSystem_1 (s : Sy) (b : Bt) : Fn Tryz.prog 156 [eB b, .rad [.int .i64 s.size, eBS s.rows, eO s.right] 0] (· = .bool (!(okRow s.size b))) := by
  refine Fn.of free_bool fun h => ?_
  refine enter (by kernel_rfl) e156 (by kernel_rfl) rfl fun hok => ?_
  simp only [r156, initEnv_2]
  (try (simp (disch := first | omega | (simp <;> omega) | fail) only [push_cast, ↓reduceIte, Nat.reduceEqDiff, Nat.reduceAdd, Nat.reduceMul, Nat.reduceSub, Nat.reduceLT, Int.reduceToNat]))
  refine (c_impl_IsBits b).call ?_
  unfold okRow
  cases hk : okBt b
  · (try (simp (disch := first | omega | (simp <;> omega) | fail) only [push_cast, ↓reduceIte, Nat.reduceEqDiff, Nat.reduceAdd, Nat.reduceMul, Nat.reduceSub, Nat.reduceLT, Int.reduceToNat]))
    all_goals (try rfl)
  · by_cases hz : b.size = s.size
    · (try (simp (disch := first | omega | (simp <;> omega) | fail) only [push_cast, ↓reduceIte, Nat.reduceEqDiff, Nat.reduceAdd, Nat.reduceMul, Nat.reduceSub, Nat.reduceLT, Int.reduceToNat, hz]))
      all_goals (try simp)
    · (try (simp (disch := first | omega | (simp <;> omega) | fail) only [push_cast, ↓reduceIte, Nat.reduceEqDiff, Nat.reduceAdd, Nat.reduceMul, Nat.reduceSub, Nat.reduceLT, Int.reduceToNat, hz]))
      all_goals (try simp [hz])

theorem c_impl_IsSystem (s : Sy) : Fn Tryz.prog 102 [eSy s] (· = .bool (okSy s)) := by
  refine Fn.of free_bool fun h => ?_
  refine enter (by kernel_rfl) e102 (by kernel_rfl) rfl fun hok => ?_
  simp only [r102, initEnv_1]
  (try (simp (disch := first | omega | (simp <;> omega) | fail) only [push_cast, ↓reduceIte, Nat.reduceEqDiff, Nat.reduceAdd, Nat.reduceMul, Nat.reduceSub, Nat.reduceLT, Int.reduceToNat]))
  refine (c_ContainsFunc_Bits s.rows _ h.length [.int .i64 s.size, eBS s.rows, eO s.right] (fun b => !(okRow s.size b)) (fun x => c_impl_IsSystem_1 s x) (free_cons_ free_int (free_cons_ free_eBS (free_cons_ free_eO free_nil_))) _ (by rw [cells_h0]; rfl)).mono (fun x h' hx => ?_) (fun _ _ h => h.elim)
  obtain ⟨rfl, rfl⟩ := hx
  have hm : ((lB s.rows).all fun m => !!(okRow s.size m)) = (lB s.rows).all (okRow s.size) := by
    simp only [Bool.not_not]
  rw [hm]
  unfold okSy
  cases h0 : (lB s.rows).all (okRow s.size)
  · (try (simp (disch := first | omega | (simp <;> omega) | fail) only [push_cast, ↓reduceIte, Nat.reduceEqDiff, Nat.reduceAdd, Nat.reduceMul, Nat.reduceSub, Nat.reduceLT, Int.reduceToNat]))
    all_goals (try simp)
  (try (simp (disch := first | omega | (simp <;> omega) | fail) only [push_cast, ↓reduceIte, Nat.reduceEqDiff, Nat.reduceAdd, Nat.reduceMul, Nat.reduceSub, Nat.reduceLT, Int.reduceToNat]))
  refine (c_impl_in _ _ _).call ?_
  cases h1 : (decide (1 ≤ s.size) && decide (s.size ≤ 72))
  · (try (simp (disch := first | omega | (simp <;> omega) | fail) only [push_cast, ↓reduceIte, Nat.reduceEqDiff, Nat.reduceAdd, Nat.reduceMul, Nat.reduceSub, Nat.reduceLT, Int.reduceToNat]))
  by_cases h2 : ((lB s.rows).length : Int) ≤ 40
  · by_cases h3 : ((lO s.right).length : Int) = (lB s.rows).length
    · (try (simp (disch := first | omega | (simp <;> omega) | fail) only [push_cast, ↓reduceIte, Nat.reduceEqDiff, Nat.reduceAdd, Nat.reduceMul, Nat.reduceSub, Nat.reduceLT, Int.reduceToNat, h2, h3]))
      all_goals (try simp)
    · (try (simp (disch := first | omega | (simp <;> omega) | fail) only [push_cast, ↓reduceIte, Nat.reduceEqDiff, Nat.reduceAdd, Nat.reduceMul, Nat.reduceSub, Nat.reduceLT, Int.reduceToNat, h2, h3]))
      all_goals (try simp [h3])
  · (try (simp (disch := first | omega | (simp <;> omega) | fail) only [push_cast, ↓reduceIte, Nat.reduceEqDiff, Nat.reduceAdd, Nat.reduceMul, Nat.reduceSub, Nat.reduceLT, Int.reduceToNat, h2]))
    all_goals (try simp [h2])

end Go.Proofs.YtjfgmimgmapeeaaGreat.M
