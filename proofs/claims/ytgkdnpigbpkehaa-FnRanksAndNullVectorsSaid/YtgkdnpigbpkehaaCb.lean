/-
  What the functions return.
-/
import Derived.Test.YtgkdnpigbpkehaaFb
import Derived.Test.YtgkdnpigbpkehaaShelf
import Derived.Test.YtgkdnpigbpkehaaCa
namespace Go.Proofs.Ytgkdnpigbpkehaa.M
open Go Go.RowKit
set_option linter.unusedVariables false
set_option linter.unusedSimpArgs false
set_option maxRecDepth 4000

theorem at_word {B m i : Nat} {ws : List Int} (hw : ws = wordsN B m) (hi : i < 16 * m) : decide (bitsI .and .i64 (Int.fdiv (ws.getD ((i : Int) / 16).toNat 0) (2 ^ (min ((i : Int) % 16).toNat IntKind.i64.bits))) 1 = 1) = B.testBit i := by
  have e1 : ((i : Int) / 16).toNat = i / 16 := by omega
  have e2 : ((i : Int) % 16).toNat = i % 16 := by omega
  rw [hw, e1, e2, wordsN_get (by omega), at_bit wordN_lt (by omega), wordN_bit (by omega)]
  congr 1
  omega

theorem c_spec_biAt (b : Bt) (B m i : Nat) (hw : lI b.words = wordsN B m) (hi : i < 16 * m) (hm : m ≤ 1000000) : Fn Try.prog 113 [eB b, .int .i64 i] (· = .bool (B.testBit i)) := by
  refine Fn.of free_bool fun h => ?_
  refine enter (by kernel_rfl) e113 (by kernel_rfl) rfl fun hok => ?_
  simp only [r113, initEnv_2]
  have hln : (lI b.words).length = m := by rw [hw, wordsN_len]
  have hat := at_word hw hi
  (try (simp (disch := first | omega | (simp <;> omega) | fail) only [push_cast, ↓reduceIte, Nat.reduceEqDiff, Nat.reduceAdd, Nat.reduceMul, Nat.reduceSub, Nat.reduceLT, Int.reduceToNat]))
  rw [← hat]
  (first | refine goC_split (fun hc => ?_) (fun hc => ?_) | refine cnd_split (fun hc => ?_) (fun hc => ?_)) <;> ((try (simp (disch := first | omega | (simp <;> omega) | fail) only [push_cast, ↓reduceIte, Nat.reduceEqDiff, Nat.reduceAdd, Nat.reduceMul, Nat.reduceSub, Nat.reduceLT, Int.reduceToNat]))) <;> (try rw [hc])

/-- Bits of the call's own, as they are seen. -/
theorem vw_B {h : H} {n0 b len : Nat} {n : Int} {ws : List Int} (hb : n0 ≤ b) (hc : h.cells b = some (ws.map (.int .i64))) (hl : ws.length = len) : Vw h n0 (.agg [.int .i64 n, .sl b 0 1 len len]) (eB ⟨n, some ws⟩) := by
  subst hl
  refine .agg rfl (fun i y t hy ht => ?_)
  rcases i with _ | _ | i
  · simp [cB] at hy ht
    subst hy ht
    exact .free free_int
  · simp [cB, eI] at hy ht
    subst hy ht
    exact vw_all (cs := ws.map (.int .i64)) hb hc (by simp) (one_map fun _ => rfl) (free_map_ fun _ => free_int)
  · simp at hy
/-- Bits of the call's own, as a tree. -/
theorem ow_B {h : H} {b len : Nat} {n : Int} {ws : List Int} {G : Nat → Prop} (hb : G b) (hc : h.cells b = some (ws.map (.int .i64))) (hl : ws.length = len) : Ow h [.agg [.int .i64 n, .sl b 0 1 len len]] [eB ⟨n, some ws⟩] G := by
  subst hl
  refine Ow.aggOf (ts := cB ⟨n, some ws⟩) (.atom rfl ?_)
  exact ow_map (f := AV.int .i64) (fun _ => rfl) hc rfl hb
def BnI (h h' : H) (n : Int) (m : Nat) (x : AV) : Prop := ∃ b, x = .agg [.int .i64 n, .sl b 0 1 m m] ∧ h.length ≤ b ∧ (∃ p, h' = h ++ p) ∧ h'.cells b = some ((wordsN 0 m).map (.int .i64))
theorem rep_words {m : Nat} : List.replicate m (AV.int .i64 0) = (wordsN 0 m).map (.int .i64) := by
  rw [wordsN_zero]
  simp
def leadI (n B : Nat) : Int := if lead n B < n then (lead n B : Int) else -1
theorem noBit_all {B n : Nat} (h : noBit B n = true) {j : Nat} (hj : j < n) : B.testBit j = false := by
  unfold noBit at h
  have := List.all_eq_true.1 h j (List.mem_range.2 hj)
  simpa using this

theorem c_spec_biNext (w : Option (List Int)) (n m B : Nat) (hw : lI w = wordsN B m) (hm : n ≤ 16 * m) (hm2 : m ≤ 100000) : Fn Try.prog 102 [eB ⟨n, w⟩, .int .i64 0, .bool true] (fun x => ∃ k : Int, x = .int .i64 k ∧ decide (k < 0) = noBit B n) := by
  intro h
  refine Call.gc (Call.mono (?_ : Call Try.prog 102 [eB ⟨n, w⟩, .int .i64 0, .bool true] h Nowhere (fun x _ => ∃ k : Int, x = .int .i64 k ∧ decide (k < 0) = noBit B n)) (fun x _ ⟨k, hk, hx⟩ => ⟨⟨k, hk, hx⟩, by rw [hk]; exact free_int⟩) (fun _ _ h => h))
  refine enter (by kernel_rfl) e102 (by kernel_rfl) rfl fun hok => ?_
  simp only [r102, initEnv_3]
  (try (simp (disch := first | omega | (simp <;> omega) | fail) only [push_cast, ↓reduceIte, Nat.reduceEqDiff, Nat.reduceAdd, Nat.reduceMul, Nat.reduceSub, Nat.reduceLT, Int.reduceToNat]))
  refine T_for n (fun i e h' => Pins e [(2, .bool true), (3, .adr h.length 0), (7, .int .i64 i)] ∧ (h.length < h'.length ∧ H.cells h' h.length = some [.int .i64 n, eI w]) ∧ noBit B i = true) ?_ ?_
  · (try (simp (disch := first | omega | (simp <;> omega) | fail) only [push_cast, ↓reduceIte, Nat.reduceEqDiff, Nat.reduceAdd, Nat.reduceMul, Nat.reduceSub, Nat.reduceLT, Int.reduceToNat]))
    all_goals (try rfl)
    all_goals (try exact ⟨by rw [cells_h0]; rfl, rfl⟩)
  rintro i e h' hi ⟨hp, ⟨hlt, hbox⟩, ha⟩
  refine T_pins hp fun e => ?_
  (try (simp (disch := first | omega | (simp <;> omega) | fail) only [push_cast, ↓reduceIte, Nat.reduceEqDiff, Nat.reduceAdd, Nat.reduceMul, Nat.reduceSub, Nat.reduceLT, Int.reduceToNat, hbox]))
  first | refine goC_split (fun hc => ?_) (fun hc => ?_) | refine cnd_split (fun hc => ?_) (fun hc => ?_)
  · (try (simp only [decide_eq_true_eq, decide_eq_false_iff_not, Bool.not_eq_true', Bool.not_eq_false', Bool.and_eq_true, Bool.or_eq_true, Int.not_lt, Int.not_le] at hc)); (try (simp (disch := first | omega | (simp <;> omega) | fail) only [push_cast, ↓reduceIte, Nat.reduceEqDiff, Nat.reduceAdd, Nat.reduceMul, Nat.reduceSub, Nat.reduceLT, Int.reduceToNat]))
    have hin : i < n := by omega
    (try (simp (disch := first | omega | (simp <;> omega) | fail) only [push_cast, ↓reduceIte, Nat.reduceEqDiff, Nat.reduceAdd, Nat.reduceMul, Nat.reduceSub, Nat.reduceLT, Int.reduceToNat, hbox]))
    refine (c_spec_biAt ⟨n, w⟩ B m i hw (by omega) (by omega)).call ?_
    have hns := noBit_succ (B := B) (n := i)
    cases hb : B.testBit i
    · have hno : noBit B (i + 1) = true := by rw [hns, ha, hb]; rfl
      (try (simp (disch := first | omega | (simp <;> omega) | fail) only [push_cast, ↓reduceIte, Nat.reduceEqDiff, Nat.reduceAdd, Nat.reduceMul, Nat.reduceSub, Nat.reduceLT, Int.reduceToNat, hbox, hno]))
      all_goals (try exact hbox)
      all_goals (try exact ⟨hbox, hno⟩)
    · have hno := noBit_no hin hb
      (try (simp (disch := first | omega | (simp <;> omega) | fail) only [push_cast, ↓reduceIte, Nat.reduceEqDiff, Nat.reduceAdd, Nat.reduceMul, Nat.reduceSub, Nat.reduceLT, Int.reduceToNat, hbox]))
      refine ⟨_, rfl, ?_⟩
      rw [hno]
      simp
      try omega
  · (try (simp only [decide_eq_true_eq, decide_eq_false_iff_not, Bool.not_eq_true', Bool.not_eq_false', Bool.and_eq_true, Bool.or_eq_true, Int.not_lt, Int.not_le] at hc)); (try (simp (disch := first | omega | (simp <;> omega) | fail) only [push_cast, ↓reduceIte, Nat.reduceEqDiff, Nat.reduceAdd, Nat.reduceMul, Nat.reduceSub, Nat.reduceLT, Int.reduceToNat]))
    have hin : i = n := by omega
    subst hin
    refine ⟨_, rfl, ?_⟩
    rw [ha]
    rfl
theorem c_spec_biNext2 (w : Option (List Int)) (n m B : Nat) (hw : lI w = wordsN B m) (hm : n ≤ 16 * m) (hm2 : m ≤ 100000) : Fn Try.prog 102 [eB ⟨n, w⟩, .int .i64 0, .bool true] (· = .int .i64 (leadI n B)) := by
  refine Fn.of free_int fun h => ?_
  refine enter (by kernel_rfl) e102 (by kernel_rfl) rfl fun hok => ?_
  simp only [r102, initEnv_3]
  (try (simp (disch := first | omega | (simp <;> omega) | fail) only [push_cast, ↓reduceIte, Nat.reduceEqDiff, Nat.reduceAdd, Nat.reduceMul, Nat.reduceSub, Nat.reduceLT, Int.reduceToNat]))
  refine T_for n (fun i e h' => Pins e [(2, .bool true), (3, .adr h.length 0), (7, .int .i64 i)] ∧ (h.length < h'.length ∧ H.cells h' h.length = some [.int .i64 n, eI w]) ∧ noBit B i = true) ?_ ?_
  · (try (simp (disch := first | omega | (simp <;> omega) | fail) only [push_cast, ↓reduceIte, Nat.reduceEqDiff, Nat.reduceAdd, Nat.reduceMul, Nat.reduceSub, Nat.reduceLT, Int.reduceToNat]))
    all_goals (try rfl)
    all_goals (try exact ⟨by rw [cells_h0]; rfl, rfl⟩)
  rintro i e h' hi ⟨hp, ⟨hlt, hbox⟩, ha⟩
  refine T_pins hp fun e => ?_
  (try (simp (disch := first | omega | (simp <;> omega) | fail) only [push_cast, ↓reduceIte, Nat.reduceEqDiff, Nat.reduceAdd, Nat.reduceMul, Nat.reduceSub, Nat.reduceLT, Int.reduceToNat, hbox]))
  first | refine goC_split (fun hc => ?_) (fun hc => ?_) | refine cnd_split (fun hc => ?_) (fun hc => ?_)
  · (try (simp only [decide_eq_true_eq, decide_eq_false_iff_not, Bool.not_eq_true', Bool.not_eq_false', Bool.and_eq_true, Bool.or_eq_true, Int.not_lt, Int.not_le] at hc)); (try (simp (disch := first | omega | (simp <;> omega) | fail) only [push_cast, ↓reduceIte, Nat.reduceEqDiff, Nat.reduceAdd, Nat.reduceMul, Nat.reduceSub, Nat.reduceLT, Int.reduceToNat]))
    have hin : i < n := by omega
    (try (simp (disch := first | omega | (simp <;> omega) | fail) only [push_cast, ↓reduceIte, Nat.reduceEqDiff, Nat.reduceAdd, Nat.reduceMul, Nat.reduceSub, Nat.reduceLT, Int.reduceToNat, hbox]))
    refine (c_spec_biAt ⟨n, w⟩ B m i hw (by omega) (by omega)).call ?_
    have hns := noBit_succ (B := B) (n := i)
    cases hb : B.testBit i
    · have hno : noBit B (i + 1) = true := by rw [hns, ha, hb]; rfl
      (try (simp (disch := first | omega | (simp <;> omega) | fail) only [push_cast, ↓reduceIte, Nat.reduceEqDiff, Nat.reduceAdd, Nat.reduceMul, Nat.reduceSub, Nat.reduceLT, Int.reduceToNat, hbox, hno]))
      all_goals (try exact hbox)
      all_goals (try exact ⟨hbox, hno⟩)
    · have hl := lead_is (n := n) hin hb fun j hj => noBit_all ha hj
      have hli : leadI n B = i := by
        unfold leadI
        rw [hl, if_pos hin]
      (try (simp (disch := first | omega | (simp <;> omega) | fail) only [push_cast, ↓reduceIte, Nat.reduceEqDiff, Nat.reduceAdd, Nat.reduceMul, Nat.reduceSub, Nat.reduceLT, Int.reduceToNat, hbox]))
      all_goals (try rw [hli])
  · (try (simp only [decide_eq_true_eq, decide_eq_false_iff_not, Bool.not_eq_true', Bool.not_eq_false', Bool.and_eq_true, Bool.or_eq_true, Int.not_lt, Int.not_le] at hc)); (try (simp (disch := first | omega | (simp <;> omega) | fail) only [push_cast, ↓reduceIte, Nat.reduceEqDiff, Nat.reduceAdd, Nat.reduceMul, Nat.reduceSub, Nat.reduceLT, Int.reduceToNat]))
    have hin : i = n := by omega
    subst hin
    have hl := lead_of_none (n := i) fun j hj => noBit_all ha hj
    have hli : leadI i B = -1 := by
      unfold leadI
      rw [hl, if_neg (Nat.lt_irrefl _)]
    (try (simp (disch := first | omega | (simp <;> omega) | fail) only [push_cast, ↓reduceIte, Nat.reduceEqDiff, Nat.reduceAdd, Nat.reduceMul, Nat.reduceSub, Nat.reduceLT, Int.reduceToNat]))
    all_goals (try rw [hli])

theorem c_spec_reFirst (w : Option (List Int)) (n m B : Nat) (hw : lI w = wordsN B m) (hm : n ≤ 16 * m) (hm2 : m ≤ 100000) : Fn Try.prog 63 [eB ⟨n, w⟩] (fun x => ∃ k : Int, x = .int .i64 k ∧ decide (k < 0) = noBit B n) := by
  intro h
  refine Call.gc (Call.mono (?_ : Call Try.prog 63 [eB ⟨n, w⟩] h Nowhere (fun x _ => ∃ k : Int, x = .int .i64 k ∧ decide (k < 0) = noBit B n)) (fun x _ ⟨k, hk, hx⟩ => ⟨⟨k, hk, hx⟩, by rw [hk]; exact free_int⟩) (fun _ _ h => h))
  refine enter (by kernel_rfl) e63 (by kernel_rfl) rfl fun hok => ?_
  simp only [r63, initEnv_1]
  (try (simp (disch := first | omega | (simp <;> omega) | fail) only [push_cast, ↓reduceIte, Nat.reduceEqDiff, Nat.reduceAdd, Nat.reduceMul, Nat.reduceSub, Nat.reduceLT, Int.reduceToNat]))
  refine (c_spec_biNext w n m B hw hm hm2).use ?_
  rintro x ⟨k, rfl, hk⟩
  (try (simp (disch := first | omega | (simp <;> omega) | fail) only [push_cast, ↓reduceIte, Nat.reduceEqDiff, Nat.reduceAdd, Nat.reduceMul, Nat.reduceSub, Nat.reduceLT, Int.reduceToNat]))
  all_goals (try exact ⟨k, rfl, hk⟩)
theorem c_spec_reFirst2 (w : Option (List Int)) (n m B : Nat) (hw : lI w = wordsN B m) (hm : n ≤ 16 * m) (hm2 : m ≤ 100000) : Fn Try.prog 63 [eB ⟨n, w⟩] (· = .int .i64 (leadI n B)) := by
  refine Fn.of free_int fun h => ?_
  refine enter (by kernel_rfl) e63 (by kernel_rfl) rfl fun hok => ?_
  simp only [r63, initEnv_1]
  (try (simp (disch := first | omega | (simp <;> omega) | fail) only [push_cast, ↓reduceIte, Nat.reduceEqDiff, Nat.reduceAdd, Nat.reduceMul, Nat.reduceSub, Nat.reduceLT, Int.reduceToNat]))
  refine (c_spec_biNext2 w n m B hw hm hm2).call ?_
  (try (simp (disch := first | omega | (simp <;> omega) | fail) only [push_cast, ↓reduceIte, Nat.reduceEqDiff, Nat.reduceAdd, Nat.reduceMul, Nat.reduceSub, Nat.reduceLT, Int.reduceToNat]))

theorem c_spec_biNew_own (n m : Nat) (hn : n ≤ 1000000) (hm : (((n : Int) + 15) / 16) = (m : Int)) (h : H) : Call Try.prog 61 [.int .i64 n] h Nowhere (fun x h' => BnI h h' n m x) := by
  refine enter (by kernel_rfl) e61 (by kernel_rfl) rfl fun hok => ?_
  simp only [r61, initEnv_1]
  (try (simp (disch := first | omega | (simp <;> omega) | fail) only [push_cast, ↓reduceIte, Nat.reduceEqDiff, Nat.reduceAdd, Nat.reduceMul, Nat.reduceSub, Nat.reduceLT, Int.reduceToNat, hm]))
  all_goals (try exact ⟨h.length + 1, rfl, by omega, ⟨_, rfl⟩, by rw [cells_hk]; simp [cellsO, rep_words]⟩)
theorem c_spec_biNew (n m : Nat) (hn : n ≤ 1000000) (hm : (((n : Int) + 15) / 16) = (m : Int)) : Fn Try.prog 61 [.int .i64 n] (· = eB ⟨n, some (wordsN 0 m)⟩) :=
  Fn.froze_ fun h => (c_spec_biNew_own n m hn hm h).mono (fun x h' hx => by
    obtain ⟨b, rfl, hb, _, hc⟩ := hx
    exact ⟨_, vw_B hb hc wordsN_len, rfl⟩) (fun _ _ h => h)

theorem c_spec_biSet (n : Int) (b m B i : Nat) (h : H) (hc : h.cells b = some ((wordsN B m).map (.int .i64))) (hi : i < 16 * m) (hm : m ≤ 100000) :
    Call Try.prog 79 [.agg [.int .i64 n, .sl b 0 1 m m], .int .i64 i] h (fun b' => b' = b) (fun x h' => h.length ≤ h'.length ∧ (∀ b', b' < h.length → b' ≠ b → h'[b']? = h[b']?) ∧ h'.cells b = some ((wordsN (B ||| 2 ^ i) m).map (.int .i64))) := by
  refine enter (by kernel_rfl) e79 (by kernel_rfl) rfl fun hok => ?_
  simp only [r79, initEnv_2]
  have hb := cells_lt hc
  have hcb : ∀ l : H, H.cells (h ++ l) b = some ((wordsN B m).map (.int .i64)) := fun l => cells_app hc
  have e1 : ((i : Int) / 16).toNat = i / 16 := by omega
  have e2 : ((i : Int) % 16).toNat = i % 16 := by omega
  have hgd := wordsN_get (B := B) (m := m) (k := i / 16) (by omega)
  have hwl := wordN_lt (B := B) (k := i / 16)
  obtain ⟨v, hv⟩ : ∃ v : Nat, v = 2 ^ (i % 16) := ⟨_, rfl⟩
  have hvl : v < 65536 := by
    rw [hv]
    have : 2 ^ (i % 16) < 2 ^ 16 := Nat.pow_lt_pow_right (by decide) (by omega)
    simpa using this
  have hsh := shl16 (j := i % 16) (by omega)
  rw [← hv] at hsh
  obtain ⟨r, hr⟩ : ∃ r : Nat, r = wordN B (i / 16) ||| v := ⟨_, rfl⟩
  have hor := bitsI_or (x := wordN B (i / 16)) (y := v) (by omega) (by omega)
  rw [← hr] at hor
  have hset : ((wordsN B m).map (AV.int .i64)).set (i / 16) (.int .i64 (r : Int)) = (wordsN (B ||| 2 ^ i) m).map (.int .i64) := by
    rw [← wordsN_set hi, ← hv, ← hr, List.map_set]
  have hlen : ((wordsN B m).map (AV.int .i64)).length = m := by simp [wordsN_len]
  have hgi : ((wordsN B m).map (AV.int .i64))[i / 16]? = some (.int .i64 (wordN B (i / 16) : Int)) := by
    rw [get_I (by rw [wordsN_len]; omega), hgd]
  have hos : over ((wordsN B m).map (AV.int .i64)) (i / 16) [.int .i64 (r : Int)] = (wordsN (B ||| 2 ^ i) m).map (.int .i64) := by
    rw [over_set (by rw [hlen]; omega), hset]
  have hpm : (b = b) = True := by simp
  (try (simp (disch := first | omega | (simp <;> omega) | fail) only [push_cast, ↓reduceIte, Nat.reduceEqDiff, Nat.reduceAdd, Nat.reduceMul, Nat.reduceSub, Nat.reduceLT, Int.reduceToNat, hcb, e1, e2, hgi, hsh, hor, hlen, hos, hpm, reads, List.not_mem_nil, not_false_eq_true]))
  all_goals (try exact ⟨by simp [wr], fun b' h1 h2 => by unfold wr; rw [List.getElem?_set_ne (Ne.symm h2), List.getElem?_append_left h1], by rw [cells_wr2 (by simp; omega)]⟩)

def XoI (h h' : H) (wa wb : Option (List Int)) (n nb : Int) (m b5 bb X : Nat) : Prop :=
  (h.length + 3 ≤ h'.length ∧ h'.cells h.length = some [.int .i64 n, eI wa] ∧ h'.cells (h.length + 1) = some [.int .i64 nb, eI wb] ∧ h'.cells (h.length + 2) = some [.int .i64 0, .nils]) ∧
  h'.cells b5 = some [.int .i64 n, .sl bb 0 1 m m] ∧ h'.cells bb = some ((wordsN X m).map (.int .i64)) ∧ h.length + 3 ≤ bb ∧ h.length + 3 ≤ b5 ∧ b5 ≠ bb
theorem cells_fr {h h2 : H} {bb c : Nat} {cs : List AV} (hfr : ∀ b', b' < h.length → b' ≠ bb → h2[b']? = h[b']?) (hc : h.cells c = some cs) (hne : c ≠ bb) : h2.cells c = some cs := by
  rw [cells_eq, hfr c (cells_lt hc) hne, ← cells_eq]
  exact hc
theorem XoI.put {h h' h2 : H} {wa wb : Option (List Int)} {n nb : Int} {m b5 bb X X' : Nat} (hx : XoI h h' wa wb n nb m b5 bb X) (hlen : h'.length ≤ h2.length) (hfr : ∀ b', b' < h'.length → b' ≠ bb → h2[b']? = h'[b']?) (hc : h2.cells bb = some ((wordsN X' m).map (.int .i64))) : XoI h h2 wa wb n nb m b5 bb X' := by
  obtain ⟨⟨x1, x2, x3, x4⟩, x5, x6, x7, x8, x9⟩ := hx
  exact ⟨⟨by omega, cells_fr hfr x2 (by omega), cells_fr hfr x3 (by omega), cells_fr hfr x4 (by omega)⟩, cells_fr hfr x5 x9, hc, x7, x8, x9⟩

theorem c_spec_biXor_o (wa wb : Option (List Int)) (nb : Int) (n m A B : Nat) (hwa : lI wa = wordsN A m) (hwb : lI wb = wordsN B m) (hm : (((n : Int) + 15) / 16) = (m : Int)) (hn : n ≤ 100000) : FnO Try.prog 99 [eB ⟨n, wa⟩, eB ⟨nb, wb⟩] (· = eB ⟨n, some (wordsN ((A ^^^ B) % 2 ^ n) m)⟩) := by
  intro h
  refine enter (by kernel_rfl) e99 (by kernel_rfl) rfl fun hok => ?_
  simp only [r99, initEnv_2]
  (try (simp (disch := first | omega | (simp <;> omega) | fail) only [push_cast, ↓reduceIte, Nat.reduceEqDiff, Nat.reduceAdd, Nat.reduceMul, Nat.reduceSub, Nat.reduceLT, Int.reduceToNat]))
  refine (c_spec_biNew_own n m (by omega) hm _).mono (fun x h1 hx => ?_) (fun _ _ h => h.elim)
  obtain ⟨bb, rfl, hbb, ⟨p, hp⟩, hcb⟩ := hx
  have hbb2 : h.length + 3 ≤ bb := by simp at hbb; omega
  have hbl := cells_lt hcb
  have f0 : h.length + 3 ≤ h1.length := by rw [hp]; simp only [List.length_append, List.length_cons, List.length_nil]; omega
  have f1 : h1.cells h.length = some [.int .i64 n, eI wa] := by
    rw [hp]
    refine cells_app ?_
    rw [cells_h0]
    rfl
  have f2 : h1.cells (h.length + 1) = some [.int .i64 nb, eI wb] := by
    rw [hp]
    refine cells_app ?_
    rw [cells_hk]
    rfl
  have f3 : h1.cells (h.length + 2) = some [.int .i64 0, .nils] := by
    rw [hp]
    refine cells_app ?_
    rw [cells_hk]
    rfl
  have hx0 : XoI h (h1 ++ [some (.cells [.int .i64 n, .sl bb 0 1 m m])]) wa wb n nb m h1.length bb ((A ^^^ B) % 2 ^ 0) := by
    refine ⟨⟨by simp; omega, cells_app f1, cells_app f2, cells_app f3⟩, ?_, ?_, hbb2, f0, by omega⟩
    · rw [cells_h0]
      rfl
    · rw [Nat.pow_zero, Nat.mod_one]
      exact cells_app hcb
  clear hp
  (try (simp (disch := first | omega | (simp <;> omega) | fail) only [push_cast, ↓reduceIte, Nat.reduceEqDiff, Nat.reduceAdd, Nat.reduceMul, Nat.reduceSub, Nat.reduceLT, Int.reduceToNat]))
  refine T_for n (fun i e h' => Pins e [(2, .adr h.length 0), (3, .adr (h.length + 1) 0), (4, .adr (h.length + 2) 0), (5, .adr h1.length 0), (6, .int .i64 i)] ∧ XoI h h' wa wb n nb m h1.length bb ((A ^^^ B) % 2 ^ i)) ?_ ?_
  · (try (simp (disch := first | omega | (simp <;> omega) | fail) only [push_cast, ↓reduceIte, Nat.reduceEqDiff, Nat.reduceAdd, Nat.reduceMul, Nat.reduceSub, Nat.reduceLT, Int.reduceToNat]))
    all_goals (try exact hx0)
  rintro i e h' hi ⟨hp, hx⟩
  refine T_pins hp fun e => ?_
  have x2 := hx.1.2.1
  have x3 := hx.1.2.2.1
  have x4 := hx.1.2.2.2
  have x5 := hx.2.1
  (try (simp (disch := first | omega | (simp <;> omega) | fail) only [push_cast, ↓reduceIte, Nat.reduceEqDiff, Nat.reduceAdd, Nat.reduceMul, Nat.reduceSub, Nat.reduceLT, Int.reduceToNat, x2]))
  first | refine goC_split (fun hc => ?_) (fun hc => ?_) | refine cnd_split (fun hc => ?_) (fun hc => ?_)
  · (try (simp only [decide_eq_true_eq, decide_eq_false_iff_not, Bool.not_eq_true', Bool.not_eq_false', Bool.and_eq_true, Bool.or_eq_true, Int.not_lt, Int.not_le] at hc)); (try (simp (disch := first | omega | (simp <;> omega) | fail) only [push_cast, ↓reduceIte, Nat.reduceEqDiff, Nat.reduceAdd, Nat.reduceMul, Nat.reduceSub, Nat.reduceLT, Int.reduceToNat]))
    have hin : i < n := by omega
    (try (simp (disch := first | omega | (simp <;> omega) | fail) only [push_cast, ↓reduceIte, Nat.reduceEqDiff, Nat.reduceAdd, Nat.reduceMul, Nat.reduceSub, Nat.reduceLT, Int.reduceToNat, x2, x3]))
    refine (c_spec_biAt ⟨n, wa⟩ A m i hwa (by omega) (by omega)).call ?_
    (try (simp (disch := first | omega | (simp <;> omega) | fail) only [push_cast, ↓reduceIte, Nat.reduceEqDiff, Nat.reduceAdd, Nat.reduceMul, Nat.reduceSub, Nat.reduceLT, Int.reduceToNat, x2, x3]))
    refine (c_spec_biAt ⟨nb, wb⟩ B m i hwb (by omega) (by omega)).call ?_
    have hxb : (A ^^^ B).testBit i = (A.testBit i ^^ B.testBit i) := Nat.testBit_xor ..
    by_cases hne : A.testBit i = B.testBit i
    · have hbf : (A ^^^ B).testBit i = false := by rw [hxb, hne]; simp
      rw [mod_bit_f hbf] at hx
      rw [hne]
      (try (simp (disch := first | omega | (simp <;> omega) | fail) only [push_cast, ↓reduceIte, Nat.reduceEqDiff, Nat.reduceAdd, Nat.reduceMul, Nat.reduceSub, Nat.reduceLT, Int.reduceToNat, x2, x3, x5]))
      all_goals (try exact hx)
    · have hbt : (A ^^^ B).testBit i = true := by
        rw [hxb]
        revert hne
        cases A.testBit i <;> cases B.testBit i <;> simp
      have hbeq : (A.testBit i == B.testBit i) = false := by simpa using hne
      (try (simp (disch := first | omega | (simp <;> omega) | fail) only [push_cast, ↓reduceIte, Nat.reduceEqDiff, Nat.reduceAdd, Nat.reduceMul, Nat.reduceSub, Nat.reduceLT, Int.reduceToNat, x2, x3, x5, hbeq]))
      refine (c_spec_biSet n bb m _ i h' hx.2.2.1 (by omega) (by omega)).mono (fun y h2 hy => ?_) (fun b' _ hb' => Or.inr (by have := hx.2.2.2.1; omega))
      obtain ⟨y1, y2, y3⟩ := hy
      rw [mod_bit_t hbt] at y3
      have hx2 := hx.put y1 y2 y3
      (try (simp (disch := first | omega | (simp <;> omega) | fail) only [push_cast, ↓reduceIte, Nat.reduceEqDiff, Nat.reduceAdd, Nat.reduceMul, Nat.reduceSub, Nat.reduceLT, Int.reduceToNat]))
      all_goals (try exact hx2)
  · (try (simp only [decide_eq_true_eq, decide_eq_false_iff_not, Bool.not_eq_true', Bool.not_eq_false', Bool.and_eq_true, Bool.or_eq_true, Int.not_lt, Int.not_le] at hc)); (try (simp (disch := first | omega | (simp <;> omega) | fail) only [push_cast, ↓reduceIte, Nat.reduceEqDiff, Nat.reduceAdd, Nat.reduceMul, Nat.reduceSub, Nat.reduceLT, Int.reduceToNat]))
    have hin : i = n := by omega
    subst hin
    have hlt := cells_lt x4
    have hpm : (h.length ≤ h.length + 2) = True := by simp
    have hw := cells_wr2 hlt (cs := [AV.int .i64 (i : Int), .sl bb 0 1 m m])
    (try (simp (disch := first | omega | (simp <;> omega) | fail) only [push_cast, ↓reduceIte, Nat.reduceEqDiff, Nat.reduceAdd, Nat.reduceMul, Nat.reduceSub, Nat.reduceLT, Int.reduceToNat, x4, x5, hpm, hw]))
    refine ⟨_, ow_B (G := fun c => h.length ≤ c) (by have := hx.2.2.2.1; omega) (b := bb) (ws := wordsN ((A ^^^ B) % 2 ^ i) m) ?_ wordsN_len, rfl⟩
    rw [cells_eq]
    unfold wr
    rw [List.getElem?_set_ne (by have := hx.2.2.2.1; omega), ← cells_eq]
    exact hx.2.2.1
theorem c_spec_biXor (wa wb : Option (List Int)) (nb : Int) (n m A B : Nat) (hwa : lI wa = wordsN A m) (hwb : lI wb = wordsN B m) (hm : (((n : Int) + 15) / 16) = (m : Int)) (hn : n ≤ 100000) : Fn Try.prog 99 [eB ⟨n, wa⟩, eB ⟨nb, wb⟩] (· = eB ⟨n, some (wordsN ((A ^^^ B) % 2 ^ n) m)⟩) :=
  (c_spec_biXor_o wa wb nb n m A B hwa hwb hm hn).fn

theorem c_spec_l1Has (a : Option (List Int)) (n : Int) : Fn Try.prog 100 [eI a, .int .i64 n] (· = .bool (decide (n ∈ lI a))) := by
  refine Fn.of free_bool fun h => ?_
  refine enter (by kernel_rfl) e100 (by kernel_rfl) rfl fun hok => ?_
  simp only [r100, initEnv_2]
  have hlen := ok_eI (okV_0 hok)
  (try (simp (disch := first | omega | (simp <;> omega) | fail) only [push_cast, ↓reduceIte, Nat.reduceEqDiff, Nat.reduceAdd, Nat.reduceMul, Nat.reduceSub, Nat.reduceLT, Int.reduceToNat]))
  refine T_for (lI a).length (fun i e h' => Pins e [(1, .int .i64 n), (7, eI a), (8, .int .i64 (lI a).length), (9, .int .i64 i)] ∧ h' = h ∧ n ∉ (lI a).take i) ?_ ?_
  · (try (simp (disch := first | omega | (simp <;> omega) | fail) only [push_cast, ↓reduceIte, Nat.reduceEqDiff, Nat.reduceAdd, Nat.reduceMul, Nat.reduceSub, Nat.reduceLT, Int.reduceToNat]))
    all_goals (try simp)
  rintro i e h' hi ⟨hp, rfl, hnd⟩
  refine T_pins hp fun e => ?_
  (try (simp (disch := first | omega | (simp <;> omega) | fail) only [push_cast, ↓reduceIte, Nat.reduceEqDiff, Nat.reduceAdd, Nat.reduceMul, Nat.reduceSub, Nat.reduceLT, Int.reduceToNat]))
  first | refine goC_split (fun hc => ?_) (fun hc => ?_) | refine cnd_split (fun hc => ?_) (fun hc => ?_)
  · (try (simp only [decide_eq_true_eq, decide_eq_false_iff_not, Bool.not_eq_true', Bool.not_eq_false', Bool.and_eq_true, Bool.or_eq_true, Int.not_lt, Int.not_le] at hc)); (try (simp (disch := first | omega | (simp <;> omega) | fail) only [push_cast, ↓reduceIte, Nat.reduceEqDiff, Nat.reduceAdd, Nat.reduceMul, Nat.reduceSub, Nat.reduceLT, Int.reduceToNat]))
    have hi2 : i < (lI a).length := by omega
    have htk : (lI a).take (i + 1) = (lI a).take i ++ [(lI a).getD i 0] := by
      rw [List.take_add_one]
      simp [hi2]
    (try (simp (disch := first | omega | (simp <;> omega) | fail) only [push_cast, ↓reduceIte, Nat.reduceEqDiff, Nat.reduceAdd, Nat.reduceMul, Nat.reduceSub, Nat.reduceLT, Int.reduceToNat]))
    first | refine goC_split (fun hd => ?_) (fun hd => ?_) | refine cnd_split (fun hd => ?_) (fun hd => ?_)
    · (try (simp only [decide_eq_true_eq, decide_eq_false_iff_not, Bool.not_eq_true', Bool.not_eq_false', Bool.and_eq_true, Bool.or_eq_true, Int.not_lt, Int.not_le] at hd)); (try (simp (disch := first | omega | (simp <;> omega) | fail) only [push_cast, ↓reduceIte, Nat.reduceEqDiff, Nat.reduceAdd, Nat.reduceMul, Nat.reduceSub, Nat.reduceLT, Int.reduceToNat]))
      symm
      rw [decide_eq_true_iff, ← hd]
      simp [hi2]
    · (try (simp only [decide_eq_true_eq, decide_eq_false_iff_not, Bool.not_eq_true', Bool.not_eq_false', Bool.and_eq_true, Bool.or_eq_true, Int.not_lt, Int.not_le] at hd)); (try (simp (disch := first | omega | (simp <;> omega) | fail) only [push_cast, ↓reduceIte, Nat.reduceEqDiff, Nat.reduceAdd, Nat.reduceMul, Nat.reduceSub, Nat.reduceLT, Int.reduceToNat]))
      rw [htk]
      simp only [List.mem_append, List.mem_singleton, not_or]
      exact ⟨hnd, fun he => hd he.symm⟩
  · (try (simp only [decide_eq_true_eq, decide_eq_false_iff_not, Bool.not_eq_true', Bool.not_eq_false', Bool.and_eq_true, Bool.or_eq_true, Int.not_lt, Int.not_le] at hc)); (try (simp (disch := first | omega | (simp <;> omega) | fail) only [push_cast, ↓reduceIte, Nat.reduceEqDiff, Nat.reduceAdd, Nat.reduceMul, Nat.reduceSub, Nat.reduceLT, Int.reduceToNat]))
    have he : (lI a).take i = lI a := List.take_of_length_le (by omega)
    rw [he] at hnd
    simp [hnd]

theorem c_spec_l1Put (a : Option (List Int)) (x : Int) (hal : (lI a).length ≤ 1000000) : Fn Try.prog 101 [eI a, .int .i64 x] (· = eI (putO a x)) := by
  refine Fn.froze_ fun h => ?_
  refine enter (by kernel_rfl) e101 (by kernel_rfl) rfl fun hok => ?_
  simp only [r101, initEnv_2]
  have hlen := ok_eI (okV_0 hok)
  obtain ⟨k1, k2, k3, k4, k5⟩ := takeWhile_all (p := fun y => decide (y < x)) (l := lI a)
  obtain ⟨K, hK⟩ : ∃ K, K = ((lI a).takeWhile fun y => decide (y < x)).length := ⟨_, rfl⟩
  rw [← hK] at k1 k2 k3 k4 k5
  (try (simp (disch := first | omega | (simp <;> omega) | fail) only [push_cast, ↓reduceIte, Nat.reduceEqDiff, Nat.reduceAdd, Nat.reduceMul, Nat.reduceSub, Nat.reduceLT, Int.reduceToNat]))
  refine T_for K (fun i e h' => Pins e [(0, eI a), (1, .int .i64 x), (5, .int .i64 i)] ∧ h' = h) ?_ ?_
  · (try (simp (disch := first | omega | (simp <;> omega) | fail) only [push_cast, ↓reduceIte, Nat.reduceEqDiff, Nat.reduceAdd, Nat.reduceMul, Nat.reduceSub, Nat.reduceLT, Int.reduceToNat]))
  rintro i e h' hi ⟨hp, rfl⟩
  refine T_pins hp fun e => ?_
  by_cases hiK : i < K
  · have hlt : i < (lI a).length := by omega
    have hx := k4 i hiK
    simp only [decide_eq_true_eq] at hx
    (try (simp (disch := first | omega | (simp <;> omega) | fail) only [push_cast, ↓reduceIte, Nat.reduceEqDiff, Nat.reduceAdd, Nat.reduceMul, Nat.reduceSub, Nat.reduceLT, Int.reduceToNat]))
  have hie : i = K := by omega
  subst hie
  have hput : ∀ h1 v1 B1, ((lI a).dropWhile (fun y => decide (y < x))).head? ≠ some x → S1 h1 1 v1 (i + 1 + ((lI a).length - i)) ((((lI a).take i).map (.int .i64) ++ [.int .i64 x]) ++ ((lI a).drop i).map (.int .i64)) B1 → (∀ b ∈ B1, h'.length ≤ b) → v1 ≠ .nils → ∃ t, Vw h1 h'.length v1 t ∧ t = eI (putO a x) := fun h1 v1 B1 hne hs hb hn => by
    have he : ((((lI a).take i).map (AV.int .i64) ++ [.int .i64 x]) ++ ((lI a).drop i).map (.int .i64)) = (putL (lI a) x).map (.int .i64) := by
      unfold putL
      rw [← k2, ← k3]
      simp
    rw [he] at hs
    refine ⟨_, hs.vwI hb hn, ?_⟩
    unfold putO
    rw [if_neg hne]
  have hs0 : S1 (h' ++ [some (.cells [])]) 1 (.sl h'.length 0 1 0 0) 0 [] [h'.length] := ⟨by simp, .inr ⟨h'.length, rfl, rfl, by rw [cells_h0]; rfl⟩⟩
  rcases k5 with ⟨g1, g2, g3⟩ | ⟨g1, g2⟩
  · have hx : ¬ (lI a).getD i 0 < x := by simpa using g2
    (try (simp (disch := first | omega | (simp <;> omega) | fail) only [push_cast, ↓reduceIte, Nat.reduceEqDiff, Nat.reduceAdd, Nat.reduceMul, Nat.reduceSub, Nat.reduceLT, Int.reduceToNat, hx]))
    by_cases hq : (lI a).getD i 0 = x
    · have hdone : putO a x = a := by
        unfold putO
        rw [if_pos (by rw [g3, hq])]
      (try (simp (disch := first | omega | (simp <;> omega) | fail) only [push_cast, ↓reduceIte, Nat.reduceEqDiff, Nat.reduceAdd, Nat.reduceMul, Nat.reduceSub, Nat.reduceLT, Int.reduceToNat, hq]))
      rw [hdone]
      exact ⟨_, .free free_eI, rfl⟩
    · have hne : ((lI a).dropWhile (fun y => decide (y < x))).head? ≠ some x := by
        rw [g3]
        intro hh
        injection hh with hh
        exact hq hh
      (try (simp (disch := first | omega | (simp <;> omega) | fail) only [push_cast, ↓reduceIte, Nat.reduceEqDiff, Nat.reduceAdd, Nat.reduceMul, Nat.reduceSub, Nat.reduceLT, Int.reduceToNat, hq]))
      rw [src_eI, lI_tk]
      refine hs0.app0 (fun b hb => Or.inr (by simp at hb; omega)) (by simp) (by simp only [List.length_take]; omega) fun v1 h1 B1 a1 a2 a3 a4 a5 => ?_
      simp only [List.length_append, List.length_cons, List.length_nil] at a2
      (try (simp (disch := first | omega | (simp <;> omega) | fail) only [push_cast, ↓reduceIte, Nat.reduceEqDiff, Nat.reduceAdd, Nat.reduceMul, Nat.reduceSub, Nat.reduceLT, Int.reduceToNat]))
      have b1 := a1.frame (h' := h1 ++ [some (.cells [.int .i64 x])]) fun c hc => List.getElem?_append_left (a1.lt c hc)
      refine b1.app0 (new := [.int .i64 x]) (k := 1) (fun b hb => Or.inr (by rcases a4 b hb with h5 | h5 <;> simp at h5 <;> omega)) (by simp) (by simp only [List.length_take]; omega) fun v2 h2 B2 c1 c2 c3 c4 c5 => ?_
      simp only [List.length_append, List.length_cons, List.length_nil] at c2
      (try (simp (disch := first | omega | (simp <;> omega) | fail) only [push_cast, ↓reduceIte, Nat.reduceEqDiff, Nat.reduceAdd, Nat.reduceMul, Nat.reduceSub, Nat.reduceLT, Int.reduceToNat]))
      rw [src_eI, lI_dr]
      refine c1.app0 (fun b hb => Or.inr (by rcases c4 b hb with h5 | h5; · rcases a4 b h5 with h6 | h6 <;> simp at h6 <;> omega
                                             · simp at h5; omega)) (by simp) (by simp only [List.length_take, List.length_drop]; omega) fun v3 h3 B3 d1 d2 d3 d4 d5 => ?_
      (try (simp (disch := first | omega | (simp <;> omega) | fail) only [push_cast, ↓reduceIte, Nat.reduceEqDiff, Nat.reduceAdd, Nat.reduceMul, Nat.reduceSub, Nat.reduceLT, Int.reduceToNat]))
      refine hput _ _ B3 hne ?_ (fun b hb => ?_) (d5 (c5 (a5 (by simp))))
      · have hlt : min i (lI a).length = i := by omega
        simp only [List.length_take, List.length_drop, Nat.zero_add, List.nil_append, hlt] at d1
        exact d1
      · rcases d4 b hb with h5 | h5
        · rcases c4 b h5 with h5 | h5
          · rcases a4 b h5 with h6 | h6 <;> simp at h6 <;> omega
          · simp at h5; omega
        · omega
  · have hne : ((lI a).dropWhile (fun y => decide (y < x))).head? ≠ some x := by
      rw [g2]
      simp
    have hnl : ¬ (i : Int) < (lI a).length := by omega
    (try (simp (disch := first | omega | (simp <;> omega) | fail) only [push_cast, ↓reduceIte, Nat.reduceEqDiff, Nat.reduceAdd, Nat.reduceMul, Nat.reduceSub, Nat.reduceLT, Int.reduceToNat, hnl]))
    rw [src_eI, lI_tk]
    refine hs0.app0 (fun b hb => Or.inr (by simp at hb; omega)) (by simp) (by simp only [List.length_take]; omega) fun v1 h1 B1 a1 a2 a3 a4 a5 => ?_
    simp only [List.length_append, List.length_cons, List.length_nil] at a2
    (try (simp (disch := first | omega | (simp <;> omega) | fail) only [push_cast, ↓reduceIte, Nat.reduceEqDiff, Nat.reduceAdd, Nat.reduceMul, Nat.reduceSub, Nat.reduceLT, Int.reduceToNat]))
    have b1 := a1.frame (h' := h1 ++ [some (.cells [.int .i64 x])]) fun c hc => List.getElem?_append_left (a1.lt c hc)
    refine b1.app0 (new := [.int .i64 x]) (k := 1) (fun b hb => Or.inr (by rcases a4 b hb with h5 | h5 <;> simp at h5 <;> omega)) (by simp) (by simp only [List.length_take]; omega) fun v2 h2 B2 c1 c2 c3 c4 c5 => ?_
    simp only [List.length_append, List.length_cons, List.length_nil] at c2
    (try (simp (disch := first | omega | (simp <;> omega) | fail) only [push_cast, ↓reduceIte, Nat.reduceEqDiff, Nat.reduceAdd, Nat.reduceMul, Nat.reduceSub, Nat.reduceLT, Int.reduceToNat]))
    rw [src_eI, lI_dr]
    refine c1.app0 (fun b hb => Or.inr (by rcases c4 b hb with h5 | h5; · rcases a4 b h5 with h6 | h6 <;> simp at h6 <;> omega
                                           · simp at h5; omega)) (by simp) (by simp only [List.length_take, List.length_drop]; omega) fun v3 h3 B3 d1 d2 d3 d4 d5 => ?_
    (try (simp (disch := first | omega | (simp <;> omega) | fail) only [push_cast, ↓reduceIte, Nat.reduceEqDiff, Nat.reduceAdd, Nat.reduceMul, Nat.reduceSub, Nat.reduceLT, Int.reduceToNat]))
    refine hput _ _ B3 hne ?_ (fun b hb => ?_) (d5 (c5 (a5 (by simp))))
    · have hlt : min i (lI a).length = i := by omega
      simp only [List.length_take, List.length_drop, Nat.zero_add, List.nil_append, hlt] at d1
      exact d1
    · rcases d4 b hb with h5 | h5
      · rcases c4 b h5 with h5 | h5
        · rcases a4 b h5 with h6 | h6 <;> simp at h6 <;> omega
        · simp at h5; omega
      · omega

def cLn (n m X : Nat) : List AV := [.int .i64 n, eI (some (wordsN (X % 2 ^ n) m)), .bool (X.testBit n), eI (optL (setL (X >>> (n + 1))))]
theorem cLn_len (n m X : Nat) : (cLn n m X).length = 4 := rfl
theorem free_cLn {n m X : Nat} : ∀ c ∈ cLn n m X, Free c := free_cons_ free_int (free_cons_ free_eI (free_cons_ free_bool (free_cons_ free_eI free_nil_)))
theorem xor_mod {X Y n : Nat} : (X % 2 ^ n ^^^ Y % 2 ^ n) % 2 ^ n = (X ^^^ Y) % 2 ^ n := by
  refine Nat.eq_of_testBit_eq fun j => ?_
  simp only [Nat.testBit_mod_two_pow, Nat.testBit_xor]
  by_cases hj : j < n <;> simp [hj]
/-- The list so far: of the first so many of one, those that are not in the other. -/
def InUpTo (Mo : Nat) (f : Nat → Bool) (l : List Int) (g : Nat → Bool) : Prop := ∀ j, j < 64 → Mo.testBit j = (f j || (decide ((j : Int) ∈ l) && !g j))
theorem InUpTo.step {Mo i : Nat} {f g : Nat → Bool} {l : List Int} {k : Nat} (h : InUpTo Mo f (l.take k) g) (hk : k < l.length) (hg : l.getD k 0 = (i : Int)) : InUpTo (if g i then Mo else Mo ||| 2 ^ i) f (l.take (k + 1)) g := by
  intro j hj
  have htk : l.take (k + 1) = l.take k ++ [(i : Int)] := by
    rw [List.take_add_one, ← hg]
    simp [hk]
  rw [htk]
  have hmem : decide ((j : Int) ∈ l.take k ++ [(i : Int)]) = (decide ((j : Int) ∈ l.take k) || decide (j = i)) := by
    rw [← Bool.decide_or, decide_eq_decide, List.mem_append, List.mem_singleton]
    constructor
    · rintro (h | h)
      · exact .inl h
      · exact .inr (by omega)
    · rintro (h | h)
      · exact .inl h
      · exact .inr (by omega)
  rw [hmem]
  cases hgi : g i
  · rw [if_neg (by simp), Nat.testBit_or, Nat.testBit_two_pow, h j hj]
    by_cases hji : j = i
    · subst hji
      simp [hgi]
    · simp [hji, Ne.symm hji]
  · rw [if_pos rfl, h j hj]
    by_cases hji : j = i
    · subst hji
      simp [hgi]
    · simp [hji]
theorem InUpTo.zero {f g : Nat → Bool} {Mo : Nat} {l : List Int} (h : ∀ j, j < 64 → Mo.testBit j = f j) : InUpTo Mo f (l.take 0) g := fun j hj => by
  rw [h j hj]
  simp
theorem InUpTo.bits {Mo M : Nat} {f g : Nat → Bool} (h : InUpTo Mo f (setL M) g) {j : Nat} (hj : j < 64) : Mo.testBit j = (f j || (M.testBit j && !g j)) := by
  rw [h j hj]
  congr 2
  rw [Bool.eq_iff_iff, decide_eq_true_iff]
  exact mem_setL hj
theorem hasL {M i : Nat} (hi : i < 64) : decide ((i : Int) ∈ setL M) = M.testBit i := by
  rw [Bool.eq_iff_iff, decide_eq_true_iff]
  exact mem_setL hi
attribute [simp] lI_optL
def linesO (h : H) (n : Nat) (wa wb wo : Option (List Int)) (ra rb q : Bool) (Ma Mb Mo : Nat) : H :=
  h ++ [some (.cells [.int .i64 n, eI wa, .bool ra, eM Ma]), some (.cells [.int .i64 n, eI wb, .bool rb, eM Mb]), some (.cells [.int .i64 0, .nils, .bool false, .nils]), some (.cells [.int .i64 n, eI wo, .bool q, eM Mo])]

set_option maxHeartbeats 2000000 in
theorem c_spec_reAdd2 (wa wb : Option (List Int)) (ra rb : Bool) (n m A B Ma Mb : Nat) (hwa : lI wa = wordsN A m) (hwb : lI wb = wordsN B m) (hm : (((n : Int) + 15) / 16) = (m : Int)) (hn : n ≤ 100000) :
    Fn Try.prog 62 [.agg [.int .i64 n, eI wa, .bool ra, eI (optL (setL Ma))], .agg [.int .i64 n, eI wb, .bool rb, eI (optL (setL Mb))]] (· = .agg [.int .i64 n, eI (some (wordsN ((A ^^^ B) % 2 ^ n) m)), .bool (ra != rb), eI (optL (setL (Ma ^^^ Mb)))]) := by
  refine Fn.of (free_agg (free_cons_ free_int (free_cons_ free_eI (free_cons_ free_bool (free_cons_ free_eI free_nil_))))) fun h => ?_
  refine enter (by kernel_rfl) e62 (by kernel_rfl) rfl fun hok => ?_
  simp only [r62, initEnv_2]
  have hbeq : (ra != rb) = !(ra == rb) := rfl
  rw [hbeq]
  have hla := setL_len (M := Ma)
  have hlb := setL_len (M := Mb)
  have hfl : ∀ q : Bool, fillA [.int .i64 0, .nils, .bool false, .nils] [(0, 2, .agg [.int .i64 n, eI (some (wordsN ((A ^^^ B) % 2 ^ n) m))]), (2, 1, .bool q)] = some [.int .i64 n, eI (some (wordsN ((A ^^^ B) % 2 ^ n) m)), .bool q, .nils] := fun q => rfl
  have hnil : AV.nils = eI (optL (setL 0)) := by
    have : setL 0 = [] := by
      unfold setL
      simp
    rw [this]
    rfl
  obtain ⟨q, hq⟩ : ∃ q : Bool, q = !(ra == rb) := ⟨_, rfl⟩
  rw [← hq]
  obtain ⟨W, hW⟩ : ∃ W, W = wordsN ((A ^^^ B) % 2 ^ n) m := ⟨_, rfl⟩
  rw [← hW]
  rw [← hW] at hfl
  have hxor := c_spec_biXor wa wb n n m A B hwa hwb hm hn
  rw [← hW] at hxor
  have fin : ∀ Mo, InUpTo Mo (fun j => Ma.testBit j && !Mb.testBit j) (setL Mb) (fun j => Ma.testBit j) → setL Mo = setL (Ma ^^^ Mb) := fun Mo hMo => setL_congr fun j hj => by
    rw [hMo.bits hj, Nat.testBit_xor]
    cases Ma.testBit j <;> cases Mb.testBit j <;> rfl
  (try (simp (disch := first | omega | (simp <;> omega) | fail) only [push_cast, ↓reduceIte, Nat.reduceEqDiff, Nat.reduceAdd, Nat.reduceMul, Nat.reduceSub, Nat.reduceLT, Int.reduceToNat, ← hq]))
  refine ⟨?_, ?_⟩
  · refine hxor.call ?_
    (try (simp (disch := first | omega | (simp <;> omega) | fail) only [push_cast, ↓reduceIte, Nat.reduceEqDiff, Nat.reduceAdd, Nat.reduceMul, Nat.reduceSub, Nat.reduceLT, Int.reduceToNat, hfl, reads, List.mem_cons, List.mem_append, List.not_mem_nil, nat_ff, or_self, or_false, false_or, not_false_eq_true]))
    refine T_for (setL Ma).length (fun i e h' => Pins e [(2, .adr h.length 0), (3, .adr (h.length + 1) 0), (4, .adr (h.length + 2) 0), (5, .adr (h.length + 3) 0), (22, eI (optL (setL Ma))), (23, .int .i64 (setL Ma).length), (24, .int .i64 i)] ∧ ∃ Mo, h' = linesO h n wa wb (some W) ra rb q Ma Mb Mo ∧ InUpTo Mo (fun _ => false) ((setL Ma).take i) (fun j => Mb.testBit j)) ?_ ?_
    · (try (simp (disch := first | omega | (simp <;> omega) | fail) only [push_cast, ↓reduceIte, Nat.reduceEqDiff, Nat.reduceAdd, Nat.reduceMul, Nat.reduceSub, Nat.reduceLT, Int.reduceToNat, lI_optL]))
      all_goals (try exact ⟨0, by rw [hnil]; rfl, .zero fun j hj => by simp⟩)
    rintro i e h' hi ⟨hp, Mo, rfl, hMo⟩
    refine T_pins hp fun e => ?_
    unfold linesO
    (try (simp (disch := first | omega | (simp <;> omega) | fail) only [push_cast, ↓reduceIte, Nat.reduceEqDiff, Nat.reduceAdd, Nat.reduceMul, Nat.reduceSub, Nat.reduceLT, Int.reduceToNat, lI_optL]))
    first | refine goC_split (fun hc => ?_) (fun hc => ?_) | refine cnd_split (fun hc => ?_) (fun hc => ?_)
    · (try (simp only [decide_eq_true_eq, decide_eq_false_iff_not, Bool.not_eq_true', Bool.not_eq_false', Bool.and_eq_true, Bool.or_eq_true, Int.not_lt, Int.not_le] at hc)); (try (simp (disch := first | omega | (simp <;> omega) | fail) only [push_cast, ↓reduceIte, Nat.reduceEqDiff, Nat.reduceAdd, Nat.reduceMul, Nat.reduceSub, Nat.reduceLT, Int.reduceToNat]))
      have hi2 : i < (setL Ma).length := by omega
      obtain ⟨ix, hix, hg, hbt⟩ := setL_get hi2
      have hst := hMo.step hi2 hg
      (try (simp (disch := first | omega | (simp <;> omega) | fail) only [push_cast, ↓reduceIte, Nat.reduceEqDiff, Nat.reduceAdd, Nat.reduceMul, Nat.reduceSub, Nat.reduceLT, Int.reduceToNat, hg, lI_optL]))
      refine (c_spec_l1Has (optL (setL Mb)) (ix : Int)).call ?_
      rw [lI_optL, hasL hix]
      cases hb : Mb.testBit ix
      · rw [hb, if_neg (by simp)] at hst
        (try (simp (disch := first | omega | (simp <;> omega) | fail) only [push_cast, ↓reduceIte, Nat.reduceEqDiff, Nat.reduceAdd, Nat.reduceMul, Nat.reduceSub, Nat.reduceLT, Int.reduceToNat]))
        refine (c_spec_l1Put (optL (setL Mo)) (ix : Int) (by rw [lI_optL]; have := setL_len (M := Mo); omega)).call ?_
        rw [putO_setL hix]
        (try (simp (disch := first | omega | (simp <;> omega) | fail) only [push_cast, ↓reduceIte, Nat.reduceEqDiff, Nat.reduceAdd, Nat.reduceMul, Nat.reduceSub, Nat.reduceLT, Int.reduceToNat]))
        all_goals (try exact ⟨_, rfl, hst⟩)
      · rw [hb, if_pos rfl] at hst
        (try (simp (disch := first | omega | (simp <;> omega) | fail) only [push_cast, ↓reduceIte, Nat.reduceEqDiff, Nat.reduceAdd, Nat.reduceMul, Nat.reduceSub, Nat.reduceLT, Int.reduceToNat]))
        all_goals (try exact ⟨_, rfl, hst⟩)
    · (try (simp only [decide_eq_true_eq, decide_eq_false_iff_not, Bool.not_eq_true', Bool.not_eq_false', Bool.and_eq_true, Bool.or_eq_true, Int.not_lt, Int.not_le] at hc)); (try (simp (disch := first | omega | (simp <;> omega) | fail) only [push_cast, ↓reduceIte, Nat.reduceEqDiff, Nat.reduceAdd, Nat.reduceMul, Nat.reduceSub, Nat.reduceLT, Int.reduceToNat]))
      have hie : i = (setL Ma).length := by omega
      subst hie
      rw [List.take_length] at hMo
      have h0 : InUpTo Mo (fun j => Ma.testBit j && !Mb.testBit j) ((setL Mb).take 0) (fun j => Ma.testBit j) := .zero fun j hj => by rw [hMo.bits hj]; simp
      (try (simp (disch := first | omega | (simp <;> omega) | fail) only [push_cast, ↓reduceIte, Nat.reduceEqDiff, Nat.reduceAdd, Nat.reduceMul, Nat.reduceSub, Nat.reduceLT, Int.reduceToNat]))
      refine T_for (setL Mb).length (fun i e h' => Pins e [(2, .adr h.length 0), (3, .adr (h.length + 1) 0), (4, .adr (h.length + 2) 0), (5, .adr (h.length + 3) 0), (40, eI (optL (setL Mb))), (41, .int .i64 (setL Mb).length), (42, .int .i64 i)] ∧ ∃ Mo, h' = linesO h n wa wb (some W) ra rb q Ma Mb Mo ∧ InUpTo Mo (fun j => Ma.testBit j && !Mb.testBit j) ((setL Mb).take i) (fun j => Ma.testBit j)) ?_ ?_
      · (try (simp (disch := first | omega | (simp <;> omega) | fail) only [push_cast, ↓reduceIte, Nat.reduceEqDiff, Nat.reduceAdd, Nat.reduceMul, Nat.reduceSub, Nat.reduceLT, Int.reduceToNat, lI_optL]))
        all_goals (try exact ⟨_, rfl, h0⟩)
      clear h0 hMo hp
      rintro i e h' hi ⟨hp, Mo, rfl, hMo⟩
      refine T_pins hp fun e => ?_
      unfold linesO
      (try (simp (disch := first | omega | (simp <;> omega) | fail) only [push_cast, ↓reduceIte, Nat.reduceEqDiff, Nat.reduceAdd, Nat.reduceMul, Nat.reduceSub, Nat.reduceLT, Int.reduceToNat, lI_optL]))
      first | refine goC_split (fun hc => ?_) (fun hc => ?_) | refine cnd_split (fun hc => ?_) (fun hc => ?_)
      · (try (simp only [decide_eq_true_eq, decide_eq_false_iff_not, Bool.not_eq_true', Bool.not_eq_false', Bool.and_eq_true, Bool.or_eq_true, Int.not_lt, Int.not_le] at hc)); (try (simp (disch := first | omega | (simp <;> omega) | fail) only [push_cast, ↓reduceIte, Nat.reduceEqDiff, Nat.reduceAdd, Nat.reduceMul, Nat.reduceSub, Nat.reduceLT, Int.reduceToNat]))
        have hi2 : i < (setL Mb).length := by omega
        obtain ⟨ix, hix, hg, hbt⟩ := setL_get hi2
        have hst := hMo.step hi2 hg
        (try (simp (disch := first | omega | (simp <;> omega) | fail) only [push_cast, ↓reduceIte, Nat.reduceEqDiff, Nat.reduceAdd, Nat.reduceMul, Nat.reduceSub, Nat.reduceLT, Int.reduceToNat, hg, lI_optL]))
        refine (c_spec_l1Has (optL (setL Ma)) (ix : Int)).call ?_
        rw [lI_optL, hasL hix]
        cases hb : Ma.testBit ix
        · rw [hb, if_neg (by simp)] at hst
          (try (simp (disch := first | omega | (simp <;> omega) | fail) only [push_cast, ↓reduceIte, Nat.reduceEqDiff, Nat.reduceAdd, Nat.reduceMul, Nat.reduceSub, Nat.reduceLT, Int.reduceToNat]))
          refine (c_spec_l1Put (optL (setL Mo)) (ix : Int) (by rw [lI_optL]; have := setL_len (M := Mo); omega)).call ?_
          rw [putO_setL hix]
          (try (simp (disch := first | omega | (simp <;> omega) | fail) only [push_cast, ↓reduceIte, Nat.reduceEqDiff, Nat.reduceAdd, Nat.reduceMul, Nat.reduceSub, Nat.reduceLT, Int.reduceToNat]))
          all_goals (try exact ⟨_, rfl, hst⟩)
        · rw [hb, if_pos rfl] at hst
          (try (simp (disch := first | omega | (simp <;> omega) | fail) only [push_cast, ↓reduceIte, Nat.reduceEqDiff, Nat.reduceAdd, Nat.reduceMul, Nat.reduceSub, Nat.reduceLT, Int.reduceToNat]))
          all_goals (try exact ⟨_, rfl, hst⟩)
      · (try (simp only [decide_eq_true_eq, decide_eq_false_iff_not, Bool.not_eq_true', Bool.not_eq_false', Bool.and_eq_true, Bool.or_eq_true, Int.not_lt, Int.not_le] at hc)); (try (simp (disch := first | omega | (simp <;> omega) | fail) only [push_cast, ↓reduceIte, Nat.reduceEqDiff, Nat.reduceAdd, Nat.reduceMul, Nat.reduceSub, Nat.reduceLT, Int.reduceToNat]))
        have hie : i = (setL Mb).length := by omega
        subst hie
        rw [List.take_length] at hMo
        have hf := fin Mo hMo
        (try (simp (disch := first | omega | (simp <;> omega) | fail) only [push_cast, ↓reduceIte, Nat.reduceEqDiff, Nat.reduceAdd, Nat.reduceMul, Nat.reduceSub, Nat.reduceLT, Int.reduceToNat]))
        rw [← hf]
  · (try (simp (disch := first | omega | (simp <;> omega) | fail) only [push_cast, ↓reduceIte, Nat.reduceEqDiff, Nat.reduceAdd, Nat.reduceMul, Nat.reduceSub, Nat.reduceLT, Int.reduceToNat]))
    refine hxor.call ?_
    (try (simp (disch := first | omega | (simp <;> omega) | fail) only [push_cast, ↓reduceIte, Nat.reduceEqDiff, Nat.reduceAdd, Nat.reduceMul, Nat.reduceSub, Nat.reduceLT, Int.reduceToNat, hfl, reads, List.mem_cons, List.mem_append, List.not_mem_nil, nat_ff, or_self, or_false, false_or, not_false_eq_true]))
    refine T_for (setL Ma).length (fun i e h' => Pins e [(2, .adr h.length 0), (3, .adr (h.length + 1) 0), (4, .adr (h.length + 2) 0), (5, .adr (h.length + 3) 0), (22, eI (optL (setL Ma))), (23, .int .i64 (setL Ma).length), (24, .int .i64 i)] ∧ ∃ Mo, h' = linesO h n wa wb (some W) ra rb q Ma Mb Mo ∧ InUpTo Mo (fun _ => false) ((setL Ma).take i) (fun j => Mb.testBit j)) ?_ ?_
    · (try (simp (disch := first | omega | (simp <;> omega) | fail) only [push_cast, ↓reduceIte, Nat.reduceEqDiff, Nat.reduceAdd, Nat.reduceMul, Nat.reduceSub, Nat.reduceLT, Int.reduceToNat, lI_optL]))
      all_goals (try exact ⟨0, by rw [hnil]; rfl, .zero fun j hj => by simp⟩)
    rintro i e h' hi ⟨hp, Mo, rfl, hMo⟩
    refine T_pins hp fun e => ?_
    unfold linesO
    (try (simp (disch := first | omega | (simp <;> omega) | fail) only [push_cast, ↓reduceIte, Nat.reduceEqDiff, Nat.reduceAdd, Nat.reduceMul, Nat.reduceSub, Nat.reduceLT, Int.reduceToNat, lI_optL]))
    first | refine goC_split (fun hc => ?_) (fun hc => ?_) | refine cnd_split (fun hc => ?_) (fun hc => ?_)
    · (try (simp only [decide_eq_true_eq, decide_eq_false_iff_not, Bool.not_eq_true', Bool.not_eq_false', Bool.and_eq_true, Bool.or_eq_true, Int.not_lt, Int.not_le] at hc)); (try (simp (disch := first | omega | (simp <;> omega) | fail) only [push_cast, ↓reduceIte, Nat.reduceEqDiff, Nat.reduceAdd, Nat.reduceMul, Nat.reduceSub, Nat.reduceLT, Int.reduceToNat]))
      have hi2 : i < (setL Ma).length := by omega
      obtain ⟨ix, hix, hg, hbt⟩ := setL_get hi2
      have hst := hMo.step hi2 hg
      (try (simp (disch := first | omega | (simp <;> omega) | fail) only [push_cast, ↓reduceIte, Nat.reduceEqDiff, Nat.reduceAdd, Nat.reduceMul, Nat.reduceSub, Nat.reduceLT, Int.reduceToNat, hg, lI_optL]))
      refine (c_spec_l1Has (optL (setL Mb)) (ix : Int)).call ?_
      rw [lI_optL, hasL hix]
      cases hb : Mb.testBit ix
      · rw [hb, if_neg (by simp)] at hst
        (try (simp (disch := first | omega | (simp <;> omega) | fail) only [push_cast, ↓reduceIte, Nat.reduceEqDiff, Nat.reduceAdd, Nat.reduceMul, Nat.reduceSub, Nat.reduceLT, Int.reduceToNat]))
        refine (c_spec_l1Put (optL (setL Mo)) (ix : Int) (by rw [lI_optL]; have := setL_len (M := Mo); omega)).call ?_
        rw [putO_setL hix]
        (try (simp (disch := first | omega | (simp <;> omega) | fail) only [push_cast, ↓reduceIte, Nat.reduceEqDiff, Nat.reduceAdd, Nat.reduceMul, Nat.reduceSub, Nat.reduceLT, Int.reduceToNat]))
        all_goals (try exact ⟨_, rfl, hst⟩)
      · rw [hb, if_pos rfl] at hst
        (try (simp (disch := first | omega | (simp <;> omega) | fail) only [push_cast, ↓reduceIte, Nat.reduceEqDiff, Nat.reduceAdd, Nat.reduceMul, Nat.reduceSub, Nat.reduceLT, Int.reduceToNat]))
        all_goals (try exact ⟨_, rfl, hst⟩)
    · (try (simp only [decide_eq_true_eq, decide_eq_false_iff_not, Bool.not_eq_true', Bool.not_eq_false', Bool.and_eq_true, Bool.or_eq_true, Int.not_lt, Int.not_le] at hc)); (try (simp (disch := first | omega | (simp <;> omega) | fail) only [push_cast, ↓reduceIte, Nat.reduceEqDiff, Nat.reduceAdd, Nat.reduceMul, Nat.reduceSub, Nat.reduceLT, Int.reduceToNat]))
      have hie : i = (setL Ma).length := by omega
      subst hie
      rw [List.take_length] at hMo
      have h0 : InUpTo Mo (fun j => Ma.testBit j && !Mb.testBit j) ((setL Mb).take 0) (fun j => Ma.testBit j) := .zero fun j hj => by rw [hMo.bits hj]; simp
      (try (simp (disch := first | omega | (simp <;> omega) | fail) only [push_cast, ↓reduceIte, Nat.reduceEqDiff, Nat.reduceAdd, Nat.reduceMul, Nat.reduceSub, Nat.reduceLT, Int.reduceToNat]))
      refine T_for (setL Mb).length (fun i e h' => Pins e [(2, .adr h.length 0), (3, .adr (h.length + 1) 0), (4, .adr (h.length + 2) 0), (5, .adr (h.length + 3) 0), (40, eI (optL (setL Mb))), (41, .int .i64 (setL Mb).length), (42, .int .i64 i)] ∧ ∃ Mo, h' = linesO h n wa wb (some W) ra rb q Ma Mb Mo ∧ InUpTo Mo (fun j => Ma.testBit j && !Mb.testBit j) ((setL Mb).take i) (fun j => Ma.testBit j)) ?_ ?_
      · (try (simp (disch := first | omega | (simp <;> omega) | fail) only [push_cast, ↓reduceIte, Nat.reduceEqDiff, Nat.reduceAdd, Nat.reduceMul, Nat.reduceSub, Nat.reduceLT, Int.reduceToNat, lI_optL]))
        all_goals (try exact ⟨_, rfl, h0⟩)
      clear h0 hMo hp
      rintro i e h' hi ⟨hp, Mo, rfl, hMo⟩
      refine T_pins hp fun e => ?_
      unfold linesO
      (try (simp (disch := first | omega | (simp <;> omega) | fail) only [push_cast, ↓reduceIte, Nat.reduceEqDiff, Nat.reduceAdd, Nat.reduceMul, Nat.reduceSub, Nat.reduceLT, Int.reduceToNat, lI_optL]))
      first | refine goC_split (fun hc => ?_) (fun hc => ?_) | refine cnd_split (fun hc => ?_) (fun hc => ?_)
      · (try (simp only [decide_eq_true_eq, decide_eq_false_iff_not, Bool.not_eq_true', Bool.not_eq_false', Bool.and_eq_true, Bool.or_eq_true, Int.not_lt, Int.not_le] at hc)); (try (simp (disch := first | omega | (simp <;> omega) | fail) only [push_cast, ↓reduceIte, Nat.reduceEqDiff, Nat.reduceAdd, Nat.reduceMul, Nat.reduceSub, Nat.reduceLT, Int.reduceToNat]))
        have hi2 : i < (setL Mb).length := by omega
        obtain ⟨ix, hix, hg, hbt⟩ := setL_get hi2
        have hst := hMo.step hi2 hg
        (try (simp (disch := first | omega | (simp <;> omega) | fail) only [push_cast, ↓reduceIte, Nat.reduceEqDiff, Nat.reduceAdd, Nat.reduceMul, Nat.reduceSub, Nat.reduceLT, Int.reduceToNat, hg, lI_optL]))
        refine (c_spec_l1Has (optL (setL Ma)) (ix : Int)).call ?_
        rw [lI_optL, hasL hix]
        cases hb : Ma.testBit ix
        · rw [hb, if_neg (by simp)] at hst
          (try (simp (disch := first | omega | (simp <;> omega) | fail) only [push_cast, ↓reduceIte, Nat.reduceEqDiff, Nat.reduceAdd, Nat.reduceMul, Nat.reduceSub, Nat.reduceLT, Int.reduceToNat]))
          refine (c_spec_l1Put (optL (setL Mo)) (ix : Int) (by rw [lI_optL]; have := setL_len (M := Mo); omega)).call ?_
          rw [putO_setL hix]
          (try (simp (disch := first | omega | (simp <;> omega) | fail) only [push_cast, ↓reduceIte, Nat.reduceEqDiff, Nat.reduceAdd, Nat.reduceMul, Nat.reduceSub, Nat.reduceLT, Int.reduceToNat]))
          all_goals (try exact ⟨_, rfl, hst⟩)
        · rw [hb, if_pos rfl] at hst
          (try (simp (disch := first | omega | (simp <;> omega) | fail) only [push_cast, ↓reduceIte, Nat.reduceEqDiff, Nat.reduceAdd, Nat.reduceMul, Nat.reduceSub, Nat.reduceLT, Int.reduceToNat]))
          all_goals (try exact ⟨_, rfl, hst⟩)
      · (try (simp only [decide_eq_true_eq, decide_eq_false_iff_not, Bool.not_eq_true', Bool.not_eq_false', Bool.and_eq_true, Bool.or_eq_true, Int.not_lt, Int.not_le] at hc)); (try (simp (disch := first | omega | (simp <;> omega) | fail) only [push_cast, ↓reduceIte, Nat.reduceEqDiff, Nat.reduceAdd, Nat.reduceMul, Nat.reduceSub, Nat.reduceLT, Int.reduceToNat]))
        have hie : i = (setL Mb).length := by omega
        subst hie
        rw [List.take_length] at hMo
        have hf := fin Mo hMo
        (try (simp (disch := first | omega | (simp <;> omega) | fail) only [push_cast, ↓reduceIte, Nat.reduceEqDiff, Nat.reduceAdd, Nat.reduceMul, Nat.reduceSub, Nat.reduceLT, Int.reduceToNat]))
        rw [← hf]

def eLs (n m : Nat) : Option (List Nat) → AV
  | none => .nils
  | some l => .ro 4 (l.flatMap (cLn n m)) l.length
def lL : Option (List Nat) → List Nat
  | none => []
  | some l => l
theorem lenA_eLs {n m : Nat} {l : Option (List Nat)} : lenA (eLs n m l) = some (.int .i64 (lL l).length) := by cases l <;> rfl
theorem iaddr_eLs {n m : Nat} {l : Option (List Nat)} {k : IntKind} {i : Int} (h1 : 0 ≤ i) (h2 : i < (lL l).length) : iaddrA 4 (eLs n m l) (.int k i) = some (.rad ((lL l).flatMap (cLn n m)) (i.toNat * 4)) := by
  cases l with
  | none => simp [lL] at h2; omega
  | some l => exact iaddrA_ro h1 h2
theorem ld_Ln {n m : Nat} {l : List Nat} {i : Nat} (hi : i < l.length) : ld true 4 (l.flatMap (cLn n m)) (i * 4) = some (.agg (cLn n m (l.getD i 0))) := ld_row (cLn_len n m) 0 hi
theorem one_eLs {n m : Nat} {l : Option (List Nat)} : one (eLs n m l) = true := by cases l <;> rfl
theorem cellsOf_eLs {n m : Nat} {l : Option (List Nat)} : cellsOf (eLs n m l) = [eLs n m l] := by cases l <;> rfl
theorem free_eLs {n m : Nat} {l : Option (List Nat)} : Free (eLs n m l) := by
  cases l with
  | none => exact free_nils
  | some l => exact free_ro (fun c hc => by obtain ⟨p, _, hp⟩ := List.mem_flatMap.1 hc; exact free_cLn c hp)
theorem ok_eLs {n m : Nat} {l : Option (List Nat)} (h : OkV (eLs n m l)) : (lL l).length ≤ 9223372036854775807 := by
  cases l with
  | none => simp [lL]
  | some l => exact h.ro.1
theorem lead_mod {n X : Nat} : lead n (X % 2 ^ n) = lead n X := lead_congr fun j hj => by rw [Nat.testBit_mod_two_pow]; simp [hj]
theorem leadI_mod {n X : Nat} : leadI n (X % 2 ^ n) = leadI n X := by
  unfold leadI
  rw [lead_mod]
theorem Nat.testBit_xor_ {X Y n : Nat} : (X ^^^ Y).testBit n = (X.testBit n != Y.testBit n) := by
  rw [Nat.testBit_xor]
/-- The line being reduced, in its box. -/
def RdI (h h' : H) (n m X : Nat) : Prop := h.length + 1 < h'.length ∧ h'.cells h.length = some [.int .i64 n, eI (some (wordsN (X % 2 ^ n) m)), .bool (X.testBit n), eI (optL (setL (X >>> (n + 1))))] ∧ h'.cells (h.length + 1) = some [.int .i64 0, .nils, .bool false, .nils] ∧ ∀ b, b < h.length → h'[b]? = h[b]?
theorem RdI.app {h h' l : H} {n m X : Nat} (hr : RdI h h' n m X) : RdI h (h' ++ l) n m X := ⟨by have := hr.1; simp; omega, cells_app hr.2.1, cells_app hr.2.2.1, fun b hb => by rw [List.getElem?_append_left (by have := hr.1; omega)]; exact hr.2.2.2 b hb⟩
theorem RdI.put {h h' : H} {n m X Y : Nat} (hr : RdI h h' n m X) : RdI h (wr h' h.length [.int .i64 n, eI (some (wordsN (Y % 2 ^ n) m)), .bool (Y.testBit n), eI (optL (setL (Y >>> (n + 1))))]) n m Y := by
  obtain ⟨h1, h2, h3, h4⟩ := hr
  refine ⟨by simpa [wr] using h1, cells_wr2 (by omega), ?_, fun b hb => ?_⟩
  · rw [cells_eq]
    unfold wr
    rw [List.getElem?_set_ne (by omega), ← cells_eq]
    exact h3
  · unfold wr
    rw [List.getElem?_set_ne (by omega)]
    exact h4 b hb
theorem cells_same {h h' : H} {b : Nat} {cs : List AV} (hc : h.cells b = some cs) (hk : ∀ b, b < h.length → h'[b]? = h[b]?) : h'.cells b = some cs := by
  rw [cells_eq, hk b (cells_lt hc), ← cells_eq]
  exact hc

set_option maxHeartbeats 2000000 in
theorem c_spec_reReduce (n m x : Nat) (L : List Nat) (h : H) (v : AV) (B : List Nat) (hs : S1 h 4 v L.length (L.flatMap (cLn n m)) B) (hlen : L.length ≤ 1000000) (hm : (((n : Int) + 15) / 16) = (m : Int)) (hn : n ≤ 100000) :
    Call Try.prog 105 [v, .agg (cLn n m x)] h Nowhere (fun y h' => y = .agg (cLn n m (redS n L x)) ∧ h' = h) := by
  refine Call.gc (Call.mono (?_ : Call Try.prog 105 [v, .agg (cLn n m x)] h Nowhere (fun y _ => y = .agg (cLn n m (redS n L x)))) (fun y _ hy => ⟨hy, by rw [hy]; exact free_agg free_cLn⟩) (fun _ _ h => h))
  refine enter (by kernel_rfl) e105 (by kernel_rfl) rfl fun hok => ?_
  simp only [r105, initEnv_2]
  have hlv : lenA v = some (.int .i64 L.length) := by
    rcases hs.2 with ⟨rfl, h0, _⟩ | ⟨b, rfl, _, _⟩
    · rw [h0]
      rfl
    · rfl
  have hm1 : n ≤ 16 * m := by omega
  have hm2 : m ≤ 100000 := by omega
  unfold cLn
  (try (simp (disch := first | omega | (simp <;> omega) | fail) only [push_cast, ↓reduceIte, Nat.reduceEqDiff, Nat.reduceAdd, Nat.reduceMul, Nat.reduceSub, Nat.reduceLT, Int.reduceToNat]))
  refine T_for n (fun i e h' => Pins e [(0, v), (3, .adr h.length 0), (4, .adr (h.length + 1) 0), (5, .int .i64 i)] ∧ RdI h h' n m (redTo n L x i)) ?_ ?_
  · (try (simp (disch := first | omega | (simp <;> omega) | fail) only [push_cast, ↓reduceIte, Nat.reduceEqDiff, Nat.reduceAdd, Nat.reduceMul, Nat.reduceSub, Nat.reduceLT, Int.reduceToNat]))
    all_goals (try exact ⟨by simp, by rw [cells_h0]; rfl, by rw [cells_hk]; rfl, fun b hb => List.getElem?_append_left hb⟩)
  rintro i e h' hi ⟨hp, hr⟩
  refine T_pins hp fun e => ?_
  obtain ⟨r1, r2, r3, r4⟩ := hr
  (try (simp (disch := first | omega | (simp <;> omega) | fail) only [push_cast, ↓reduceIte, Nat.reduceEqDiff, Nat.reduceAdd, Nat.reduceMul, Nat.reduceSub, Nat.reduceLT, Int.reduceToNat, r2]))
  first | refine goC_split (fun hc => ?_) (fun hc => ?_) | refine cnd_split (fun hc => ?_) (fun hc => ?_)
  · (try (simp only [decide_eq_true_eq, decide_eq_false_iff_not, Bool.not_eq_true', Bool.not_eq_false', Bool.and_eq_true, Bool.or_eq_true, Int.not_lt, Int.not_le] at hc)); (try (simp (disch := first | omega | (simp <;> omega) | fail) only [push_cast, ↓reduceIte, Nat.reduceEqDiff, Nat.reduceAdd, Nat.reduceMul, Nat.reduceSub, Nat.reduceLT, Int.reduceToNat]))
    have hin : i < n := by omega
    (try (simp (disch := first | omega | (simp <;> omega) | fail) only [push_cast, ↓reduceIte, Nat.reduceEqDiff, Nat.reduceAdd, Nat.reduceMul, Nat.reduceSub, Nat.reduceLT, Int.reduceToNat, r2, hlv]))
    refine T_for L.length (fun j e h' => Pins e [(0, v), (3, .adr h.length 0), (4, .adr (h.length + 1) 0), (5, .int .i64 i), (15, v), (16, .int .i64 L.length), (17, .int .i64 j)] ∧ RdI h h' n m (redCol n i (L.take j) (redTo n L x i))) ?_ ?_
    · (try (simp (disch := first | omega | (simp <;> omega) | fail) only [push_cast, ↓reduceIte, Nat.reduceEqDiff, Nat.reduceAdd, Nat.reduceMul, Nat.reduceSub, Nat.reduceLT, Int.reduceToNat]))
      all_goals (try exact ⟨r1, r2, r3, r4⟩)
    clear r1 r2 r3 r4 hp
    rintro j e h' hj ⟨hp, hr⟩
    refine T_pins hp fun e => ?_
    obtain ⟨X, hX⟩ : ∃ X, X = redCol n i (L.take j) (redTo n L x i) := ⟨_, rfl⟩
    rw [← hX] at hr
    have hr0 := hr
    obtain ⟨r1, r2, r3, r4⟩ := hr
    (try (simp (disch := first | omega | (simp <;> omega) | fail) only [push_cast, ↓reduceIte, Nat.reduceEqDiff, Nat.reduceAdd, Nat.reduceMul, Nat.reduceSub, Nat.reduceLT, Int.reduceToNat]))
    first | refine goC_split (fun hd => ?_) (fun hd => ?_) | refine cnd_split (fun hd => ?_) (fun hd => ?_)
    · (try (simp only [decide_eq_true_eq, decide_eq_false_iff_not, Bool.not_eq_true', Bool.not_eq_false', Bool.and_eq_true, Bool.or_eq_true, Int.not_lt, Int.not_le] at hd)); (try (simp (disch := first | omega | (simp <;> omega) | fail) only [push_cast, ↓reduceIte, Nat.reduceEqDiff, Nat.reduceAdd, Nat.reduceMul, Nat.reduceSub, Nat.reduceLT, Int.reduceToNat]))
      have hj2 : j < L.length := by omega
      obtain ⟨l, hl⟩ : ∃ l, l = L.getD j 0 := ⟨_, rfl⟩
      have hld : ld true 4 (L.flatMap (cLn n m)) (j * 4) = some (.agg [.int .i64 n, eI (some (wordsN (l % 2 ^ n) m)), .bool (l.testBit n), eI (optL (setL (l >>> (n + 1))))]) := by
        rw [ld_Ln hj2, ← hl]
        rfl
      have hst : redCol n i (L.take (j + 1)) (redTo n L x i) = if lead n l = i ∧ X.testBit i = true then X ^^^ l else X := by
        unfold redCol at hX ⊢
        rw [List.take_add_one, List.foldl_append, ← hX]
        simp [hj2, hl]
      obtain ⟨b, hb, hbc⟩ : ∃ b, v = .sl b 0 4 L.length L.length ∧ h.cells b = some (L.flatMap (cLn n m)) := by
        rcases hs.2 with ⟨_, h0, _⟩ | ⟨b, hb, _, hbc⟩
        · omega
        · exact ⟨b, hb, hbc⟩
      have hbc2 := cells_same hbc r4
      have hia : iaddrA 4 v (.int .i64 (j : Int)) = some (.adr b (j * 4)) := by
        rw [hb, iaddrA_sl (by omega) (by omega)]
        simp
      (try (simp (disch := first | omega | (simp <;> omega) | fail) only [push_cast, ↓reduceIte, Nat.reduceEqDiff, Nat.reduceAdd, Nat.reduceMul, Nat.reduceSub, Nat.reduceLT, Int.reduceToNat, hia, hbc2, hld]))
      refine (c_spec_reFirst2 (some (wordsN (l % 2 ^ n) m)) n m (l % 2 ^ n) rfl hm1 hm2).call ?_
      rw [leadI_mod]
      have hLi : (leadI n l = (i : Int)) ↔ lead n l = i := by
        unfold leadI
        split <;> omega
      have r2' := cells_app (l := [some (.cells [.int .i64 n, eI (some (wordsN (l % 2 ^ n) m)), .bool (l.testBit n), eI (optL (setL (l >>> (n + 1))))])]) r2
      by_cases hli : lead n l = i
      · have hli2 : leadI n l = (i : Int) := hLi.2 hli
        (try (simp (disch := first | omega | (simp <;> omega) | fail) only [push_cast, ↓reduceIte, Nat.reduceEqDiff, Nat.reduceAdd, Nat.reduceMul, Nat.reduceSub, Nat.reduceLT, Int.reduceToNat, hli2, r2']))
        refine (c_spec_biAt ⟨n, some (wordsN (X % 2 ^ n) m)⟩ (X % 2 ^ n) m i rfl (by omega) (by omega)).call ?_
        have hxb : (X % 2 ^ n).testBit i = X.testBit i := by
          rw [Nat.testBit_mod_two_pow]
          simp [hin]
        rw [hxb]
        cases hb : X.testBit i
        · rw [if_neg (by simp [hb])] at hst
          (try (simp (disch := first | omega | (simp <;> omega) | fail) only [push_cast, ↓reduceIte, Nat.reduceEqDiff, Nat.reduceAdd, Nat.reduceMul, Nat.reduceSub, Nat.reduceLT, Int.reduceToNat, r2']))
          all_goals (try rw [hst])
          all_goals (try exact hr0.app)
        · rw [if_pos ⟨hli, hb⟩] at hst
          have hadd := c_spec_reAdd2 (some (wordsN (X % 2 ^ n) m)) (some (wordsN (l % 2 ^ n) m)) (X.testBit n) (l.testBit n) n m (X % 2 ^ n) (l % 2 ^ n) (X >>> (n + 1)) (l >>> (n + 1)) rfl rfl hm hn
          rw [xor_mod, ← Nat.testBit_xor_, ← Nat.shiftRight_xor_distrib] at hadd
          (try (simp (disch := first | omega | (simp <;> omega) | fail) only [push_cast, ↓reduceIte, Nat.reduceEqDiff, Nat.reduceAdd, Nat.reduceMul, Nat.reduceSub, Nat.reduceLT, Int.reduceToNat, r2']))
          refine hadd.call ?_
          (try (simp (disch := first | omega | (simp <;> omega) | fail) only [push_cast, ↓reduceIte, Nat.reduceEqDiff, Nat.reduceAdd, Nat.reduceMul, Nat.reduceSub, Nat.reduceLT, Int.reduceToNat, r2']))
          all_goals (try rw [hst])
          all_goals (try exact hr0.app.put)
      · have hli2 : ¬ leadI n l = (i : Int) := fun h => hli (hLi.1 h)
        rw [if_neg (fun h => hli h.1)] at hst
        (try (simp (disch := first | omega | (simp <;> omega) | fail) only [push_cast, ↓reduceIte, Nat.reduceEqDiff, Nat.reduceAdd, Nat.reduceMul, Nat.reduceSub, Nat.reduceLT, Int.reduceToNat, hli2, r2']))
        all_goals (try rw [hst])
        all_goals (try exact hr0.app)
    · (try (simp only [decide_eq_true_eq, decide_eq_false_iff_not, Bool.not_eq_true', Bool.not_eq_false', Bool.and_eq_true, Bool.or_eq_true, Int.not_lt, Int.not_le] at hd)); (try (simp (disch := first | omega | (simp <;> omega) | fail) only [push_cast, ↓reduceIte, Nat.reduceEqDiff, Nat.reduceAdd, Nat.reduceMul, Nat.reduceSub, Nat.reduceLT, Int.reduceToNat]))
      have hje : j = L.length := by omega
      subst hje
      rw [List.take_length] at hX
      have hto : redTo n L x (i + 1) = X := by
        rw [redTo, hX]
      (try (simp (disch := first | omega | (simp <;> omega) | fail) only [push_cast, ↓reduceIte, Nat.reduceEqDiff, Nat.reduceAdd, Nat.reduceMul, Nat.reduceSub, Nat.reduceLT, Int.reduceToNat]))
      all_goals (try rw [hto])
      all_goals (try exact hr0)
  · (try (simp only [decide_eq_true_eq, decide_eq_false_iff_not, Bool.not_eq_true', Bool.not_eq_false', Bool.and_eq_true, Bool.or_eq_true, Int.not_lt, Int.not_le] at hc)); (try (simp (disch := first | omega | (simp <;> omega) | fail) only [push_cast, ↓reduceIte, Nat.reduceEqDiff, Nat.reduceAdd, Nat.reduceMul, Nat.reduceSub, Nat.reduceLT, Int.reduceToNat]))
    have hin : i = n := by omega
    subst hin
    have hw := cells_wr2 r1 (cs := [AV.int .i64 (i : Int), eI (some (wordsN (redTo i L x i % 2 ^ i) m)), .bool ((redTo i L x i).testBit i), eI (optL (setL (redTo i L x i >>> (i + 1))))])
    have hpm : (h.length ≤ h.length + 1) = True := by simp
    (try (simp (disch := first | omega | (simp <;> omega) | fail) only [push_cast, ↓reduceIte, Nat.reduceEqDiff, Nat.reduceAdd, Nat.reduceMul, Nat.reduceSub, Nat.reduceLT, Int.reduceToNat, r2, r3, hw, hpm]))
    all_goals (try rfl)

def risFrom (l : List Int) (lo hi : Int) : Nat → Bool
  | 0 => true
  | i + 1 => risFrom l lo hi i && ((decide (lo ≤ l.getD i 0) && decide (l.getD i 0 ≤ hi)) && (decide (i = 0) || decide (l.getD (i - 1) 0 < l.getD i 0)))
theorem risFrom_false {l : List Int} {lo hi : Int} {i : Nat} : ∀ {j}, i ≤ j → risFrom l lo hi i = false → risFrom l lo hi j = false
  | 0, h, hf => by
    rw [show i = 0 by omega] at hf
    exact hf
  | j + 1, h, hf => by
    by_cases hi2 : i = j + 1
    · rw [← hi2]
      exact hf
    · simp [risFrom, risFrom_false (show i ≤ j by omega) hf]
theorem risFrom_get {l : List Int} {lo hi : Int} : ∀ {n}, risFrom l lo hi n = true → ∀ i, i < n → lo ≤ l.getD i 0 ∧ l.getD i 0 ≤ hi
  | 0, _, i, h => by omega
  | n + 1, hr, i, h => by
    simp only [risFrom, Bool.and_eq_true, decide_eq_true_eq] at hr
    by_cases hin : i = n
    · subst hin
      exact hr.2.1
    · exact risFrom_get hr.1 i (by omega)

def cL (n : Nat) (w : Option (List Int)) (r : Bool) : List AV := [.int .i64 n, eI w, .bool r, .nils]
theorem free_cL {n : Nat} {w : Option (List Int)} {r : Bool} : Free (.agg (cL n w r)) := free_agg (free_cons_ free_int (free_cons_ free_eI (free_cons_ free_bool (free_cons_ free_nils free_nil_))))

theorem okBt_num {b : Bt} (h : okBt b = true) : lI b.words = wordsN (numW (lI b.words)) (lI b.words).length ∧ 0 ≤ b.size ∧ b.size ≤ 4096 ∧ ((lI b.words).length : Int) = (b.size + 15) / 16 := by
  simp only [okBt, okWords, Bool.and_eq_true, decide_eq_true_eq, List.all_eq_true] at h
  exact ⟨(wordsN_num h.2.2.1).symm, h.1.1, h.1.2, h.2.1⟩

def rowB (s : Sy) (i : Nat) : Nat := numW (lI ((lB s.rows).getD i default).words)
def sumB (s : Sy) (l : List Int) : Nat := l.foldl (fun B i => B ^^^ rowB s i.toNat) 0
def sumR (s : Sy) (l : List Int) : Bool := l.foldl (fun r i => r != (lO s.right).getD i.toNat false) false
theorem sumB_take {s : Sy} {l : List Int} {i : Nat} (hi : i < l.length) : sumB s (l.take (i + 1)) = sumB s (l.take i) ^^^ rowB s (l.getD i 0).toNat := by
  unfold sumB
  rw [List.take_add_one, List.foldl_append]
  simp [hi]
theorem sumR_take {s : Sy} {l : List Int} {i : Nat} (hi : i < l.length) : sumR s (l.take (i + 1)) = (sumR s (l.take i) != (lO s.right).getD (l.getD i 0).toNat false) := by
  unfold sumR
  rw [List.take_add_one, List.foldl_append]
  simp [hi]
def refSum (s : Sy) (l : List Int) : Bool := sumR s l && noBit (sumB s l) s.size.toNat
def refV (s : Sy) (l : List Int) : AV := if okSy s then (if risFrom l 0 (((lB s.rows).length : Int) - 1) l.length then .tup [.bool (refSum s l), .bool true] else .tup [.bool false, .bool true]) else .tup [.bool false, .bool false]
theorem refV_tup {s : Sy} {l : List Int} : ∃ a b, refV s l = .tup [.bool a, .bool b] := by
  unfold refV
  split
  · split <;> exact ⟨_, _, rfl⟩
  · exact ⟨_, _, rfl⟩
theorem free_refV {s : Sy} {l : List Int} : Free (refV s l) := by
  obtain ⟨a, b, h⟩ := refV_tup (s := s) (l := l)
  rw [h]
  exact free_tup (free_cons_ free_bool (free_cons_ free_bool free_nil_))
structure OkS (s : Sy) (n m : Nat) : Prop where
  sz : s.size = (n : Int)
  n1 : 1 ≤ n
  n2 : n ≤ 72
  hm : (((n : Int) + 15) / 16) = (m : Int)
  nr : (lB s.rows).length ≤ 40
  lr : (lO s.right).length = (lB s.rows).length
  w : ∀ i, i < (lB s.rows).length → lI ((lB s.rows).getD i default).words = wordsN (rowB s i) m ∧ ((lB s.rows).getD i default).size = (n : Int)
theorem okS_of {s : Sy} (h : okSy s = true) : ∃ n m, OkS s n m := by
  simp only [okSy, Bool.and_eq_true, decide_eq_true_eq] at h
  obtain ⟨⟨h1, h2⟩, h3, h4, h5⟩ := h
  obtain ⟨n, hn⟩ : ∃ n : Nat, s.size = (n : Int) := ⟨s.size.toNat, by omega⟩
  refine ⟨n, (n + 15) / 16, hn, by omega, by omega, by omega, by omega, by omega, fun i hi => ?_⟩
  have hr := List.all_eq_true.1 h5 ((lB s.rows).getD i default) (by simp [hi])
  simp only [okRow, Bool.and_eq_true, decide_eq_true_eq] at hr
  obtain ⟨q1, q2, q3, q4⟩ := okBt_num hr.1
  have hm : (lI ((lB s.rows).getD i default).words).length = (n + 15) / 16 := by omega
  refine ⟨?_, by omega⟩
  unfold rowB
  rw [← hm]
  exact q1
/-- The sum so far, in the block behind the system's. -/
def SrI (h h' : H) (s : Sy) (n m : Nat) (l : List Int) : Prop :=
  h.length + 1 < h'.length ∧ h'.cells h.length = some [.int .i64 n, eBS s.rows, eO s.right] ∧
  ∃ ws X, lI ws = wordsN X m ∧ h'.cells (h.length + 1) = some [.int .i64 n, eI ws, .bool (sumR s l), .nils] ∧ ∀ j, j < n → X.testBit j = (sumB s l).testBit j
theorem SrI.put {h h' : H} {s : Sy} {n m i : Nat} {l : List Int} {X Bi : Nat} (hs : SrI h h' s n m (l.take i)) (hi : i < l.length) (hX : ∀ j, j < n → X.testBit j = (sumB s (l.take i)).testBit j) (hB : Bi = rowB s (l.getD i 0).toNat) :
    SrI h (wr h' (h.length + 1) [.int .i64 n, eI (some (wordsN ((X ^^^ Bi) % 2 ^ n) m)), .bool (sumR s (l.take i) != (lO s.right).getD (l.getD i 0).toNat false), .nils]) s n m (l.take (i + 1)) := by
  obtain ⟨s1, s2, _⟩ := hs
  refine ⟨by simpa [wr] using s1, ?_, some (wordsN ((X ^^^ Bi) % 2 ^ n) m), (X ^^^ Bi) % 2 ^ n, rfl, ?_, fun j hj => ?_⟩
  · rw [cells_eq]
    unfold wr
    rw [List.getElem?_set_ne (by omega), ← cells_eq]
    exact s2
  · rw [cells_wr2 s1, sumR_take hi]
  · rw [Nat.testBit_mod_two_pow, Nat.testBit_xor, sumB_take hi, Nat.testBit_xor, hX j hj, hB]
    simp [hj]

theorem Sp.lt {L : List Nat} {k : Nat} (h : ∀ x ∈ L, x < 2 ^ k) {v : Nat} (hv : Sp L v) : v < 2 ^ k := by
  induction hv with
  | zero => exact Nat.two_pow_pos k
  | add _ hx ih => exact Nat.xor_lt_two_pow ih (h _ hx)
theorem numW_lt2 {r : Nat} : ∀ {ws : List Int}, (∀ w ∈ ws, 0 ≤ w ∧ w ≤ 65535) → ws ≠ [] → (ws.getD (ws.length - 1) 0).toNat < 2 ^ r → numW ws < 2 ^ (16 * (ws.length - 1) + r)
  | [], _, h, _ => absurd rfl h
  | [w], _, _, hl => by simpa [numW] using hl
  | w :: w2 :: ws, h, _, hl => by
    have ih := numW_lt2 (r := r) (ws := w2 :: ws) (fun x hx => h x (List.mem_cons_of_mem _ hx)) (by simp) (by simpa using hl)
    have h0 := h w (by simp)
    rw [numW]
    have e : 16 * ((w :: w2 :: ws).length - 1) + r = (16 * ((w2 :: ws).length - 1) + r) + 16 := by simp; omega
    rw [e, Nat.pow_add]
    generalize 2 ^ (16 * ((w2 :: ws).length - 1) + r) = t at ih ⊢
    rw [show (2 : Nat) ^ 16 = 65536 from rfl]
    omega
theorem okRow_lt {b : Bt} {n : Nat} (h : okRow (n : Int) b = true) (hn : 1 ≤ n) (hn2 : n ≤ 72) : numW (lI b.words) < 2 ^ n := by
  simp only [okRow, okBt, okWords, lastOk, Bool.and_eq_true, Bool.or_eq_true, decide_eq_true_eq, List.all_eq_true] at h
  obtain ⟨⟨⟨h1, h2⟩, h3, h4, h5⟩, h6⟩ := h
  rw [h6] at h3 h5
  rcases h5 with h5 | h5
  · have := numW_lt h4
    have e : 16 * (lI b.words).length = n := by omega
    rwa [e] at this
  · by_cases hz : (n : Int) % 16 = 0
    · have := numW_lt h4
      have e : 16 * (lI b.words).length = n := by omega
      rwa [e] at this
    · have hne : lI b.words ≠ [] := fun h0 => by
        rw [h0] at h3
        simp at h3
        omega
      have hlen : 0 < (lI b.words).length := List.length_pos_iff.2 hne
      have hmem := h4 ((lI b.words).getD ((lI b.words).length - 1) 0) (by
        rw [List.getD_eq_getElem?_getD, List.getElem?_eq_getElem (by omega)]
        exact List.getElem_mem _)
      have hr : min ((n : Int) % 16).toNat IntKind.i64.bits = n % 16 := by
        simp [IntKind.bits]
        omega
      rw [hr] at h5
      obtain ⟨x, hx⟩ : ∃ x : Nat, (lI b.words).getD ((lI b.words).length - 1) 0 = (x : Int) := ⟨_, (Int.toNat_of_nonneg hmem.1).symm⟩
      rw [hx] at h5
      have hp : ((2 : Int) ^ (n % 16)) = ((2 ^ (n % 16) : Nat) : Int) := by simp
      rw [hp, ← Int.ofNat_fdiv] at h5
      have hdiv : x / 2 ^ (n % 16) = 0 := by exact_mod_cast h5
      have hxl : x < 2 ^ (n % 16) := by
        rcases Nat.lt_or_ge x (2 ^ (n % 16)) with hh | hh
        · exact hh
        · have := Nat.div_pos hh (Nat.two_pow_pos _)
          omega
      have := numW_lt2 (r := n % 16) h4 hne (by rw [hx, Int.toNat_natCast]; exact hxl)
      have e : 16 * ((lI b.words).length - 1) + n % 16 = n := by omega
      rwa [e] at this
structure OkE (s : Sy) (n m : Nat) : Prop extends OkS s n m where
  lt : ∀ i, i < (lB s.rows).length → rowB s i < 2 ^ n
theorem okE_of {s : Sy} (h : okSy s = true) : ∃ n m, OkE s n m := by
  obtain ⟨n, m, ho⟩ := okS_of h
  refine ⟨n, m, ho, fun i hi => ?_⟩
  simp only [okSy, Bool.and_eq_true, decide_eq_true_eq] at h
  obtain ⟨_, _, _, h5⟩ := h
  have hr := List.all_eq_true.1 h5 ((lB s.rows).getD i default) (by simp [hi])
  rw [ho.sz] at hr
  exact okRow_lt hr ho.n1 ho.n2
theorem OkE.some {s : Sy} {n m : Nat} (ho : OkE s n m) {i : Nat} (hi : i < (lB s.rows).length) : ((lB s.rows).getD i default).words = some (wordsN (rowB s i) m) := by
  have hw := (ho.w i hi).1
  have hm := ho.hm
  have h1 := ho.n1
  cases hh : ((lB s.rows).getD i default).words with
  | none =>
    rw [hh] at hw
    have := congrArg List.length hw
    rw [wordsN_len] at this
    simp [lI] at this
    omega
  | some l =>
    rw [hh] at hw
    rw [← hw]
    rfl
/-- A row with its right side and its number, as one number. -/
def rowE (s : Sy) (n i : Nat) : Nat := rowB s i + 2 ^ n * (((lO s.right).getD i false).toNat + 2 * 2 ^ i)
theorem rowE_row {s : Sy} {n i : Nat} (h : rowB s i < 2 ^ n) : rowE s n i % 2 ^ n = rowB s i := by
  unfold rowE
  rw [Nat.add_mul_mod_self_left, Nat.mod_eq_of_lt h]
theorem rowE_div {s : Sy} {n i : Nat} (h : rowB s i < 2 ^ n) : rowE s n i / 2 ^ n = ((lO s.right).getD i false).toNat + 2 * 2 ^ i := by
  unfold rowE
  rw [Nat.add_mul_div_left _ _ (Nat.two_pow_pos n), Nat.div_eq_of_lt h, Nat.zero_add]
theorem rowE_right {s : Sy} {n i : Nat} (h : rowB s i < 2 ^ n) : (rowE s n i).testBit n = (lO s.right).getD i false := by
  rw [Nat.testBit_eq_decide_div_mod_eq, rowE_div h]
  cases (lO s.right).getD i false
  · simp
  · simp
theorem rowE_of {s : Sy} {n i : Nat} (h : rowB s i < 2 ^ n) : rowE s n i >>> (n + 1) = 2 ^ i := by
  rw [Nat.shiftRight_eq_div_pow, Nat.pow_succ, ← Nat.div_div_eq_div_mul, rowE_div h]
  cases (lO s.right).getD i false
  · simp
  · simp
    omega
theorem rowE_bit {s : Sy} {n i : Nat} (h : rowB s i < 2 ^ n) : (rowE s n i).testBit (n + 1 + i) = true := by
  have := Nat.testBit_shiftRight (x := rowE s n i) (i := n + 1) (j := i)
  rw [rowE_of h] at this
  rw [← this]
  simp
theorem rowE_lt {s : Sy} {n i : Nat} (h : rowB s i < 2 ^ n) : rowE s n i < 2 ^ (n + 1 + (i + 1)) := by
  have h1 := rowE_of h
  rw [Nat.shiftRight_eq_div_pow] at h1
  have h2 := Nat.div_add_mod (rowE s n i) (2 ^ (n + 1))
  have h3 := Nat.mod_lt (rowE s n i) (Nat.two_pow_pos (n + 1))
  rw [h1] at h2
  rw [Nat.pow_add]
  have h4 : (2 : Nat) ^ (n + 1) * 2 ^ (i + 1) = 2 ^ (n + 1) * 2 ^ i + 2 ^ (n + 1) * 2 ^ i := by
    rw [Nat.pow_succ 2 i, ← Nat.mul_assoc]
    omega
  have h5 : 2 ^ (n + 1) * 1 ≤ 2 ^ (n + 1) * 2 ^ i := Nat.mul_le_mul_left _ (Nat.one_le_two_pow)
  omega
/-- What is known of the sums' numbers of rows. -/
structure Msk (n i : Nat) (p : List Nat × Nat) : Prop where
  lt : ∀ l ∈ p.1, l < 2 ^ (n + 1 + i)
  some : p.2 ≠ 0 → ∃ j, j < i ∧ p.2.testBit (n + 1 + j) = true
theorem Msk.stepS {n i e : Nat} {p : List Nat × Nat} (h : Msk n i p) (hb : e.testBit (n + 1 + i) = true) (hl : e < 2 ^ (n + 1 + (i + 1))) : Msk n (i + 1) (M.stepS n p e) := by
  obtain ⟨u, hu, hx⟩ := redS_span (n := n) (L := p.1) (x := e)
  have hult := hu.lt h.lt
  have hub : u.testBit (n + 1 + i) = false := Nat.testBit_lt_two_pow hult
  have hpow : (2 : Nat) ^ (n + 1 + i) ≤ 2 ^ (n + 1 + (i + 1)) := Nat.pow_le_pow_right (by decide) (by omega)
  have hxl : redS n p.1 e < 2 ^ (n + 1 + (i + 1)) := by
    rw [hx]
    exact Nat.xor_lt_two_pow hl (by omega)
  have hxb : (redS n p.1 e).testBit (n + 1 + i) = true := by
    rw [hx, Nat.testBit_xor, hb, hub]
    rfl
  have hold : ∀ l ∈ p.1, l < 2 ^ (n + 1 + (i + 1)) := fun l hm => by have := h.lt l hm; omega
  have hs : p.2 ≠ 0 → ∃ j, j < i + 1 ∧ p.2.testBit (n + 1 + j) = true := fun hne => by
    obtain ⟨j, hj, hjb⟩ := h.some hne
    exact ⟨j, by omega, hjb⟩
  unfold M.stepS
  split
  · refine ⟨fun l hm => ?_, hs⟩
    rcases List.mem_append.1 hm with hm | hm
    · exact hold l hm
    · rw [List.mem_singleton.1 hm]
      exact hxl
  · split
    · exact ⟨hold, fun _ => ⟨i, by omega, hxb⟩⟩
    · exact ⟨hold, hs⟩
def stS (s : Sy) (n i : Nat) : List Nat × Nat := ((List.range i).map (rowE s n)).foldl (M.stepS n) ([], 0)
theorem stS_succ {s : Sy} {n i : Nat} : stS s n (i + 1) = M.stepS n (stS s n i) (rowE s n i) := by
  unfold stS
  rw [List.range_succ, List.map_append, List.foldl_append]
  rfl
theorem OkE.msk {s : Sy} {n m : Nat} (ho : OkE s n m) : ∀ {i}, i ≤ (lB s.rows).length → Msk n i (stS s n i)
  | 0, _ => ⟨fun l h => (by cases h), fun h => absurd rfl h⟩
  | i + 1, h => by
    rw [stS_succ]
    have hlt := ho.lt i (by omega)
    exact (ho.msk (i := i) (by omega)).stepS (rowE_bit hlt) (rowE_lt hlt)
theorem stS_len {s : Sy} {n : Nat} : ∀ {i}, (stS s n i).1.length ≤ i
  | 0 => by simp [stS]
  | i + 1 => by
    have := stS_len (s := s) (n := n) (i := i)
    rw [stS_succ]
    unfold M.stepS
    split
    · simp
      omega
    · split <;> simp <;> omega
def optN (l : List Nat) : Option (List Nat) := if l = [] then none else some l
theorem lL_optN {l : List Nat} : lL (optN l) = l := by
  unfold optN
  split
  · rename_i h
    rw [h]
    rfl
  · rfl
theorem setL_pow {i : Nat} (hi : i < 64) : setL (2 ^ i) = [(i : Int)] := by
  have h0 : setL 0 = [] := by
    unfold setL
    simp
  have := (put_setL (M := 0) hi (by simp)).1
  rw [h0, Nat.zero_or] at this
  rw [← this]
  rfl
theorem Msk.none {n i : Nat} {p : List Nat × Nat} (h : Msk n i p) (hi : i ≤ 64) : (setL (p.2 >>> (n + 1))).length = 0 ↔ p.2 = 0 := by
  constructor
  · intro h0
    by_cases hne : p.2 = 0
    · exact hne
    · obtain ⟨j, hj, hb⟩ := h.some hne
      have hm : (j : Int) ∈ setL (p.2 >>> (n + 1)) := (mem_setL (by omega)).2 (by rw [Nat.testBit_shiftRight]; exact hb)
      rw [List.eq_nil_of_length_eq_zero h0] at hm
      cases hm
  · intro h0
    rw [h0]
    simp [setL]
theorem vw_line {g : H} {b i n : Nat} {w : Option (List Int)} {q : Bool} (hc : g.cells b = .some [.int .i64 (i : Int)]) : Vw (filt (fun k => k == b) g) 0 (.agg [.int .i64 n, eI w, .bool q, .sl b 0 1 1 1]) (.agg [.int .i64 n, eI w, .bool q, .ro 1 [.int .i64 (i : Int)] 1]) := by
  refine .agg rfl fun k y t hy ht => ?_
  rcases k with _ | _ | _ | _ | k
  · simp at hy ht
    subst hy ht
    exact .free free_int
  · simp at hy ht
    subst hy ht
    exact .free free_eI
  · simp at hy ht
    subst hy ht
    exact .free free_bool
  · simp at hy ht
    subst hy ht
    exact vw_all (cs := [AV.int .i64 (i : Int)]) (Nat.zero_le _) (by rw [cells_filt (by simp)]; exact hc) (by simp) rfl (free_cons_ free_int free_nil_)
  · simp at hy
theorem eM_zero {k : Nat} : AV.nils = eI (optL (setL (0 >>> k))) := by
  have h0 : setL 0 = [] := by
    unfold setL
    simp
  rw [Nat.zero_shiftRight, h0]
  rfl
theorem filt_at {g0 g l : H} {o : Option AObj} {b : Nat} (hg : g = g0 ++ o :: l) (hb : g0.length = b) : filt (fun k => !(k == b)) g = g0 ++ none :: l := by
  subst hg hb
  exact filt_one
theorem sink_args {g : H} {v : AV} {n m i b E : Nat} {w : Option (List Int)} {q : Bool} (hc : g.cells b = .some [.int .i64 (i : Int)]) (hcl : cLn n m E = [.int .i64 n, eI w, .bool q, .ro 1 [.int .i64 (i : Int)] 1]) :
    ∀ (k : Nat) (x t : AV), [v, AV.agg [.int .i64 n, eI w, .bool q, .sl b 0 1 1 1]][k]? = .some x → [v, AV.agg (cLn n m E)][k]? = .some t → x = t ∨ Vw (filt (fun k => k == b) g) 0 x t := by
  intro k x t hx ht
  rcases k with _ | _ | k
  · simp at hx ht
    exact .inl (hx.symm.trans ht)
  · simp at hx ht
    subst hx ht
    rw [hcl]
    exact .inr (vw_line hc)
  · simp at hx
def linesV (s : Sy) (n m : Nat) : AV := .tup [eLs n m (optN (stS s n (lB s.rows).length).1), eI (optL (setL ((stS s n (lB s.rows).length).2 >>> (n + 1))))]
theorem one_cLn {n m : Nat} {L : List Nat} : (L.flatMap (cLn n m)).all one = true := by
  rw [List.all_eq_true]
  intro c hc
  obtain ⟨X, _, hX⟩ := List.mem_flatMap.1 hc
  revert c
  intro c _ hX
  unfold cLn at hX
  simp only [List.mem_cons, List.not_mem_nil, or_false] at hX
  rcases hX with rfl | rfl | rfl | rfl
  · rfl
  · exact one_eI
  · rfl
  · exact one_eI
theorem S1.vwLs {h : H} {n0 n m : Nat} {v : AV} {L : List Nat} {B : List Nat} (hs : S1 h 4 v L.length (L.flatMap (cLn n m)) B) (hb : ∀ b ∈ B, n0 ≤ b) (hnn : L = [] → v = .nils) : Vw h n0 v (eLs n m (optN L)) := by
  have hvw := hs.vw (ts := L.flatMap (cLn n m)) hb rfl one_cLn (fun i y t hy ht => by
    rw [hy] at ht
    injection ht with ht
    subst ht
    obtain ⟨X, _, hX⟩ := List.mem_flatMap.1 (List.mem_of_getElem? hy)
    exact .free (free_cLn _ hX))
  unfold optN
  by_cases hl : L = []
  · have := hnn hl
    subst this hl
    exact .free free_nils
  · rw [if_neg hl]
    rcases hvw with ⟨h0, _, _⟩ | ⟨_, hv⟩
    · exact absurd (List.eq_nil_of_length_eq_zero h0) hl
    · exact hv
/-- The lines so far: the system in its box, the lines in a slice of the call's own. -/
def LnI (h h' : H) (s : Sy) (n m : Nat) (v : AV) (B : List Nat) (L : List Nat) : Prop :=
  h.length < h'.length ∧ h'.cells h.length = .some [.int .i64 n, eBS s.rows, eO s.right] ∧ S1 h' 4 v L.length (L.flatMap (cLn n m)) B ∧ (∀ b ∈ B, h.length < b) ∧ (L = [] → v = .nils)

set_option maxHeartbeats 4000000 in
theorem c_spec_reLines (s : Sy) (n m : Nat) (ho : OkE s n m) : Fn Try.prog 71 [eSy s] (· = linesV s n m) := by
  refine Fn.froze_ fun h => ?_
  refine enter (by kernel_rfl) e71 (by kernel_rfl) rfl fun hok => ?_
  simp only [r71, initEnv_1]
  have hnr := ho.nr
  have hlr := ho.lr
  have hsz := ho.sz
  have hn1 := ho.n1
  have hn2 := ho.n2
  have hm := ho.hm
  (try (simp (disch := first | omega | (simp <;> omega) | fail) only [push_cast, ↓reduceIte, Nat.reduceEqDiff, Nat.reduceAdd, Nat.reduceMul, Nat.reduceSub, Nat.reduceLT, Int.reduceToNat]))
  refine T_for (lB s.rows).length (fun i e h' => ∃ v B, Pins e [(1, .adr h.length 0), (4, v), (5, eI (optL (setL ((stS s n i).2 >>> (n + 1))))), (10, eBS s.rows), (11, .int .i64 (lB s.rows).length), (12, .int .i64 i)] ∧ LnI h h' s n m v B (stS s n i).1) ?_ ?_
  · (try (simp (disch := first | omega | (simp <;> omega) | fail) only [push_cast, ↓reduceIte, Nat.reduceEqDiff, Nat.reduceAdd, Nat.reduceMul, Nat.reduceSub, Nat.reduceLT, Int.reduceToNat, hsz]))
    exact ⟨_, [], ⟨rfl, eM_zero⟩, by simp, by rw [cells_h0]; rfl, .nil, by simp, fun _ => rfl⟩
  rintro i e h' hi ⟨v, B, hp, hs⟩
  refine T_pins hp fun e => ?_
  obtain ⟨s1, s2, s3, s4, s5⟩ := hs
  (try (simp (disch := first | omega | (simp <;> omega) | fail) only [push_cast, ↓reduceIte, Nat.reduceEqDiff, Nat.reduceAdd, Nat.reduceMul, Nat.reduceSub, Nat.reduceLT, Int.reduceToNat]))
  first | refine goC_split (fun hc => ?_) (fun hc => ?_) | refine cnd_split (fun hc => ?_) (fun hc => ?_)
  · (try (simp only [decide_eq_true_eq, decide_eq_false_iff_not, Bool.not_eq_true', Bool.not_eq_false', Bool.and_eq_true, Bool.or_eq_true, Int.not_lt, Int.not_le] at hc)); (try (simp (disch := first | omega | (simp <;> omega) | fail) only [push_cast, ↓reduceIte, Nat.reduceEqDiff, Nat.reduceAdd, Nat.reduceMul, Nat.reduceSub, Nat.reduceLT, Int.reduceToNat]))
    have hi2 : i < (lB s.rows).length := by omega
    have hlt := ho.lt i hi2
    have hw1 := ho.some hi2
    have hw2 := (ho.w i hi2).2
    have hsl := stS_len (s := s) (n := n) (i := i)
    have hcl : cLn n m (rowE s n i) = [.int .i64 n, eI (some (wordsN (rowB s i) m)), .bool ((lO s.right).getD i false), .ro 1 [.int .i64 (i : Int)] 1] := by
      unfold cLn
      rw [rowE_row hlt, rowE_right hlt, rowE_of hlt, setL_pow (by omega)]
      rfl
    obtain ⟨X, hX⟩ : ∃ X, X = redS n (stS s n i).1 (rowE s n i) := ⟨_, rfl⟩
    have hcx : cLn n m X = [.int .i64 n, eI (some (wordsN (X % 2 ^ n) m)), .bool (X.testBit n), eI (optL (setL (X >>> (n + 1))))] := rfl
    have hst := stS_succ (s := s) (n := n) (i := i)
    unfold M.stepS at hst
    rw [← hX] at hst
    have hnone := (ho.msk (i := i) (by omega)).none (by omega)
    (try (simp (disch := first | omega | (simp <;> omega) | fail) only [push_cast, ↓reduceIte, Nat.reduceEqDiff, Nat.reduceAdd, Nat.reduceMul, Nat.reduceSub, Nat.reduceLT, Int.reduceToNat, s2, hw1, hw2]))
    refine ⟨⟨?_, ?_⟩, ?_⟩
    · refine Call.sink (fun k => k == h'.length + 1) (ts := [v, .agg (cLn n m (rowE s n i))]) rfl (sink_args (by rw [cells_hk]; rfl) hcl) (fun b' _ hb' => ⟨Or.inr (by simp at hb'; omega), by simp at hb'; subst hb'; (try (simp (disch := first | omega | (simp <;> omega) | fail) only [push_cast, ↓reduceIte, Nat.reduceEqDiff, Nat.reduceAdd, Nat.reduceMul, Nat.reduceSub, Nat.reduceLT, Int.reduceToNat, reads, List.mem_cons, List.mem_append, List.not_mem_nil, nat_ff, or_self, or_false, false_or, not_false_eq_true]))⟩) ?_
      rw [filt_at (g0 := h' ++ [_]) (l := []) (o := some (.cells [.int .i64 (i : Int)])) (by rw [List.append_assoc]; rfl) (by simp)]
      simp only [List.append_assoc, List.cons_append, List.nil_append]
      refine (c_spec_reReduce n m (rowE s n i) (stS s n i).1 _ v B (s3.frame fun b hb => List.getElem?_append_left (s3.lt b hb)) (by omega) hm (by omega)).mono (fun y h2 hy => ?_) (fun _ _ h => h.elim)
      obtain ⟨rfl, rfl⟩ := hy
      rw [← hX, hcx]
      (try (simp (disch := first | omega | (simp <;> omega) | fail) only [push_cast, ↓reduceIte, Nat.reduceEqDiff, Nat.reduceAdd, Nat.reduceMul, Nat.reduceSub, Nat.reduceLT, Int.reduceToNat, reads, List.mem_cons, List.mem_append, List.not_mem_nil, nat_ff, or_self, or_false, false_or, not_false_eq_true]))
      refine (c_spec_reFirst2 (some (wordsN (X % 2 ^ n) m)) n m (X % 2 ^ n) rfl (by omega) (by omega)).call ?_
      rw [leadI_mod]
      by_cases hl : lead n X < n
      · have hli : leadI n X = (lead n X : Int) := if_pos hl
        rw [if_pos hl] at hst
        have hfl : fillA [.int .i64 0, .nils, .bool false, .nils] [(0, 4, .agg [.int .i64 n, eI (some (wordsN (X % 2 ^ n) m)), .bool (X.testBit n), eI (optL (setL (X >>> (n + 1))))])] = some [.int .i64 n, eI (some (wordsN (X % 2 ^ n) m)), .bool (X.testBit n), eI (optL (setL (X >>> (n + 1))))] := rfl
        have hrow : rows [AV.int .i64 0, .nils, .bool false, .nils] 1 = [.int .i64 0, .nils, .bool false, .nils] := rfl
        (try (simp (disch := first | omega | (simp <;> omega) | fail) only [push_cast, ↓reduceIte, Nat.reduceEqDiff, Nat.reduceAdd, Nat.reduceMul, Nat.reduceSub, Nat.reduceLT, Int.reduceToNat, hli, hrow, hfl]))
        rw [← hcx]
        refine (s3.frame (h' := h' ++ _) fun b hb => List.getElem?_append_left (s3.lt b hb)).app0 (new := cLn n m X) (k := 1) (by_ := 64) (fun b hb => Or.inr (by have := s4 b hb; omega)) (by rfl) (by omega) fun v' h2 B' a1 a2 a3 a4 a5 => ?_
        have hfin : LnI h h2 s n m v' B' (stS s n (i + 1)).1 := by
          rw [hst]
          simp only [List.length_append, List.length_cons, List.length_nil] at a2 a3
          refine ⟨by omega, ?_, by simpa using a1, fun b hb => ?_, by simp⟩
          · rw [cells_eq, a3 _ (by omega) (fun hb => absurd (s4 _ hb) (Nat.lt_irrefl _)), ← cells_eq]
            exact cells_app s2
          · rcases a4 b hb with h5 | h5
            · exact s4 b h5
            · simp at h5
              omega
        have hst2 : (stS s n (i + 1)).2 = (stS s n i).2 := by rw [hst]
        (try (simp (disch := first | omega | (simp <;> omega) | fail) only [push_cast, ↓reduceIte, Nat.reduceEqDiff, Nat.reduceAdd, Nat.reduceMul, Nat.reduceSub, Nat.reduceLT, Int.reduceToNat]))
        all_goals (try rw [hst2])
        all_goals (try exact ⟨_, _, ⟨rfl, rfl⟩, hfin⟩)
      · have hli : leadI n X = -1 := if_neg hl
        rw [if_neg hl] at hst
        (try (simp (disch := first | omega | (simp <;> omega) | fail) only [push_cast, ↓reduceIte, Nat.reduceEqDiff, Nat.reduceAdd, Nat.reduceMul, Nat.reduceSub, Nat.reduceLT, Int.reduceToNat, hli]))
        have hfin0 : ∀ l : H, (stS s n (i + 1)).1 = (stS s n i).1 → LnI h (h' ++ l) s n m v B (stS s n (i + 1)).1 := fun l he => by
          rw [he]
          exact ⟨by simp; omega, cells_app s2, s3.frame fun b hb => List.getElem?_append_left (s3.lt b hb), s4, s5⟩
        cases hr : X.testBit n
        · rw [if_neg (by simp [hr])] at hst
          have hst2 : (stS s n (i + 1)).2 = (stS s n i).2 := by rw [hst]
          (try (simp (disch := first | omega | (simp <;> omega) | fail) only [push_cast, ↓reduceIte, Nat.reduceEqDiff, Nat.reduceAdd, Nat.reduceMul, Nat.reduceSub, Nat.reduceLT, Int.reduceToNat]))
          all_goals (try rw [hst2])
          all_goals (try exact ⟨_, _, ⟨rfl, rfl⟩, hfin0 _ (by rw [hst])⟩)
        · by_cases hz : (stS s n i).2 = 0
          · rw [if_pos ⟨hr, hz⟩] at hst
            have hz2 : ((lI (optL (setL ((stS s n i).2 >>> (n + 1))))).length : Int) = 0 := by
              rw [lI_optL]
              have := hnone.2 hz
              omega
            have hst2 : (stS s n (i + 1)).2 = X := by rw [hst]
            (try (simp (disch := first | omega | (simp <;> omega) | fail) only [push_cast, ↓reduceIte, Nat.reduceEqDiff, Nat.reduceAdd, Nat.reduceMul, Nat.reduceSub, Nat.reduceLT, Int.reduceToNat, hz2]))
            all_goals (try rw [hst2])
            all_goals (try exact ⟨_, _, ⟨rfl, rfl⟩, hfin0 _ (by rw [hst])⟩)
          · rw [if_neg (fun h5 => hz h5.2)] at hst
            have hst2 : (stS s n (i + 1)).2 = (stS s n i).2 := by rw [hst]
            have hz2 : ¬ ((lI (optL (setL ((stS s n i).2 >>> (n + 1))))).length : Int) = 0 := by
              rw [lI_optL]
              exact fun h5 => hz (hnone.1 (by omega))
            (try (simp (disch := first | omega | (simp <;> omega) | fail) only [push_cast, ↓reduceIte, Nat.reduceEqDiff, Nat.reduceAdd, Nat.reduceMul, Nat.reduceSub, Nat.reduceLT, Int.reduceToNat, hz2]))
            all_goals (try rw [hst2])
            all_goals (try exact ⟨_, _, ⟨rfl, rfl⟩, hfin0 _ (by rw [hst])⟩)
    · refine Call.sink (fun k => k == h'.length + 1) (ts := [v, .agg (cLn n m (rowE s n i))]) rfl (sink_args (by rw [cells_hk]; rfl) hcl) (fun b' _ hb' => ⟨Or.inr (by simp at hb'; omega), by simp at hb'; subst hb'; (try (simp (disch := first | omega | (simp <;> omega) | fail) only [push_cast, ↓reduceIte, Nat.reduceEqDiff, Nat.reduceAdd, Nat.reduceMul, Nat.reduceSub, Nat.reduceLT, Int.reduceToNat, reads, List.mem_cons, List.mem_append, List.not_mem_nil, nat_ff, or_self, or_false, false_or, not_false_eq_true]))⟩) ?_
      rw [filt_at (g0 := h' ++ [_]) (l := [_]) (o := some (.cells [.int .i64 (i : Int)])) (by rw [List.append_assoc]; rfl) (by simp)]
      simp only [List.append_assoc, List.cons_append, List.nil_append]
      refine (c_spec_reReduce n m (rowE s n i) (stS s n i).1 _ v B (s3.frame fun b hb => List.getElem?_append_left (s3.lt b hb)) (by omega) hm (by omega)).mono (fun y h2 hy => ?_) (fun _ _ h => h.elim)
      obtain ⟨rfl, rfl⟩ := hy
      rw [← hX, hcx]
      (try (simp (disch := first | omega | (simp <;> omega) | fail) only [push_cast, ↓reduceIte, Nat.reduceEqDiff, Nat.reduceAdd, Nat.reduceMul, Nat.reduceSub, Nat.reduceLT, Int.reduceToNat, reads, List.mem_cons, List.mem_append, List.not_mem_nil, nat_ff, or_self, or_false, false_or, not_false_eq_true]))
      refine (c_spec_reFirst2 (some (wordsN (X % 2 ^ n) m)) n m (X % 2 ^ n) rfl (by omega) (by omega)).call ?_
      rw [leadI_mod]
      by_cases hl : lead n X < n
      · have hli : leadI n X = (lead n X : Int) := if_pos hl
        rw [if_pos hl] at hst
        have hfl : fillA [.int .i64 0, .nils, .bool false, .nils] [(0, 4, .agg [.int .i64 n, eI (some (wordsN (X % 2 ^ n) m)), .bool (X.testBit n), eI (optL (setL (X >>> (n + 1))))])] = some [.int .i64 n, eI (some (wordsN (X % 2 ^ n) m)), .bool (X.testBit n), eI (optL (setL (X >>> (n + 1))))] := rfl
        have hrow : rows [AV.int .i64 0, .nils, .bool false, .nils] 1 = [.int .i64 0, .nils, .bool false, .nils] := rfl
        (try (simp (disch := first | omega | (simp <;> omega) | fail) only [push_cast, ↓reduceIte, Nat.reduceEqDiff, Nat.reduceAdd, Nat.reduceMul, Nat.reduceSub, Nat.reduceLT, Int.reduceToNat, hli, hrow, hfl]))
        rw [← hcx]
        refine (s3.frame (h' := h' ++ _) fun b hb => List.getElem?_append_left (s3.lt b hb)).app0 (new := cLn n m X) (k := 1) (by_ := 64) (fun b hb => Or.inr (by have := s4 b hb; omega)) (by rfl) (by omega) fun v' h2 B' a1 a2 a3 a4 a5 => ?_
        have hfin : LnI h h2 s n m v' B' (stS s n (i + 1)).1 := by
          rw [hst]
          simp only [List.length_append, List.length_cons, List.length_nil] at a2 a3
          refine ⟨by omega, ?_, by simpa using a1, fun b hb => ?_, by simp⟩
          · rw [cells_eq, a3 _ (by omega) (fun hb => absurd (s4 _ hb) (Nat.lt_irrefl _)), ← cells_eq]
            exact cells_app s2
          · rcases a4 b hb with h5 | h5
            · exact s4 b h5
            · simp at h5
              omega
        have hst2 : (stS s n (i + 1)).2 = (stS s n i).2 := by rw [hst]
        (try (simp (disch := first | omega | (simp <;> omega) | fail) only [push_cast, ↓reduceIte, Nat.reduceEqDiff, Nat.reduceAdd, Nat.reduceMul, Nat.reduceSub, Nat.reduceLT, Int.reduceToNat]))
        all_goals (try rw [hst2])
        all_goals (try exact ⟨_, _, ⟨rfl, rfl⟩, hfin⟩)
      · have hli : leadI n X = -1 := if_neg hl
        rw [if_neg hl] at hst
        (try (simp (disch := first | omega | (simp <;> omega) | fail) only [push_cast, ↓reduceIte, Nat.reduceEqDiff, Nat.reduceAdd, Nat.reduceMul, Nat.reduceSub, Nat.reduceLT, Int.reduceToNat, hli]))
        have hfin0 : ∀ l : H, (stS s n (i + 1)).1 = (stS s n i).1 → LnI h (h' ++ l) s n m v B (stS s n (i + 1)).1 := fun l he => by
          rw [he]
          exact ⟨by simp; omega, cells_app s2, s3.frame fun b hb => List.getElem?_append_left (s3.lt b hb), s4, s5⟩
        cases hr : X.testBit n
        · rw [if_neg (by simp [hr])] at hst
          have hst2 : (stS s n (i + 1)).2 = (stS s n i).2 := by rw [hst]
          (try (simp (disch := first | omega | (simp <;> omega) | fail) only [push_cast, ↓reduceIte, Nat.reduceEqDiff, Nat.reduceAdd, Nat.reduceMul, Nat.reduceSub, Nat.reduceLT, Int.reduceToNat]))
          all_goals (try rw [hst2])
          all_goals (try exact ⟨_, _, ⟨rfl, rfl⟩, hfin0 _ (by rw [hst])⟩)
        · by_cases hz : (stS s n i).2 = 0
          · rw [if_pos ⟨hr, hz⟩] at hst
            have hz2 : ((lI (optL (setL ((stS s n i).2 >>> (n + 1))))).length : Int) = 0 := by
              rw [lI_optL]
              have := hnone.2 hz
              omega
            have hst2 : (stS s n (i + 1)).2 = X := by rw [hst]
            (try (simp (disch := first | omega | (simp <;> omega) | fail) only [push_cast, ↓reduceIte, Nat.reduceEqDiff, Nat.reduceAdd, Nat.reduceMul, Nat.reduceSub, Nat.reduceLT, Int.reduceToNat, hz2]))
            all_goals (try rw [hst2])
            all_goals (try exact ⟨_, _, ⟨rfl, rfl⟩, hfin0 _ (by rw [hst])⟩)
          · rw [if_neg (fun h5 => hz h5.2)] at hst
            have hst2 : (stS s n (i + 1)).2 = (stS s n i).2 := by rw [hst]
            have hz2 : ¬ ((lI (optL (setL ((stS s n i).2 >>> (n + 1))))).length : Int) = 0 := by
              rw [lI_optL]
              exact fun h5 => hz (hnone.1 (by omega))
            (try (simp (disch := first | omega | (simp <;> omega) | fail) only [push_cast, ↓reduceIte, Nat.reduceEqDiff, Nat.reduceAdd, Nat.reduceMul, Nat.reduceSub, Nat.reduceLT, Int.reduceToNat, hz2]))
            all_goals (try rw [hst2])
            all_goals (try exact ⟨_, _, ⟨rfl, rfl⟩, hfin0 _ (by rw [hst])⟩)
    · refine Call.sink (fun k => k == h'.length + 2) (ts := [v, .agg (cLn n m (rowE s n i))]) rfl (sink_args (by rw [cells_hk]; rfl) hcl) (fun b' _ hb' => ⟨Or.inr (by simp at hb'; omega), by simp at hb'; subst hb'; (try (simp (disch := first | omega | (simp <;> omega) | fail) only [push_cast, ↓reduceIte, Nat.reduceEqDiff, Nat.reduceAdd, Nat.reduceMul, Nat.reduceSub, Nat.reduceLT, Int.reduceToNat, reads, List.mem_cons, List.mem_append, List.not_mem_nil, nat_ff, or_self, or_false, false_or, not_false_eq_true]))⟩) ?_
      rw [filt_at (g0 := h' ++ [_, _]) (l := []) (o := some (.cells [.int .i64 (i : Int)])) (by rw [List.append_assoc]; rfl) (by simp)]
      simp only [List.append_assoc, List.cons_append, List.nil_append]
      refine (c_spec_reReduce n m (rowE s n i) (stS s n i).1 _ v B (s3.frame fun b hb => List.getElem?_append_left (s3.lt b hb)) (by omega) hm (by omega)).mono (fun y h2 hy => ?_) (fun _ _ h => h.elim)
      obtain ⟨rfl, rfl⟩ := hy
      rw [← hX, hcx]
      (try (simp (disch := first | omega | (simp <;> omega) | fail) only [push_cast, ↓reduceIte, Nat.reduceEqDiff, Nat.reduceAdd, Nat.reduceMul, Nat.reduceSub, Nat.reduceLT, Int.reduceToNat, reads, List.mem_cons, List.mem_append, List.not_mem_nil, nat_ff, or_self, or_false, false_or, not_false_eq_true]))
      refine (c_spec_reFirst2 (some (wordsN (X % 2 ^ n) m)) n m (X % 2 ^ n) rfl (by omega) (by omega)).call ?_
      rw [leadI_mod]
      by_cases hl : lead n X < n
      · have hli : leadI n X = (lead n X : Int) := if_pos hl
        rw [if_pos hl] at hst
        have hfl : fillA [.int .i64 0, .nils, .bool false, .nils] [(0, 4, .agg [.int .i64 n, eI (some (wordsN (X % 2 ^ n) m)), .bool (X.testBit n), eI (optL (setL (X >>> (n + 1))))])] = some [.int .i64 n, eI (some (wordsN (X % 2 ^ n) m)), .bool (X.testBit n), eI (optL (setL (X >>> (n + 1))))] := rfl
        have hrow : rows [AV.int .i64 0, .nils, .bool false, .nils] 1 = [.int .i64 0, .nils, .bool false, .nils] := rfl
        (try (simp (disch := first | omega | (simp <;> omega) | fail) only [push_cast, ↓reduceIte, Nat.reduceEqDiff, Nat.reduceAdd, Nat.reduceMul, Nat.reduceSub, Nat.reduceLT, Int.reduceToNat, hli, hrow, hfl]))
        rw [← hcx]
        refine (s3.frame (h' := h' ++ _) fun b hb => List.getElem?_append_left (s3.lt b hb)).app0 (new := cLn n m X) (k := 1) (by_ := 64) (fun b hb => Or.inr (by have := s4 b hb; omega)) (by rfl) (by omega) fun v' h2 B' a1 a2 a3 a4 a5 => ?_
        have hfin : LnI h h2 s n m v' B' (stS s n (i + 1)).1 := by
          rw [hst]
          simp only [List.length_append, List.length_cons, List.length_nil] at a2 a3
          refine ⟨by omega, ?_, by simpa using a1, fun b hb => ?_, by simp⟩
          · rw [cells_eq, a3 _ (by omega) (fun hb => absurd (s4 _ hb) (Nat.lt_irrefl _)), ← cells_eq]
            exact cells_app s2
          · rcases a4 b hb with h5 | h5
            · exact s4 b h5
            · simp at h5
              omega
        have hst2 : (stS s n (i + 1)).2 = (stS s n i).2 := by rw [hst]
        (try (simp (disch := first | omega | (simp <;> omega) | fail) only [push_cast, ↓reduceIte, Nat.reduceEqDiff, Nat.reduceAdd, Nat.reduceMul, Nat.reduceSub, Nat.reduceLT, Int.reduceToNat]))
        all_goals (try rw [hst2])
        all_goals (try exact ⟨_, _, ⟨rfl, rfl⟩, hfin⟩)
      · have hli : leadI n X = -1 := if_neg hl
        rw [if_neg hl] at hst
        (try (simp (disch := first | omega | (simp <;> omega) | fail) only [push_cast, ↓reduceIte, Nat.reduceEqDiff, Nat.reduceAdd, Nat.reduceMul, Nat.reduceSub, Nat.reduceLT, Int.reduceToNat, hli]))
        have hfin0 : ∀ l : H, (stS s n (i + 1)).1 = (stS s n i).1 → LnI h (h' ++ l) s n m v B (stS s n (i + 1)).1 := fun l he => by
          rw [he]
          exact ⟨by simp; omega, cells_app s2, s3.frame fun b hb => List.getElem?_append_left (s3.lt b hb), s4, s5⟩
        cases hr : X.testBit n
        · rw [if_neg (by simp [hr])] at hst
          have hst2 : (stS s n (i + 1)).2 = (stS s n i).2 := by rw [hst]
          (try (simp (disch := first | omega | (simp <;> omega) | fail) only [push_cast, ↓reduceIte, Nat.reduceEqDiff, Nat.reduceAdd, Nat.reduceMul, Nat.reduceSub, Nat.reduceLT, Int.reduceToNat]))
          all_goals (try rw [hst2])
          all_goals (try exact ⟨_, _, ⟨rfl, rfl⟩, hfin0 _ (by rw [hst])⟩)
        · by_cases hz : (stS s n i).2 = 0
          · rw [if_pos ⟨hr, hz⟩] at hst
            have hz2 : ((lI (optL (setL ((stS s n i).2 >>> (n + 1))))).length : Int) = 0 := by
              rw [lI_optL]
              have := hnone.2 hz
              omega
            have hst2 : (stS s n (i + 1)).2 = X := by rw [hst]
            (try (simp (disch := first | omega | (simp <;> omega) | fail) only [push_cast, ↓reduceIte, Nat.reduceEqDiff, Nat.reduceAdd, Nat.reduceMul, Nat.reduceSub, Nat.reduceLT, Int.reduceToNat, hz2]))
            all_goals (try rw [hst2])
            all_goals (try exact ⟨_, _, ⟨rfl, rfl⟩, hfin0 _ (by rw [hst])⟩)
          · rw [if_neg (fun h5 => hz h5.2)] at hst
            have hst2 : (stS s n (i + 1)).2 = (stS s n i).2 := by rw [hst]
            have hz2 : ¬ ((lI (optL (setL ((stS s n i).2 >>> (n + 1))))).length : Int) = 0 := by
              rw [lI_optL]
              exact fun h5 => hz (hnone.1 (by omega))
            (try (simp (disch := first | omega | (simp <;> omega) | fail) only [push_cast, ↓reduceIte, Nat.reduceEqDiff, Nat.reduceAdd, Nat.reduceMul, Nat.reduceSub, Nat.reduceLT, Int.reduceToNat, hz2]))
            all_goals (try rw [hst2])
            all_goals (try exact ⟨_, _, ⟨rfl, rfl⟩, hfin0 _ (by rw [hst])⟩)
  · (try (simp only [decide_eq_true_eq, decide_eq_false_iff_not, Bool.not_eq_true', Bool.not_eq_false', Bool.and_eq_true, Bool.or_eq_true, Int.not_lt, Int.not_le] at hc)); (try (simp (disch := first | omega | (simp <;> omega) | fail) only [push_cast, ↓reduceIte, Nat.reduceEqDiff, Nat.reduceAdd, Nat.reduceMul, Nat.reduceSub, Nat.reduceLT, Int.reduceToNat]))
    have hie : i = (lB s.rows).length := by omega
    subst hie
    (try (simp (disch := first | omega | (simp <;> omega) | fail) only [push_cast, ↓reduceIte, Nat.reduceEqDiff, Nat.reduceAdd, Nat.reduceMul, Nat.reduceSub, Nat.reduceLT, Int.reduceToNat]))
    refine ⟨_, ?_, rfl⟩
    unfold linesV
    refine .tup rfl fun k y t hy ht => ?_
    rcases k with _ | _ | k
    · simp at hy ht
      subst hy ht
      exact s3.vwLs (fun b hb => Nat.le_of_lt (s4 b hb)) s5
    · simp at hy ht
      subst hy ht
      exact .free free_eI
    · simp at hy

theorem c_Clone_ints_own (l : List Int) (hl : l.length ≤ 1000000) (h : H) : Call Try.prog 114 [eI (some l)] h Nowhere (fun x h' => ∃ b, x = .sl b 0 1 l.length l.length ∧ h.length ≤ b ∧ (∃ p, h' = h ++ p) ∧ h'.cells b = some (l.map (.int .i64))) := by
  show Call Try.prog 114 [.ro 1 (l.map (.int .i64)) l.length] h Nowhere _
  refine enter (by kernel_rfl) e114 (by kernel_rfl) rfl fun hok => ?_
  simp only [r114, initEnv_1]
  (try (simp (disch := first | omega | (simp <;> omega) | fail) only [push_cast, ↓reduceIte, Nat.reduceEqDiff, Nat.reduceAdd, Nat.reduceMul, Nat.reduceSub, Nat.reduceLT, Int.reduceToNat]))
  have hs0 : S1 (h ++ [some (.cells [])]) 1 (.sl h.length 0 1 0 0) 0 [] [h.length] := ⟨by simp, .inr ⟨h.length, rfl, rfl, by rw [cells_h0]; rfl⟩⟩
  by_cases h0 : l.length = 0
  · have hl0 : l = [] := List.eq_nil_of_length_eq_zero h0
    subst hl0
    (try (simp (disch := first | omega | (simp <;> omega) | fail) only [push_cast, ↓reduceIte, Nat.reduceEqDiff, Nat.reduceAdd, Nat.reduceMul, Nat.reduceSub, Nat.reduceLT, Int.reduceToNat, lI]))
    all_goals (try exact ⟨_, rfl, Nat.le_refl _, ⟨_, rfl⟩, by rw [cells_h0]; rfl⟩)
  · (try (simp (disch := first | omega | (simp <;> omega) | fail) only [push_cast, ↓reduceIte, Nat.reduceEqDiff, Nat.reduceAdd, Nat.reduceMul, Nat.reduceSub, Nat.reduceLT, Int.reduceToNat, lI]))
    all_goals (try exact ⟨_, rfl, by omega, ⟨_, rfl⟩, by rw [cells_hk]; simp [cellsO, List.take_of_length_le]⟩)

theorem cells_tl {h p : H} {a a' c c' : Option AObj} {b : Nat} {cs : List AV} (hb : h.length + 2 ≤ b) (hc : H.cells (h ++ a :: c :: p) b = some cs) : H.cells (h ++ a' :: c' :: p) b = some cs := by
  rw [cells_eq] at hc ⊢
  rw [List.getElem?_append_right (by omega)] at hc ⊢
  obtain ⟨k, hk⟩ : ∃ k, b - h.length = k + 2 := ⟨b - h.length - 2, by omega⟩
  rw [hk] at hc ⊢
  simpa using hc
theorem c_impl_cloneBits_own (n : Int) (l : List Int) (hl : l.length ≤ 1000000) (h : H) : Call Try.prog 88 [eB ⟨n, some l⟩] h Nowhere (fun x h' => ∃ b, x = .agg [.int .i64 n, .sl b 0 1 l.length l.length] ∧ h.length ≤ b ∧ (∃ p, h' = h ++ p) ∧ h'.cells b = some (l.map (.int .i64))) := by
  refine enter (by kernel_rfl) e88 (by kernel_rfl) rfl fun hok => ?_
  simp only [r88, initEnv_1]
  (try (simp (disch := first | omega | (simp <;> omega) | fail) only [push_cast, ↓reduceIte, Nat.reduceEqDiff, Nat.reduceAdd, Nat.reduceMul, Nat.reduceSub, Nat.reduceLT, Int.reduceToNat]))
  repeat' (with_reducible refine And.intro ?_ ?_)
  all_goals
    refine (c_Clone_ints_own l hl _).mono (fun x h1 hx => ?_) (fun _ _ h => h.elim)
    obtain ⟨b, rfl, hb, ⟨p, rfl⟩, hc⟩ := hx
    simp only [List.append_assoc, List.cons_append, List.nil_append, List.length_append, List.length_cons, List.length_nil] at hb hc
    (try (simp (disch := first | omega | (simp <;> omega) | fail) only [push_cast, ↓reduceIte, Nat.reduceEqDiff, Nat.reduceAdd, Nat.reduceMul, Nat.reduceSub, Nat.reduceLT, Int.reduceToNat, reads, List.mem_cons, List.mem_append, List.not_mem_nil, nat_ff, or_self, or_false, false_or, not_false_eq_true]))
    try exact ⟨b, rfl, by omega, ⟨_, rfl⟩, cells_tl (by omega) hc⟩

theorem c_impl_Bits_at (ws : Option (List Int)) (B m i : Nat) (cs : List AV) (off : Nat) (h1 : cs[off + 1]? = some (eI ws)) (hw : lI ws = wordsN B m) (hi : i < 16 * m) (hm : m ≤ 1000000) : Fn Try.prog 82 [.rad cs off, .int .i64 i] (· = .bool (B.testBit i)) := by
  refine Fn.of free_bool fun h => ?_
  refine enter (by kernel_rfl) e82 (by kernel_rfl) rfl fun hok => ?_
  simp only [r82, initEnv_2]
  have hln : (lI ws).length = m := by rw [hw, wordsN_len]
  have hat := at_word hw hi
  (try (simp (disch := first | omega | (simp <;> omega) | fail) only [push_cast, ↓reduceIte, Nat.reduceEqDiff, Nat.reduceAdd, Nat.reduceMul, Nat.reduceSub, Nat.reduceLT, Int.reduceToNat, h1]))
  rw [← hat]
  (first | refine goC_split (fun hc => ?_) (fun hc => ?_) | refine cnd_split (fun hc => ?_) (fun hc => ?_)) <;> ((try (simp (disch := first | omega | (simp <;> omega) | fail) only [push_cast, ↓reduceIte, Nat.reduceEqDiff, Nat.reduceAdd, Nat.reduceMul, Nat.reduceSub, Nat.reduceLT, Int.reduceToNat]))) <;> (try rw [hc])

theorem c_impl_Bits_next (ws : Option (List Int)) (n B m : Nat) (cs : List AV) (off : Nat) (h0 : cs[off]? = some (.int .i64 n)) (h1 : cs[off + 1]? = some (eI ws)) (hw : lI ws = wordsN B m) (hm : n ≤ 16 * m) (hm2 : m ≤ 100000) : Fn Try.prog 69 [.rad cs off, .int .i64 0, .bool true] (fun x => ∃ k : Int, x = .int .i64 k ∧ decide (k = n) = noBit B n) := by
  intro h
  refine Call.gc (Call.mono (?_ : Call Try.prog 69 [.rad cs off, .int .i64 0, .bool true] h Nowhere (fun x _ => ∃ k : Int, x = .int .i64 k ∧ decide (k = n) = noBit B n)) (fun x _ ⟨k, hk, hx⟩ => ⟨⟨k, hk, hx⟩, by rw [hk]; exact free_int⟩) (fun _ _ h => h))
  refine enter (by kernel_rfl) e69 (by kernel_rfl) rfl fun hok => ?_
  simp only [r69, initEnv_3]
  (try (simp (disch := first | omega | (simp <;> omega) | fail) only [push_cast, ↓reduceIte, Nat.reduceEqDiff, Nat.reduceAdd, Nat.reduceMul, Nat.reduceSub, Nat.reduceLT, Int.reduceToNat]))
  refine T_for n (fun i e h' => Pins e [(0, .rad cs off), (1, .int .i64 i), (2, .bool true)] ∧ noBit B i = true) ?_ ?_
  · (try (simp (disch := first | omega | (simp <;> omega) | fail) only [push_cast, ↓reduceIte, Nat.reduceEqDiff, Nat.reduceAdd, Nat.reduceMul, Nat.reduceSub, Nat.reduceLT, Int.reduceToNat]))
    all_goals (try rfl)
  rintro i e h' hi ⟨hp, ha⟩
  refine T_pins hp fun e => ?_
  (try (simp (disch := first | omega | (simp <;> omega) | fail) only [push_cast, ↓reduceIte, Nat.reduceEqDiff, Nat.reduceAdd, Nat.reduceMul, Nat.reduceSub, Nat.reduceLT, Int.reduceToNat, h0]))
  first | refine goC_split (fun hc => ?_) (fun hc => ?_) | refine cnd_split (fun hc => ?_) (fun hc => ?_)
  · (try (simp only [decide_eq_true_eq, decide_eq_false_iff_not, Bool.not_eq_true', Bool.not_eq_false', Bool.and_eq_true, Bool.or_eq_true, Int.not_lt, Int.not_le] at hc)); (try (simp (disch := first | omega | (simp <;> omega) | fail) only [push_cast, ↓reduceIte, Nat.reduceEqDiff, Nat.reduceAdd, Nat.reduceMul, Nat.reduceSub, Nat.reduceLT, Int.reduceToNat]))
    have hin : i < n := by omega
    (try (simp (disch := first | omega | (simp <;> omega) | fail) only [push_cast, ↓reduceIte, Nat.reduceEqDiff, Nat.reduceAdd, Nat.reduceMul, Nat.reduceSub, Nat.reduceLT, Int.reduceToNat, h0]))
    refine (c_impl_Bits_at ws B m i cs off h1 hw (by omega) (by omega)).call ?_
    have hns := noBit_succ (B := B) (n := i)
    cases hb : B.testBit i
    · have hno : noBit B (i + 1) = true := by rw [hns, ha, hb]; rfl
      (try (simp (disch := first | omega | (simp <;> omega) | fail) only [push_cast, ↓reduceIte, Nat.reduceEqDiff, Nat.reduceAdd, Nat.reduceMul, Nat.reduceSub, Nat.reduceLT, Int.reduceToNat, hno]))
      all_goals (try exact hno)
    · have hno := noBit_no hin hb
      (try (simp (disch := first | omega | (simp <;> omega) | fail) only [push_cast, ↓reduceIte, Nat.reduceEqDiff, Nat.reduceAdd, Nat.reduceMul, Nat.reduceSub, Nat.reduceLT, Int.reduceToNat]))
      refine ⟨_, rfl, ?_⟩
      rw [hno]
      simp
      try omega
  · (try (simp only [decide_eq_true_eq, decide_eq_false_iff_not, Bool.not_eq_true', Bool.not_eq_false', Bool.and_eq_true, Bool.or_eq_true, Int.not_lt, Int.not_le] at hc)); (try (simp (disch := first | omega | (simp <;> omega) | fail) only [push_cast, ↓reduceIte, Nat.reduceEqDiff, Nat.reduceAdd, Nat.reduceMul, Nat.reduceSub, Nat.reduceLT, Int.reduceToNat]))
    have hin : i = n := by omega
    subst hin
    (try (simp (disch := first | omega | (simp <;> omega) | fail) only [push_cast, ↓reduceIte, Nat.reduceEqDiff, Nat.reduceAdd, Nat.reduceMul, Nat.reduceSub, Nat.reduceLT, Int.reduceToNat]))
    refine ⟨_, rfl, ?_⟩
    rw [ha]
    simp
theorem c_impl_Bits_next2 (ws : Option (List Int)) (n B m : Nat) (cs : List AV) (off : Nat) (h0 : cs[off]? = some (.int .i64 n)) (h1 : cs[off + 1]? = some (eI ws)) (hw : lI ws = wordsN B m) (hm : n ≤ 16 * m) (hm2 : m ≤ 100000) : Fn Try.prog 69 [.rad cs off, .int .i64 0, .bool true] (· = .int .i64 (lead n B)) := by
  refine Fn.of free_int fun h => ?_
  refine enter (by kernel_rfl) e69 (by kernel_rfl) rfl fun hok => ?_
  simp only [r69, initEnv_3]
  (try (simp (disch := first | omega | (simp <;> omega) | fail) only [push_cast, ↓reduceIte, Nat.reduceEqDiff, Nat.reduceAdd, Nat.reduceMul, Nat.reduceSub, Nat.reduceLT, Int.reduceToNat]))
  refine T_for n (fun i e h' => Pins e [(0, .rad cs off), (1, .int .i64 i), (2, .bool true)] ∧ noBit B i = true) ?_ ?_
  · (try (simp (disch := first | omega | (simp <;> omega) | fail) only [push_cast, ↓reduceIte, Nat.reduceEqDiff, Nat.reduceAdd, Nat.reduceMul, Nat.reduceSub, Nat.reduceLT, Int.reduceToNat]))
    all_goals (try rfl)
  rintro i e h' hi ⟨hp, ha⟩
  refine T_pins hp fun e => ?_
  (try (simp (disch := first | omega | (simp <;> omega) | fail) only [push_cast, ↓reduceIte, Nat.reduceEqDiff, Nat.reduceAdd, Nat.reduceMul, Nat.reduceSub, Nat.reduceLT, Int.reduceToNat, h0]))
  first | refine goC_split (fun hc => ?_) (fun hc => ?_) | refine cnd_split (fun hc => ?_) (fun hc => ?_)
  · (try (simp only [decide_eq_true_eq, decide_eq_false_iff_not, Bool.not_eq_true', Bool.not_eq_false', Bool.and_eq_true, Bool.or_eq_true, Int.not_lt, Int.not_le] at hc)); (try (simp (disch := first | omega | (simp <;> omega) | fail) only [push_cast, ↓reduceIte, Nat.reduceEqDiff, Nat.reduceAdd, Nat.reduceMul, Nat.reduceSub, Nat.reduceLT, Int.reduceToNat]))
    have hin : i < n := by omega
    (try (simp (disch := first | omega | (simp <;> omega) | fail) only [push_cast, ↓reduceIte, Nat.reduceEqDiff, Nat.reduceAdd, Nat.reduceMul, Nat.reduceSub, Nat.reduceLT, Int.reduceToNat, h0]))
    refine (c_impl_Bits_at ws B m i cs off h1 hw (by omega) (by omega)).call ?_
    have hns := noBit_succ (B := B) (n := i)
    cases hb : B.testBit i
    · have hno : noBit B (i + 1) = true := by rw [hns, ha, hb]; rfl
      (try (simp (disch := first | omega | (simp <;> omega) | fail) only [push_cast, ↓reduceIte, Nat.reduceEqDiff, Nat.reduceAdd, Nat.reduceMul, Nat.reduceSub, Nat.reduceLT, Int.reduceToNat, hno]))
      all_goals (try exact hno)
    · have hl := lead_is (n := n) hin hb fun j hj => noBit_all ha hj
      (try (simp (disch := first | omega | (simp <;> omega) | fail) only [push_cast, ↓reduceIte, Nat.reduceEqDiff, Nat.reduceAdd, Nat.reduceMul, Nat.reduceSub, Nat.reduceLT, Int.reduceToNat]))
      all_goals (try rw [hl])
  · (try (simp only [decide_eq_true_eq, decide_eq_false_iff_not, Bool.not_eq_true', Bool.not_eq_false', Bool.and_eq_true, Bool.or_eq_true, Int.not_lt, Int.not_le] at hc)); (try (simp (disch := first | omega | (simp <;> omega) | fail) only [push_cast, ↓reduceIte, Nat.reduceEqDiff, Nat.reduceAdd, Nat.reduceMul, Nat.reduceSub, Nat.reduceLT, Int.reduceToNat]))
    have hin : i = n := by omega
    subst hin
    have hl := lead_of_none (n := i) fun j hj => noBit_all ha hj
    (try (simp (disch := first | omega | (simp <;> omega) | fail) only [push_cast, ↓reduceIte, Nat.reduceEqDiff, Nat.reduceAdd, Nat.reduceMul, Nat.reduceSub, Nat.reduceLT, Int.reduceToNat]))
    all_goals (try rw [hl])

/-- What adding one equation to another, of the caller's own, leaves behind. -/
def AdI (h h' : H) (n : Int) (b5 bb m X : Nat) (r : Bool) : Prop :=
  h.length ≤ h'.length ∧ (∀ b', b' < h.length → b' ≠ bb → b' ≠ b5 → h'[b']? = h[b']?) ∧ h'.cells b5 = some [.int .i64 n, .sl bb 0 1 m m, .bool r, .int .u64 0] ∧ h'.cells bb = some ((wordsN X m).map (.int .i64))
theorem cells_fr2 {h h2 : H} {bb c : Nat} {cs : List AV} (hfr : ∀ b', b' ≠ bb → h2[b']? = h[b']?) (hc : h.cells c = some cs) (hne : c ≠ bb) : h2.cells c = some cs := by
  rw [cells_eq, hfr c hne, ← cells_eq]
  exact hc
theorem u64_nat {n : Nat} (h : n < 18446744073709551616) : IntKind.u64.wrap (n : Int) = (n : Int) := by
  simp [IntKind.wrap, IntKind.signed, IntKind.bits]
  omega
theorem bitsI_xor_u64 {x y : Nat} (hx : x < 18446744073709551616) (hy : y < 18446744073709551616) : bitsI .xor .u64 (x : Int) (y : Int) = ((x ^^^ y : Nat) : Int) := by
  have h1 : x ^^^ y < 2 ^ 64 := Nat.xor_lt_two_pow (by omega) (by omega)
  show IntKind.u64.wrap ((BitVec.ofInt 64 (x : Int) ^^^ BitVec.ofInt 64 (y : Int)).toNat : Int) = _
  rw [ofInt_nat, ofInt_nat, BitVec.toNat_xor, BitVec.toNat_ofNat, BitVec.toNat_ofNat, Nat.mod_eq_of_lt (by omega), Nat.mod_eq_of_lt (by omega)]
  exact u64_nat (by omega)

set_option maxHeartbeats 1000000 in
theorem c_impl_equation_add (n n2 : Int) (b5 bb bx m A B : Nat) (r r2 : Bool) (wx : Option (List Int)) (h : H) (h5 : h.cells b5 = some [.int .i64 n, .sl bb 0 1 m m, .bool r, .int .u64 0]) (hb : h.cells bb = some ((wordsN A m).map (.int .i64))) (hx : h.cells bx = some [.int .i64 n2, eI wx, .bool r2, .int .u64 0]) (hwx : lI wx = wordsN B m) (hm : m ≤ 1000) (d1 : b5 ≠ bb) (d2 : b5 ≠ bx) (d3 : bx ≠ bb) :
    Call Try.prog 68 [.adr b5 0, .adr bx 0] h (fun b' => b' = bb ∨ b' = b5) (fun _ h' => AdI h h' n b5 bb m (A ^^^ B) (r != r2)) := by
  refine enter (by kernel_rfl) e68 (by kernel_rfl) rfl fun hok => ?_
  simp only [r68, initEnv_2]
  have hlx : (lI wx).length = m := by rw [hwx, wordsN_len]
  have hl5 := cells_lt h5
  have hlb := cells_lt hb
  have hlxx := cells_lt hx
  (try (simp (disch := first | omega | (simp <;> omega) | fail) only [push_cast, ↓reduceIte, Nat.reduceEqDiff, Nat.reduceAdd, Nat.reduceMul, Nat.reduceSub, Nat.reduceLT, Int.reduceToNat, hx, hlx]))
  refine T_for m (fun i e h' => Pins e [(0, .adr b5 0), (1, .adr bx 0), (10, eI wx), (11, .int .i64 m), (12, .int .i64 i)] ∧ (h'.length = h.length ∧ (∀ b', b' ≠ bb → h'[b']? = h[b']?) ∧ h'.cells bb = some ((xorUp A B m i).map (.int .i64)))) ?_ ?_
  · (try (simp (disch := first | omega | (simp <;> omega) | fail) only [push_cast, ↓reduceIte, Nat.reduceEqDiff, Nat.reduceAdd, Nat.reduceMul, Nat.reduceSub, Nat.reduceLT, Int.reduceToNat]))
    all_goals (try exact ⟨fun _ _ => trivial, by rw [xorUp_0]; exact hb⟩)
  rintro i e h' hi ⟨hp, g1, g2, g3⟩
  refine T_pins hp fun e => ?_
  have k5 := cells_fr2 g2 h5 d1
  have kx := cells_fr2 g2 hx d3
  (try (simp (disch := first | omega | (simp <;> omega) | fail) only [push_cast, ↓reduceIte, Nat.reduceEqDiff, Nat.reduceAdd, Nat.reduceMul, Nat.reduceSub, Nat.reduceLT, Int.reduceToNat]))
  first | refine goC_split (fun hc => ?_) (fun hc => ?_) | refine cnd_split (fun hc => ?_) (fun hc => ?_)
  · (try (simp only [decide_eq_true_eq, decide_eq_false_iff_not, Bool.not_eq_true', Bool.not_eq_false', Bool.and_eq_true, Bool.or_eq_true, Int.not_lt, Int.not_le] at hc)); (try (simp (disch := first | omega | (simp <;> omega) | fail) only [push_cast, ↓reduceIte, Nat.reduceEqDiff, Nat.reduceAdd, Nat.reduceMul, Nat.reduceSub, Nat.reduceLT, Int.reduceToNat]))
    have hi2 : i < m := by omega
    have hgx : (lI wx).getD i 0 = (wordN B i : Int) := by rw [hwx, wordsN_get hi2]
    have hwl := wordN_lt (B := A) (k := i)
    have hwl2 := wordN_lt (B := B) (k := i)
    have hgi : ((xorUp A B m i).map (AV.int .i64))[i]? = some (.int .i64 (wordN A i : Int)) := by
      rw [get_I (by rw [xorUp_len]; omega), xorUp_get hi2]
    have hlen : ((xorUp A B m i).map (AV.int .i64)).length = m := by simp [xorUp_len]
    have hxr := bitsI_xor (x := wordN A i) (y := wordN B i) (by omega) (by omega)
    have hos : over ((xorUp A B m i).map (AV.int .i64)) i [.int .i64 ((wordN A i ^^^ wordN B i : Nat) : Int)] = (xorUp A B m (i + 1)).map (.int .i64) := by
      rw [over_set (by rw [hlen]; omega), ← List.map_set, xorUp_next hi2]
    (try (simp (disch := first | omega | (simp <;> omega) | fail) only [push_cast, ↓reduceIte, Nat.reduceEqDiff, Nat.reduceAdd, Nat.reduceMul, Nat.reduceSub, Nat.reduceLT, Int.reduceToNat, k5, kx, g3, hgx, hgi, hlen, hxr, hos, reads, List.mem_cons, List.mem_append, List.not_mem_nil, nat_ff, or_self, or_false, false_or, not_false_eq_true]))
    all_goals (try exact ⟨by simp [wr]; omega, fun b' h2 => by unfold wr; rw [List.getElem?_set_ne (Ne.symm h2)]; exact g2 b' h2, by rw [cells_wr2 (by omega)]⟩)
  · (try (simp only [decide_eq_true_eq, decide_eq_false_iff_not, Bool.not_eq_true', Bool.not_eq_false', Bool.and_eq_true, Bool.or_eq_true, Int.not_lt, Int.not_le] at hc)); (try (simp (disch := first | omega | (simp <;> omega) | fail) only [push_cast, ↓reduceIte, Nat.reduceEqDiff, Nat.reduceAdd, Nat.reduceMul, Nat.reduceSub, Nat.reduceLT, Int.reduceToNat]))
    have hin : i = m := by omega
    subst hin
    rw [xorUp_all] at g3
    have hbeq : (r != r2) = !(r == r2) := rfl
    rw [hbeq]
    have w5 : ∀ q : Bool, H.cells (wr h' b5 [.int .i64 n, .sl bb 0 1 i i, .bool q, .int .u64 0]) b5 = some [.int .i64 n, .sl bb 0 1 i i, .bool q, .int .u64 0] := fun q => cells_wr2 (by omega)
    have wX : ∀ q : Bool, H.cells (wr h' b5 [.int .i64 n, .sl bb 0 1 i i, .bool q, .int .u64 0]) bx = some [.int .i64 n2, eI wx, .bool r2, .int .u64 0] := fun q => by
      rw [cells_eq]
      unfold wr
      rw [List.getElem?_set_ne d2, ← cells_eq]
      exact kx
    have hz : bitsI .xor .u64 0 0 = 0 := by decide
    have hfin : ∀ q : Bool, AdI h (wr (wr h' b5 [.int .i64 n, .sl bb 0 1 i i, .bool q, .int .u64 0]) b5 [.int .i64 n, .sl bb 0 1 i i, .bool q, .int .u64 0]) n b5 bb i (A ^^^ B) q := fun q => by
      refine ⟨by simp [wr]; omega, fun b' _ h1 h2 => ?_, cells_wr2 (by simp [wr]; omega), ?_⟩
      · unfold wr
        rw [List.getElem?_set_ne (Ne.symm h2), List.getElem?_set_ne (Ne.symm h2)]
        exact g2 b' h1
      · rw [cells_eq]
        unfold wr
        rw [List.getElem?_set_ne d1, List.getElem?_set_ne d1, ← cells_eq]
        exact g3
    cases hq : (r == r2)
    · (try (simp (disch := first | omega | (simp <;> omega) | fail) only [push_cast, ↓reduceIte, Nat.reduceEqDiff, Nat.reduceAdd, Nat.reduceMul, Nat.reduceSub, Nat.reduceLT, Int.reduceToNat, k5, kx, hq, w5, wX, hz, reads, List.mem_cons, List.mem_append, List.not_mem_nil, nat_ff, or_self, or_false, false_or, not_false_eq_true]))
      all_goals (try exact ⟨⟨hfin _, hfin _⟩, hfin _, hfin _⟩)
      all_goals (try exact hfin _)
    · (try (simp (disch := first | omega | (simp <;> omega) | fail) only [push_cast, ↓reduceIte, Nat.reduceEqDiff, Nat.reduceAdd, Nat.reduceMul, Nat.reduceSub, Nat.reduceLT, Int.reduceToNat, k5, kx, hq, w5, wX, hz, reads, List.mem_cons, List.mem_append, List.not_mem_nil, nat_ff, or_self, or_false, false_or, not_false_eq_true]))
      all_goals (try exact ⟨⟨hfin _, hfin _⟩, hfin _, hfin _⟩)
      all_goals (try exact hfin _)
set_option maxHeartbeats 1000000 in
theorem c_impl_equation_add2 (m A X u u2 be oe bw bx ox bxw : Nat) (r r2 : Bool) (ce cx : List AV) (h : H) (hm : m ≤ 1000)
    (he : h.cells be = some ce) (hw : h.cells bw = some ((wordsN A m).map (.int .i64))) (hx : h.cells bx = some cx) (hxw : h.cells bxw = some ((wordsN X m).map (.int .i64)))
    (g1 : ce[oe + 1]? = some (.sl bw 0 1 m m)) (g2 : ce[oe + 2]? = some (.bool r)) (g3 : ce[oe + 3]? = some (.int .u64 u))
    (k1 : cx[ox + 1]? = some (.sl bxw 0 1 m m)) (k2 : cx[ox + 2]? = some (.bool r2)) (k3 : cx[ox + 3]? = some (.int .u64 u2))
    (d1 : be ≠ bw) (d2 : bx ≠ be) (d3 : bxw ≠ be) (d4 : bx ≠ bw) (d5 : bxw ≠ bw) (hu : u < 18446744073709551616) (hu2 : u2 < 18446744073709551616) :
    Call Try.prog 68 [.adr be oe, .adr bx ox] h (fun b' => b' = bw ∨ b' = be) (fun _ h' => h'.length = h.length ∧ (∀ b', b' ≠ bw → b' ≠ be → h'[b']? = h[b']?) ∧ h'.cells be = some ((ce.set (oe + 2) (.bool (!(r == r2)))).set (oe + 3) (.int .u64 ((u ^^^ u2 : Nat) : Int))) ∧ h'.cells bw = some ((wordsN (A ^^^ X) m).map (.int .i64))) := by
  refine enter (by kernel_rfl) e68 (by kernel_rfl) rfl fun hok => ?_
  simp only [r68, initEnv_2]
  have hl5 := cells_lt he
  have hlb := cells_lt hw
  have hlen : oe + 3 < ce.length := (List.getElem?_eq_some_iff.1 g3).1
  (try (simp (disch := first | omega | (simp <;> omega) | fail) only [push_cast, ↓reduceIte, Nat.reduceEqDiff, Nat.reduceAdd, Nat.reduceMul, Nat.reduceSub, Nat.reduceLT, Int.reduceToNat, hx, k1]))
  refine T_for m (fun i e h' => Pins e [(0, .adr be oe), (1, .adr bx ox), (10, .sl bxw 0 1 m m), (11, .int .i64 m), (12, .int .i64 i)] ∧ (h'.length = h.length ∧ (∀ b', b' ≠ bw → h'[b']? = h[b']?) ∧ h'.cells bw = some ((xorUp A X m i).map (.int .i64)))) ?_ ?_
  · (try (simp (disch := first | omega | (simp <;> omega) | fail) only [push_cast, ↓reduceIte, Nat.reduceEqDiff, Nat.reduceAdd, Nat.reduceMul, Nat.reduceSub, Nat.reduceLT, Int.reduceToNat]))
    all_goals (try exact ⟨rfl, fun _ _ => rfl, by rw [xorUp_0]; exact hw⟩)
    all_goals (try exact ⟨fun _ _ => trivial, by rw [xorUp_0]; exact hw⟩)
  rintro i e h' hi ⟨hp, q1, q2, q3⟩
  refine T_pins hp fun e => ?_
  have ke := cells_fr2 q2 he d1
  have kx := cells_fr2 q2 hx d4
  have kxw := cells_fr2 q2 hxw d5
  (try (simp (disch := first | omega | (simp <;> omega) | fail) only [push_cast, ↓reduceIte, Nat.reduceEqDiff, Nat.reduceAdd, Nat.reduceMul, Nat.reduceSub, Nat.reduceLT, Int.reduceToNat]))
  first | refine goC_split (fun hc => ?_) (fun hc => ?_) | refine cnd_split (fun hc => ?_) (fun hc => ?_)
  · (try (simp only [decide_eq_true_eq, decide_eq_false_iff_not, Bool.not_eq_true', Bool.not_eq_false', Bool.and_eq_true, Bool.or_eq_true, Int.not_lt, Int.not_le] at hc)); (try (simp (disch := first | omega | (simp <;> omega) | fail) only [push_cast, ↓reduceIte, Nat.reduceEqDiff, Nat.reduceAdd, Nat.reduceMul, Nat.reduceSub, Nat.reduceLT, Int.reduceToNat]))
    have hi2 : i < m := by omega
    have hgx : ((wordsN X m).map (AV.int .i64))[i]? = some (.int .i64 (wordN X i : Int)) := by rw [get_I (by rw [wordsN_len]; omega), wordsN_get hi2]
    have hwl := wordN_lt (B := A) (k := i)
    have hwl2 := wordN_lt (B := X) (k := i)
    have hgi : ((xorUp A X m i).map (AV.int .i64))[i]? = some (.int .i64 (wordN A i : Int)) := by
      rw [get_I (by rw [xorUp_len]; omega), xorUp_get hi2]
    have hlen2 : ((xorUp A X m i).map (AV.int .i64)).length = m := by simp [xorUp_len]
    have hxr := bitsI_xor (x := wordN A i) (y := wordN X i) (by omega) (by omega)
    have hos : over ((xorUp A X m i).map (AV.int .i64)) i [.int .i64 ((wordN A i ^^^ wordN X i : Nat) : Int)] = (xorUp A X m (i + 1)).map (.int .i64) := by
      rw [over_set (by rw [hlen2]; omega), ← List.map_set, xorUp_next hi2]
    (try (simp (disch := first | omega | (simp <;> omega) | fail) only [push_cast, ↓reduceIte, Nat.reduceEqDiff, Nat.reduceAdd, Nat.reduceMul, Nat.reduceSub, Nat.reduceLT, Int.reduceToNat, kxw, hgx, ke, g1, q3, hgi, hlen2, hxr, hos, reads, List.mem_cons, List.mem_append, List.not_mem_nil, nat_ff, or_self, or_false, false_or, not_false_eq_true]))
    all_goals (try exact ⟨by simp [wr]; omega, fun b' h2 => by unfold wr; rw [List.getElem?_set_ne (Ne.symm h2)]; exact q2 b' h2, by rw [cells_wr2 (by omega)]⟩)
  · (try (simp only [decide_eq_true_eq, decide_eq_false_iff_not, Bool.not_eq_true', Bool.not_eq_false', Bool.and_eq_true, Bool.or_eq_true, Int.not_lt, Int.not_le] at hc)); (try (simp (disch := first | omega | (simp <;> omega) | fail) only [push_cast, ↓reduceIte, Nat.reduceEqDiff, Nat.reduceAdd, Nat.reduceMul, Nat.reduceSub, Nat.reduceLT, Int.reduceToNat]))
    have hin : i = m := by omega
    subst hin
    rw [xorUp_all] at q3
    have o1 : ∀ q : Bool, over ce (oe + 2) [.bool q] = ce.set (oe + 2) (.bool q) := fun q => over_set (by omega)
    have o2 : ∀ q : Bool, over (ce.set (oe + 2) (.bool q)) (oe + 3) [.int .u64 ((u ^^^ u2 : Nat) : Int)] = (ce.set (oe + 2) (.bool q)).set (oe + 3) (.int .u64 ((u ^^^ u2 : Nat) : Int)) := fun q => over_set (by simp; omega)
    have w5 : ∀ q : Bool, H.cells (wr h' be (ce.set (oe + 2) (.bool q))) be = some (ce.set (oe + 2) (.bool q)) := fun q => cells_wr2 (by omega)
    have w6 : ∀ q : Bool, (ce.set (oe + 2) (.bool q))[oe + 3]? = some (.int .u64 u) := fun q => by
      rw [List.getElem?_set_ne (by omega)]
      exact g3
    have wX : ∀ q : Bool, H.cells (wr h' be (ce.set (oe + 2) (.bool q))) bx = some cx := fun q => by
      rw [cells_eq]
      unfold wr
      rw [List.getElem?_set_ne (Ne.symm d2), ← cells_eq]
      exact kx
    have hll : oe + 2 + 1 ≤ ce.length := by omega
    have hll2 : ∀ q : Bool, oe + 3 + 1 ≤ (ce.set (oe + 2) (.bool q)).length := fun q => by simp; omega
    have hz := bitsI_xor_u64 hu hu2
    have hfin : ∀ q : Bool, (wr (wr h' be (ce.set (oe + 2) (.bool q))) be ((ce.set (oe + 2) (.bool q)).set (oe + 3) (.int .u64 ((u ^^^ u2 : Nat) : Int)))).length = h.length ∧ (∀ b', b' ≠ bw → b' ≠ be → (wr (wr h' be (ce.set (oe + 2) (.bool q))) be ((ce.set (oe + 2) (.bool q)).set (oe + 3) (.int .u64 ((u ^^^ u2 : Nat) : Int))))[b']? = h[b']?) ∧ H.cells (wr (wr h' be (ce.set (oe + 2) (.bool q))) be ((ce.set (oe + 2) (.bool q)).set (oe + 3) (.int .u64 ((u ^^^ u2 : Nat) : Int)))) be = some ((ce.set (oe + 2) (.bool q)).set (oe + 3) (.int .u64 ((u ^^^ u2 : Nat) : Int))) ∧ H.cells (wr (wr h' be (ce.set (oe + 2) (.bool q))) be ((ce.set (oe + 2) (.bool q)).set (oe + 3) (.int .u64 ((u ^^^ u2 : Nat) : Int)))) bw = some ((wordsN (A ^^^ X) i).map (.int .i64)) := fun q => by
      refine ⟨by simp [wr]; omega, fun b' h1 h2 => ?_, cells_wr2 (by simp [wr]; omega), ?_⟩
      · unfold wr
        rw [List.getElem?_set_ne (Ne.symm h2), List.getElem?_set_ne (Ne.symm h2)]
        exact q2 b' h1
      · rw [cells_eq]
        unfold wr
        rw [List.getElem?_set_ne d1, List.getElem?_set_ne d1, ← cells_eq]
        exact q3
    cases hrr : (r == r2)
    · (try (simp (disch := first | omega | (simp <;> omega) | fail) only [push_cast, ↓reduceIte, Nat.reduceEqDiff, Nat.reduceAdd, Nat.reduceMul, Nat.reduceSub, Nat.reduceLT, Int.reduceToNat, ke, kx, g2, k2, k3, hrr, o1, hll, w5, wX, w6, hz, o2, hll2, reads, List.mem_cons, List.mem_append, List.not_mem_nil, nat_ff, or_self, or_false, false_or, not_false_eq_true]))
      all_goals (try exact ⟨⟨hfin _, hfin _⟩, hfin _, hfin _⟩)
      all_goals (try exact hfin _)
    · (try (simp (disch := first | omega | (simp <;> omega) | fail) only [push_cast, ↓reduceIte, Nat.reduceEqDiff, Nat.reduceAdd, Nat.reduceMul, Nat.reduceSub, Nat.reduceLT, Int.reduceToNat, ke, kx, g2, k2, k3, hrr, o1, hll, w5, wX, w6, hz, o2, hll2, reads, List.mem_cons, List.mem_append, List.not_mem_nil, nat_ff, or_self, or_false, false_or, not_false_eq_true]))
      all_goals (try exact ⟨⟨hfin _, hfin _⟩, hfin _, hfin _⟩)
      all_goals (try exact hfin _)

theorem ce_sortEq : CanEnter Try.prog (Try.sortEq_ren.f 6) := canEnter_of (Try.func106) (by kernel_rfl) (by kernel_rfl)
theorem aE_sortEq : ∀ w, (isAgg (Try.sortEq_ren.t 24)).run Try.prog w = .ok true w := Try.isAgg88
theorem zE_sortEq : ∀ w, (Go.sizeOf (Try.sortEq_ren.t 24)).run Try.prog w = .ok 4 w := Try.sizeOf88

/-- Of which rows it is the sum. -/
def ofN (n X : Nat) : Nat := X >>> (n + 1)
theorem ofN_xor {n X Y : Nat} : ofN n (X ^^^ Y) = ofN n X ^^^ ofN n Y := Nat.shiftRight_xor_distrib
def cEq (n m : Nat) (p : Nat × Nat) : List AV := [.int .i64 n, .sl p.2 0 1 m m, .bool (p.1.testBit n), .int .u64 (ofN n p.1 : Int)]
theorem cEq_len (n m : Nat) (p : Nat × Nat) : (cEq n m p).length = 4 := rfl
def cQ (n m X : Nat) : List AV := [.int .i64 n, eI (some (wordsN (X % 2 ^ n) m)), .bool (X.testBit n), .int .u64 (ofN n X : Int)]
theorem cQ_len (n m X : Nat) : (cQ n m X).length = 4 := rfl
theorem free_cQ {n m X : Nat} : ∀ c ∈ cQ n m X, Free c := free_cons_ free_int (free_cons_ free_eI (free_cons_ free_bool (free_cons_ free_int free_nil_)))
theorem mod_xor {A X n : Nat} : A % 2 ^ n ^^^ X % 2 ^ n = (A ^^^ X) % 2 ^ n := by
  refine Nat.eq_of_testBit_eq fun j => ?_
  simp only [Nat.testBit_mod_two_pow, Nat.testBit_xor]
  cases decide (j < n) <;> simp
/-- Equations of the call's own: the list in its block, the words of each in a block for itself. -/
def EqL (h : H) (n0 n m : Nat) (v : AV) (L : List (Nat × Nat)) (B : List Nat) : Prop :=
  S1 h 4 v L.length (L.flatMap (cEq n m)) B ∧ (∀ b ∈ B, n0 ≤ b) ∧ (∀ p ∈ L, n0 ≤ p.2 ∧ p.2 ∉ B ∧ h.cells p.2 = some ((wordsN (p.1 % 2 ^ n) m).map (.int .i64))) ∧ (L.map (·.2)).Nodup
theorem cells_keep {h h' : H} {b : Nat} {cs : List AV} (hk : h'[b]? = h[b]?) (hc : h.cells b = some cs) : h'.cells b = some cs := by
  rw [cells_eq, hk, ← cells_eq]
  exact hc
theorem EqL.frame {h h' : H} {n0 n m : Nat} {v : AV} {L : List (Nat × Nat)} {B : List Nat} (hs : EqL h n0 n m v L B) (hB : ∀ b ∈ B, h'[b]? = h[b]?) (hL : ∀ p ∈ L, h'[p.2]? = h[p.2]?) : EqL h' n0 n m v L B := by
  obtain ⟨h1, h2, h3, h4⟩ := hs
  exact ⟨h1.frame hB, h2, fun p hp => ⟨(h3 p hp).1, (h3 p hp).2.1, cells_keep (hL p hp) (h3 p hp).2.2⟩, h4⟩
theorem EqL.lt {h : H} {n0 n m : Nat} {v : AV} {L : List (Nat × Nat)} {B : List Nat} (hs : EqL h n0 n m v L B) : (∀ b ∈ B, b < h.length) ∧ ∀ p ∈ L, p.2 < h.length := ⟨hs.1.lt, fun p hp => cells_lt (hs.2.2.1 p hp).2.2⟩
theorem EqL.get {n m : Nat} {L : List (Nat × Nat)} {k : Nat} (hk : k < L.length) : ∀ j, j < 4 → (L.flatMap (cEq n m))[k * 4 + j]? = (cEq n m (L.getD k (0, 0)))[j]? := fun j hj => flatMap_get (cEq_len n m) (0, 0) hk hj
theorem getD_mem {α : Type} {L : List α} {k : Nat} {d : α} (hk : k < L.length) : L.getD k d ∈ L := by
  rw [List.getD_eq_getElem?_getD, List.getElem?_eq_getElem hk]
  exact List.getElem_mem hk
theorem flat_set {n m : Nat} : ∀ {L : List (Nat × Nat)} {k : Nat} {Y : Nat}, k < L.length → ((L.flatMap (cEq n m)).set (k * 4 + 2) (.bool (Y.testBit n))).set (k * 4 + 3) (.int .u64 (ofN n Y : Int)) = (L.set k (Y, (L.getD k (0, 0)).2)).flatMap (cEq n m)
  | [], k, Y, hk => by simp at hk
  | p :: L, 0, Y, _ => by simp [cEq]
  | p :: L, k + 1, Y, hk => by
    have ih := flat_set (n := n) (m := m) (L := L) (k := k) (Y := Y) (by simpa using hk)
    have e2 : (k + 1) * 4 + 2 = 4 + (k * 4 + 2) := by omega
    have e3 : (k + 1) * 4 + 3 = 4 + (k * 4 + 3) := by omega
    rw [List.flatMap_cons, e2, e3, List.set_append_right _ _ (by rw [cEq_len]; omega), List.set_append_right _ _ (by rw [cEq_len]; omega), cEq_len, Nat.add_sub_cancel_left, Nat.add_sub_cancel_left, ih]
    simp
theorem map_set_fst {L : List (Nat × Nat)} {k Y : Nat} (hk : k < L.length) : (L.set k (Y, (L.getD k (0, 0)).2)).map (·.2) = L.map (·.2) := by
  rw [List.map_set]
  refine List.ext_getElem? fun i => ?_
  rw [List.getElem?_set]
  by_cases h : k = i
  · subst h
    simp [hk]
  · rw [if_neg h]
/-- One of them has been added to. -/
theorem EqL.put {h h' : H} {n0 n m k Y b : Nat} {v : AV} {L : List (Nat × Nat)} (hs : EqL h n0 n m v L [b]) (hk : k < L.length) (hlen : h'.length = h.length)
    (hfr : ∀ b', b' ≠ (L.getD k (0, 0)).2 → b' ≠ b → h'[b']? = h[b']?) (hc : h'.cells b = some (((L.flatMap (cEq n m)).set (k * 4 + 2) (.bool (Y.testBit n))).set (k * 4 + 3) (.int .u64 (ofN n Y : Int))))
    (hw : h'.cells (L.getD k (0, 0)).2 = some ((wordsN (Y % 2 ^ n) m).map (.int .i64))) : EqL h' n0 n m v (L.set k (Y, (L.getD k (0, 0)).2)) [b] := by
  obtain ⟨h1, h2, h3, h4⟩ := hs
  refine ⟨?_, h2, fun p hp => ?_, by rw [map_set_fst hk]; exact h4⟩
  · obtain ⟨g1, g2⟩ := h1
    rw [flat_set hk] at hc
    refine ⟨by rw [flatMap_len (cEq_len n m)], ?_⟩
    rcases g2 with ⟨_, _, hB⟩ | ⟨b2, rfl, hB, _⟩
    · cases hB
    · injection hB with hB
      subst hB
      exact .inr ⟨_, by simp, rfl, hc⟩
  · obtain ⟨i, hi⟩ := List.getElem?_of_mem hp
    rw [List.getElem?_set] at hi
    by_cases hki : k = i
    · subst hki
      rw [if_pos rfl, if_pos hk] at hi
      injection hi with hi
      subst hi
      obtain ⟨q1, q2, _⟩ := h3 _ (getD_mem (d := (0, 0)) hk)
      exact ⟨q1, q2, hw⟩
    · rw [if_neg hki] at hi
      have hpL := List.mem_of_getElem? hi
      obtain ⟨q1, q2, q3⟩ := h3 p hpL
      refine ⟨q1, q2, cells_keep (hfr _ (fun he => hki ?_) (fun he => q2 (by simp [he]))) q3⟩
      have hil := (List.getElem?_eq_some_iff.1 hi).1
      have e1 : (L.map (·.2))[i]? = (L.map (·.2))[k]? := by
        simp only [List.getElem?_map, hi, Option.map_some, he]
        simp [hk]
      exact ((List.getElem?_inj (by simpa using hil) h4).1 e1).symm
/-- What is seen of a list of such. -/
theorem EqL.adr {h : H} {n0 n m b o : Nat} {v : AV} {L : List (Nat × Nat)} (hs : EqL h n0 n m v L [b]) : Vw h 0 (.adr b o) (.rad (L.flatMap fun p => cQ n m p.1) o) := by
  have hc := hs.1.cells b (by simp)
  have hql : ∀ p : Nat × Nat, (cQ n m p.1).length = 4 := fun p => rfl
  refine .adr (Nat.zero_le _) hc (by rw [flatMap_len (cEq_len n m), flatMap_len (w := 4) hql]) (fun i y t hy ht => ?_)
  have hlt : i < L.length * 4 := by
    have := (List.getElem?_eq_some_iff.1 hy).1
    rwa [flatMap_len (cEq_len n m)] at this
  have hd : i / 4 < L.length := by omega
  have hm4 : i % 4 < 4 := by omega
  have e : i = i / 4 * 4 + i % 4 := by omega
  rw [e, EqL.get hd _ hm4] at hy
  rw [e, flatMap_get hql (0, 0) hd hm4] at ht
  have hp := hs.2.2.1 _ (getD_mem (d := (0, 0)) hd)
  generalize L.getD (i / 4) (0, 0) = p at hy ht hp
  generalize i % 4 = j at hy ht
  rcases j with _ | _ | _ | _ | j
  · simp [cEq] at hy
    simp [cQ] at ht
    subst hy ht
    exact .free free_int
  · simp [cEq] at hy
    simp [cQ, eI, wordsN_len] at ht
    subst hy ht
    exact vw_all (cs := (wordsN (p.1 % 2 ^ n) m).map (.int .i64)) (Nat.zero_le _) hp.2.2 (by simp [wordsN_len]) (one_map fun _ => rfl) (free_map_ fun _ => free_int)
  · simp [cEq] at hy
    simp [cQ] at ht
    subst hy ht
    exact .free free_bool
  · simp [cEq] at hy
    simp [cQ] at ht
    subst hy ht
    exact .free free_int
  · simp [cEq] at hy
theorem vw_cEq {h : H} {n0 n m : Nat} {p : Nat × Nat} (hb : n0 ≤ p.2) (hw : h.cells p.2 = some ((wordsN (p.1 % 2 ^ n) m).map (.int .i64))) : Vw h n0 (.agg (cEq n m p)) (.agg (cQ n m p.1)) := by
  refine .agg rfl (fun i y t hy ht => ?_)
  rcases i with _ | _ | _ | _ | j
  · simp [cEq] at hy
    simp [cQ] at ht
    subst hy ht
    exact .free free_int
  · simp [cEq] at hy
    simp [cQ, eI, wordsN_len] at ht
    subst hy ht
    exact vw_all (cs := (wordsN (p.1 % 2 ^ n) m).map (.int .i64)) hb hw (by simp [wordsN_len]) (one_map fun _ => rfl) (free_map_ fun _ => free_int)
  · simp [cEq] at hy
    simp [cQ] at ht
    subst hy ht
    exact .free free_bool
  · simp [cEq] at hy
    simp [cQ] at ht
    subst hy ht
    exact .free free_int
  · simp [cEq] at hy
theorem vw_eqAdr {h : H} {n m be : Nat} {p : Nat × Nat} (hc : h.cells be = some (cEq n m p)) (hw : h.cells p.2 = some ((wordsN (p.1 % 2 ^ n) m).map (.int .i64))) : Vw h 0 (.adr be 0) (.rad (cQ n m p.1) 0) := by
  refine .adr (Nat.zero_le _) hc rfl (fun i y t hy ht => ?_)
  have := vw_cEq (n0 := 0) (Nat.zero_le _) hw
  cases this with
  | agg hl hv => exact hv i y t hy ht
/-! ### the numbers -/
def stI (s : Sy) (n i : Nat) : List Nat × Nat := ((List.range i).map (rowE s n)).foldl (M.stepI n) ([], 0)
theorem stI_succ {s : Sy} {n i : Nat} : stI s n (i + 1) = M.stepI n (stI s n i) (rowE s n i) := by
  unfold stI
  rw [List.range_succ, List.map_append, List.foldl_append]
  rfl
theorem stI_sim {s : Sy} {n i : Nat} : Sim n (stS s n i) (stI s n i) := Sim.fold Sim.nil
theorem stI_len {s : Sy} {n i : Nat} : (stI s n i).1.length ≤ i := by
  rw [← (stI_sim (s := s) (n := n) (i := i)).len]
  exact stS_len
theorem redI_lt {n k x : Nat} {L : List Nat} (hL : ∀ l ∈ L, l < 2 ^ k) (hx : x < 2 ^ k) : redI n L x < 2 ^ k := by
  obtain ⟨u, hu, he⟩ := redI_span (n := n) (L := L) (x := x)
  rw [he]
  exact Nat.xor_lt_two_pow hx (hu.lt hL)
theorem OkE.bnd {s : Sy} {n m : Nat} (ho : OkE s n m) : ∀ {i}, i ≤ (lB s.rows).length → ∀ l ∈ (stI s n i).1, l < 2 ^ (n + 42)
  | 0, _, l, h => by cases h
  | i + 1, h, l, hl => by
    have hn := ho.nr
    have ih := ho.bnd (i := i) (by omega)
    have hE := rowE_lt (ho.lt i (by omega))
    have hpow : (2 : Nat) ^ (n + 1 + (i + 1)) ≤ 2 ^ (n + 42) := Nat.pow_le_pow_right (by decide) (by omega)
    have hX : redI n (stI s n i).1 (rowE s n i) < 2 ^ (n + 42) := redI_lt ih (by omega)
    rw [stI_succ] at hl
    unfold M.stepI at hl
    split at hl
    · rcases List.mem_append.1 hl with hl | hl
      · obtain ⟨q, hq, rfl⟩ := List.mem_map.1 hl
        have hq2 := ih q hq
        split
        · exact Nat.xor_lt_two_pow hq2 hX
        · exact hq2
      · rw [List.mem_singleton.1 hl]
        exact hX
    · split at hl <;> exact ih l hl
theorem OkE.bnd2 {s : Sy} {n m : Nat} (ho : OkE s n m) : ∀ {i}, i ≤ (lB s.rows).length → (stI s n i).2 < 2 ^ (n + 42)
  | 0, _ => Nat.two_pow_pos _
  | i + 1, h => by
    have hn := ho.nr
    have ih := ho.bnd2 (i := i) (by omega)
    have hE := rowE_lt (ho.lt i (by omega))
    have hpow : (2 : Nat) ^ (n + 1 + (i + 1)) ≤ 2 ^ (n + 42) := Nat.pow_le_pow_right (by decide) (by omega)
    have hX : redI n (stI s n i).1 (rowE s n i) < 2 ^ (n + 42) := redI_lt (ho.bnd (i := i) (by omega)) (by omega)
    rw [stI_succ]
    unfold M.stepI
    split
    · exact ih
    · split
      · exact hX
      · exact ih
theorem shr_lt {n X : Nat} (h : X < 2 ^ (n + 42)) : ofN n X < 18446744073709551616 := by
  unfold ofN
  rw [Nat.shiftRight_eq_div_pow, Nat.div_lt_iff_lt_mul (Nat.two_pow_pos _)]
  refine Nat.lt_of_lt_of_le h ?_
  rw [show (18446744073709551616 : Nat) = 2 ^ 64 from rfl, ← Nat.pow_add]
  exact Nat.pow_le_pow_right (by decide) (by omega)
theorem Msk.shr {n i : Nat} {p : List Nat × Nat} (h : Msk n i p) : ofN n p.2 = 0 ↔ p.2 = 0 := by
  unfold ofN
  constructor
  · intro h0
    by_cases hne : p.2 = 0
    · exact hne
    · obtain ⟨j, hj, hb⟩ := h.some hne
      rw [← Nat.testBit_shiftRight, h0] at hb
      simp at hb
  · intro h0
    rw [h0]
    simp
theorem u64_shl {i : Nat} (hi : i < 64) : IntKind.u64.wrap (1 * 2 ^ (min i IntKind.u64.bits)) = ((2 ^ i : Nat) : Int) := by
  have h1 : min i IntKind.u64.bits = i := by
    simp [IntKind.bits]
    omega
  rw [h1, Int.one_mul]
  have h3 : ((2 : Int) ^ i) = ((2 ^ i : Nat) : Int) := by simp
  have h4 : (2 : Nat) ^ i < 2 ^ 64 := Nat.pow_lt_pow_right (by decide) hi
  rw [h3]
  exact u64_nat (by omega)
theorem redI_take {n k : Nat} {L : List Nat} {x : Nat} (hk : k < L.length) : redI n (L.take (k + 1)) x = if (redI n (L.take k) x).testBit (lead n (L.getD k 0)) = true then redI n (L.take k) x ^^^ L.getD k 0 else redI n (L.take k) x := by
  unfold redI
  rw [List.take_add_one, List.foldl_append]
  simp [hk]
theorem getD_fst {L : List (Nat × Nat)} {k : Nat} (hk : k < L.length) : (L.map (·.1)).getD k 0 = (L.getD k (0, 0)).1 := by simp [hk]
/-- The equation that is being added to, and the list. -/
structure RS (h h' : H) (s : Sy) (n m : Nat) (v : AV) (B : List Nat) (L : List (Nat × Nat)) (be bw X : Nat) : Prop where
  box : h'.cells h.length = .some [.int .i64 n, eBS s.rows, eO s.right]
  eq : EqL h' (h.length + 1) n m v L B
  be0 : h.length < be
  bw0 : h.length < bw
  hne : be ≠ bw
  beB : be ∉ B
  bwB : bw ∉ B
  beL : ∀ p ∈ L, p.2 ≠ be
  bwL : ∀ p ∈ L, p.2 ≠ bw
  ce : h'.cells be = .some (cEq n m (X, bw))
  cw : h'.cells bw = .some ((wordsN (X % 2 ^ n) m).map (.int .i64))
theorem RS.len {h h' : H} {s : Sy} {n m : Nat} {v : AV} {B : List Nat} {L : List (Nat × Nat)} {be bw X : Nat} (hr : RS h h' s n m v B L be bw X) : h.length < h'.length := by
  have := cells_lt hr.box
  exact this
/-- It has been added to. -/
theorem RS.addE {h h1 h2 : H} {s : Sy} {n m : Nat} {v : AV} {B : List Nat} {L : List (Nat × Nat)} {be bw X Y : Nat} (hr : RS h h1 s n m v B L be bw X) (hl : h2.length = h1.length) (hfr : ∀ b', b' ≠ bw → b' ≠ be → h2[b']? = h1[b']?)
    (hc : h2.cells be = .some (((cEq n m (X, bw)).set (0 + 2) (.bool (!(X.testBit n == Y.testBit n)))).set (0 + 3) (.int .u64 ((ofN n X ^^^ ofN n Y : Nat) : Int)))) (hw : h2.cells bw = .some ((wordsN (X % 2 ^ n ^^^ Y % 2 ^ n) m).map (.int .i64))) : RS h h2 s n m v B L be bw (X ^^^ Y) := by
  refine ⟨cells_keep (hfr _ (by have := hr.bw0; omega) (by have := hr.be0; omega)) hr.box, hr.eq.frame (fun b hb => hfr b (fun he => hr.bwB (he ▸ hb)) (fun he => hr.beB (he ▸ hb))) (fun p hp => hfr _ (hr.bwL p hp) (hr.beL p hp)), hr.be0, hr.bw0, hr.hne, hr.beB, hr.bwB, hr.beL, hr.bwL, ?_, ?_⟩
  · rw [hc]
    have e1 : (X ^^^ Y).testBit n = !(X.testBit n == Y.testBit n) := Nat.testBit_xor_
    have e2 : ofN n (X ^^^ Y) = ofN n X ^^^ ofN n Y := ofN_xor
    unfold cEq
    simp only [e1, e2]
    rfl
  · rw [hw, mod_xor]
/-- It has been added to one of the list. -/
theorem RS.addL {h h1 h2 : H} {s : Sy} {n m k b : Nat} {v : AV} {L : List (Nat × Nat)} {be bw X : Nat} (hr : RS h h1 s n m v [b] L be bw X) (hk : k < L.length) (hl : h2.length = h1.length) (hfr : ∀ b', b' ≠ (L.getD k (0, 0)).2 → b' ≠ b → h2[b']? = h1[b']?)
    (hc : h2.cells b = .some (((L.flatMap (cEq n m)).set (k * 4 + 2) (.bool (!((L.getD k (0, 0)).1.testBit n == X.testBit n)))).set (k * 4 + 3) (.int .u64 ((ofN n (L.getD k (0, 0)).1 ^^^ ofN n X : Nat) : Int))))
    (hw : h2.cells (L.getD k (0, 0)).2 = .some ((wordsN ((L.getD k (0, 0)).1 % 2 ^ n ^^^ X % 2 ^ n) m).map (.int .i64))) : RS h h2 s n m v [b] (L.set k ((L.getD k (0, 0)).1 ^^^ X, (L.getD k (0, 0)).2)) be bw X := by
  have hmem := getD_mem (d := (0, 0)) hk
  have hp := hr.eq.2.2.1 _ hmem
  have e1 : ((L.getD k (0, 0)).1 ^^^ X).testBit n = !((L.getD k (0, 0)).1.testBit n == X.testBit n) := Nat.testBit_xor_
  have e2 : ofN n ((L.getD k (0, 0)).1 ^^^ X) = ofN n (L.getD k (0, 0)).1 ^^^ ofN n X := ofN_xor
  rw [← e1, ← e2] at hc
  rw [mod_xor] at hw
  have hb0 := hr.eq.2.1 b (by simp)
  have hmm : ∀ p ∈ L.set k ((L.getD k (0, 0)).1 ^^^ X, (L.getD k (0, 0)).2), ∃ q ∈ L, p.2 = q.2 := fun p hp => by
    rcases List.mem_or_eq_of_mem_set hp with hp | hp
    · exact ⟨p, hp, rfl⟩
    · exact ⟨_, hmem, by rw [hp]⟩
  refine ⟨cells_keep (hfr _ (by omega) (by omega)) hr.box, hr.eq.put hk hl hfr hc hw, hr.be0, hr.bw0, hr.hne, hr.beB, hr.bwB, fun p hp => ?_, fun p hp => ?_, cells_keep (hfr _ (hr.beL _ hmem).symm fun he => hr.beB (by simp [he])) hr.ce, cells_keep (hfr _ (hr.bwL _ hmem).symm fun he => hr.bwB (by simp [he])) hr.cw⟩
  · obtain ⟨q, hq, he⟩ := hmm p hp
    rw [he]
    exact hr.beL q hq
  · obtain ⟨q, hq, he⟩ := hmm p hp
    rw [he]
    exact hr.bwL q hq
/-- The list, of which the first so many have been looked at. -/
def updT (n X : Nat) (L : List (Nat × Nat)) (k : Nat) : List (Nat × Nat) := (L.take k).map (fun p => (if p.1.testBit (lead n X) = true then p.1 ^^^ X else p.1, p.2)) ++ L.drop k
theorem updT_len {n X k : Nat} {L : List (Nat × Nat)} : (updT n X L k).length = L.length := by
  simp [updT]
  omega
theorem updT_get {n X k : Nat} {L : List (Nat × Nat)} (hk : k < L.length) : (updT n X L k).getD k (0, 0) = L.getD k (0, 0) := by
  unfold updT
  rw [List.getD_eq_getElem?_getD, List.getElem?_append_right (by rw [List.length_map, List.length_take]; omega), List.length_map, List.length_take, Nat.min_eq_left (by omega), Nat.sub_self, List.getElem?_drop]
  simp
theorem updT_succ {n X k : Nat} {L : List (Nat × Nat)} (hk : k < L.length) : updT n X L (k + 1) = if (L.getD k (0, 0)).1.testBit (lead n X) = true then (updT n X L k).set k ((L.getD k (0, 0)).1 ^^^ X, (L.getD k (0, 0)).2) else updT n X L k := by
  have hd : L.drop k = L.getD k (0, 0) :: L.drop (k + 1) := by
    rw [List.drop_eq_getElem_cons hk]
    simp [hk]
  have ht : L.take (k + 1) = L.take k ++ [L.getD k (0, 0)] := by
    rw [List.take_add_one]
    simp [hk]
  have hlk : ((L.take k).map (fun p : Nat × Nat => (if p.1.testBit (lead n X) = true then p.1 ^^^ X else p.1, p.2))).length = k := by
    simp
    omega
  unfold updT
  rw [ht, List.map_append]
  generalize L.getD k (0, 0) = p at hd
  by_cases hb : p.1.testBit (lead n X) = true
  · rw [if_pos hb, List.set_append_right _ _ (by omega), hlk, Nat.sub_self, hd]
    simp [hb]
  · rw [if_neg hb, hd]
    simp [hb]
theorem updT_all {n X : Nat} {L : List (Nat × Nat)} : (updT n X L L.length).map (·.1) = updI n X (L.map (·.1)) := by
  unfold updT updI
  rw [List.take_length, List.drop_length, List.append_nil, List.map_map, List.map_map]
  rfl
theorem updT_0 {n X : Nat} {L : List (Nat × Nat)} : updT n X L 0 = L := by simp [updT]
theorem updT_fst {n X k : Nat} {L : List (Nat × Nat)} (hb : ∀ p ∈ L, p.1 < 2 ^ (n + 42)) (hX : X < 2 ^ (n + 42)) : ∀ p ∈ updT n X L k, p.1 < 2 ^ (n + 42) := fun p hp => by
  unfold updT at hp
  rcases List.mem_append.1 hp with hp | hp
  · obtain ⟨q, hq, rfl⟩ := List.mem_map.1 hp
    have := hb q (List.mem_of_mem_take hq)
    simp only
    split
    · exact Nat.xor_lt_two_pow this hX
    · exact this
  · exact hb p (List.mem_of_mem_drop hp)
def eQs (n m : Nat) : Option (List Nat) → AV
  | none => .nils
  | some l => .ro 4 (l.flatMap (cQ n m)) l.length
theorem lenA_eQs {n m : Nat} {l : Option (List Nat)} : lenA (eQs n m l) = some (.int .i64 (lL l).length) := by cases l <;> rfl
theorem iaddr_eQs {n m : Nat} {l : Option (List Nat)} {k : IntKind} {i : Int} (h1 : 0 ≤ i) (h2 : i < (lL l).length) : iaddrA 4 (eQs n m l) (.int k i) = some (.rad ((lL l).flatMap (cQ n m)) (i.toNat * 4)) := by
  cases l with
  | none => simp [lL] at h2; omega
  | some l => exact iaddrA_ro h1 h2
theorem ld_Q {n m : Nat} {l : List Nat} {i : Nat} (hi : i < l.length) : ld true 4 (l.flatMap (cQ n m)) (i * 4) = some (.agg (cQ n m (l.getD i 0))) := ld_row (cQ_len n m) 0 hi
theorem one_eQs {n m : Nat} {l : Option (List Nat)} : one (eQs n m l) = true := by cases l <;> rfl
theorem cellsOf_eQs {n m : Nat} {l : Option (List Nat)} : cellsOf (eQs n m l) = [eQs n m l] := by cases l <;> rfl
theorem free_eQs {n m : Nat} {l : Option (List Nat)} : Free (eQs n m l) := by
  cases l with
  | none => exact free_nils
  | some l => exact free_ro (fun c hc => by obtain ⟨p, _, hp⟩ := List.mem_flatMap.1 hc; exact free_cQ c hp)
/-- The list, as it is seen. -/
theorem EqL.vw {h : H} {n0 n m : Nat} {v : AV} {L : List (Nat × Nat)} {B : List Nat} (hs : EqL h n0 n m v L B) (hnn : L = [] → v = .nils) : Vw h n0 v (eQs n m (optN (L.map (·.1)))) := by
  have hql : ∀ p : Nat × Nat, (cQ n m p.1).length = 4 := fun p => rfl
  have hone : (L.flatMap fun p => cQ n m p.1).all one = true := by
    rw [List.all_eq_true]
    intro c hc
    obtain ⟨p, _, hp⟩ := List.mem_flatMap.1 hc
    unfold cQ at hp
    simp only [List.mem_cons, List.not_mem_nil, or_false] at hp
    rcases hp with rfl | rfl | rfl | rfl
    · rfl
    · exact one_eI
    · rfl
    · rfl
  have hvw := hs.1.vw (n0 := n0) (ts := L.flatMap fun p => cQ n m p.1) hs.2.1 (by rw [flatMap_len (cEq_len n m), flatMap_len (w := 4) hql]) hone (fun i y t hy ht => by
    have hlt : i < L.length * 4 := by
      have := (List.getElem?_eq_some_iff.1 hy).1
      rwa [flatMap_len (cEq_len n m)] at this
    have hd : i / 4 < L.length := by omega
    have hm4 : i % 4 < 4 := by omega
    have e : i = i / 4 * 4 + i % 4 := by omega
    rw [e, EqL.get hd _ hm4] at hy
    rw [e, flatMap_get hql (0, 0) hd hm4] at ht
    have hp := hs.2.2.1 _ (getD_mem (d := (0, 0)) hd)
    generalize L.getD (i / 4) (0, 0) = p at hy ht hp
    generalize i % 4 = j at hy ht
    have hh := vw_cEq hp.1 hp.2.2
    rcases j with _ | _ | _ | _ | j
    · simp [cEq] at hy
      simp [cQ] at ht
      subst hy ht
      exact .free free_int
    · simp [cEq] at hy
      simp [cQ, eI, wordsN_len] at ht
      subst hy ht
      exact vw_all (cs := (wordsN (p.1 % 2 ^ n) m).map (.int .i64)) hp.1 hp.2.2 (by simp [wordsN_len]) (one_map fun _ => rfl) (free_map_ fun _ => free_int)
    · simp [cEq] at hy
      simp [cQ] at ht
      subst hy ht
      exact .free free_bool
    · simp [cEq] at hy
      simp [cQ] at ht
      subst hy ht
      exact .free free_int
    · simp [cEq] at hy)
  unfold optN
  by_cases hl : L = []
  · have := hnn hl
    subst this hl
    exact .free free_nils
  · rw [if_neg (by simpa using hl)]
    rcases hvw with ⟨h0, _, _⟩ | ⟨_, hv⟩
    · exact absurd (List.eq_nil_of_length_eq_zero h0) hl
    · have e1 : eQs n m (some (L.map (·.1))) = .ro 4 (L.flatMap fun p => cQ n m p.1) L.length := by
        show AV.ro 4 ((L.map (·.1)).flatMap (cQ n m)) (L.map (·.1)).length = _
        rw [List.flatMap_map, List.length_map]
      rw [e1]
      exact hv

theorem lend_Q {h : H} {b n m X : Nat} (hc : h.cells b = some (cQ n m X)) {xs ts : List AV} (hr : Lend h xs ts) : Lend h (.adr b 0 :: xs) (.rad (cQ n m X) 0 :: ts) := .adr hc free_cQ hr
theorem c_impl_reduced_1 (n m X Y : Nat) (hm : n ≤ 16 * m) (hm2 : m ≤ 100000) : Fn Try.prog 107 [.agg (cQ n m X), .agg (cQ n m Y)] (· = .int .i64 ((lead n X : Int) - (lead n Y : Int))) := by
  refine Fn.of free_int fun h => ?_
  refine enter (by kernel_rfl) e107 (by kernel_rfl) rfl fun hok => ?_
  simp only [r107, initEnv_2]
  have hl1 := lead_le (n := n) (X := X)
  have hl2 := lead_le (n := n) (X := Y)
  have hX := c_impl_Bits_next2 (some (wordsN (X % 2 ^ n) m)) n (X % 2 ^ n) m (cQ n m X) 0 rfl rfl rfl hm hm2
  have hY := c_impl_Bits_next2 (some (wordsN (Y % 2 ^ n) m)) n (Y % 2 ^ n) m (cQ n m Y) 0 rfl rfl rfl hm hm2
  rw [lead_mod] at hX hY
  have oX : (cQ n m X).all one = true := rfl
  have oY : (cQ n m Y).all one = true := rfl
  (try (simp (disch := first | omega | (simp <;> omega) | fail) only [push_cast, ↓reduceIte, Nat.reduceEqDiff, Nat.reduceAdd, Nat.reduceMul, Nat.reduceSub, Nat.reduceLT, Int.reduceToNat, oX, oY]))
  refine hX.lendL ?_ own_int ?_
  · exact lend_Q (by rw [cells_h0]; rfl) (.free free_int (.free free_bool .nil))
  (try (simp (disch := first | omega | (simp <;> omega) | fail) only [push_cast, ↓reduceIte, Nat.reduceEqDiff, Nat.reduceAdd, Nat.reduceMul, Nat.reduceSub, Nat.reduceLT, Int.reduceToNat]))
  refine hY.lendL ?_ own_int ?_
  · exact lend_Q (by rw [cells_hk]; rfl) (.free free_int (.free free_bool .nil))
  (try (simp (disch := first | omega | (simp <;> omega) | fail) only [push_cast, ↓reduceIte, Nat.reduceEqDiff, Nat.reduceAdd, Nat.reduceMul, Nat.reduceSub, Nat.reduceLT, Int.reduceToNat]))

/-- The list so far, the system in its box. -/
def OI (h h' : H) (s : Sy) (n m : Nat) (v : AV) (B : List Nat) (L : List (Nat × Nat)) : Prop :=
  h'.cells h.length = .some [.int .i64 n, eBS s.rows, eO s.right] ∧ EqL h' (h.length + 1) n m v L B ∧ (L = [] → v = .nils)
theorem OI.start {h h' : H} {s : Sy} {n m : Nat} {v : AV} {B : List Nat} {L : List (Nat × Nat)} {be bw X : Nat} (ho : OI h h' s n m v B L) {h1 : H} (hfr : ∀ b, b < h'.length → h1[b]? = h'[b]?) (he : h'.length ≤ be) (hw : h'.length ≤ bw) (hne : be ≠ bw)
    (hce : h1.cells be = .some (cEq n m (X, bw))) (hcw : h1.cells bw = .some ((wordsN (X % 2 ^ n) m).map (.int .i64))) : RS h h1 s n m v B L be bw X := by
  obtain ⟨o1, o2, _⟩ := ho
  obtain ⟨l1, l2⟩ := o2.lt
  have := cells_lt o1
  exact ⟨cells_keep (hfr _ this) o1, o2.frame (fun b hb => hfr b (l1 b hb)) (fun p hp => hfr _ (l2 p hp)), by omega, by omega, hne, fun hb => absurd (l1 _ hb) (by omega), fun hb => absurd (l1 _ hb) (by omega),
    fun p hp he2 => absurd (l2 p hp) (by omega), fun p hp he2 => absurd (l2 p hp) (by omega), hce, hcw⟩
theorem RS.out {h h' : H} {s : Sy} {n m : Nat} {v : AV} {B : List Nat} {L : List (Nat × Nat)} {be bw X : Nat} (hr : RS h h' s n m v B L be bw X) (hn : L = [] → v = .nils) : OI h h' s n m v B L := ⟨hr.box, hr.eq, hn⟩
/-- The equation is put on the list. -/
theorem RS.app {h h1 : H} {s : Sy} {n m : Nat} {v : AV} {B : List Nat} {L : List (Nat × Nat)} {be bw X : Nat} {pm : Nat → Prop} {Q : AV → H → Prop} (hr : RS h h1 s n m v B L be bw X) (hpm : ∀ b, h.length ≤ b → pm b) (hl : L.length ≤ 1000) {l : H}
    (hQ : ∀ v' h2 B', OI h h2 s n m v' B' (L ++ [(X, bw)]) → Q v' h2) : apA pm (h1 ++ l) Q 4 48 (some (cEq n m (X, bw), 1)) v := by
  obtain ⟨e1, e2, e3, e4⟩ := hr.eq
  have hfr0 : ∀ b, b < h1.length → (h1 ++ l)[b]? = h1[b]? := fun b hb => List.getElem?_append_left hb
  have hlt1 := e1.lt
  refine (e1.frame fun b hb => hfr0 b (hlt1 b hb)).app0 (new := cEq n m (X, bw)) (k := 1) (fun b hb => hpm b (by have := e2 b hb; omega)) rfl (by omega) fun v' h2 B' a1 a2 a3 a4 a5 => hQ v' h2 B' ?_
  have hll : h1.length ≤ (h1 ++ l).length := by simp
  have hfr : ∀ b, b < h1.length → b ∉ B → h2[b]? = h1[b]? := fun b hb hn => (a3 b (by omega) hn).trans (hfr0 b hb)
  have hbx := cells_lt hr.box
  refine ⟨cells_keep (hfr _ hbx fun hb => absurd (e2 _ hb) (by omega)) hr.box, ⟨?_, fun b hb => ?_, fun p hp => ?_, ?_⟩, by simp⟩
  · rw [List.length_append, List.length_cons, List.length_nil, List.flatMap_append]
    simpa using a1
  · rcases a4 b hb with h5 | h5
    · exact e2 b h5
    · omega
  · have hcase : h.length + 1 ≤ p.2 ∧ p.2 ∉ B ∧ h1.cells p.2 = .some ((wordsN (p.1 % 2 ^ n) m).map (.int .i64)) := by
      rcases List.mem_append.1 hp with hp | hp
      · exact e3 p hp
      · rw [List.mem_singleton.1 hp]
        exact ⟨by have := hr.bw0; omega, hr.bwB, hr.cw⟩
    obtain ⟨q1, q2, q3⟩ := hcase
    have := cells_lt q3
    refine ⟨q1, fun hb => ?_, cells_keep (hfr _ this q2) q3⟩
    rcases a4 _ hb with h5 | h5
    · exact q2 h5
    · omega
  · rw [List.map_append, List.nodup_append]
    refine ⟨e4, by simp, fun a ha b hb => ?_⟩
    obtain ⟨p, hp, rfl⟩ := List.mem_map.1 ha
    simp at hb
    subst hb
    exact hr.bwL p hp
theorem flatMap_cong {α β : Type} {f g : α → List β} : ∀ {l : List α}, (∀ a ∈ l, f a = g a) → l.flatMap f = l.flatMap g
  | [], _ => rfl
  | a :: l, h => by
    rw [List.flatMap_cons, List.flatMap_cons, h a (by simp), flatMap_cong fun b hb => h b (List.mem_cons_of_mem _ hb)]
def redR (s : Sy) (n m : Nat) (x : AV) : Prop := ∃ L : List Nat, L.Perm (stI s n (lB s.rows).length).1 ∧ x = .tup [eQs n m (optN L), .int .u64 (ofN n (stI s n (lB s.rows).length).2 : Int)]
theorem rowAt_flat {n m : Nat} {L : List (Nat × Nat)} {i : Nat} (hi : i < L.length) : rowAt (L.flatMap (cEq n m)) 4 i = cEq n m (L.getD i (0, 0)) := flatMap_row (cEq_len n m) (0, 0) hi
theorem perm_get {α : Type} {d : α} {L : List α} {l : List Nat} (hl : l.Perm (List.range L.length)) : (l.map fun i => L.getD i d).Perm L := by
  have h1 := hl.map fun i => L.getD i d
  have h2 : (List.range L.length).map (fun i => L.getD i d) = L := by
    refine List.ext_getElem? fun i => ?_
    by_cases hi : i < L.length <;> simp [hi]
  rwa [h2] at h1

set_option maxHeartbeats 4000000 in
theorem c_impl_reduced (s : Sy) (n m : Nat) (ho : OkE s n m) : Fn Try.prog 72 [eSy s] (redR s n m) := by
  refine Fn.froze_ fun h => ?_
  refine enter (by kernel_rfl) e72 (by kernel_rfl) rfl fun hok => ?_
  simp only [r72, initEnv_1]
  have hnr := ho.nr
  have hlr := ho.lr
  have hsz := ho.sz
  have hn1 := ho.n1
  have hn2 := ho.n2
  have hm := ho.hm
  generalize hD : RCode.dreg _ = D
  (try (simp (disch := first | omega | (simp <;> omega) | fail) only [push_cast, ↓reduceIte, Nat.reduceEqDiff, Nat.reduceAdd, Nat.reduceMul, Nat.reduceSub, Nat.reduceLT, Int.reduceToNat, hsz]))
  refine T_for (lB s.rows).length (fun i e h' => ∃ v B L, Pins e [(1, .adr h.length 0), (2, v), (3, .int .u64 (ofN n (stI s n i).2 : Int)), (11, eBS s.rows), (12, .int .i64 (lB s.rows).length), (13, .int .i64 i)] ∧ OI h h' s n m v B L ∧ L.map (·.1) = (stI s n i).1) ?_ ?_
  · (try (simp (disch := first | omega | (simp <;> omega) | fail) only [push_cast, ↓reduceIte, Nat.reduceEqDiff, Nat.reduceAdd, Nat.reduceMul, Nat.reduceSub, Nat.reduceLT, Int.reduceToNat, hsz]))
    exact ⟨_, [], [], ⟨rfl, by simp [ofN, stI]⟩, ⟨by rw [cells_h0]; rfl, ⟨.nil, by simp, by simp, by simp⟩, fun _ => rfl⟩, rfl⟩
  rintro i e h' hi ⟨v, B, L, hp, hs, hL⟩
  refine T_pins hp fun e => ?_
  have o1 := hs.1
  have hlt1 := cells_lt o1
  (try (simp (disch := first | omega | (simp <;> omega) | fail) only [push_cast, ↓reduceIte, Nat.reduceEqDiff, Nat.reduceAdd, Nat.reduceMul, Nat.reduceSub, Nat.reduceLT, Int.reduceToNat]))
  first | refine goC_split (fun hc => ?_) (fun hc => ?_) | refine cnd_split (fun hc => ?_) (fun hc => ?_)
  · (try (simp only [decide_eq_true_eq, decide_eq_false_iff_not, Bool.not_eq_true', Bool.not_eq_false', Bool.and_eq_true, Bool.or_eq_true, Int.not_lt, Int.not_le] at hc)); (try (simp (disch := first | omega | (simp <;> omega) | fail) only [push_cast, ↓reduceIte, Nat.reduceEqDiff, Nat.reduceAdd, Nat.reduceMul, Nat.reduceSub, Nat.reduceLT, Int.reduceToNat]))
    have hi2 : i < (lB s.rows).length := by omega
    have hlt := ho.lt i hi2
    have hw1 := ho.some hi2
    have hw2 := (ho.w i hi2).2
    (try (simp (disch := first | omega | (simp <;> omega) | fail) only [push_cast, ↓reduceIte, Nat.reduceEqDiff, Nat.reduceAdd, Nat.reduceMul, Nat.reduceSub, Nat.reduceLT, Int.reduceToNat, hw1, hw2, o1]))
    refine T_cut (fun e h1 => ∃ be bw, Pins e [(1, .adr h.length 0), (2, v), (3, .int .u64 (ofN n (stI s n i).2 : Int)), (6, .adr be 0), (11, eBS s.rows), (12, .int .i64 (lB s.rows).length), (13, .int .i64 i)] ∧ RS h h1 s n m v B L be bw (rowE s n i)) ?_ ?_
    · rw [← hD]
      obtain ⟨w, hw⟩ : ∃ w : Nat, w = 2 ^ i := ⟨_, rfl⟩
      have hshl := u64_shl (i := i) (by omega)
      rw [← hw] at hshl
      have hof : ofN n (rowE s n i) = w := by
        rw [hw]
        exact rowE_of hlt
      have hce : ∀ b, cEq n m (rowE s n i, b) = [.int .i64 n, .sl b 0 1 m m, .bool ((lO s.right).getD i false), .int .u64 (w : Int)] := fun b => by
        unfold cEq
        simp only [hof, rowE_right hlt]
      have hrw : rowE s n i % 2 ^ n = rowB s i := rowE_row hlt
      clear hw
      have o1' : ∀ l : H, H.cells (h' ++ l) h.length = .some [.int .i64 n, eBS s.rows, eO s.right] := fun l => cells_app o1
      (try (simp (disch := first | omega | (simp <;> omega) | fail) only [push_cast, ↓reduceIte, Nat.reduceEqDiff, Nat.reduceAdd, Nat.reduceMul, Nat.reduceSub, Nat.reduceLT, Int.reduceToNat, o1', hshl, reads, List.mem_cons, List.mem_append, List.not_mem_nil, nat_ff, or_self, or_false, false_or, not_false_eq_true]))
      refine ⟨?_, ?_⟩
      · refine (c_impl_cloneBits_own n (wordsN (rowB s i) m) (by rw [wordsN_len]; omega) _).mono (fun x h2 hx => ?_) (fun _ _ h => h.elim)
        obtain ⟨b, rfl, hb, ⟨p, rfl⟩, hcw⟩ := hx
        rw [wordsN_len]
        have hbl := cells_lt hcw
        simp only [List.length_append, List.length_cons, List.length_nil] at hb hbl
        (try (simp (disch := first | omega | (simp <;> omega) | fail) only [push_cast, ↓reduceIte, Nat.reduceEqDiff, Nat.reduceAdd, Nat.reduceMul, Nat.reduceSub, Nat.reduceLT, Int.reduceToNat, reads, List.mem_cons, List.mem_append, List.not_mem_nil, nat_ff, or_self, or_false, false_or, not_false_eq_true]))
        refine ⟨_, b, rfl, hs.start (fun b hb => List.getElem?_append_left hb) (by omega) (by omega) (by omega) ?_ ?_⟩
        · rw [hce, cells_hk]
          simp [cellsO]
        · rw [hrw]
          have := cells_app (l := [some (AObj.cells [AV.int .i64 n, .sl b 0 1 m m, .bool ((lO s.right).getD i false), .int .u64 (w : Int)])]) hcw
          simpa using this
      · (try (simp (disch := first | omega | (simp <;> omega) | fail) only [push_cast, ↓reduceIte, Nat.reduceEqDiff, Nat.reduceAdd, Nat.reduceMul, Nat.reduceSub, Nat.reduceLT, Int.reduceToNat, reads, List.mem_cons, List.mem_append, List.not_mem_nil, nat_ff, or_self, or_false, false_or, not_false_eq_true]))
        refine (c_impl_cloneBits_own n (wordsN (rowB s i) m) (by rw [wordsN_len]; omega) _).mono (fun x h2 hx => ?_) (fun _ _ h => h.elim)
        obtain ⟨b, rfl, hb, ⟨p, rfl⟩, hcw⟩ := hx
        rw [wordsN_len]
        have hbl := cells_lt hcw
        simp only [List.length_append, List.length_cons, List.length_nil] at hb hbl
        (try (simp (disch := first | omega | (simp <;> omega) | fail) only [push_cast, ↓reduceIte, Nat.reduceEqDiff, Nat.reduceAdd, Nat.reduceMul, Nat.reduceSub, Nat.reduceLT, Int.reduceToNat, reads, List.mem_cons, List.mem_append, List.not_mem_nil, nat_ff, or_self, or_false, false_or, not_false_eq_true]))
        refine ⟨_, b, rfl, hs.start (fun b hb => List.getElem?_append_left hb) (by omega) (by omega) (by omega) ?_ ?_⟩
        · rw [hce, cells_hk]
          simp [cellsO]
        · rw [hrw]
          have hcw2 : H.cells (h' ++ some (AObj.cells [AV.int .i64 n, eI (some (wordsN (rowB s i) m))]) :: some (AObj.cells [AV.int .i64 0, .nils, .bool false, .int .u64 0]) :: p) b = .some ((wordsN (rowB s i) m).map (.int .i64)) := by simpa using hcw
          exact cells_tl (by omega) hcw2
    have hsim := stI_sim (s := s) (n := n) (i := i)
    have hlead : ∀ p ∈ L, lead n p.1 < n := fun p hp => hsim.ei.lt _ (by rw [← hL]; exact List.mem_map_of_mem hp)
    have hbnd : ∀ p ∈ L, p.1 < 2 ^ (n + 42) := fun p hp => ho.bnd (i := i) (by omega) _ (by rw [← hL]; exact List.mem_map_of_mem hp)
    have hEb : rowE s n i < 2 ^ (n + 42) := Nat.lt_of_lt_of_le (rowE_lt hlt) (Nat.pow_le_pow_right (by decide) (by omega))
    have hLl : L.length ≤ 40 := by
      have h1 := stI_len (s := s) (n := n) (i := i)
      have h2 := congrArg List.length hL
      rw [List.length_map] at h2
      omega
    have hstI := stI_succ (s := s) (n := n) (i := i)
    have hm16 : n ≤ 16 * m := by omega
    have hm1000 : m ≤ 1000 := by omega
    have hnil := hs.2.2
    rintro e h1 ⟨be, bw, hp, hr⟩
    refine K_pins hp fun e => ?_
    have hlv : lenA v = some (.int .i64 L.length) := by
      rcases hs.2.1.1.2 with ⟨rfl, h0, _⟩ | ⟨b, rfl, _, _⟩
      · rw [h0]
        rfl
      · rfl
    have hvb : 0 < L.length → ∃ b, v = .sl b 0 4 L.length L.length ∧ B = [b] := fun h0 => by
      rcases hs.2.1.1.2 with ⟨rfl, h1, _⟩ | ⟨b, rfl, hB, _⟩
      · omega
      · exact ⟨b, rfl, hB⟩
    clear hp hs o1 hlt1 hw1 hw2
    (try (simp (disch := first | omega | (simp <;> omega) | fail) only [push_cast, ↓reduceIte, Nat.reduceEqDiff, Nat.reduceAdd, Nat.reduceMul, Nat.reduceSub, Nat.reduceLT, Int.reduceToNat, hlv]))
    refine T_for L.length (fun k e h1 => Pins e [(1, .adr h.length 0), (2, v), (3, .int .u64 (ofN n (stI s n i).2 : Int)), (6, .adr be 0), (11, eBS s.rows), (12, .int .i64 (lB s.rows).length), (13, .int .i64 i), (29, .int .i64 L.length), (30, .int .i64 k)] ∧ RS h h1 s n m v B L be bw (redI n ((L.map (·.1)).take k) (rowE s n i))) ?_ ?_
    · (try (simp (disch := first | omega | (simp <;> omega) | fail) only [push_cast, ↓reduceIte, Nat.reduceEqDiff, Nat.reduceAdd, Nat.reduceMul, Nat.reduceSub, Nat.reduceLT, Int.reduceToNat]))
      all_goals (try exact hr)
    · clear hr
      rintro k e h1 hk ⟨hp, hr⟩
      refine T_pins hp fun e => ?_
      (try (simp (disch := first | omega | (simp <;> omega) | fail) only [push_cast, ↓reduceIte, Nat.reduceEqDiff, Nat.reduceAdd, Nat.reduceMul, Nat.reduceSub, Nat.reduceLT, Int.reduceToNat]))
      first | refine goC_split (fun hd => ?_) (fun hd => ?_) | refine cnd_split (fun hd => ?_) (fun hd => ?_)
      · (try (simp only [decide_eq_true_eq, decide_eq_false_iff_not, Bool.not_eq_true', Bool.not_eq_false', Bool.and_eq_true, Bool.or_eq_true, Int.not_lt, Int.not_le] at hd)); (try (simp (disch := first | omega | (simp <;> omega) | fail) only [push_cast, ↓reduceIte, Nat.reduceEqDiff, Nat.reduceAdd, Nat.reduceMul, Nat.reduceSub, Nat.reduceLT, Int.reduceToNat]))
        have hk2 : k < L.length := by omega
        obtain ⟨b, rfl, rfl⟩ := hvb (by omega)
        have htk := redI_take (n := n) (k := k) (L := L.map (·.1)) (x := rowE s n i) (by simpa using hk2)
        have hXb : redI n ((L.map (·.1)).take k) (rowE s n i) < 2 ^ (n + 42) := redI_lt (fun l hl => by
          obtain ⟨p, hp, rfl⟩ := List.mem_map.1 (List.mem_of_mem_take hl)
          exact hbnd p hp) hEb
        rw [getD_fst hk2] at htk
        generalize redI n ((L.map (·.1)).take k) (rowE s n i) = X at hr htk hXb
        have hmem := getD_mem (d := (0, 0)) hk2
        have hld := hlead _ hmem
        have hbd := hbnd _ hmem
        have g0 := EqL.get (n := n) (m := m) hk2 0 (by omega)
        have g1 := EqL.get (n := n) (m := m) hk2 1 (by omega)
        have g2 := EqL.get (n := n) (m := m) hk2 2 (by omega)
        have g3 := EqL.get (n := n) (m := m) hk2 3 (by omega)
        have hql : ∀ p : Nat × Nat, (cQ n m p.1).length = 4 := fun p => rfl
        have q0 := flatMap_get hql (0, 0) (k := 0) hk2 (by omega)
        have q1 := flatMap_get hql (0, 0) (k := 1) hk2 (by omega)
        have hpw := (hr.eq.2.2.1 _ hmem)
        have hbB := hr.eq.1.cells b (by simp)
        have hbe : b ≠ be := fun he => hr.beB (by simp [he])
        have hbw : b ≠ bw := fun he => hr.bwB (by simp [he])
        have hbb := hr.eq.2.1 b (by simp)
        have hpe := hr.beL _ hmem
        have hpb := hr.bwL _ hmem
        have hE := hr.ce
        have hW := hr.cw
        have hadr := hr.eq.adr (b := b) (o := k * 4)
        (try (simp (disch := first | omega | (simp <;> omega) | fail) only [push_cast, ↓reduceIte, Nat.reduceEqDiff, Nat.reduceAdd, Nat.reduceMul, Nat.reduceSub, Nat.reduceLT, Int.reduceToNat]))
        generalize L.getD k (0, 0) = p at htk hld hbd g0 g1 g2 g3 q0 q1 hpw hpe hpb
        have hnx := c_impl_Bits_next2 (some (wordsN (p.1 % 2 ^ n) m)) n (p.1 % 2 ^ n) m (L.flatMap fun p => cQ n m p.1) (k * 4) q0 q1 rfl hm16 (by omega)
        rw [lead_mod] at hnx
        refine hnx.lendL (.cons hadr (.free free_int (.free free_bool .nil))) own_int ?_
        (try (simp (disch := first | omega | (simp <;> omega) | fail) only [push_cast, ↓reduceIte, Nat.reduceEqDiff, Nat.reduceAdd, Nat.reduceMul, Nat.reduceSub, Nat.reduceLT, Int.reduceToNat]))
        have hat := c_impl_Bits_at (some (wordsN (X % 2 ^ n) m)) (X % 2 ^ n) m (lead n p.1) (cQ n m X) 0 rfl rfl (by omega) (by omega)
        have hmt : (X % 2 ^ n).testBit (lead n p.1) = X.testBit (lead n p.1) := by
          rw [Nat.testBit_mod_two_pow]
          simp [hld]
        rw [hmt] at hat
        refine hat.lendL (.cons (vw_eqAdr hE hW) (.free free_int .nil)) own_bool ?_
        cases hb : X.testBit (lead n p.1)
        · rw [if_neg (by simp [hb])] at htk
          (try (simp (disch := first | omega | (simp <;> omega) | fail) only [push_cast, ↓reduceIte, Nat.reduceEqDiff, Nat.reduceAdd, Nat.reduceMul, Nat.reduceSub, Nat.reduceLT, Int.reduceToNat]))
          all_goals (try (rw [htk]; exact hr))
        · rw [if_pos hb] at htk
          (try (simp (disch := first | omega | (simp <;> omega) | fail) only [push_cast, ↓reduceIte, Nat.reduceEqDiff, Nat.reduceAdd, Nat.reduceMul, Nat.reduceSub, Nat.reduceLT, Int.reduceToNat]))
          refine (c_impl_equation_add2 m (X % 2 ^ n) (p.1 % 2 ^ n) (ofN n X) (ofN n p.1) be 0 bw b (k * 4) p.2 (X.testBit n) (p.1.testBit n) (cEq n m (X, bw)) (L.flatMap (cEq n m)) h1 hm1000 hE hW hbB hpw.2.2 rfl rfl rfl g1 g2 g3 hr.hne hbe hpe hbw hpb (shr_lt hXb) (shr_lt hbd)).mono (fun y h2 hy => ?_) (fun b' _ hb' => Or.inr (by have := hr.be0; have := hr.bw0; rcases hb' with rfl | rfl <;> omega))
          obtain ⟨y1, y2, y3, y4⟩ := hy
          have hr2 := hr.addE y1 y2 y3 y4
          (try (simp (disch := first | omega | (simp <;> omega) | fail) only [push_cast, ↓reduceIte, Nat.reduceEqDiff, Nat.reduceAdd, Nat.reduceMul, Nat.reduceSub, Nat.reduceLT, Int.reduceToNat]))
          all_goals (try (rw [htk]; exact hr2))
      · (try (simp only [decide_eq_true_eq, decide_eq_false_iff_not, Bool.not_eq_true', Bool.not_eq_false', Bool.and_eq_true, Bool.or_eq_true, Int.not_lt, Int.not_le] at hd)); (try (simp (disch := first | omega | (simp <;> omega) | fail) only [push_cast, ↓reduceIte, Nat.reduceEqDiff, Nat.reduceAdd, Nat.reduceMul, Nat.reduceSub, Nat.reduceLT, Int.reduceToNat]))
        have hke : k = L.length := by omega
        subst hke
        have hXb : redI n (L.map (·.1)) (rowE s n i) < 2 ^ (n + 42) := redI_lt (fun l hl => by
          obtain ⟨p, hp, rfl⟩ := List.mem_map.1 hl
          exact hbnd p hp) hEb
        rw [show (L.map (·.1)).take L.length = L.map (·.1) from List.take_of_length_le (by simp)] at hr
        unfold M.stepI at hstI
        rw [← hL] at hstI
        generalize redI n (L.map (·.1)) (rowE s n i) = X at hr hXb hstI
        have hnx := c_impl_Bits_next2 (some (wordsN (X % 2 ^ n) m)) n (X % 2 ^ n) m (cQ n m X) 0 rfl rfl rfl hm16 (by omega)
        rw [lead_mod] at hnx
        have hE := hr.ce
        have hE2 : h1.cells be = .some [.int .i64 n, .sl bw 0 1 m m, .bool (X.testBit n), .int .u64 (ofN n X : Int)] := hE
        have hW := hr.cw
        have hbx := hr.box
        have hlX := lead_le (n := n) (X := X)
        (try (simp (disch := first | omega | (simp <;> omega) | fail) only [push_cast, ↓reduceIte, Nat.reduceEqDiff, Nat.reduceAdd, Nat.reduceMul, Nat.reduceSub, Nat.reduceLT, Int.reduceToNat]))
        refine hnx.lendL (.cons (vw_eqAdr hE hW) (.free free_int (.free free_bool .nil))) own_int ?_
        by_cases hl : lead n X = n
        · rw [if_neg (by omega)] at hstI
          have hmsk := (ho.msk (i := i) (by omega)).shr
          rw [hsim.ref] at hmsk
          have hout := hr.out hnil
          have hln : ((lead n X : Nat) : Int) = (n : Int) := by rw [hl]
          cases hq : X.testBit n
          · rw [if_neg (by simp [hq])] at hstI
            (try (simp (disch := first | omega | (simp <;> omega) | fail) only [push_cast, ↓reduceIte, Nat.reduceEqDiff, Nat.reduceAdd, Nat.reduceMul, Nat.reduceSub, Nat.reduceLT, Int.reduceToNat, hbx, hE2, hq, hln]))
            all_goals (try exact ⟨_, _, L, ⟨rfl, by rw [hstI]⟩, hout, by rw [hstI]; exact hL⟩)
          · by_cases hz : (stI s n i).2 = 0
            · rw [if_pos ⟨hq, hz⟩] at hstI
              have hz2 : ((ofN n (stI s n i).2 : Nat) : Int) = 0 := by rw [hmsk.2 hz]; rfl
              (try (simp (disch := first | omega | (simp <;> omega) | fail) only [push_cast, ↓reduceIte, Nat.reduceEqDiff, Nat.reduceAdd, Nat.reduceMul, Nat.reduceSub, Nat.reduceLT, Int.reduceToNat, hbx, hE2, hq, hln, hz2]))
              all_goals (try exact ⟨_, _, L, ⟨rfl, by rw [hstI]⟩, hout, by rw [hstI]⟩)
            · rw [if_neg (fun h5 => hz h5.2)] at hstI
              have hz2 : ¬ ((ofN n (stI s n i).2 : Nat) : Int) = 0 := fun h5 => hz (hmsk.1 (by omega))
              (try (simp (disch := first | omega | (simp <;> omega) | fail) only [push_cast, ↓reduceIte, Nat.reduceEqDiff, Nat.reduceAdd, Nat.reduceMul, Nat.reduceSub, Nat.reduceLT, Int.reduceToNat, hbx, hE2, hq, hln, hz2]))
              all_goals (try exact ⟨_, _, L, ⟨rfl, by rw [hstI]⟩, hout, by rw [hstI]; exact hL⟩)
        · have hll : lead n X < n := by omega
          have hln : ¬ ((lead n X : Nat) : Int) = (n : Int) := by omega
          rw [if_pos hll] at hstI
          (try (simp (disch := first | omega | (simp <;> omega) | fail) only [push_cast, ↓reduceIte, Nat.reduceEqDiff, Nat.reduceAdd, Nat.reduceMul, Nat.reduceSub, Nat.reduceLT, Int.reduceToNat, hbx, hln, hlv]))
          refine T_for L.length (fun k e h1 => Pins e [(1, .adr h.length 0), (2, v), (3, .int .u64 (ofN n (stI s n i).2 : Int)), (6, .adr be 0), (8, .int .i64 (lead n X : Int)), (11, eBS s.rows), (12, .int .i64 (lB s.rows).length), (13, .int .i64 i), (60, .int .i64 L.length), (61, .int .i64 k)] ∧ RS h h1 s n m v B (updT n X L k) be bw X) ?_ ?_
          · (try (simp (disch := first | omega | (simp <;> omega) | fail) only [push_cast, ↓reduceIte, Nat.reduceEqDiff, Nat.reduceAdd, Nat.reduceMul, Nat.reduceSub, Nat.reduceLT, Int.reduceToNat]))
            all_goals (try (rw [updT_0]; exact hr))
          clear hr hE hE2 hW hbx
          rintro k e h1 hk ⟨hp, hr⟩
          refine T_pins hp fun e => ?_
          (try (simp (disch := first | omega | (simp <;> omega) | fail) only [push_cast, ↓reduceIte, Nat.reduceEqDiff, Nat.reduceAdd, Nat.reduceMul, Nat.reduceSub, Nat.reduceLT, Int.reduceToNat]))
          first | refine goC_split (fun hd => ?_) (fun hd => ?_) | refine cnd_split (fun hd => ?_) (fun hd => ?_)
          · (try (simp only [decide_eq_true_eq, decide_eq_false_iff_not, Bool.not_eq_true', Bool.not_eq_false', Bool.and_eq_true, Bool.or_eq_true, Int.not_lt, Int.not_le] at hd)); (try (simp (disch := first | omega | (simp <;> omega) | fail) only [push_cast, ↓reduceIte, Nat.reduceEqDiff, Nat.reduceAdd, Nat.reduceMul, Nat.reduceSub, Nat.reduceLT, Int.reduceToNat]))
            have hk2 : k < L.length := by omega
            have hk3 : k < (updT n X L k).length := by rw [updT_len]; exact hk2
            obtain ⟨b, rfl, rfl⟩ := hvb (by omega)
            have hsu := updT_succ (n := n) (X := X) hk2
            have hbd := updT_fst (k := k) hbnd hXb _ (getD_mem (d := (0, 0)) hk3)
            have hgt := updT_get (n := n) (X := X) hk2
            have hmem := getD_mem (d := (0, 0)) hk3
            have g0 := EqL.get (n := n) (m := m) hk3 0 (by omega)
            have g1 := EqL.get (n := n) (m := m) hk3 1 (by omega)
            have g2 := EqL.get (n := n) (m := m) hk3 2 (by omega)
            have g3 := EqL.get (n := n) (m := m) hk3 3 (by omega)
            have hql : ∀ p : Nat × Nat, (cQ n m p.1).length = 4 := fun p => rfl
            have q1 := flatMap_get hql (0, 0) (k := 1) hk3 (by omega)
            have hpw := (hr.eq.2.2.1 _ hmem)
            have hbB := hr.eq.1.cells b (by simp)
            have hbe : b ≠ be := fun he => hr.beB (by simp [he])
            have hbw : b ≠ bw := fun he => hr.bwB (by simp [he])
            have hbb := hr.eq.2.1 b (by simp)
            have hpe := hr.beL _ hmem
            have hpb := hr.bwL _ hmem
            have hE := hr.ce
            have hW := hr.cw
            have hadr := hr.eq.adr (b := b) (o := k * 4)
            have hadd := fun h2 => hr.addL (h2 := h2) hk3
            rw [hgt] at hbd hmem g0 g1 g2 g3 q1 hpw hpe hpb hadd
            generalize updT n X L k = L2 at *
            generalize L.getD k (0, 0) = p at *
            have hat := c_impl_Bits_at (some (wordsN (p.1 % 2 ^ n) m)) (p.1 % 2 ^ n) m (lead n X) (L2.flatMap fun p => cQ n m p.1) (k * 4) q1 rfl (by omega) (by omega)
            have hmt : (p.1 % 2 ^ n).testBit (lead n X) = p.1.testBit (lead n X) := by
              rw [Nat.testBit_mod_two_pow]
              simp [hll]
            rw [hmt] at hat
            (try (simp (disch := first | omega | (simp <;> omega) | fail) only [push_cast, ↓reduceIte, Nat.reduceEqDiff, Nat.reduceAdd, Nat.reduceMul, Nat.reduceSub, Nat.reduceLT, Int.reduceToNat]))
            refine hat.lendL (.cons hadr (.free free_int .nil)) own_bool ?_
            cases hb : p.1.testBit (lead n X)
            · rw [if_neg (by simp [hb])] at hsu
              (try (simp (disch := first | omega | (simp <;> omega) | fail) only [push_cast, ↓reduceIte, Nat.reduceEqDiff, Nat.reduceAdd, Nat.reduceMul, Nat.reduceSub, Nat.reduceLT, Int.reduceToNat]))
              all_goals (try (rw [hsu]; exact hr))
            · rw [if_pos hb] at hsu
              (try (simp (disch := first | omega | (simp <;> omega) | fail) only [push_cast, ↓reduceIte, Nat.reduceEqDiff, Nat.reduceAdd, Nat.reduceMul, Nat.reduceSub, Nat.reduceLT, Int.reduceToNat]))
              refine (c_impl_equation_add2 m (p.1 % 2 ^ n) (X % 2 ^ n) (ofN n p.1) (ofN n X) b (k * 4) p.2 be 0 bw (p.1.testBit n) (X.testBit n) (L2.flatMap (cEq n m)) (cEq n m (X, bw)) h1 hm1000 hbB hpw.2.2 hE hW g1 g2 g3 rfl rfl rfl (fun he => hpw.2.1 (by simp [he])) (Ne.symm hbe) (Ne.symm hbw) (Ne.symm hpe) (Ne.symm hpb) (shr_lt hbd) (shr_lt hXb)).mono (fun y h2 hy => ?_) (fun b' _ hb' => Or.inr (by have := hpw.1; rcases hb' with rfl | rfl <;> omega))
              obtain ⟨y1, y2, y3, y4⟩ := hy
              have hr2 := hadd h2 y1 y2 y3 y4
              (try (simp (disch := first | omega | (simp <;> omega) | fail) only [push_cast, ↓reduceIte, Nat.reduceEqDiff, Nat.reduceAdd, Nat.reduceMul, Nat.reduceSub, Nat.reduceLT, Int.reduceToNat]))
              all_goals (try (rw [hsu]; exact hr2))
          · (try (simp only [decide_eq_true_eq, decide_eq_false_iff_not, Bool.not_eq_true', Bool.not_eq_false', Bool.and_eq_true, Bool.or_eq_true, Int.not_lt, Int.not_le] at hd)); (try (simp (disch := first | omega | (simp <;> omega) | fail) only [push_cast, ↓reduceIte, Nat.reduceEqDiff, Nat.reduceAdd, Nat.reduceMul, Nat.reduceSub, Nat.reduceLT, Int.reduceToNat]))
            have hke : k = L.length := by omega
            subst hke
            have hE2 : h1.cells be = .some [.int .i64 n, .sl bw 0 1 m m, .bool (X.testBit n), .int .u64 (ofN n X : Int)] := hr.ce
            have hfl : fillA [.int .i64 0, .nils, .bool false, .int .u64 0] [(0, 4, .agg [.int .i64 n, .sl bw 0 1 m m, .bool (X.testBit n), .int .u64 (ofN n X : Int)])] = some [.int .i64 n, .sl bw 0 1 m m, .bool (X.testBit n), .int .u64 (ofN n X : Int)] := rfl
            have hrow : rows [AV.int .i64 0, .nils, .bool false, .int .u64 0] 1 = [.int .i64 0, .nils, .bool false, .int .u64 0] := rfl
            have hfin : ∀ v' h2 B', OI h h2 s n m v' B' (updT n X L L.length ++ [(X, bw)]) → (updT n X L L.length ++ [(X, bw)]).map (·.1) = (stI s n (i + 1)).1 ∧ (stI s n (i + 1)).2 = (stI s n i).2 := fun v' h2 B' ho => by
              rw [List.map_append, updT_all, hstI]
              exact ⟨rfl, rfl⟩
            (try (simp (disch := first | omega | (simp <;> omega) | fail) only [push_cast, ↓reduceIte, Nat.reduceEqDiff, Nat.reduceAdd, Nat.reduceMul, Nat.reduceSub, Nat.reduceLT, Int.reduceToNat, hE2, hfl, hrow]))
            refine hr.app (l := [_]) (fun b hb => Or.inr hb) (by rw [updT_len]; omega) fun v' h2 B' hoi => ?_
            obtain ⟨f1, f2⟩ := hfin v' h2 B' hoi
            (try (simp (disch := first | omega | (simp <;> omega) | fail) only [push_cast, ↓reduceIte, Nat.reduceEqDiff, Nat.reduceAdd, Nat.reduceMul, Nat.reduceSub, Nat.reduceLT, Int.reduceToNat]))
            all_goals (try exact ⟨_, _, _, ⟨rfl, by rw [f2]⟩, hoi, f1⟩)
  · (try (simp only [decide_eq_true_eq, decide_eq_false_iff_not, Bool.not_eq_true', Bool.not_eq_false', Bool.and_eq_true, Bool.or_eq_true, Int.not_lt, Int.not_le] at hc)); (try (simp (disch := first | omega | (simp <;> omega) | fail) only [push_cast, ↓reduceIte, Nat.reduceEqDiff, Nat.reduceAdd, Nat.reduceMul, Nat.reduceSub, Nat.reduceLT, Int.reduceToNat]))
    have hie : i = (lB s.rows).length := by omega
    subst hie
    have hm16 : n ≤ 16 * m := by omega
    have hLl : L.length ≤ 40 := by
      have h1 := stI_len (s := s) (n := n) (i := (lB s.rows).length)
      have h2 := congrArg List.length hL
      rw [List.length_map] at h2
      omega
    (try (simp (disch := first | omega | (simp <;> omega) | fail) only [push_cast, ↓reduceIte, Nat.reduceEqDiff, Nat.reduceAdd, Nat.reduceMul, Nat.reduceSub, Nat.reduceLT, Int.reduceToNat]))
    rcases hs.2.1.1.2 with ⟨rfl, h0, _⟩ | ⟨b, rfl, rfl, hbc⟩
    · have hL0 : L = [] := List.eq_nil_of_length_eq_zero h0
      subst hL0
      refine Call.sortNil Try.sortEq ce_sortEq ?_
      (try (simp (disch := first | omega | (simp <;> omega) | fail) only [push_cast, ↓reduceIte, Nat.reduceEqDiff, Nat.reduceAdd, Nat.reduceMul, Nat.reduceSub, Nat.reduceLT, Int.reduceToNat]))
      refine ⟨.tup [eQs n m (optN []), .int .u64 (ofN n (stI s n (lB s.rows).length).2 : Int)], ?_, [], by rw [← hL]; simp, rfl⟩
      exact .free (free_tup (free_cons_ free_nils (free_cons_ free_int free_nil_)))
    · have hfree : ∀ p ∈ L, H.cells (filt (fun k => !(k == b)) h') p.2 = some ((wordsN (p.1 % 2 ^ n) m).map (.int .i64)) := fun p hp => by
        obtain ⟨q1, q2, q3⟩ := hs.2.1.2.2.1 p hp
        rw [cells_filt (by simpa using q2)]
        exact q3
      have hb0 := hs.2.1.2.1 b (by simp)
      refine (Call.sortK Try.sortEq (sz := 4) (by omega) aE_sortEq zE_sortEq ce_sortEq hbc (flatMap_len (cEq_len n m) L) (by omega) (ts := fun i => .agg (cQ n m (L.getD i (0, 0)).1)) (fun i hi => ?_) (key := fun i => (lead n (L.getD i (0, 0)).1 : Int)) (fun i j hi hj => c_impl_reduced_1 n m _ _ hm16 (by omega))).mono (fun y h2 hy => ?_) (fun b' _ hb' => Or.inr (by subst hb'; omega))
      · rw [rowAt_flat hi]
        exact vw_cEq (Nat.zero_le _) (hfree _ (getD_mem hi))
      · obtain ⟨rfl, l, hl, rfl⟩ := hy
        have hlt : ∀ i ∈ l, i < L.length := fun i hi => List.mem_range.1 (hl.mem_iff.1 hi)
        have hcs : l.flatMap (rowAt (L.flatMap (cEq n m)) 4) = (l.map fun i => L.getD i (0, 0)).flatMap (cEq n m) := by
          rw [List.flatMap_map]
          exact flatMap_cong fun i hi => rowAt_flat (hlt i hi)
        have hp := perm_get (d := (0, 0)) hl
        rw [hcs]
        generalize l.map (fun i => L.getD i (0, 0)) = L' at hp
        have hlen := hp.length_eq
        have hne : L' = [] → AV.sl b 0 4 L.length L.length = .nils := fun h0 => by
          rw [h0] at hlen
          have hL0 : L = [] := List.eq_nil_of_length_eq_zero hlen.symm
          exact hs.2.2 hL0
        have hEq : EqL (wr h' b (L'.flatMap (cEq n m))) (h.length + 1) n m (.sl b 0 4 L'.length L'.length) L' [b] := by
          refine ⟨⟨flatMap_len (cEq_len n m) L', .inr ⟨b, rfl, rfl, cells_wr2 (cells_lt hbc)⟩⟩, hs.2.1.2.1, fun p hp2 => ?_, ?_⟩
          · obtain ⟨q1, q2, q3⟩ := hs.2.1.2.2.1 p (hp.mem_iff.1 hp2)
            refine ⟨q1, q2, ?_⟩
            rw [cells_eq]
            unfold wr
            rw [List.getElem?_set_ne (fun he => q2 (by simp [he])), ← cells_eq]
            exact q3
          · exact (hp.map (·.2)).nodup_iff.2 hs.2.1.2.2.2
        have hvw := hEq.vw (fun h0 => by rw [hlen]; exact hne h0)
        rw [hlen] at hvw
        (try (simp (disch := first | omega | (simp <;> omega) | fail) only [push_cast, ↓reduceIte, Nat.reduceEqDiff, Nat.reduceAdd, Nat.reduceMul, Nat.reduceSub, Nat.reduceLT, Int.reduceToNat]))
        refine ⟨.tup [eQs n m (optN (L'.map (·.1))), .int .u64 (ofN n (stI s n (lB s.rows).length).2 : Int)], ?_, L'.map (·.1), ?_, rfl⟩
        · refine .tup rfl fun k y t hy ht => ?_
          rcases k with _ | _ | k
          · simp at hy ht
            subst hy ht
            exact hvw.mono (by omega)
          · simp at hy ht
            subst hy ht
            exact .free free_int
          · simp at hy
        · rw [← hL]
          exact hp.map _

end Go.Proofs.Ytgkdnpigbpkehaa.M
