/-
  What the functions return.
-/
import Derived.Test.YtoappkfndnggnaaDoorFc
import Derived.Test.YtoappkfndnggnaaDoorCb
namespace Go.Proofs.YtoappkfndnggnaaDoor.M
open Go Go.RowKit
set_option linter.unusedVariables false
set_option linter.unusedSimpArgs false
set_option maxRecDepth 4000

theorem c_spec_DrawImageOfBits (c : Option (List UInt8)) : Fn Tryd.prog 14 [eU c] (fun x => ∃ b : Bt, x = eB b ∧ (lI b.words).length ≤ 300) := by
  refine Fn.froze_ fun h => ?_
  refine enter (by kernel_rfl) e14 (by kernel_rfl) rfl fun hok => ?_
  simp only [r14, initEnv_1]
  have hfb : fillA [.nils, .int .i64 0, .int .u64 0] [(0, 1, eU c)] = some [eU c, .int .i64 0, .int .u64 0] := by cases c <;> rfl
  (try (simp (disch := first | omega | (simp <;> omega) | fail) only [push_cast, ↓reduceIte, Nat.reduceEqDiff, Nat.reduceAdd, Nat.reduceMul, Nat.reduceSub, Nat.reduceLT, Int.reduceToNat, hfb]))
  refine (c_spec_l1Cur_anyBits (h.length + 1) c 0 _ ⟨0, 0, by rw [cells_hk]; rfl, Nat.le_refl _⟩ (by omega)).mono (fun x h' hx => ?_) (fun b' _ hb' => Or.inr (by omega))
  obtain ⟨n, l, bb, rfl, q1, q2, q3, q4, q5, q6⟩ := hx
  simp only [List.length_append, List.length_cons, List.length_nil] at q2
  have hb1 : H.cells h' h.length = some [.int .i64 0, .nils] := cells_keep (q4 _ (by simp) (by omega)) (by rw [cells_h0]; rfl)
  have hpm : (h.length ≤ h.length) = True := by simp
  have hw : ∀ cs, H.cells (wr h' h.length cs) h.length = some cs := fun cs => cells_wr2 (cells_lt hb1)
  have hvw : ∀ cs, Vw (wr h' h.length cs) h.length (.agg [.int .i64 n, .sl bb 0 1 l.length l.length]) (eB ⟨n, some l⟩) := fun cs => vw_B (by omega) (cells_keep (by unfold wr; rw [List.getElem?_set_ne (by omega)]) q6) rfl
  (try (simp (disch := first | omega | (simp <;> omega) | fail) only [push_cast, ↓reduceIte, Nat.reduceEqDiff, Nat.reduceAdd, Nat.reduceMul, Nat.reduceSub, Nat.reduceLT, Int.reduceToNat, hb1, hpm, hw]))
  all_goals (try exact ⟨_, hvw _, ⟨n, some l⟩, rfl, q1⟩)

theorem c_impl_sealed (s : Str) (b : Bool) (hl : s.length ≤ 1000000000) : Fn Tryd.prog 43 [.str s, .bool b] (· = if b then sealV s else .tup [.str [], .bool false]) := by
  refine Fn.of (by cases b; exact free_tup (free_cons_ free_str (free_cons_ free_bool free_nil_)); exact free_sealV) fun h => ?_
  refine enter (by kernel_rfl) e43 (by kernel_rfl) rfl fun hok => ?_
  simp only [r43, initEnv_2]
  cases b
  · (try (simp (disch := first | omega | (simp <;> omega) | fail) only [push_cast, ↓reduceIte, Nat.reduceEqDiff, Nat.reduceAdd, Nat.reduceMul, Nat.reduceSub, Nat.reduceLT, Int.reduceToNat]))
    all_goals (try rfl)
  (try (simp (disch := first | omega | (simp <;> omega) | fail) only [push_cast, ↓reduceIte, Nat.reduceEqDiff, Nat.reduceAdd, Nat.reduceMul, Nat.reduceSub, Nat.reduceLT, Int.reduceToNat]))
  refine (c_impl_SealText s hl).call ?_
  have hv : ∃ t b, sealV s = .tup [.str t, .bool b] := by
    unfold sealV
    split <;> exact ⟨_, _, rfl⟩
  obtain ⟨t, b, hv⟩ := hv
  rw [hv]
  (try (simp (disch := first | omega | (simp <;> omega) | fail) only [push_cast, ↓reduceIte, Nat.reduceEqDiff, Nat.reduceAdd, Nat.reduceMul, Nat.reduceSub, Nat.reduceLT, Int.reduceToNat]))
  all_goals (try rfl)

theorem c_impl_ImageOfBits (b : Bt) : Fn Tryd.prog 15 [eB b] (· = imgBV b) := by
  refine Fn.of free_imgBV fun h => ?_
  refine enter (by kernel_rfl) e15 (by kernel_rfl) rfl fun hok => ?_
  simp only [r15, initEnv_1]
  (try (simp (disch := first | omega | (simp <;> omega) | fail) only [push_cast, ↓reduceIte, Nat.reduceEqDiff, Nat.reduceAdd, Nat.reduceMul, Nat.reduceSub, Nat.reduceLT, Int.reduceToNat]))
  refine (c_impl_BitsText b).call ?_
  unfold imgBV
  cases hk : okBt b
  · (try (simp (disch := first | omega | (simp <;> omega) | fail) only [push_cast, ↓reduceIte, Nat.reduceEqDiff, Nat.reduceAdd, Nat.reduceMul, Nat.reduceSub, Nat.reduceLT, Int.reduceToNat]))
    refine (c_impl_sealed _ false (by simp)).call ?_
    (try (simp (disch := first | omega | (simp <;> omega) | fail) only [push_cast, ↓reduceIte, Nat.reduceEqDiff, Nat.reduceAdd, Nat.reduceMul, Nat.reduceSub, Nat.reduceLT, Int.reduceToNat]))
    all_goals (try rfl)
  have hl := btText_len hk
  (try (simp (disch := first | omega | (simp <;> omega) | fail) only [push_cast, ↓reduceIte, Nat.reduceEqDiff, Nat.reduceAdd, Nat.reduceMul, Nat.reduceSub, Nat.reduceLT, Int.reduceToNat]))
  refine (c_impl_sealed _ true (by simp; omega)).call ?_
  have hv : ∃ t c, sealV ([98, 105, 116, 115, 32] ++ btText b) = .tup [.str t, .bool c] := by
    unfold sealV
    split <;> exact ⟨_, _, rfl⟩
  obtain ⟨t, c, hv⟩ := hv
  simp only [List.cons_append, List.nil_append, if_true] at hv ⊢
  rw [hv]
  (try (simp (disch := first | omega | (simp <;> omega) | fail) only [push_cast, ↓reduceIte, Nat.reduceEqDiff, Nat.reduceAdd, Nat.reduceMul, Nat.reduceSub, Nat.reduceLT, Int.reduceToNat]))
  all_goals (try rfl)

theorem c_spec_l1All (a : Option (List Int)) (lo hi : Int) : Fn Tryd.prog 80 [eI a, .int .i64 lo, .int .i64 hi] (· = .bool ((lI a).all fun m => decide (lo ≤ m) && decide (m ≤ hi))) := by
  refine Fn.of free_bool fun h => ?_
  refine enter (by kernel_rfl) e80 (by kernel_rfl) rfl fun hok => ?_
  simp only [r80, initEnv_3]
  have hlen := ok_eI (okV_0 hok)
  (try (simp (disch := first | omega | (simp <;> omega) | fail) only [push_cast, ↓reduceIte, Nat.reduceEqDiff, Nat.reduceAdd, Nat.reduceMul, Nat.reduceSub, Nat.reduceLT, Int.reduceToNat]))
  refine T_for (lI a).length (fun i e h' => Pins e [(1, .int .i64 lo), (2, .int .i64 hi), (9, eI a), (10, .int .i64 (lI a).length), (11, .int .i64 i)] ∧ h' = h ∧ ((lI a).take i).all (fun m => decide (lo ≤ m) && decide (m ≤ hi)) = true) ?_ ?_
  · (try (simp (disch := first | omega | (simp <;> omega) | fail) only [push_cast, ↓reduceIte, Nat.reduceEqDiff, Nat.reduceAdd, Nat.reduceMul, Nat.reduceSub, Nat.reduceLT, Int.reduceToNat]))
    all_goals (try simp)
  rintro i e h' hi_ ⟨hp, rfl, ha⟩
  refine T_pins hp fun e => ?_
  (try (simp (disch := first | omega | (simp <;> omega) | fail) only [push_cast, ↓reduceIte, Nat.reduceEqDiff, Nat.reduceAdd, Nat.reduceMul, Nat.reduceSub, Nat.reduceLT, Int.reduceToNat]))
  first | refine goC_split (fun hc => ?_) (fun hc => ?_) | refine cnd_split (fun hc => ?_) (fun hc => ?_)
  · (try (simp only [decide_eq_true_eq, decide_eq_false_iff_not, Bool.not_eq_true', Bool.not_eq_false', Bool.and_eq_true, Bool.or_eq_true, Int.not_lt, Int.not_le] at hc)); (try (simp (disch := first | omega | (simp <;> omega) | fail) only [push_cast, ↓reduceIte, Nat.reduceEqDiff, Nat.reduceAdd, Nat.reduceMul, Nat.reduceSub, Nat.reduceLT, Int.reduceToNat]))
    have hi2 : i < (lI a).length := by omega
    (try (simp (disch := first | omega | (simp <;> omega) | fail) only [push_cast, ↓reduceIte, Nat.reduceEqDiff, Nat.reduceAdd, Nat.reduceMul, Nat.reduceSub, Nat.reduceLT, Int.reduceToNat]))
    refine (c_spec_l1In _ _ _).call ?_
    have hn : ((lI a).take (i + 1)).all (fun m => decide (lo ≤ m) && decide (m ≤ hi)) = (decide (lo ≤ (lI a).getD i 0) && decide ((lI a).getD i 0 ≤ hi)) := by
      rw [List.take_add_one, List.all_append, ha]
      simp [hi2]
    cases hk : (decide (lo ≤ (lI a).getD i 0) && decide ((lI a).getD i 0 ≤ hi))
    · (try (simp (disch := first | omega | (simp <;> omega) | fail) only [push_cast, ↓reduceIte, Nat.reduceEqDiff, Nat.reduceAdd, Nat.reduceMul, Nat.reduceSub, Nat.reduceLT, Int.reduceToNat]))
      symm
      rw [List.all_eq_false]
      refine ⟨(lI a).getD i 0, by simp [hi2], by rw [hk]; simp⟩
    · (try (simp (disch := first | omega | (simp <;> omega) | fail) only [push_cast, ↓reduceIte, Nat.reduceEqDiff, Nat.reduceAdd, Nat.reduceMul, Nat.reduceSub, Nat.reduceLT, Int.reduceToNat]))
      rw [hn, hk]
  · (try (simp only [decide_eq_true_eq, decide_eq_false_iff_not, Bool.not_eq_true', Bool.not_eq_false', Bool.and_eq_true, Bool.or_eq_true, Int.not_lt, Int.not_le] at hc)); (try (simp (disch := first | omega | (simp <;> omega) | fail) only [push_cast, ↓reduceIte, Nat.reduceEqDiff, Nat.reduceAdd, Nat.reduceMul, Nat.reduceSub, Nat.reduceLT, Int.reduceToNat]))
    have : (lI a).take i = lI a := List.take_of_length_le (by omega)
    rw [this] at ha
    rw [ha]

theorem c_spec_biGood (b : Bt) : Fn Tryd.prog 44 [eB b] (· = .bool (okBt b)) := by
  refine Fn.of free_bool fun h => ?_
  refine enter (by kernel_rfl) e44 (by kernel_rfl) rfl fun hok => ?_
  simp only [r44, initEnv_1]
  (try (simp (disch := first | omega | (simp <;> omega) | fail) only [push_cast, ↓reduceIte, Nat.reduceEqDiff, Nat.reduceAdd, Nat.reduceMul, Nat.reduceSub, Nat.reduceLT, Int.reduceToNat]))
  unfold okBt
  refine (c_spec_l1In _ _ _).call ?_
  cases h1 : (decide (0 ≤ b.size) && decide (b.size ≤ 4096))
  · (try (simp (disch := first | omega | (simp <;> omega) | fail) only [push_cast, ↓reduceIte, Nat.reduceEqDiff, Nat.reduceAdd, Nat.reduceMul, Nat.reduceSub, Nat.reduceLT, Int.reduceToNat]))
  have h3 : 0 ≤ b.size ∧ b.size ≤ 4096 := by simpa using h1
  (try (simp (disch := first | omega | (simp <;> omega) | fail) only [push_cast, ↓reduceIte, Nat.reduceEqDiff, Nat.reduceAdd, Nat.reduceMul, Nat.reduceSub, Nat.reduceLT, Int.reduceToNat]))
  first | refine goC_split (fun hc => ?_) (fun hc => ?_) | refine cnd_split (fun hc => ?_) (fun hc => ?_)
  · (try (simp only [decide_eq_true_eq, decide_eq_false_iff_not, Bool.not_eq_true', Bool.not_eq_false', Bool.and_eq_true, Bool.or_eq_true, Int.not_lt, Int.not_le] at hc)); (try (simp (disch := first | omega | (simp <;> omega) | fail) only [push_cast, ↓reduceIte, Nat.reduceEqDiff, Nat.reduceAdd, Nat.reduceMul, Nat.reduceSub, Nat.reduceLT, Int.reduceToNat]))
    all_goals (try simp [hc])
  (try (simp only [decide_eq_true_eq, decide_eq_false_iff_not, Bool.not_eq_true', Bool.not_eq_false', Bool.and_eq_true, Bool.or_eq_true, Int.not_lt, Int.not_le] at hc)); (try (simp (disch := first | omega | (simp <;> omega) | fail) only [push_cast, ↓reduceIte, Nat.reduceEqDiff, Nat.reduceAdd, Nat.reduceMul, Nat.reduceSub, Nat.reduceLT, Int.reduceToNat]))
  refine (c_spec_l1All _ _ _).call ?_
  rw [show ((lI b.words).all fun m => decide (0 ≤ m) && decide (m ≤ 65535)) = okWords (lI b.words) from rfl]
  cases h2 : okWords (lI b.words)
  · (try (simp (disch := first | omega | (simp <;> omega) | fail) only [push_cast, ↓reduceIte, Nat.reduceEqDiff, Nat.reduceAdd, Nat.reduceMul, Nat.reduceSub, Nat.reduceLT, Int.reduceToNat]))
    all_goals (try simp)
  unfold lastOk
  by_cases hz : b.size % 16 = 0
  · (try (simp (disch := first | omega | (simp <;> omega) | fail) only [push_cast, ↓reduceIte, Nat.reduceEqDiff, Nat.reduceAdd, Nat.reduceMul, Nat.reduceSub, Nat.reduceLT, Int.reduceToNat, hz]))
    all_goals (try simp [hc])
  · have hln : 1 ≤ (lI b.words).length := by omega
    have hm : 0 ≤ b.size % 16 ∧ b.size % 16 ≤ 15 := by omega
    (try (simp (disch := first | omega | (simp <;> omega) | fail) only [push_cast, ↓reduceIte, Nat.reduceEqDiff, Nat.reduceAdd, Nat.reduceMul, Nat.reduceSub, Nat.reduceLT, Int.reduceToNat, hz]))
    (first | refine goC_split (fun hc => ?_) (fun hc => ?_) | refine cnd_split (fun hc => ?_) (fun hc => ?_)) <;> ((try (simp (disch := first | omega | (simp <;> omega) | fail) only [push_cast, ↓reduceIte, Nat.reduceEqDiff, Nat.reduceAdd, Nat.reduceMul, Nat.reduceSub, Nat.reduceLT, Int.reduceToNat]))) <;> (try rw [hc])

theorem c_spec_stSealed (s : Str) : Fn Tryd.prog 45 [.str s] (· = sealV s) := by
  refine Fn.of free_sealV fun h => ?_
  refine enter (by kernel_rfl) e45 (by kernel_rfl) rfl fun hok => ?_
  simp only [r45, initEnv_1]
  (try (simp (disch := first | omega | (simp <;> omega) | fail) only [push_cast, ↓reduceIte, Nat.reduceEqDiff, Nat.reduceAdd, Nat.reduceMul, Nat.reduceSub, Nat.reduceLT, Int.reduceToNat]))
  refine (c_spec_stPlain s).call ?_
  unfold sealV
  cases hp : plainV s
  · (try (simp (disch := first | omega | (simp <;> omega) | fail) only [push_cast, ↓reduceIte, Nat.reduceEqDiff, Nat.reduceAdd, Nat.reduceMul, Nat.reduceSub, Nat.reduceLT, Int.reduceToNat]))
    all_goals (try rfl)
  have hl : s.length ≤ 6000 := by
    simp only [plainV, Bool.and_eq_true, decide_eq_true_eq] at hp
    omega
  (try (simp (disch := first | omega | (simp <;> omega) | fail) only [push_cast, ↓reduceIte, Nat.reduceEqDiff, Nat.reduceAdd, Nat.reduceMul, Nat.reduceSub, Nat.reduceLT, Int.reduceToNat]))
  refine (c_spec_stSeal s (by omega)).call ?_
  (try (simp (disch := first | omega | (simp <;> omega) | fail) only [push_cast, ↓reduceIte, Nat.reduceEqDiff, Nat.reduceAdd, Nat.reduceMul, Nat.reduceSub, Nat.reduceLT, Int.reduceToNat]))
  all_goals (try rfl)

theorem c_spec_ImageOfBits (b : Bt) : Fn Tryd.prog 16 [eB b] (· = imgBV b) := by
  refine Fn.of free_imgBV fun h => ?_
  refine enter (by kernel_rfl) e16 (by kernel_rfl) rfl fun hok => ?_
  simp only [r16, initEnv_1]
  (try (simp (disch := first | omega | (simp <;> omega) | fail) only [push_cast, ↓reduceIte, Nat.reduceEqDiff, Nat.reduceAdd, Nat.reduceMul, Nat.reduceSub, Nat.reduceLT, Int.reduceToNat]))
  refine (c_spec_biGood b).call ?_
  unfold imgBV
  cases hk : okBt b
  · (try (simp (disch := first | omega | (simp <;> omega) | fail) only [push_cast, ↓reduceIte, Nat.reduceEqDiff, Nat.reduceAdd, Nat.reduceMul, Nat.reduceSub, Nat.reduceLT, Int.reduceToNat]))
    all_goals (try rfl)
  have hl := btText_len hk
  (try (simp (disch := first | omega | (simp <;> omega) | fail) only [push_cast, ↓reduceIte, Nat.reduceEqDiff, Nat.reduceAdd, Nat.reduceMul, Nat.reduceSub, Nat.reduceLT, Int.reduceToNat]))
  refine (c_spec_biText b hk).call ?_
  (try (simp (disch := first | omega | (simp <;> omega) | fail) only [push_cast, ↓reduceIte, Nat.reduceEqDiff, Nat.reduceAdd, Nat.reduceMul, Nat.reduceSub, Nat.reduceLT, Int.reduceToNat]))
  refine (c_spec_stSealed _).call ?_
  have hv : ∃ t c, sealV ([98, 105, 116, 115, 32] ++ btText b) = .tup [.str t, .bool c] := by
    unfold sealV
    split <;> exact ⟨_, _, rfl⟩
  obtain ⟨t, c, hv⟩ := hv
  simp only [List.cons_append, List.nil_append] at hv ⊢
  rw [hv]
  (try (simp (disch := first | omega | (simp <;> omega) | fail) only [push_cast, ↓reduceIte, Nat.reduceEqDiff, Nat.reduceAdd, Nat.reduceMul, Nat.reduceSub, Nat.reduceLT, Int.reduceToNat]))
  all_goals (try rfl)

def decV (l : Str) : Nat := l.foldl (fun a c => 10 * a + (c.toNat - 48)) 0
theorem decV_dec : ∀ n : Nat, decV (Lib.decDigits n) = n := fun n => by
  induction n using Nat.strongRecOn with
  | _ n ih =>
    rw [dec_rec]
    by_cases hn : n < 10
    · rw [if_pos hn]
      simp [decV]
      omega
    · rw [if_neg hn]
      unfold decV at ih ⊢
      rw [List.foldl_append, ih (n / 10) (by omega)]
      simp
      omega
theorem dec_inj {n m : Nat} (h : Lib.decDigits n = Lib.decDigits m) : n = m := by
  rw [← decV_dec n, h, decV_dec]
/-- The weighted sum. -/
def wsum (s : Str) : Nat → Int
  | 0 => 0
  | i + 1 => wsum s i + ((i : Int) + 1) * ((s.getD i 0).toNat : Int)
theorem chk_wsum (s : Str) : ∀ i, chk s i = wsum s i % 65521
  | 0 => by simp [chk, wsum]
  | i + 1 => by
    unfold chk wsum
    rw [chk_wsum s i, Int.emod_add_emod]
theorem getD_set {s : Str} {i j : Nat} {o : UInt8} (hi : i < s.length) : (s.set i o).getD j 0 = if j = i then o else s.getD j 0 := by
  simp only [List.getD_eq_getElem?_getD, List.getElem?_set]
  by_cases hj : i = j
  · subst hj
    simp [hi]
  · rw [if_neg hj, if_neg (Ne.symm hj)]
theorem wsum_set {s : Str} {i : Nat} {o : UInt8} (hi : i < s.length) : ∀ n, wsum (s.set i o) n = wsum s n + if i < n then ((i : Int) + 1) * ((o.toNat : Int) - ((s.getD i 0).toNat : Int)) else 0
  | 0 => by simp [wsum]
  | n + 1 => by
    unfold wsum
    rw [wsum_set hi n, getD_set hi]
    by_cases hn : n = i
    · subst hn
      rw [if_neg (by omega), if_pos rfl, if_pos (by omega), Int.mul_sub]
      omega
    · rw [if_neg hn]
      by_cases h5 : i < n
      · rw [if_pos h5, if_pos (show i < n + 1 by omega)]
        omega
      · simp only [if_neg h5, if_neg (show ¬ i < n + 1 by omega), Int.add_zero]
theorem cop : ∀ d, d < 94 → d ≠ 0 → Nat.gcd 65521 d = 1 := by decide
theorem chk_ne {s : Str} {i : Nat} {o : UInt8} (hi : i < s.length) (hl : s.length ≤ 6000) (h1 : okCh (s.getD i 0) = true) (h2 : okCh o = true) (hne : o ≠ s.getD i 0) : chk (s.set i o) s.length ≠ chk s s.length := by
  simp only [okCh, Bool.and_eq_true, decide_eq_true_eq] at h1 h2
  rw [chk_wsum, chk_wsum, wsum_set hi, if_pos hi]
  generalize wsum s s.length = t
  intro h
  have hne2 : o.toNat ≠ (s.getD i 0).toNat := fun he => hne (UInt8.toNat_inj.1 he)
  generalize (s.getD i 0).toNat = a at h1 hne2 h
  generalize o.toNat = b at h2 hne2 h
  have hd : (65521 : Int) ∣ ((i : Int) + 1) * ((b : Int) - (a : Int)) := by
    have := Int.emod_emod_of_dvd (t + ((i : Int) + 1) * ((b : Int) - (a : Int))) (Int.dvd_refl 65521)
    have h3 : (t + ((i : Int) + 1) * ((b : Int) - (a : Int)) - t) % 65521 = 0 := by
      rw [Int.sub_emod, h, Int.sub_self]
      rfl
    rw [show t + ((i : Int) + 1) * ((b : Int) - (a : Int)) - t = ((i : Int) + 1) * ((b : Int) - (a : Int)) by omega] at h3
    exact Int.dvd_of_emod_eq_zero h3
  have hn : 65521 ∣ (i + 1) * ((b : Int) - (a : Int)).natAbs := by
    have := Int.natAbs_dvd_natAbs.2 hd
    rw [Int.natAbs_mul] at this
    have e : ((i : Int) + 1).natAbs = i + 1 := by omega
    rw [e] at this
    exact this
  have hc := cop ((b : Int) - (a : Int)).natAbs (by omega) (by omega)
  have := Nat.Coprime.dvd_of_dvd_mul_right hc hn
  have := Nat.le_of_dvd (by omega) this
  omega
theorem open_sealed {s : Str} (hp : plainV s = true) : openOk (sealT s) (beforeT (sealT s)) = true ∧ beforeT (sealT s) = s := by
  have hb : beforeT (sealT s) = s := by
    unfold sealT
    exact before_app (plain_no126 (plainV_plain hp))
  rw [hb]
  unfold openOk
  simp [hp]
theorem seal_damage {s : Str} {i : Nat} {o : UInt8} (hp : plainV s = true) (hi : i < (sealT s).length) : openOk ((sealT s).set i o) (beforeT ((sealT s).set i o)) = decide (o = (sealT s).getD i 0) := by
  by_cases ho : o = (sealT s).getD i 0
  · have : (sealT s).set i o = sealT s := by
      rw [ho]
      refine List.ext_getElem? fun j => ?_
      rw [List.getElem?_set]
      by_cases hj : i = j
      · subst hj
        simp [hi]
      · rw [if_neg hj]
    rw [this, (open_sealed hp).1]
    simp [ho]
  · rw [decide_eq_false ho]
    have hpl := plainV_plain hp
    have hl : s.length ≤ 6000 := by
      simp only [plainV, Bool.and_eq_true, decide_eq_true_eq] at hp
      omega
    have h126 := plain_no126 hpl
    cases hq : openOk ((sealT s).set i o) (beforeT ((sealT s).set i o)) with
    | false => rfl
    | true =>
      exfalso
      have hq2 := hq
      simp only [openOk, Bool.and_eq_true, decide_eq_true_eq] at hq2
      obtain ⟨q1, q2⟩ := hq2
      rcases Nat.lt_trichotomy i s.length with h5 | h5 | h5
      · have hset : (sealT s).set i o = s.set i o ++ 126 :: Lib.decDigits (chk s s.length).toNat := by
          unfold sealT
          rw [List.set_append_left _ _ h5]
        have hgi : (sealT s).getD i 0 = s.getD i 0 := by
          unfold sealT
          simp [List.getElem?_append_left h5]
        rw [hgi] at ho
        by_cases ho6 : o = 126
        · have hcut : s.set i o = s.take i ++ 126 :: s.drop (i + 1) := by
            rw [List.set_eq_take_append_cons_drop, if_pos h5, ho6]
          have hb : beforeT ((sealT s).set i o) = s.take i := by
            rw [hset, hcut, List.append_assoc]
            exact before_app fun c hc => h126 c (List.mem_of_mem_take hc)
          rw [hb, hset, hcut] at q2
          unfold sealT at q2
          rw [List.append_assoc] at q2
          have q3 := List.append_cancel_left q2
          simp only [List.cons_append, List.cons.injEq, true_and] at q3
          have : (126 : UInt8) ∈ Lib.decDigits (chk (s.take i) (s.take i).length).toNat := by
            rw [q3]
            simp
          exact dec_no126 this
        · have hall : ∀ c ∈ s.set i o, (c != 126) = true := by
            intro c hc
            rcases List.mem_or_eq_of_mem_set hc with h6 | h6
            · exact h126 c h6
            · subst h6
              simpa using ho6
          have hb : beforeT ((sealT s).set i o) = s.set i o := by
            rw [hset]
            exact before_app hall
          rw [hb, hset] at q2
          rw [hb] at q1
          unfold sealT at q2
          have q3 := List.append_cancel_left q2
          simp only [List.cons.injEq, true_and] at q3
          have q4 := dec_inj q3
          rw [List.length_set] at q4
          obtain ⟨a1, _⟩ := chk_bd (s.set i o) s.length
          obtain ⟨b1, _⟩ := chk_bd s s.length
          refine chk_ne h5 hl (List.all_eq_true.1 hpl _ (by simp [h5])) (List.all_eq_true.1 (plainV_plain q1) o ?_) ho (by omega)
          exact List.mem_of_getElem? (i := i) (by simp [h5])
      · have hset : (sealT s).set i o = s ++ o :: Lib.decDigits (chk s s.length).toNat := by
          unfold sealT
          rw [h5]
          exact set_last
        have hgi : (sealT s).getD i 0 = 126 := by
          unfold sealT
          rw [h5]
          simp
        rw [hgi] at ho
        have hno : (126 : UInt8) ∉ (sealT s).set i o := by
          rw [hset]
          intro h6
          rcases List.mem_append.1 h6 with h6 | h6
          · have := h126 126 h6
            simp at this
          · rcases List.mem_cons.1 h6 with h6 | h6
            · exact ho h6.symm
            · exact dec_no126 h6
        rw [open_none hno] at hq
        cases hq
      · have hset : (sealT s).set i o = s ++ 126 :: (Lib.decDigits (chk s s.length).toNat).set (i - s.length - 1) o := by
          unfold sealT
          rw [List.set_append_right _ _ (by omega), show i - s.length = (i - s.length - 1) + 1 by omega, List.set_cons_succ]
          rfl
        have hb : beforeT ((sealT s).set i o) = s := by
          rw [hset]
          exact before_app h126
        rw [hb] at q2
        refine ho ?_
        have : ((sealT s).set i o).getD i 0 = o := by simp [hi]
        rw [← q2] at this
        exact this.symm

theorem numW_lt2 {r : Nat} : ∀ {ws : List Int}, (∀ w ∈ ws, 0 ≤ w ∧ w ≤ 65535) → ws ≠ [] → (ws.getD (ws.length - 1) 0).toNat < 2 ^ r → numW ws < 2 ^ (16 * (ws.length - 1) + r)
  | [], _, h, _ => absurd rfl h
  | [w], _, _, hl => by simpa [numW] using hl
  | w :: w2 :: ws, h, _, hl => by
    have ih := numW_lt2 (r := r) (ws := w2 :: ws) (fun x hx => h x (List.mem_cons_of_mem _ hx)) (by simp) (by simpa using hl)
    have h0 := h w (by simp)
    rw [numW]
    have e : 16 * ((w :: w2 :: ws).length - 1) + r = (16 * ((w2 :: ws).length - 1) + r) + 16 := by simp; omega
    rw [e, Nat.pow_add]
    generalize 2 ^ (16 * ((w2 :: ws).length - 1) + r) = t at ih ⊢
    rw [show (2 : Nat) ^ 16 = 65536 from rfl]
    omega

theorem okBt_lt {b : Bt} {n : Nat} (h : okBt b = true) (h6 : b.size = (n : Int)) (hn : 1 ≤ n) : numW (lI b.words) < 2 ^ n := by
  simp only [okBt, okWords, lastOk, Bool.and_eq_true, Bool.or_eq_true, decide_eq_true_eq, List.all_eq_true] at h
  obtain ⟨⟨h1, h2⟩, h3, h4, h5⟩ := h
  rw [h6] at h3 h5
  rcases h5 with h5 | h5
  · have := numW_lt h4
    have e : 16 * (lI b.words).length = n := by omega
    rwa [e] at this
  · by_cases hz : (n : Int) % 16 = 0
    · have := numW_lt h4
      have e : 16 * (lI b.words).length = n := by omega
      rwa [e] at this
    · have hne : lI b.words ≠ [] := fun h0 => by
        rw [h0] at h3
        simp at h3
        omega
      have hlen : 0 < (lI b.words).length := List.length_pos_iff.2 hne
      have hmem := h4 ((lI b.words).getD ((lI b.words).length - 1) 0) (by
        rw [List.getD_eq_getElem?_getD, List.getElem?_eq_getElem (by omega)]
        exact List.getElem_mem _)
      have hr : min ((n : Int) % 16).toNat IntKind.i64.bits = n % 16 := by
        simp [IntKind.bits]
        omega
      rw [hr] at h5
      obtain ⟨x, hx⟩ : ∃ x : Nat, (lI b.words).getD ((lI b.words).length - 1) 0 = (x : Int) := ⟨_, (Int.toNat_of_nonneg hmem.1).symm⟩
      rw [hx] at h5
      have hp : ((2 : Int) ^ (n % 16)) = ((2 ^ (n % 16) : Nat) : Int) := by simp
      rw [hp, ← Int.ofNat_fdiv] at h5
      have hdiv : x / 2 ^ (n % 16) = 0 := by exact_mod_cast h5
      have hxl : x < 2 ^ (n % 16) := by
        rcases Nat.lt_or_ge x (2 ^ (n % 16)) with hh | hh
        · exact hh
        · have := Nat.div_pos hh (Nat.two_pow_pos _)
          omega
      have := numW_lt2 (r := n % 16) h4 hne (by rw [hx, Int.toNat_natCast]; exact hxl)
      have e : 16 * ((lI b.words).length - 1) + n % 16 = n := by omega
      rwa [e] at this
theorem wordsN_eq {A B m : Nat} (h : ∀ j, j < 16 * m → A.testBit j = B.testBit j) : wordsN A m = wordsN B m := by
  unfold wordsN
  refine List.map_congr_left fun k hk => ?_
  have hk2 := List.mem_range.1 hk
  congr 1
  refine Nat.eq_of_testBit_eq fun j => ?_
  by_cases hj : j < 16
  · rw [wordN_bit hj, wordN_bit hj]
    exact h _ (by omega)
  · have h1 := wordN_lt (B := A) (k := k)
    have h2 := wordN_lt (B := B) (k := k)
    have hp : (65536 : Nat) ≤ 2 ^ j := by
      have : (2 : Nat) ^ 16 ≤ 2 ^ j := Nat.pow_le_pow_right (by decide) (by omega)
      simpa using this
    rw [Nat.testBit_lt_two_pow (by omega), Nat.testBit_lt_two_pow (by omega)]
theorem textB_get {B n i : Nat} (hi : i < n) : (textB B n).getD i 0 = bitC (B.testBit i) := by
  simp [textB, hi]
theorem par_text {b : Bt} (hk : okBt b = true) : ∃ b' : Bt, parV (btText b) = .tup [eB b', .bool true] ∧ b'.size = b.size ∧ lI b'.words = lI b.words := by
  obtain ⟨hw, k0, k1, k2⟩ := okBt_num hk
  unfold btText
  by_cases hz : b.size = 0
  · rw [if_pos hz, par_dash]
    refine ⟨_, rfl, hz.symm, ?_⟩
    have : (lI b.words).length = 0 := by omega
    rw [List.eq_nil_of_length_eq_zero this]
    rfl
  · rw [if_neg hz]
    obtain ⟨n, hn⟩ : ∃ n : Nat, b.size = (n : Int) := ⟨b.size.toNat, by omega⟩
    rw [hn, Int.toNat_natCast]
    have hlt := okBt_lt hk hn (by omega)
    generalize numW (lI b.words) = B at *
    have hlen := textB_len (B := B) (n := n)
    have hne : textB B n ≠ [45] := fun h => by
      have h1 := textB_get (B := B) (n := n) (i := 0) (by omega)
      rw [h] at h1
      cases hb : B.testBit 0 <;> rw [hb] at h1 <;> exact absurd h1 (by decide)
    have h01 : par01 (textB B n) = true := by
      unfold par01 textB
      rw [List.all_eq_true]
      intro c hc
      obtain ⟨i, _, rfl⟩ := List.mem_map.1 hc
      cases B.testBit i <;> decide
    have hok : parOk (textB B n) = true := by
      unfold parOk
      rw [h01, hlen]
      simp only [Bool.and_true, Bool.and_eq_true, decide_eq_true_eq]
      omega
    refine ⟨_, par_yes hne hok, ?_, ?_⟩
    · simp [parB, hlen]
    · show wordsN _ _ = _
      rw [hlen, hw, show (n + 15) / 16 = (lI b.words).length by omega]
      refine wordsN_eq fun j hj => ?_
      rw [mkN_bit]
      by_cases hjn : j < n
      · have hg : parG (textB B n) j = B.testBit j := by
          unfold parG
          rw [textB_get hjn]
          cases B.testBit j <;> decide
        rw [hg]
        simp [hjn]
      · have : B.testBit j = false := Nat.testBit_lt_two_pow (Nat.lt_of_lt_of_le hlt (Nat.pow_le_pow_right (by decide) (by omega)))
        rw [this]
        simp [hjn]
theorem load_image {b : Bt} (hk : okBt b = true) (hp : plainV ([98, 105, 116, 115, 32] ++ btText b) = true) : ∃ b' : Bt, loadV (sealT ([98, 105, 116, 115, 32] ++ btText b)) = .tup [eB b', .bool true] ∧ b'.size = b.size ∧ lI b'.words = lI b.words := by
  obtain ⟨o1, o2⟩ := open_sealed hp
  obtain ⟨b', h1, h2, h3⟩ := par_text hk
  refine ⟨b', ?_, h2, h3⟩
  have hl : loadT (sealT ([98, 105, 116, 115, 32] ++ btText b)) = some (btText b) := by
    unfold loadT
    rw [o1, o2]
    simp
  rw [load_some hl, h1]

theorem fit_bytes {zs : List AV} (h : Fit (.sl (.int .u8) 1) zs) : ∃ a : Option (List UInt8), zs = [eU a] := by
  have key : ∀ xs, Fit (.int .u8) xs → ∃ c : UInt8, xs = [AV.int .u8 (c.toNat : Int)] := fun xs hx => by
    cases hx with
    | @int _ n h1 h2 =>
      have h1' : 0 ≤ n := by simpa [IntKind.min, IntKind.signed, IntKind.bits] using h1
      have h2' : n ≤ 255 := by simpa [IntKind.max, IntKind.signed, IntKind.bits] using h2
      refine ⟨UInt8.ofNat n.toNat, ?_⟩
      have : ((UInt8.ofNat n.toNat).toNat : Int) = n := by
        simp
        omega
      rw [this]
  rcases fit_rows (f := fun c : UInt8 => [AV.int .u8 (c.toNat : Int)]) key h with rfl | ⟨l, rfl⟩
  · exact ⟨none, rfl⟩
  · exact ⟨some l, by rw [flatMap_one]; rfl⟩

def sh_FnImagesOfBits : List Sh := [.sl (.int .u8) 1, .sl (.int .u8) 1]
theorem law_FnImagesOfBits (ys : List AV) (hy : ArgsFit sh_FnImagesOfBits ys) : Call Tryd.prog 4 ys [] Nowhere (fun x _ => x = .bool true) := by
  obtain ⟨x1, y1, rfl, h1, hy⟩ := argsFit_cons hy
  obtain ⟨x2, y2, rfl, h2, hy⟩ := argsFit_cons hy
  obtain rfl := argsFit_nil hy
  obtain ⟨code, hce⟩ := fit_bytes h1
  obtain ⟨more, hme⟩ := fit_bytes h2
  subst hce hme
  refine (?_ : ∀ h, Call Tryd.prog 4 [eU code, eU more] h Nowhere (fun x _ => x = .bool true)) []
  intro h
  refine enter (by kernel_rfl) e4 (by kernel_rfl) rfl fun hok => ?_
  simp only [r4, initEnv_2]
  have hl1 := ok_eU (okV_0 hok)
  have hl2 := ok_eU (okV_1 hok)
  (try (simp (disch := first | omega | (simp <;> omega) | fail) only [push_cast, ↓reduceIte, Nat.reduceEqDiff, Nat.reduceAdd, Nat.reduceMul, Nat.reduceSub, Nat.reduceLT, Int.reduceToNat]))
  refine (c_laws_big code more hl1).call ?_
  cases hb : (decide (1048576 < ((lU code).length : Int)) || decide (1048576 - ((lU code).length : Int) < ((lU more).length : Int)))
  · simp only [Bool.or_eq_false_iff, decide_eq_false_iff_not] at hb
    (try (simp (disch := first | omega | (simp <;> omega) | fail) only [push_cast, ↓reduceIte, Nat.reduceEqDiff, Nat.reduceAdd, Nat.reduceMul, Nat.reduceSub, Nat.reduceLT, Int.reduceToNat]))
    refine (c_spec_DrawImageOfBits code).use ?_
    rintro x ⟨b, rfl, hbl⟩
    (try (simp (disch := first | omega | (simp <;> omega) | fail) only [push_cast, ↓reduceIte, Nat.reduceEqDiff, Nat.reduceAdd, Nat.reduceMul, Nat.reduceSub, Nat.reduceLT, Int.reduceToNat]))
    refine (c_impl_ImageOfBits b).call ?_
    have hspec := c_spec_ImageOfBits b
    unfold imgBV sealV at hspec ⊢
    cases hk : okBt b
    · rw [hk] at hspec
      (try (simp (disch := first | omega | (simp <;> omega) | fail) only [push_cast, ↓reduceIte, Nat.reduceEqDiff, Nat.reduceAdd, Nat.reduceMul, Nat.reduceSub, Nat.reduceLT, Int.reduceToNat]))
      refine hspec.call ?_
      (try (simp (disch := first | omega | (simp <;> omega) | fail) only [push_cast, ↓reduceIte, Nat.reduceEqDiff, Nat.reduceAdd, Nat.reduceMul, Nat.reduceSub, Nat.reduceLT, Int.reduceToNat]))
    have hli := load_image (b := b) hk
    rw [hk] at hspec
    have htl := btText_len hk
    generalize hs : ([98, 105, 116, 115, 32] ++ btText b : Str) = s at *
    have hsl6 : s.length ≤ 5000 := by rw [← hs]; simp; omega
    cases hp : plainV s
    · rw [hp] at hspec
      (try (simp (disch := first | omega | (simp <;> omega) | fail) only [push_cast, ↓reduceIte, Nat.reduceEqDiff, Nat.reduceAdd, Nat.reduceMul, Nat.reduceSub, Nat.reduceLT, Int.reduceToNat]))
      refine hspec.call ?_
      (try (simp (disch := first | omega | (simp <;> omega) | fail) only [push_cast, ↓reduceIte, Nat.reduceEqDiff, Nat.reduceAdd, Nat.reduceMul, Nat.reduceSub, Nat.reduceLT, Int.reduceToNat]))
    rw [hp] at hspec
    obtain ⟨b', g1, g2, g3⟩ := hli hp
    obtain ⟨o1, o2⟩ := open_sealed hp
    obtain ⟨k0, k1⟩ := chk_bd s s.length
    have hdl := dec_len (n := (chk s s.length).toNat) (by omega)
    have hsl : (sealT s).length ≤ 9000 ∧ 1 ≤ (sealT s).length := by
      unfold sealT
      simp
      omega
    obtain ⟨hs1, hs2⟩ := hsl
    simp only [Bool.true_eq_false, if_true, if_false] at hspec ⊢
    (try (simp (disch := first | omega | (simp <;> omega) | fail) only [push_cast, ↓reduceIte, Nat.reduceEqDiff, Nat.reduceAdd, Nat.reduceMul, Nat.reduceSub, Nat.reduceLT, Int.reduceToNat]))
    refine hspec.call ?_
    (try (simp (disch := first | omega | (simp <;> omega) | fail) only [push_cast, ↓reduceIte, Nat.reduceEqDiff, Nat.reduceAdd, Nat.reduceMul, Nat.reduceSub, Nat.reduceLT, Int.reduceToNat]))
    refine ((c_impl_LoadBits_o (sealT s) (by omega)).fn).call ?_
    rw [g1]
    (try (simp (disch := first | omega | (simp <;> omega) | fail) only [push_cast, ↓reduceIte, Nat.reduceEqDiff, Nat.reduceAdd, Nat.reduceMul, Nat.reduceSub, Nat.reduceLT, Int.reduceToNat]))
    refine (c_laws_pSameBits b' b).call ?_
    rw [g2, g3]
    obtain ⟨i, hi⟩ : ∃ i : Nat, (lU more).length % (sealT s).length = i := ⟨_, rfl⟩
    have hil : i < (sealT s).length := by
      rw [← hi]
      exact Nat.mod_lt _ (by omega)
    have hiN : ((lU more).length : Int) % ((sealT s).length : Int) = (i : Int) := by
      rw [← hi]
      simp
    have hmod2 : ∀ o : UInt8, List.take (i - 0) (List.drop 0 (sealT s)) ++ o :: List.take ((sealT s).length - (i + 1)) (List.drop (i + 1) (sealT s)) = (sealT s).set i o := fun o => by
      have e5 : List.take ((sealT s).length - (i + 1)) (List.drop (i + 1) (sealT s)) = List.drop (i + 1) (sealT s) := List.take_of_length_le (by rw [List.length_drop]; exact Nat.le_refl _)
      rw [e5, Nat.sub_zero, List.drop_zero, List.set_eq_take_append_cons_drop, if_pos hil]
    have hbad : ∀ o : UInt8, o ≠ (sealT s).getD i 0 → openV ((sealT s).set i o) = .tup [.str [], .bool false] ∧ loadV ((sealT s).set i o) = .tup [eB ⟨0, none⟩, .bool false] := fun o ho => by
      have hd := seal_damage hp hil (o := o)
      rw [decide_eq_false ho] at hd
      refine ⟨?_, load_none ?_⟩
      · unfold openV
        rw [hd]
        rfl
      · unfold loadT
        rw [hd]
        rfl
    have hcb2 : ∀ (a b : Option AObj) (n : Int), cbsA (h ++ [a, b, some (.cells [.int .u8 n])]) (.sl (h.length + 2) 0 1 1 1) = some (.str [UInt8.ofNat n.toNat]) := fun a b n => by
      simp only [cbsA, cells_hk]
      rfl
    have hcb3 : ∀ (a b c : Option AObj) (n : Int), cbsA (h ++ [a, b, c, some (.cells [.int .u8 n])]) (.sl (h.length + 3) 0 1 1 1) = some (.str [UInt8.ofNat n.toNat]) := fun a b c n => by
      simp only [cbsA, cells_hk]
      rfl
    have hcb4 : ∀ (a b c d : Option AObj) (n : Int), cbsA (h ++ [a, b, c, d, some (.cells [.int .u8 n])]) (.sl (h.length + 4) 0 1 1 1) = some (.str [UInt8.ofNat n.toNat]) := fun a b c d n => by
      simp only [cbsA, cells_hk]
      rfl
    (try (simp (disch := first | omega | (simp <;> omega) | fail) only [push_cast, ↓reduceIte, Nat.reduceEqDiff, Nat.reduceAdd, Nat.reduceMul, Nat.reduceSub, Nat.reduceLT, Int.reduceToNat, hiN]))
    first | refine goC_split (fun hc => ?_) (fun hc => ?_) | refine cnd_split (fun hc => ?_) (fun hc => ?_)
    · (try (simp only [decide_eq_true_eq, decide_eq_false_iff_not, Bool.not_eq_true', Bool.not_eq_false', Bool.and_eq_true, Bool.or_eq_true, Int.not_lt, Int.not_le] at hc)); (try (simp (disch := first | omega | (simp <;> omega) | fail) only [push_cast, ↓reduceIte, Nat.reduceEqDiff, Nat.reduceAdd, Nat.reduceMul, Nat.reduceSub, Nat.reduceLT, Int.reduceToNat]))
      (try (simp (disch := first | omega | (simp <;> omega) | fail) only [push_cast, ↓reduceIte, Nat.reduceEqDiff, Nat.reduceAdd, Nat.reduceMul, Nat.reduceSub, Nat.reduceLT, Int.reduceToNat, hiN, hcb2, hcb3, hcb4]))
      generalize (lU more).getD 0 0 = o
      by_cases ho : o = (sealT s).getD i 0
      · have ho2 : (o.toNat : Int) = (((sealT s).getD i 0).toNat : Int) := by rw [ho]
        (try (simp (disch := first | omega | (simp <;> omega) | fail) only [push_cast, ↓reduceIte, Nat.reduceEqDiff, Nat.reduceAdd, Nat.reduceMul, Nat.reduceSub, Nat.reduceLT, Int.reduceToNat, hiN, ho2, hcb2, hcb3, hcb4]))
      · have ho2 : ¬ (o.toNat : Int) = (((sealT s).getD i 0).toNat : Int) := fun he => ho (UInt8.toNat_inj.1 (by omega))
        obtain ⟨d1, d2⟩ := hbad o ho
        (try (simp (disch := first | omega | (simp <;> omega) | fail) only [push_cast, ↓reduceIte, Nat.reduceEqDiff, Nat.reduceAdd, Nat.reduceMul, Nat.reduceSub, Nat.reduceLT, Int.reduceToNat, hiN, ho2, hcb2, hcb3, hcb4]))
        rw [hmod2, UInt8.ofNat_toNat]
        refine ⟨⟨?_, ?_⟩, ?_⟩
        all_goals
          refine ((c_impl_LoadBits_o ((sealT s).set i o) (by simp; omega)).fn).call ?_
          rw [d2]
          (try (simp (disch := first | omega | (simp <;> omega) | fail) only [push_cast, ↓reduceIte, Nat.reduceEqDiff, Nat.reduceAdd, Nat.reduceMul, Nat.reduceSub, Nat.reduceLT, Int.reduceToNat, hiN, hcb2, hcb3, hcb4, reads, List.not_mem_nil, not_false_eq_true, true_and]))
          rw [hmod2, UInt8.ofNat_toNat]
          refine ⟨by simp, ?_⟩
          refine (c_impl_OpenSeal ((sealT s).set i o) (by simp; omega)).call ?_
          rw [d1]
          (try (simp (disch := first | omega | (simp <;> omega) | fail) only [push_cast, ↓reduceIte, Nat.reduceEqDiff, Nat.reduceAdd, Nat.reduceMul, Nat.reduceSub, Nat.reduceLT, Int.reduceToNat, hiN, hcb2, hcb3, hcb4]))
    · (try (simp only [decide_eq_true_eq, decide_eq_false_iff_not, Bool.not_eq_true', Bool.not_eq_false', Bool.and_eq_true, Bool.or_eq_true, Int.not_lt, Int.not_le] at hc)); (try (simp (disch := first | omega | (simp <;> omega) | fail) only [push_cast, ↓reduceIte, Nat.reduceEqDiff, Nat.reduceAdd, Nat.reduceMul, Nat.reduceSub, Nat.reduceLT, Int.reduceToNat]))
      (try (simp (disch := first | omega | (simp <;> omega) | fail) only [push_cast, ↓reduceIte, Nat.reduceEqDiff, Nat.reduceAdd, Nat.reduceMul, Nat.reduceSub, Nat.reduceLT, Int.reduceToNat, hiN, hcb2, hcb3, hcb4]))
      have h33 : (UInt8.ofNat 33).toNat = 33 := rfl
      by_cases ho : UInt8.ofNat 33 = (sealT s).getD i 0
      · have ho2 : ((sealT s).getD i 0).toNat = 33 := by rw [← ho, h33]
        (try (simp (disch := first | omega | (simp <;> omega) | fail) only [push_cast, ↓reduceIte, Nat.reduceEqDiff, Nat.reduceAdd, Nat.reduceMul, Nat.reduceSub, Nat.reduceLT, Int.reduceToNat, hiN, ho2, hcb2, hcb3, hcb4]))
      · have ho2 : ((sealT s).getD i 0).toNat ≠ 33 := fun he => ho (UInt8.toNat_inj.1 (by rw [he]; rfl))
        have ho3 : ¬ (33 : Int) = (((sealT s).getD i 0).toNat : Int) := by omega
        obtain ⟨d1, d2⟩ := hbad _ ho
        (try (simp (disch := first | omega | (simp <;> omega) | fail) only [push_cast, ↓reduceIte, Nat.reduceEqDiff, Nat.reduceAdd, Nat.reduceMul, Nat.reduceSub, Nat.reduceLT, Int.reduceToNat, hiN, ho2, ho3, hcb2, hcb3, hcb4]))
        rw [hmod2]
        refine ⟨⟨?_, ?_⟩, ?_⟩
        all_goals
          refine ((c_impl_LoadBits_o ((sealT s).set i (UInt8.ofNat 33)) (by simp; omega)).fn).call ?_
          rw [d2]
          (try (simp (disch := first | omega | (simp <;> omega) | fail) only [push_cast, ↓reduceIte, Nat.reduceEqDiff, Nat.reduceAdd, Nat.reduceMul, Nat.reduceSub, Nat.reduceLT, Int.reduceToNat, hiN, hcb2, hcb3, hcb4, reads, List.not_mem_nil, not_false_eq_true, true_and]))
          rw [hmod2]
          refine ⟨by simp, ?_⟩
          refine (c_impl_OpenSeal ((sealT s).set i (UInt8.ofNat 33)) (by simp; omega)).call ?_
          rw [d1]
          (try (simp (disch := first | omega | (simp <;> omega) | fail) only [push_cast, ↓reduceIte, Nat.reduceEqDiff, Nat.reduceAdd, Nat.reduceMul, Nat.reduceSub, Nat.reduceLT, Int.reduceToNat, hiN, hcb2, hcb3, hcb4]))
  · (try (simp (disch := first | omega | (simp <;> omega) | fail) only [push_cast, ↓reduceIte, Nat.reduceEqDiff, Nat.reduceAdd, Nat.reduceMul, Nat.reduceSub, Nat.reduceLT, Int.reduceToNat]))

end Go.Proofs.YtoappkfndnggnaaDoor.M
