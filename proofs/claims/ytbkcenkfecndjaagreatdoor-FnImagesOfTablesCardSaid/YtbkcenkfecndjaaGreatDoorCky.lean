/-
  What the functions return.
-/
import Derived.Test.YtbkcenkfecndjaaGreatDoorFky
import Derived.Test.YtbkcenkfecndjaaGreatDoorShelf
import Derived.Test.YtbkcenkfecndjaaGreatDoorCkw
namespace Go.Proofs.YtbkcenkfecndjaaGreatDoor.M
open Go Go.RowKit
set_option linter.unusedVariables false
set_option linter.unusedSimpArgs false
set_option maxRecDepth 4000

theorem c_spec_ImageOfPeeled (p : Pd) (hin : InP p) : Fn Tryz.prog 10 [eP p] (· = imgPV p) := by
  refine Fn.of free_imgPV fun h => ?_
  refine enter (by kernel_rfl) e10 (by kernel_rfl) rfl fun hok => ?_
  simp only [r10, initEnv_1]
  (try (simp (disch := first | omega | (simp <;> omega) | fail) only [push_cast, ↓reduceIte, Nat.reduceEqDiff, Nat.reduceAdd, Nat.reduceMul, Nat.reduceSub, Nat.reduceLT, Int.reduceToNat]))
  refine (c_spec_pfPeeled p).call ?_
  unfold imgPV
  cases hk : okPd p
  · (try (simp (disch := first | omega | (simp <;> omega) | fail) only [push_cast, ↓reduceIte, Nat.reduceEqDiff, Nat.reduceAdd, Nat.reduceMul, Nat.reduceSub, Nat.reduceLT, Int.reduceToNat]))
    all_goals (try rfl)
  obtain ⟨a1, a2, b1, b2, hl, hm⟩ := okPd_in hk
  have i1 := itoa_len hin.s
  have i2 := itoa_len hin.g
  (try (simp (disch := first | omega | (simp <;> omega) | fail) only [push_cast, ↓reduceIte, Nat.reduceEqDiff, Nat.reduceAdd, Nat.reduceMul, Nat.reduceSub, Nat.reduceLT, Int.reduceToNat]))
  refine (c_spec_l1Num_i p.seed (by omega) (by omega)).call ?_
  (try (simp (disch := first | omega | (simp <;> omega) | fail) only [push_cast, ↓reduceIte, Nat.reduceEqDiff, Nat.reduceAdd, Nat.reduceMul, Nat.reduceSub, Nat.reduceLT, Int.reduceToNat]))
  refine (c_spec_l1Num_i p.seg (by omega) (by omega)).call ?_
  (try (simp (disch := first | omega | (simp <;> omega) | fail) only [push_cast, ↓reduceIte, Nat.reduceEqDiff, Nat.reduceAdd, Nat.reduceMul, Nat.reduceSub, Nat.reduceLT, Int.reduceToNat]))
  refine T_for (lI p.marks).length (fun i e h' => Pins e [(4, .str (pdT p i)), (21, eI p.marks), (22, .int .i64 (lI p.marks).length), (23, .int .i64 i)]) ?_ ?_
  · (try (simp (disch := first | omega | (simp <;> omega) | fail) only [push_cast, ↓reduceIte, Nat.reduceEqDiff, Nat.reduceAdd, Nat.reduceMul, Nat.reduceSub, Nat.reduceLT, Int.reduceToNat]))
    all_goals (try simp [pdT])
  rintro i e h' hi hp
  refine T_pins hp fun e => ?_
  have hpl := pdT_len hin i hi
  (try (simp (disch := first | omega | (simp <;> omega) | fail) only [push_cast, ↓reduceIte, Nat.reduceEqDiff, Nat.reduceAdd, Nat.reduceMul, Nat.reduceSub, Nat.reduceLT, Int.reduceToNat]))
  first | refine goC_split (fun hc => ?_) (fun hc => ?_) | refine cnd_split (fun hc => ?_) (fun hc => ?_)
  · (try (simp only [decide_eq_true_eq, decide_eq_false_iff_not, Bool.not_eq_true', Bool.not_eq_false', Bool.and_eq_true, Bool.or_eq_true, Int.not_lt, Int.not_le] at hc)); (try (simp (disch := first | omega | (simp <;> omega) | fail) only [push_cast, ↓reduceIte, Nat.reduceEqDiff, Nat.reduceAdd, Nat.reduceMul, Nat.reduceSub, Nat.reduceLT, Int.reduceToNat]))
    have hi2 : i < (lI p.marks).length := by omega
    obtain ⟨m1, m2⟩ := hm i
    have hmi := itoa_len (n := (lI p.marks).getD i 0) ⟨by omega, by omega⟩
    have hs := pdT_succ hi2
    (try (simp (disch := first | omega | (simp <;> omega) | fail) only [push_cast, ↓reduceIte, Nat.reduceEqDiff, Nat.reduceAdd, Nat.reduceMul, Nat.reduceSub, Nat.reduceLT, Int.reduceToNat]))
    refine (c_spec_l1Num_i _ (by omega) (by omega)).call ?_
    (try (simp (disch := first | omega | (simp <;> omega) | fail) only [push_cast, ↓reduceIte, Nat.reduceEqDiff, Nat.reduceAdd, Nat.reduceMul, Nat.reduceSub, Nat.reduceLT, Int.reduceToNat]))
    rw [hs]
  · (try (simp only [decide_eq_true_eq, decide_eq_false_iff_not, Bool.not_eq_true', Bool.not_eq_false', Bool.and_eq_true, Bool.or_eq_true, Int.not_lt, Int.not_le] at hc)); (try (simp (disch := first | omega | (simp <;> omega) | fail) only [push_cast, ↓reduceIte, Nat.reduceEqDiff, Nat.reduceAdd, Nat.reduceMul, Nat.reduceSub, Nat.reduceLT, Int.reduceToNat]))
    have hie : i = (lI p.marks).length := by omega
    subst hie
    refine (c_spec_stSealed _).call ?_
    have hv : ∃ t b, sealV (pdT p (lI p.marks).length) = .tup [.str t, .bool b] := by
      unfold sealV
      split <;> exact ⟨_, _, rfl⟩
    obtain ⟨t, b, hv⟩ := hv
    rw [hv]
    (try (simp (disch := first | omega | (simp <;> omega) | fail) only [push_cast, ↓reduceIte, Nat.reduceEqDiff, Nat.reduceAdd, Nat.reduceMul, Nat.reduceSub, Nat.reduceLT, Int.reduceToNat]))
    all_goals (try rfl)

theorem c_slices_IndexFunc_int (a : Option (List Int)) (f : Nat) (g : Int → Bool) (hg : ∀ m, Fn Tryz.prog f [.int .i64 m] (· = .bool (g m))) : Fn Tryz.prog 95 [eI a, .fn f []] (fun x => ∃ n : Int, x = .int .i64 n ∧ decide (0 ≤ n) = !((lI a).all fun m => !g m)) := by
  intro h
  refine Call.gc (Call.mono (?_ : Call Tryz.prog 95 [eI a, .fn f []] h Nowhere (fun x _ => ∃ n : Int, x = .int .i64 n ∧ decide (0 ≤ n) = !((lI a).all fun m => !g m))) (fun x _ ⟨n, hn, hx⟩ => ⟨⟨n, hn, hx⟩, by rw [hn]; exact free_int⟩) (fun _ _ h => h))
  refine enter (by kernel_rfl) e95 (by kernel_rfl) rfl fun hok => ?_
  simp only [r95, initEnv_2]
  have hlen := ok_eI (okV_0 hok)
  (try (simp (disch := first | omega | (simp <;> omega) | fail) only [push_cast, ↓reduceIte, Nat.reduceEqDiff, Nat.reduceAdd, Nat.reduceMul, Nat.reduceSub, Nat.reduceLT, Int.reduceToNat]))
  refine T_for (lI a).length (fun i e h' => Pins e [(0, eI a), (1, .fn f []), (7, .int .i64 (lI a).length), (8, .int .i64 i)] ∧ h' = h ∧ ((lI a).take i).all (fun m => !g m) = true) ?_ ?_
  · (try (simp (disch := first | omega | (simp <;> omega) | fail) only [push_cast, ↓reduceIte, Nat.reduceEqDiff, Nat.reduceAdd, Nat.reduceMul, Nat.reduceSub, Nat.reduceLT, Int.reduceToNat]))
    all_goals (try simp)
  rintro i e h' hi ⟨hp, rfl, ha⟩
  refine T_pins hp fun e => ?_
  (try (simp (disch := first | omega | (simp <;> omega) | fail) only [push_cast, ↓reduceIte, Nat.reduceEqDiff, Nat.reduceAdd, Nat.reduceMul, Nat.reduceSub, Nat.reduceLT, Int.reduceToNat]))
  first | refine goC_split (fun hc => ?_) (fun hc => ?_) | refine cnd_split (fun hc => ?_) (fun hc => ?_)
  · (try (simp only [decide_eq_true_eq, decide_eq_false_iff_not, Bool.not_eq_true', Bool.not_eq_false', Bool.and_eq_true, Bool.or_eq_true, Int.not_lt, Int.not_le] at hc)); (try (simp (disch := first | omega | (simp <;> omega) | fail) only [push_cast, ↓reduceIte, Nat.reduceEqDiff, Nat.reduceAdd, Nat.reduceMul, Nat.reduceSub, Nat.reduceLT, Int.reduceToNat]))
    have hi2 : i < (lI a).length := by omega
    (try (simp (disch := first | omega | (simp <;> omega) | fail) only [push_cast, ↓reduceIte, Nat.reduceEqDiff, Nat.reduceAdd, Nat.reduceMul, Nat.reduceSub, Nat.reduceLT, Int.reduceToNat]))
    refine (hg _).call ?_
    have hn : ((lI a).take (i + 1)).all (fun m => !g m) = !(g ((lI a).getD i 0)) := by
      rw [List.take_add_one, List.all_append, ha]
      simp [hi2]
    cases hk : g ((lI a).getD i 0)
    · (try (simp (disch := first | omega | (simp <;> omega) | fail) only [push_cast, ↓reduceIte, Nat.reduceEqDiff, Nat.reduceAdd, Nat.reduceMul, Nat.reduceSub, Nat.reduceLT, Int.reduceToNat]))
      rw [hn, hk]
      rfl
    · (try (simp (disch := first | omega | (simp <;> omega) | fail) only [push_cast, ↓reduceIte, Nat.reduceEqDiff, Nat.reduceAdd, Nat.reduceMul, Nat.reduceSub, Nat.reduceLT, Int.reduceToNat]))
      refine ⟨_, rfl, ?_⟩
      have : ((lI a).all fun m => !g m) = false := by
        rw [List.all_eq_false]
        exact ⟨(lI a).getD i 0, by simp [hi2], by rw [hk]; simp⟩
      rw [this]
      simp
  · (try (simp only [decide_eq_true_eq, decide_eq_false_iff_not, Bool.not_eq_true', Bool.not_eq_false', Bool.and_eq_true, Bool.or_eq_true, Int.not_lt, Int.not_le] at hc)); (try (simp (disch := first | omega | (simp <;> omega) | fail) only [push_cast, ↓reduceIte, Nat.reduceEqDiff, Nat.reduceAdd, Nat.reduceMul, Nat.reduceSub, Nat.reduceLT, Int.reduceToNat]))
    have : (lI a).take i = lI a := List.take_of_length_le (by omega)
    rw [this] at ha
    refine ⟨_, rfl, ?_⟩
    rw [ha]
    rfl
theorem c_slices_ContainsFunc_int (a : Option (List Int)) (f : Nat) (g : Int → Bool) (hg : ∀ m, Fn Tryz.prog f [.int .i64 m] (· = .bool (g m))) : Fn Tryz.prog 62 [eI a, .fn f []] (· = .bool (!((lI a).all fun m => !g m))) := by
  refine Fn.of free_bool fun h => ?_
  refine enter (by kernel_rfl) e62 (by kernel_rfl) rfl fun hok => ?_
  simp only [r62, initEnv_2]
  (try (simp (disch := first | omega | (simp <;> omega) | fail) only [push_cast, ↓reduceIte, Nat.reduceEqDiff, Nat.reduceAdd, Nat.reduceMul, Nat.reduceSub, Nat.reduceLT, Int.reduceToNat]))
  refine (c_slices_IndexFunc_int a f g hg).use ?_
  rintro x ⟨n, rfl, hn⟩
  rw [← hn]
  (try (simp (disch := first | omega | (simp <;> omega) | fail) only [push_cast, ↓reduceIte, Nat.reduceEqDiff, Nat.reduceAdd, Nat.reduceMul, Nat.reduceSub, Nat.reduceLT, Int.reduceToNat]))
  (first | refine goC_split (fun hc => ?_) (fun hc => ?_) | refine cnd_split (fun hc => ?_) (fun hc => ?_)) <;> ((try (simp (disch := first | omega | (simp <;> omega) | fail) only [push_cast, ↓reduceIte, Nat.reduceEqDiff, Nat.reduceAdd, Nat.reduceMul, Nat.reduceSub, Nat.reduceLT, Int.reduceToNat]))) <;> (try rw [hc])
theorem c_impl_isSeed (n : Int) : Fn Tryz.prog 65 [.int .i64 n] (· = .bool (decide (0 ≤ n) && decide (n ≤ 9999))) := by
  refine Fn.of free_bool fun h => ?_
  refine enter (by kernel_rfl) e65 (by kernel_rfl) rfl fun hok => ?_
  simp only [r65, initEnv_1]
  (try (simp (disch := first | omega | (simp <;> omega) | fail) only [push_cast, ↓reduceIte, Nat.reduceEqDiff, Nat.reduceAdd, Nat.reduceMul, Nat.reduceSub, Nat.reduceLT, Int.reduceToNat]))
  refine (c_impl_in _ _ _).call ?_
  (try (simp (disch := first | omega | (simp <;> omega) | fail) only [push_cast, ↓reduceIte, Nat.reduceEqDiff, Nat.reduceAdd, Nat.reduceMul, Nat.reduceSub, Nat.reduceLT, Int.reduceToNat]))

theorem c_impl_segmentOk (n : Int) : Fn Tryz.prog 66 [.int .i64 n] (· = .bool (decide (1 ≤ n) && decide (n ≤ 24))) := by
  refine Fn.of free_bool fun h => ?_
  refine enter (by kernel_rfl) e66 (by kernel_rfl) rfl fun hok => ?_
  simp only [r66, initEnv_1]
  (try (simp (disch := first | omega | (simp <;> omega) | fail) only [push_cast, ↓reduceIte, Nat.reduceEqDiff, Nat.reduceAdd, Nat.reduceMul, Nat.reduceSub, Nat.reduceLT, Int.reduceToNat]))
  refine (c_impl_in _ _ _).call ?_
  (try (simp (disch := first | omega | (simp <;> omega) | fail) only [push_cast, ↓reduceIte, Nat.reduceEqDiff, Nat.reduceAdd, Nat.reduceMul, Nat.reduceSub, Nat.reduceLT, Int.reduceToNat]))

theorem c_impl_IsPeeled_1 (m : Int) : Fn Tryz.prog 63 [.int .i64 m] (· = .bool (!(decide (0 ≤ m) && decide (m ≤ 3)))) := by
  refine Fn.of free_bool fun h => ?_
  refine enter (by kernel_rfl) e63 (by kernel_rfl) rfl fun hok => ?_
  simp only [r63, initEnv_1]
  (try (simp (disch := first | omega | (simp <;> omega) | fail) only [push_cast, ↓reduceIte, Nat.reduceEqDiff, Nat.reduceAdd, Nat.reduceMul, Nat.reduceSub, Nat.reduceLT, Int.reduceToNat]))
  refine (c_impl_in _ _ _).call ?_
  (try (simp (disch := first | omega | (simp <;> omega) | fail) only [push_cast, ↓reduceIte, Nat.reduceEqDiff, Nat.reduceAdd, Nat.reduceMul, Nat.reduceSub, Nat.reduceLT, Int.reduceToNat]))

theorem c_impl_IsPeeled (p : Pd) : Fn Tryz.prog 24 [eP p] (· = .bool (okPd p)) := by
  refine Fn.of free_bool fun h => ?_
  refine enter (by kernel_rfl) e24 (by kernel_rfl) rfl fun hok => ?_
  simp only [r24, initEnv_1]
  (try (simp (disch := first | omega | (simp <;> omega) | fail) only [push_cast, ↓reduceIte, Nat.reduceEqDiff, Nat.reduceAdd, Nat.reduceMul, Nat.reduceSub, Nat.reduceLT, Int.reduceToNat]))
  refine (c_slices_ContainsFunc_int p.marks _ _ c_impl_IsPeeled_1).call ?_
  have hm : ((lI p.marks).all fun m => !!(decide (0 ≤ m) && decide (m ≤ 3))) = okMarks (lI p.marks) := by
    unfold okMarks
    simp only [Bool.not_not]
  rw [hm]
  unfold okPd
  cases h0 : okMarks (lI p.marks)
  · (try (simp (disch := first | omega | (simp <;> omega) | fail) only [push_cast, ↓reduceIte, Nat.reduceEqDiff, Nat.reduceAdd, Nat.reduceMul, Nat.reduceSub, Nat.reduceLT, Int.reduceToNat]))
    all_goals (try simp)
  (try (simp (disch := first | omega | (simp <;> omega) | fail) only [push_cast, ↓reduceIte, Nat.reduceEqDiff, Nat.reduceAdd, Nat.reduceMul, Nat.reduceSub, Nat.reduceLT, Int.reduceToNat]))
  refine (c_impl_isSeed _).call ?_
  cases h1 : (decide (0 ≤ p.seed) && decide (p.seed ≤ 9999))
  · (try (simp (disch := first | omega | (simp <;> omega) | fail) only [push_cast, ↓reduceIte, Nat.reduceEqDiff, Nat.reduceAdd, Nat.reduceMul, Nat.reduceSub, Nat.reduceLT, Int.reduceToNat]))
  (try (simp (disch := first | omega | (simp <;> omega) | fail) only [push_cast, ↓reduceIte, Nat.reduceEqDiff, Nat.reduceAdd, Nat.reduceMul, Nat.reduceSub, Nat.reduceLT, Int.reduceToNat]))
  refine (c_impl_segmentOk _).call ?_
  cases h2 : (decide (1 ≤ p.seg) && decide (p.seg ≤ 24))
  · (try (simp (disch := first | omega | (simp <;> omega) | fail) only [push_cast, ↓reduceIte, Nat.reduceEqDiff, Nat.reduceAdd, Nat.reduceMul, Nat.reduceSub, Nat.reduceLT, Int.reduceToNat]))
  have h3 : 1 ≤ p.seg ∧ p.seg ≤ 24 := by simpa using h2
  (try (simp (disch := first | omega | (simp <;> omega) | fail) only [push_cast, ↓reduceIte, Nat.reduceEqDiff, Nat.reduceAdd, Nat.reduceMul, Nat.reduceSub, Nat.reduceLT, Int.reduceToNat]))
  (first | refine goC_split (fun hc => ?_) (fun hc => ?_) | refine cnd_split (fun hc => ?_) (fun hc => ?_)) <;> ((try (simp (disch := first | omega | (simp <;> omega) | fail) only [push_cast, ↓reduceIte, Nat.reduceEqDiff, Nat.reduceAdd, Nat.reduceMul, Nat.reduceSub, Nat.reduceLT, Int.reduceToNat]))) <;> (try rw [hc])

theorem c_impl_ImageOfPeeled (p : Pd) (hin : InP p) (hml : (lI p.marks).length ≤ 1048576) : Fn Tryz.prog 9 [eP p] (· = imgPV p) := by
  refine Fn.of free_imgPV fun h => ?_
  refine enter (by kernel_rfl) e9 (by kernel_rfl) rfl fun hok => ?_
  simp only [r9, initEnv_1]
  have i1 := itoa_len hin.s
  have i2 := itoa_len hin.g
  (try (simp (disch := first | omega | (simp <;> omega) | fail) only [push_cast, ↓reduceIte, Nat.reduceEqDiff, Nat.reduceAdd, Nat.reduceMul, Nat.reduceSub, Nat.reduceLT, Int.reduceToNat]))
  refine (c_strconv_Itoa p.seed hin.s.1 hin.s.2).call ?_
  (try (simp (disch := first | omega | (simp <;> omega) | fail) only [push_cast, ↓reduceIte, Nat.reduceEqDiff, Nat.reduceAdd, Nat.reduceMul, Nat.reduceSub, Nat.reduceLT, Int.reduceToNat]))
  refine (c_strconv_Itoa p.seg hin.g.1 hin.g.2).call ?_
  (try (simp (disch := first | omega | (simp <;> omega) | fail) only [push_cast, ↓reduceIte, Nat.reduceEqDiff, Nat.reduceAdd, Nat.reduceMul, Nat.reduceSub, Nat.reduceLT, Int.reduceToNat]))
  refine T_for (lI p.marks).length (fun i e h' => Pins e [(1, .adr h.length 0), (4, .str (pdT p i)), (18, eI p.marks), (19, .int .i64 (lI p.marks).length), (20, .int .i64 i)] ∧ (h.length < h'.length ∧ H.cells h' h.length = some (cP p))) ?_ ?_
  · (try (simp (disch := first | omega | (simp <;> omega) | fail) only [push_cast, ↓reduceIte, Nat.reduceEqDiff, Nat.reduceAdd, Nat.reduceMul, Nat.reduceSub, Nat.reduceLT, Int.reduceToNat]))
    all_goals (try simp [pdT, cP])
  rintro i e h' hi ⟨hp, hlt, hbox⟩
  refine T_pins hp fun e => ?_
  have hpl := pdT_len hin i hi
  (try (simp (disch := first | omega | (simp <;> omega) | fail) only [push_cast, ↓reduceIte, Nat.reduceEqDiff, Nat.reduceAdd, Nat.reduceMul, Nat.reduceSub, Nat.reduceLT, Int.reduceToNat, hbox]))
  first | refine goC_split (fun hc => ?_) (fun hc => ?_) | refine cnd_split (fun hc => ?_) (fun hc => ?_)
  · (try (simp only [decide_eq_true_eq, decide_eq_false_iff_not, Bool.not_eq_true', Bool.not_eq_false', Bool.and_eq_true, Bool.or_eq_true, Int.not_lt, Int.not_le] at hc)); (try (simp (disch := first | omega | (simp <;> omega) | fail) only [push_cast, ↓reduceIte, Nat.reduceEqDiff, Nat.reduceAdd, Nat.reduceMul, Nat.reduceSub, Nat.reduceLT, Int.reduceToNat]))
    have hi2 : i < (lI p.marks).length := by omega
    have hmi : inR ((lI p.marks).getD i 0) := hin.m _ (by simp [hi2])
    have hmil := itoa_len hmi
    have hs := pdT_succ hi2
    (try (simp (disch := first | omega | (simp <;> omega) | fail) only [push_cast, ↓reduceIte, Nat.reduceEqDiff, Nat.reduceAdd, Nat.reduceMul, Nat.reduceSub, Nat.reduceLT, Int.reduceToNat, hbox]))
    refine (c_strconv_Itoa _ hmi.1 hmi.2).call ?_
    (try (simp (disch := first | omega | (simp <;> omega) | fail) only [push_cast, ↓reduceIte, Nat.reduceEqDiff, Nat.reduceAdd, Nat.reduceMul, Nat.reduceSub, Nat.reduceLT, Int.reduceToNat, hbox]))
    all_goals (try rw [hs])
    all_goals (try exact hbox)
    all_goals (try exact ⟨rfl, hbox⟩)
  · (try (simp only [decide_eq_true_eq, decide_eq_false_iff_not, Bool.not_eq_true', Bool.not_eq_false', Bool.and_eq_true, Bool.or_eq_true, Int.not_lt, Int.not_le] at hc)); (try (simp (disch := first | omega | (simp <;> omega) | fail) only [push_cast, ↓reduceIte, Nat.reduceEqDiff, Nat.reduceAdd, Nat.reduceMul, Nat.reduceSub, Nat.reduceLT, Int.reduceToNat]))
    have hie : i = (lI p.marks).length := by omega
    subst hie
    (try (simp (disch := first | omega | (simp <;> omega) | fail) only [push_cast, ↓reduceIte, Nat.reduceEqDiff, Nat.reduceAdd, Nat.reduceMul, Nat.reduceSub, Nat.reduceLT, Int.reduceToNat, hbox]))
    refine (c_impl_IsPeeled p).call ?_
    (try (simp (disch := first | omega | (simp <;> omega) | fail) only [push_cast, ↓reduceIte, Nat.reduceEqDiff, Nat.reduceAdd, Nat.reduceMul, Nat.reduceSub, Nat.reduceLT, Int.reduceToNat, hbox]))
    refine (c_impl_sealed _ _ (by omega)).call ?_
    have hv : ∃ t b, imgPV p = .tup [.str t, .bool b] := by
      unfold imgPV sealV
      split
      · split <;> exact ⟨_, _, rfl⟩
      · exact ⟨_, _, rfl⟩
    obtain ⟨t, b, hv⟩ := hv
    have hv2 : (if okPd p = true then sealV (pdT p (lI p.marks).length) else AV.tup [.str [], .bool false]) = .tup [.str t, .bool b] := hv
    rw [hv, hv2]
    (try (simp (disch := first | omega | (simp <;> omega) | fail) only [push_cast, ↓reduceIte, Nat.reduceEqDiff, Nat.reduceAdd, Nat.reduceMul, Nat.reduceSub, Nat.reduceLT, Int.reduceToNat]))
    all_goals (try rfl)

theorem ix_spec : ∀ (s : Str) (c : UInt8), (Lib.indexByte s c = -1 ∧ c ∉ s) ∨ ∃ k : Nat, Lib.indexByte s c = k ∧ k < s.length ∧ s.getD k 0 = c ∧ c ∉ s.take k
  | [], c => .inl ⟨rfl, by simp⟩
  | x :: s, c => by
    unfold Lib.indexByte
    by_cases hx : x = c
    · subst hx
      right
      refine ⟨0, ?_, by simp, by simp, by simp⟩
      simp
    · rcases ix_spec s c with ⟨h1, h2⟩ | ⟨k, h1, h2, h3, h4⟩
      · left
        refine ⟨?_, by simp [Ne.symm hx, h2]⟩
        simp [hx, h1]
      · right
        refine ⟨k + 1, ?_, by simp; omega, by simpa using h3, by simp [Ne.symm hx, h4]⟩
        simp [hx, h1]
        try omega
def cutB (s : Str) : Bool := decide ((126 : UInt8) ∈ s)
theorem cut_eq (s : Str) : (Lib.cut s [126]).1 = beforeT s ∧ (Lib.cut s [126]).2.2 = cutB s := by
  unfold Lib.cut cutB
  rw [Lib.index_one]
  rcases ix_spec s 126 with ⟨h1, h2⟩ | ⟨k, h1, h2, h3, h4⟩
  · rw [h1, if_neg (by omega)]
    exact ⟨(before_no h2).symm, by simp [h2]⟩
  · rw [h1, if_pos (by omega)]
    have hs := split_at h2 h3
    refine ⟨?_, ?_⟩
    · have : beforeT s = s.take k := by
        conv => lhs; rw [hs]
        refine before_app fun c hc => ?_
        simp only [bne_iff_ne, ne_eq]
        intro he
        exact h4 (he ▸ hc)
      rw [this]
      simp
    · have : (126 : UInt8) ∈ s := by
        rw [hs]
        simp
      simp [this]

theorem c_strings_Cut (s : Str) (hl : s.length ≤ 4000000000) : Fn Tryz.prog 96 [.str s, .str [126]] (· = .tup [.str (beforeT s), .str (Lib.cut s [126]).2.1, .bool (cutB s)]) :=
  Fn.ofGrow (canEnter_of Tryz.func96 (by kernel_rfl) (by kernel_rfl)) fun S w μ cargs hg ha => by
    obtain ⟨v, u, rfl, hv, hu⟩ := ar_2 ha
    rw [hv.str_, hu.str_]
    obtain ⟨m, hm⟩ := gl_int hg (List.mem_singleton.2 rfl)
    have hb : (beforeT s).length ≤ s.length := (List.takeWhile_prefix _).length_le
    have hb2 : (Lib.cut s [126]).2.1.length ≤ s.length := by
      unfold Lib.cut
      split <;> simp
    obtain ⟨c1, c2⟩ := cut_eq s
    refine ⟨.tuple #[.string ⟨(beforeT s).toArray⟩, .string ⟨(Lib.cut s [126]).2.1.toArray⟩, .bool (cutB s)], fun S w μ => .tup rfl (fun i x hx => ?_), (Tryz.strings_Cut ⟨s.toArray⟩ ⟨#[126]⟩ m w (by
      show s.toArray.size < 4294967281
      simp
      omega) hm).mono ?_⟩
    · rcases i with _ | _ | _ | i
      · simp at hx; subst hx; exact .str _ (by omega)
      · simp at hx; subst hx; exact .str _ (by omega)
      · simp at hx; subst hx; exact .bool _
      · simp at hx
    · rintro e w' ⟨rfl, n, rfl⟩
      refine ⟨?_, n, #[], by simp⟩
      rw [← c1, ← c2]

theorem c_impl_OpenSeal (s : Str) (hl : s.length ≤ 1000000000) : Fn Tryz.prog 68 [.str s] (· = openV s) := by
  refine Fn.of free_openV fun h => ?_
  refine enter (by kernel_rfl) e68 (by kernel_rfl) rfl fun hok => ?_
  simp only [r68, initEnv_1]
  have hb : (beforeT s).length ≤ s.length := (List.takeWhile_prefix _).length_le
  (try (simp (disch := first | omega | (simp <;> omega) | fail) only [push_cast, ↓reduceIte, Nat.reduceEqDiff, Nat.reduceAdd, Nat.reduceMul, Nat.reduceSub, Nat.reduceLT, Int.reduceToNat]))
  refine (c_strings_Cut s (by omega)).call ?_
  (try (simp (disch := first | omega | (simp <;> omega) | fail) only [push_cast, ↓reduceIte, Nat.reduceEqDiff, Nat.reduceAdd, Nat.reduceMul, Nat.reduceSub, Nat.reduceLT, Int.reduceToNat]))
  refine (c_impl_SealText (beforeT s) (by omega)).call ?_
  unfold sealV openV openOk
  cases h1 : cutB s
  · have hno : (126 : UInt8) ∉ s := by simpa [cutB] using h1
    have hA := open_none hno
    unfold openOk at hA
    rw [hA]
    cases h2 : plainV (beforeT s)
    · (try (simp (disch := first | omega | (simp <;> omega) | fail) only [push_cast, ↓reduceIte, Nat.reduceEqDiff, Nat.reduceAdd, Nat.reduceMul, Nat.reduceSub, Nat.reduceLT, Int.reduceToNat]))
      all_goals (try rfl)
    · (try (simp (disch := first | omega | (simp <;> omega) | fail) only [push_cast, ↓reduceIte, Nat.reduceEqDiff, Nat.reduceAdd, Nat.reduceMul, Nat.reduceSub, Nat.reduceLT, Int.reduceToNat]))
      all_goals (try rfl)
  · cases h2 : plainV (beforeT s)
    · (try (simp (disch := first | omega | (simp <;> omega) | fail) only [push_cast, ↓reduceIte, Nat.reduceEqDiff, Nat.reduceAdd, Nat.reduceMul, Nat.reduceSub, Nat.reduceLT, Int.reduceToNat]))
      all_goals (try rfl)
    · by_cases h8 : sealT (beforeT s) = s
      · (try (simp (disch := first | omega | (simp <;> omega) | fail) only [push_cast, ↓reduceIte, Nat.reduceEqDiff, Nat.reduceAdd, Nat.reduceMul, Nat.reduceSub, Nat.reduceLT, Int.reduceToNat, h8]))
        all_goals (try rfl)
      · (try (simp (disch := first | omega | (simp <;> omega) | fail) only [push_cast, ↓reduceIte, Nat.reduceEqDiff, Nat.reduceAdd, Nat.reduceMul, Nat.reduceSub, Nat.reduceLT, Int.reduceToNat, h8]))
        all_goals (try rfl)

theorem c_strings_Split (s : Str) (hs : s.length ≤ 4000000000) : Fn Tryz.prog 69 [.str s, .str [32]] (· = eS (some (splitL 32 s))) := by
  have hlen := splitL_nlen 32 s
  have hcl : ((splitL 32 s).map AV.str).length = (splitL 32 s).length := by simp
  have hmx : (splitL 32 s).length ≤ maxLen := by unfold maxLen; omega
  have hf : Fn Tryz.prog 69 [.str s, .str [32]] (· = .ro 1 ((splitL 32 s).map AV.str) ((splitL 32 s).map AV.str).length) := Fn.ofAlloc (canEnter_of Tryz.func69 (by kernel_rfl) (by kernel_rfl)) (one_map fun _ => rfl) (free_map_ fun _ => free_str) (by rw [hcl]; exact hmx) fun S w μ cargs hg ha => by
    obtain ⟨v, u, rfl, hv, hu⟩ := ar_2 ha
    rw [hv.str_, hu.str_]
    obtain ⟨m, hm⟩ := gl_int hg (List.mem_singleton.2 rfl)
    have hc := Tryz.strings_Split ⟨s.toArray⟩ ⟨#[32]⟩ m w (by
      show s.toArray.size < 4294967281
      simp
      omega) hm (by decide)
    rw [split_vals] at hc
    have hcnt : Lib.countB ⟨s.toArray⟩ ⟨#[32]⟩ + 1 = ((splitL 32 s).map AV.str).length := by
      rw [hcl, splitL_count]
    rw [hcnt] at hc
    refine ⟨_, _, ?_, fun S w μ i x hx => ?_, hc⟩
    · simp
    · obtain ⟨p, hp, rfl⟩ : ∃ p, (splitL 32 s)[i]? = some p ∧ AV.str p = x := by simpa using hx
      have hl := splitL_len 32 s p (List.mem_of_getElem? hp)
      rw [Array.getD_eq_getD_getElem?]
      simp [hp]
      exact .str _ (by omega)
  rw [hcl] at hf
  exact hf

theorem c_impl_opened (s word : Str) (hl : s.length ≤ 1000000000) : Fn Tryz.prog 26 [.str s, .str word] (· = openedV s word) := by
  refine Fn.of free_openedV fun h => ?_
  refine enter (by kernel_rfl) e26 (by kernel_rfl) rfl fun hok => ?_
  simp only [r26, initEnv_2]
  (try (simp (disch := first | omega | (simp <;> omega) | fail) only [push_cast, ↓reduceIte, Nat.reduceEqDiff, Nat.reduceAdd, Nat.reduceMul, Nat.reduceSub, Nat.reduceLT, Int.reduceToNat]))
  refine (c_impl_OpenSeal s hl).call ?_
  unfold openV openedV
  cases hk : openOk s (beforeT s)
  · (try (simp (disch := first | omega | (simp <;> omega) | fail) only [push_cast, ↓reduceIte, Nat.reduceEqDiff, Nat.reduceAdd, Nat.reduceMul, Nat.reduceSub, Nat.reduceLT, Int.reduceToNat]))
    refine (c_strings_Split [] (by simp)).call ?_
    (try (simp (disch := first | omega | (simp <;> omega) | fail) only [push_cast, ↓reduceIte, Nat.reduceEqDiff, Nat.reduceAdd, Nat.reduceMul, Nat.reduceSub, Nat.reduceLT, Int.reduceToNat]))
    all_goals (try rfl)
  · have h6 := open_len hk
    have hnl := splitL_nlen 32 (beforeT s)
    have hne := splitL_ne 32 (beforeT s)
    have hpos := List.length_pos_iff.2 hne
    (try (simp (disch := first | omega | (simp <;> omega) | fail) only [push_cast, ↓reduceIte, Nat.reduceEqDiff, Nat.reduceAdd, Nat.reduceMul, Nat.reduceSub, Nat.reduceLT, Int.reduceToNat]))
    refine (c_strings_Split (beforeT s) (by omega)).call ?_
    generalize splitL 32 (beforeT s) = L at *
    have hlS : lS (some L) = L := rfl
    have hpos2 : 0 < (lS (some L)).length := hpos
    by_cases hw : L.getD 0 [] = word
    · (try (simp (disch := first | omega | (simp <;> omega) | fail) only [push_cast, ↓reduceIte, Nat.reduceEqDiff, Nat.reduceAdd, Nat.reduceMul, Nat.reduceSub, Nat.reduceLT, Int.reduceToNat, hlS, hw]))
      all_goals (try rfl)
    · (try (simp (disch := first | omega | (simp <;> omega) | fail) only [push_cast, ↓reduceIte, Nat.reduceEqDiff, Nat.reduceAdd, Nat.reduceMul, Nat.reduceSub, Nat.reduceLT, Int.reduceToNat, hlS, hw]))
      all_goals (try rfl)

def AtR (s : Str) (x : AV) : Prop := ∃ n : Int, -9223372036854775808 ≤ n ∧ n ≤ 9223372036854775807 ∧ (x = .tup [.int .i64 n, .nili] ∧ Lib.atoiAll s = .ok n ∨ x = .tup [.int .i64 n, .ifc] ∧ ∀ m : Nat, m < 1000000 → s ≠ Lib.decDigits m)
theorem vr_two {S : Nat → Prop} {w : World} {μ : Mu} {x y : AV} {v u : Value} (h1 : VR S w μ x v) (h2 : VR S w μ y u) : VR S w μ (.tup [x, y]) (.tuple #[v, u]) := .tup rfl fun i z hz => by
  rcases i with _ | _ | i
  · simp at hz; subst hz; exact h1
  · simp at hz; subst hz; exact h2
  · simp at hz
theorem c_strconv_Atoi (s : Str) (hs : s.length ≤ 1000000) : Fn Tryz.prog 70 [.str s] (AtR s) :=
  Fn.ofBelow (show ¬ DRQ from id) (canEnter_of Tryz.func70 (by kernel_rfl) (by kernel_rfl)) fun S w μ cargs hg ha => by
    obtain ⟨v, rfl, hv⟩ := ar_1 ha
    rw [hv.str_]
    have hsz : (⟨s.toArray⟩ : ByteArray).size = s.length := rfl
    have hbad : ∀ {q}, Lib.atoiAll s = q → (∀ n, q ≠ .ok n) → ∀ m : Nat, m < 1000000 → s ≠ Lib.decDigits m := fun hq hn m hm he => by
      rw [he, atoi_dec hm] at hq
      exact hn _ hq.symm
    rcases hat : Lib.atoiAll s with n | _ | _
    · obtain ⟨b0, b1⟩ := Lib.atoiAll_bounds hat
      refine (Tryz.strconv_Atoi_ok ⟨s.toArray⟩ (by rw [hsz]; omega) n hat w).mono ?_
      rintro e w' ⟨rfl, hw⟩
      refine ⟨_, .tup [.int .i64 n, .nili], rfl, ⟨n, b0, b1, .inl ⟨rfl, hat⟩⟩, fun S w μ => vr_two (.int _ _) .nili, ?_⟩
      rcases hw with rfl | ⟨t, rfl⟩
      · exact Below.refl _ _
      · exact Lib.bytesWorld_below _ _ _
    · obtain ⟨tp, p, hc⟩ := gl_if (g := 1) hg (by simp [ifGlobs])
      refine (Tryz.strconv_Atoi_bad ⟨s.toArray⟩ (by rw [hsz]; omega) (fun v h5 => by
        have h5 : Lib.atoiAll s = .ok v := h5
        rw [hat] at h5
        cases h5) (fun h5 => by
        have h5 : Lib.atoiAll s = .range := h5
        rw [hat] at h5
        cases h5) (.iface tp p) w hc (.inr ⟨tp, p, rfl⟩)).mono ?_
      rintro e w' ⟨N, rfl, _, _, hb⟩
      exact ⟨_, .tup [.int .i64 0, .ifc], rfl, ⟨0, by decide, by decide, .inr ⟨rfl, hbad hat fun n hn => by cases hn⟩⟩, fun S w μ => vr_two (.int _ _) (.ifc _ _), hb⟩
    · obtain ⟨tp, p, hc⟩ := gl_if (g := 2) hg (by simp [ifGlobs])
      refine (Tryz.strconv_Atoi_range ⟨s.toArray⟩ (by rw [hsz]; omega) hat (.iface tp p) w hc (.inr ⟨tp, p, rfl⟩)).mono ?_
      rintro e w' ⟨N, rfl, _, _, hb⟩
      obtain ⟨b0, b1⟩ := Lib.atoiSat_bounds s
      exact ⟨_, .tup [.int .i64 (Lib.atoiSat s), .ifc], rfl, ⟨Lib.atoiSat s, by omega, by omega, .inr ⟨rfl, hbad hat fun n hn => by cases hn⟩⟩, fun S w μ => vr_two (.int _ _) (.ifc _ _), hb⟩

theorem c_impl_number (a : Str) (hl : a.length ≤ 1000000) : Fn Tryz.prog 27 [.str a] (NumR a) := by
  refine Fn.froze_ fun h => ?_
  refine enter (by kernel_rfl) e27 (by kernel_rfl) rfl fun hok => ?_
  simp only [r27, initEnv_1]
  have hfr : ∀ (n : Int) (b : Bool), Free (.tup [.int .i64 n, .bool b]) := fun n b => free_tup (free_cons_ free_int (free_cons_ free_bool free_nil_))
  (try (simp (disch := first | omega | (simp <;> omega) | fail) only [push_cast, ↓reduceIte, Nat.reduceEqDiff, Nat.reduceAdd, Nat.reduceMul, Nat.reduceSub, Nat.reduceLT, Int.reduceToNat]))
  refine (c_strconv_Atoi a hl).use ?_
  rintro x ⟨n, n0, n1, ⟨rfl, hat⟩ | ⟨rfl, hbad⟩⟩
  · have hm : ∀ m : Nat, m < 1000000 → a = Lib.decDigits m → n = m := fun m hm ha => by
      rw [ha, atoi_dec hm] at hat
      injection hat with hat
      exact hat.symm
    by_cases hn : 0 ≤ n
    · have hni : decide (0 ≤ n) = true := by simp [hn]
      (try (simp (disch := first | omega | (simp <;> omega) | fail) only [push_cast, ↓reduceIte, Nat.reduceEqDiff, Nat.reduceAdd, Nat.reduceMul, Nat.reduceSub, Nat.reduceLT, Int.reduceToNat, hni]))
      refine (c_strconv_Itoa n n0 n1).call ?_
      rw [itoa_nn hn]
      by_cases he : Lib.decDigits n.toNat = a
      · (try (simp (disch := first | omega | (simp <;> omega) | fail) only [push_cast, ↓reduceIte, Nat.reduceEqDiff, Nat.reduceAdd, Nat.reduceMul, Nat.reduceSub, Nat.reduceLT, Int.reduceToNat, he]))
        all_goals (try exact ⟨_, .free (hfr _ _), n, true, rfl, fun _ => ⟨hn, he.symm⟩, fun m h1 h2 => ⟨rfl, hm m h1 h2⟩, n0, n1⟩)
      · have hf : ∀ m : Nat, m < 1000000 → a = Lib.decDigits m → false = true ∧ n = m := fun m h1 h2 => by
          have := hm m h1 h2
          exact absurd (by rw [h2, this, Int.toNat_natCast]) he
        (try (simp (disch := first | omega | (simp <;> omega) | fail) only [push_cast, ↓reduceIte, Nat.reduceEqDiff, Nat.reduceAdd, Nat.reduceMul, Nat.reduceSub, Nat.reduceLT, Int.reduceToNat, he]))
        all_goals (try exact ⟨_, .free (hfr _ _), n, false, rfl, fun h => absurd h (by decide), hf, n0, n1⟩)
    · have hni : decide (0 ≤ n) = false := by simp [hn]
      have hf : ∀ m : Nat, m < 1000000 → a = Lib.decDigits m → false = true ∧ n = m := fun m h1 h2 => by
        have := hm m h1 h2
        omega
      (try (simp (disch := first | omega | (simp <;> omega) | fail) only [push_cast, ↓reduceIte, Nat.reduceEqDiff, Nat.reduceAdd, Nat.reduceMul, Nat.reduceSub, Nat.reduceLT, Int.reduceToNat, hni]))
      all_goals (try exact ⟨_, .free (hfr _ _), n, false, rfl, fun h => absurd h (by decide), hf, n0, n1⟩)
  · have hf : ∀ m : Nat, m < 1000000 → a = Lib.decDigits m → false = true ∧ n = m := fun m h1 h2 => absurd h2 (hbad m h1)
    (try (simp (disch := first | omega | (simp <;> omega) | fail) only [push_cast, ↓reduceIte, Nat.reduceEqDiff, Nat.reduceAdd, Nat.reduceMul, Nat.reduceSub, Nat.reduceLT, Int.reduceToNat]))
    all_goals (try exact ⟨_, .free (hfr _ _), n, false, rfl, fun h => absurd h (by decide), hf, n0, n1⟩)

def peW : Str := [112, 101, 101, 108, 101, 100]
def mkM (c : Str) : List Int := c.map fun x => (x.toNat : Int) - 48
theorem mkM_len {c : Str} : (mkM c).length = c.length := by simp [mkM]
def lpP (a b c : Str) : Pd := ⟨rdN a, rdN b, some (mkM c)⟩
def lpT (s : Str) : Option Pd := match splitL 32 (beforeT s) with
  | [w, a, b, c] => if openOk s (beforeT s) = true ∧ w = peW ∧ okPd (lpP a b c) = true then some (lpP a b c) else none
  | _ => none
def lpPd (s : Str) : Pd := (lpT s).getD ⟨0, 0, none⟩
def lpq (s : Str) : Bool := (lpT s).isSome
def lpV (s : Str) : AV := .tup [eP (lpPd s), .bool (lpq s)]
theorem lp_none {s : Str} (h : lpT s = none) : lpV s = .tup [eP ⟨0, 0, none⟩, .bool false] := by
  unfold lpV lpPd lpq
  rw [h]
  rfl
theorem lp_four {s w a b c : Str} (h : splitL 32 (beforeT s) = [w, a, b, c]) (ho : openOk s (beforeT s) = true) (hw : w = peW) (hp : okPd (lpP a b c) = true) : lpV s = .tup [eP (lpP a b c), .bool true] := by
  have : lpT s = some (lpP a b c) := by
    unfold lpT
    rw [h]
    simp only
    rw [if_pos ⟨ho, hw, hp⟩]
  unfold lpV lpPd lpq
  rw [this]
  rfl
theorem lp_bad {s w a b c : Str} (h : splitL 32 (beforeT s) = [w, a, b, c]) (hn : ¬ (openOk s (beforeT s) = true ∧ w = peW ∧ okPd (lpP a b c) = true)) : lpV s = .tup [eP ⟨0, 0, none⟩, .bool false] := lp_none (by
  unfold lpT
  rw [h]
  simp only
  rw [if_neg hn])
theorem lp_closed {s : Str} (ho : openOk s (beforeT s) = false) : lpV s = .tup [eP ⟨0, 0, none⟩, .bool false] := lp_none (by
  unfold lpT
  rw [ho]
  split
  · rw [if_neg (by simp)]
  · rfl)
theorem lp_other {s : Str} (hl : (splitL 32 (beforeT s)).length ≠ 4) : lpV s = .tup [eP ⟨0, 0, none⟩, .bool false] := lp_none (by
  unfold lpT
  split
  · rename_i h
    rw [h] at hl
    simp at hl
  · rfl)
theorem four_of {α : Type} : ∀ {l : List α}, l.length = 4 → ∃ a b c d, l = [a, b, c, d]
  | [a, b, c, d], _ => ⟨a, b, c, d, rfl⟩
/-- Told to be numbers, both: the same table. -/
theorem lp_num {a b c : Str} {n m : Int} {p q : Bool} (h1 : p = true → 0 ≤ n ∧ a = Lib.decDigits n.toNat) (h2 : ∀ k : Nat, k < 1000000 → a = Lib.decDigits k → p = true ∧ n = k)
    (g1 : q = true → 0 ≤ m ∧ b = Lib.decDigits m.toNat) (g2 : ∀ k : Nat, k < 1000000 → b = Lib.decDigits k → q = true ∧ m = k) :
    (p = true ∧ q = true ∧ okPd ⟨n, m, some (mkM c)⟩ = true → (⟨n, m, some (mkM c)⟩ : Pd) = lpP a b c) ∧ (okPd (lpP a b c) = true → p = true ∧ q = true ∧ okPd ⟨n, m, some (mkM c)⟩ = true) := by
  constructor
  · rintro ⟨hp, hq, hk⟩
    obtain ⟨n0, ha⟩ := h1 hp
    obtain ⟨m0, hb⟩ := g1 hq
    obtain ⟨k1, k2, k3, k4, _⟩ := okPd_in hk
    have k1 : 0 ≤ n := k1
    have k2 : n ≤ 9999 := k2
    have k3 : 1 ≤ m := k3
    have k4 : m ≤ 24 := k4
    have e1 : rdN a = n := by
      rw [ha, rd_dec (by omega)]
      omega
    have e2 : rdN b = m := by
      rw [hb, rd_dec (by omega)]
      omega
    unfold lpP
    rw [e1, e2]
  · intro hk
    obtain ⟨k1, k2, k3, k4, _⟩ := okPd_in hk
    have k1 : 0 ≤ rdN a := k1
    have k3 : 1 ≤ rdN b := k3
    obtain ⟨k, r1, r2, r3⟩ := rd_back (a := a) rfl k1
    obtain ⟨l, s1, s2, s3⟩ := rd_back (a := b) (r := rdN b) rfl (by omega)
    obtain ⟨u1, u2⟩ := h2 k r2 r3
    obtain ⟨v1, v2⟩ := g2 l s2 s3
    refine ⟨u1, v1, ?_⟩
    rw [u2, v2, ← r1, ← s1]
    exact hk
def MkI (h h' : H) (r1 r2 : Int) (v : AV) (L : List Int) : Prop := H.cells h' h.length = some [.int .i64 0, .int .i64 0, .nils] ∧ H.cells h' (h.length + 1) = some [.int .i64 r1, .int .i64 r2, v] ∧ ∃ B, S1 h' 1 v L.length (L.map (.int .i64)) B ∧ ∀ k ∈ B, h.length + 2 ≤ k
theorem MkI.one {h h' : H} {r1 r2 : Int} {v : AV} {L : List Int} (hm : MkI h h' r1 r2 v L) : M.one v = true ∧ cellsOf v = [v] := by
  obtain ⟨_, _, B, hs, _⟩ := hm
  rcases hs.2 with ⟨rfl, _⟩ | ⟨b, rfl, _⟩
  · exact ⟨rfl, rfl⟩
  · exact ⟨rfl, rfl⟩
theorem MkI.app {h h' : H} {r1 r2 x : Int} {v : AV} {L : List Int} {pm : Nat → Prop} {Q : AV → H → Prop} (hm : MkI h h' r1 r2 v L) (hpm : ∀ c, h.length ≤ c → pm c) (hL : L.length ≤ 1000000)
    (hQ : ∀ v' h'', M.one v' = true → cellsOf v' = [v'] → H.cells h'' (h.length + 1) = some [.int .i64 r1, .int .i64 r2, v] → MkI h (wr h'' (h.length + 1) [.int .i64 r1, .int .i64 r2, v']) r1 r2 v' (L ++ [x]) → Q v' h'') : apA pm (h' ++ [some (.cells [.int .i64 x])]) Q 1 8 (some ([.int .i64 x], 1)) v := by
  obtain ⟨m1, m2, B, hs, hB⟩ := hm
  have l1 := cells_lt m1
  have l2 := cells_lt m2
  have hs2 := hs.frame (h' := h' ++ [some (.cells [.int .i64 x])]) fun c hc => List.getElem?_append_left (hs.lt c hc)
  refine hs2.app (fun c hc => hpm c (by have := hB c hc; omega)) rfl (by decide) (by omega) fun v' h'' B' q1 q2 q3 q4 => ?_
  simp only [List.length_append, List.length_cons, List.length_nil] at q2
  have hB' : ∀ k ∈ B', h.length + 2 ≤ k := fun k hk => by
    rcases q4 k hk with h5 | h5
    · exact hB k h5
    · simp at h5
      omega
  have hb : ∀ c cs, c < h.length + 2 → H.cells h' c = some cs → H.cells h'' c = some cs := fun c cs hc hcs => by
    have hl := cells_lt hcs
    rw [cells_eq, q3 c (by simp; omega) (fun hb => by have := hB c hb; omega), List.getElem?_append_left hl, ← cells_eq]
    exact hcs
  have c0 := hb _ _ (by omega) m1
  have c1 := hb _ _ (by omega) m2
  have hone : M.one v' = true ∧ cellsOf v' = [v'] := by
    rcases q1.2 with ⟨rfl, _⟩ | ⟨b, rfl, _⟩
    · exact ⟨rfl, rfl⟩
    · exact ⟨rfl, rfl⟩
  have hwk : ∀ k cs, k ≠ h.length + 1 → (wr h'' (h.length + 1) cs)[k]? = h''[k]? := fun k cs hk => by
    unfold wr
    rw [List.getElem?_set_ne (Ne.symm hk)]
  refine hQ v' h'' hone.1 hone.2 c1 ⟨cells_keep (hwk _ _ (by omega)) c0, cells_wr2 (cells_lt c1), B', ?_, hB'⟩
  have q5 := q1.frame (h' := wr h'' (h.length + 1) [.int .i64 r1, .int .i64 r2, v']) fun c hc => hwk c _ (by have := hB' c hc; omega)
  simpa using q5

theorem mkV {g : H} {v : AV} {L : List Int} {B : List Nat} (hs : S1 g 1 v L.length (L.map (.int .i64)) B) : ∃ q : Option (List Int), (∀ r1 r2 : Int, Vw g 0 (.agg [.int .i64 r1, .int .i64 r2, v]) (eP ⟨r1, r2, q⟩)) ∧ lI q = L := by
  have key : ∃ q : Option (List Int), Vw g 0 v (eI q) ∧ lI q = L := by
    rcases hs.2 with ⟨rfl, h0, _⟩ | ⟨bb, rfl, hbb, hcb⟩
    · exact ⟨none, .free free_nils, (List.length_eq_zero_iff.1 h0).symm⟩
    · exact ⟨some L, vw_all (Nat.zero_le _) hcb (by simp) (one_map fun _ => rfl) (free_map_ fun _ => free_int), rfl⟩
  obtain ⟨q, h1, h2⟩ := key
  refine ⟨q, fun r1 r2 => .agg rfl fun j y t hy ht => ?_, h2⟩
  rcases j with _ | _ | _ | j
  · simp [cP] at hy ht
    subst hy ht
    exact .free free_int
  · simp [cP] at hy ht
    subst hy ht
    exact .free free_int
  · simp [cP] at hy ht
    subst hy ht
    exact h1
  · simp at hy

theorem c_impl_LoadPeeled_o (s : Str) (hsl : s.length ≤ 1000000000) : FnO Tryz.prog 12 [.str s] (· = lpV s) := by
  intro h
  refine enter (by kernel_rfl) e12 (by kernel_rfl) rfl fun hok => ?_
  simp only [r12, initEnv_1]
  have hnone : ∀ {hh : H}, lpV s = .tup [eP ⟨0, 0, none⟩, .bool false] → ∃ t, Ow hh [.tup [.agg [.int .i64 0, .int .i64 0, .nils], .bool false]] [t] (fun c => h.length ≤ c) ∧ t = lpV s := fun h1 => ⟨_, (Ow.two (F := fun _ => False) (F' := fun _ => False) (Ow.aggOf (.atom rfl (.atom rfl (.atom rfl .nil)))) (.atom rfl .nil) (fun c (hc : False) => hc.elim) (fun _ h => h.elim)).tupOf, h1.symm⟩
  have hpm : (h.length ≤ h.length) = True := by simp
  have hpm1 : (h.length ≤ h.length + 1) = True := by simp
  (try (simp (disch := first | omega | (simp <;> omega) | fail) only [push_cast, ↓reduceIte, Nat.reduceEqDiff, Nat.reduceAdd, Nat.reduceMul, Nat.reduceSub, Nat.reduceLT, Int.reduceToNat]))
  refine (c_impl_opened s [112, 101, 101, 108, 101, 100] hsl).call ?_
  unfold openedV
  by_cases hop : openOk s (beforeT s) = true ∧ (splitL 32 (beforeT s)).getD 0 [] = [112, 101, 101, 108, 101, 100]
  · rw [if_pos hop]
    obtain ⟨hk, hw⟩ := hop
    have h6 := open_len hk
    have hnl := splitL_nlen 32 (beforeT s)
    by_cases h4 : (splitL 32 (beforeT s)).length = 4
    · obtain ⟨w, a, b, c, hL⟩ := four_of h4
      have hlen := splitL_len 32 (beforeT s)
      rw [hL] at hlen
      have hal := hlen a (by simp)
      have hbl := hlen b (by simp)
      have hcl := hlen c (by simp)
      have hw2 : w = peW := by
        rw [hL] at hw
        exact hw
      rw [show (splitL 32 (beforeT s)).drop 1 = [a, b, c] by rw [hL]; rfl]
      have hLs : lS (some [a, b, c]) = [a, b, c] := rfl
      have hLl : (lS (some [a, b, c])).length = 3 := rfl
      (try (simp (disch := first | omega | (simp <;> omega) | fail) only [push_cast, ↓reduceIte, Nat.reduceEqDiff, Nat.reduceAdd, Nat.reduceMul, Nat.reduceSub, Nat.reduceLT, Int.reduceToNat, hLs]))
      refine (c_impl_number a (by omega)).use ?_
      rintro x ⟨n, p, rfl, n1, n2, _⟩
      (try (simp (disch := first | omega | (simp <;> omega) | fail) only [push_cast, ↓reduceIte, Nat.reduceEqDiff, Nat.reduceAdd, Nat.reduceMul, Nat.reduceSub, Nat.reduceLT, Int.reduceToNat, hLs]))
      refine (c_impl_number b (by omega)).use ?_
      rintro x ⟨m, q, rfl, m1, m2, _⟩
      obtain ⟨lp1, lp2⟩ := lp_num (c := c) n1 n2 m1 m2
      have hmk : MkI h (h ++ [some (.cells [.int .i64 0, .int .i64 0, .nils]), some (.cells [.int .i64 n, .int .i64 m, .nils])]) n m .nils [] := ⟨by rw [cells_h0]; rfl, by rw [cells_hk]; rfl, [], S1.nil, by simp⟩
      have hov : ∀ v' v : AV, cellsOf v' = [v'] → over [AV.int .i64 n, .int .i64 m, v] 2 (cellsOf v') = [.int .i64 n, .int .i64 m, v'] := fun v' v h1 => by
        rw [h1]
        rfl
      have hg2 : ([a, b, c] : List Str).getD 2 [] = c := rfl
      (try (simp (disch := first | omega | (simp <;> omega) | fail) only [push_cast, ↓reduceIte, Nat.reduceEqDiff, Nat.reduceAdd, Nat.reduceMul, Nat.reduceSub, Nat.reduceLT, Int.reduceToNat, hLs, hg2]))
      refine T_for c.length (fun i e h' => ∃ v, Pins e [(2, .adr h.length 0), (3, .bool false), (4, eS (some [a, b, c])), (7, .bool p), (9, .bool q), (10, .adr (h.length + 1) 0), (45, .int .i64 c.length), (46, .int .i64 i)] ∧ MkI h h' n m v (mkM (c.take i))) ?_ ?_
      · refine ⟨.nils, ?_⟩
        (try (simp (disch := first | omega | (simp <;> omega) | fail) only [push_cast, ↓reduceIte, Nat.reduceEqDiff, Nat.reduceAdd, Nat.reduceMul, Nat.reduceSub, Nat.reduceLT, Int.reduceToNat, hLs, hg2]))
        all_goals (try exact hmk)
      rintro i e g2 hi ⟨v, hp, hm⟩
      refine T_pins hp fun e => ?_
      have hb1 := hm.1
      have hb7 := hm.2.1
      obtain ⟨o1, o2⟩ := hm.one
      have hb7' : ∀ l, H.cells (g2 ++ l) (h.length + 1) = some [.int .i64 n, .int .i64 m, v] := fun l => cells_app hb7
      (try (simp (disch := first | omega | (simp <;> omega) | fail) only [push_cast, ↓reduceIte, Nat.reduceEqDiff, Nat.reduceAdd, Nat.reduceMul, Nat.reduceSub, Nat.reduceLT, Int.reduceToNat, hLs, hg2]))
      first | refine goC_split (fun hc => ?_) (fun hc => ?_) | refine cnd_split (fun hc => ?_) (fun hc => ?_)
      · (try (simp only [decide_eq_true_eq, decide_eq_false_iff_not, Bool.not_eq_true', Bool.not_eq_false', Bool.and_eq_true, Bool.or_eq_true, Int.not_lt, Int.not_le] at hc)); (try (simp (disch := first | omega | (simp <;> omega) | fail) only [push_cast, ↓reduceIte, Nat.reduceEqDiff, Nat.reduceAdd, Nat.reduceMul, Nat.reduceSub, Nat.reduceLT, Int.reduceToNat]))
        have hi2 : i < c.length := by omega
        have hcb := UInt8.toNat_lt (c.getD i 0)
        have hnx : mkM (c.take (i + 1)) = mkM (c.take i) ++ [((c.getD i 0).toNat : Int) - 48] := by
          unfold mkM
          rw [List.take_add_one, List.map_append]
          simp [hi2]
        have hml : (mkM (c.take i)).length ≤ 1000000 := by rw [mkM_len, List.length_take]; omega
        (try (simp (disch := first | omega | (simp <;> omega) | fail) only [push_cast, ↓reduceIte, Nat.reduceEqDiff, Nat.reduceAdd, Nat.reduceMul, Nat.reduceSub, Nat.reduceLT, Int.reduceToNat, hLs, hb7, hb7', o1, o2, hg2, reads, List.mem_cons, List.mem_append, List.not_mem_nil, nat_ff, or_self, or_false, false_or, not_false_eq_true]))
        repeat' (with_reducible refine And.intro ?_ ?_)
        all_goals
          refine hm.app (x := ((c.getD i 0).toNat : Int) - 48) (fun c hc => Or.inr hc) hml fun v' h'' p1 p2 p3 p4 => ?_
          rw [← hnx] at p4
          (try (simp (disch := first | omega | (simp <;> omega) | fail) only [push_cast, ↓reduceIte, Nat.reduceEqDiff, Nat.reduceAdd, Nat.reduceMul, Nat.reduceSub, Nat.reduceLT, Int.reduceToNat, p1, p2, p3, hpm1, hov, reads, List.mem_cons, List.mem_append, List.not_mem_nil, nat_ff, or_self, or_false, false_or, not_false_eq_true]))
          all_goals (try exact ⟨_, rfl, p4⟩)
          all_goals (try exact ⟨_, p4⟩)
      · (try (simp only [decide_eq_true_eq, decide_eq_false_iff_not, Bool.not_eq_true', Bool.not_eq_false', Bool.and_eq_true, Bool.or_eq_true, Int.not_lt, Int.not_le] at hc)); (try (simp (disch := first | omega | (simp <;> omega) | fail) only [push_cast, ↓reduceIte, Nat.reduceEqDiff, Nat.reduceAdd, Nat.reduceMul, Nat.reduceSub, Nat.reduceLT, Int.reduceToNat]))
        have hie : i = c.length := by omega
        subst hie
        rw [List.take_length] at hm
        obtain ⟨mm1, mm2, B, hs, hB⟩ := id hm
        obtain ⟨o, hvq, hq⟩ := mkV hs
        have hokq : okPd ⟨n, m, o⟩ = okPd ⟨n, m, some (mkM c)⟩ := by
          unfold okPd
          rw [show lI (⟨n, m, o⟩ : Pd).marks = mkM c from hq]
          rfl
        have hlt1 := cells_lt hb1
        have hw : ∀ cs, H.cells (wr g2 h.length cs) h.length = some cs := fun cs => cells_wr2 hlt1
        have hbad : ¬ (p = true ∧ q = true ∧ okPd ⟨n, m, some (mkM c)⟩ = true) → lpV s = .tup [eP ⟨0, 0, none⟩, .bool false] := fun hn => lp_bad hL fun h5 => hn (lp2 h5.2.2)
        cases hpv : p
        · have hl := hbad (by rw [hpv]; simp)
          (try (simp (disch := first | omega | (simp <;> omega) | fail) only [push_cast, ↓reduceIte, Nat.reduceEqDiff, Nat.reduceAdd, Nat.reduceMul, Nat.reduceSub, Nat.reduceLT, Int.reduceToNat, hb1, hpm, hw]))
          all_goals (try exact hnone hl)
        cases hqv : q
        · have hl := hbad (by rw [hqv]; simp)
          (try (simp (disch := first | omega | (simp <;> omega) | fail) only [push_cast, ↓reduceIte, Nat.reduceEqDiff, Nat.reduceAdd, Nat.reduceMul, Nat.reduceSub, Nat.reduceLT, Int.reduceToNat, hb1, hpm, hw]))
          all_goals (try exact hnone hl)
        (try (simp (disch := first | omega | (simp <;> omega) | fail) only [push_cast, ↓reduceIte, Nat.reduceEqDiff, Nat.reduceAdd, Nat.reduceMul, Nat.reduceSub, Nat.reduceLT, Int.reduceToNat, hb7, o1, o2]))
        refine (c_impl_IsPeeled ⟨n, m, o⟩).lendL (.cons (hvq _ _) .nil) own_bool ?_
        rw [hokq]
        cases hk2 : okPd ⟨n, m, some (mkM c)⟩
        · have hl := hbad (by rw [hk2]; simp)
          (try (simp (disch := first | omega | (simp <;> omega) | fail) only [push_cast, ↓reduceIte, Nat.reduceEqDiff, Nat.reduceAdd, Nat.reduceMul, Nat.reduceSub, Nat.reduceLT, Int.reduceToNat, hb1, hpm, hw]))
          all_goals (try exact hnone hl)
        · have heq := lp1 ⟨hpv, hqv, hk2⟩
          have hl := lp_four hL hk hw2 (by rw [← heq]; exact hk2)
          rw [← heq] at hl
          rcases hs.2 with ⟨rfl, h0, _⟩ | ⟨bb, rfl, hbb, hcb⟩
          · exfalso
            have h1 : ((mkM c).length : Int) = 3 * m := by
              have := hk2
              simp only [okPd, Bool.and_eq_true, decide_eq_true_eq] at this
              exact this.2.2.1
            have h3 : 1 ≤ m := (okPd_in hk2).2.2.1
            omega
          · have hbB := hB bb (by rw [hbb]; simp)
            have how : ∀ cs, ∃ t, Ow (wr g2 h.length cs) [.tup [.agg [.int .i64 n, .int .i64 m, .sl bb 0 1 (mkM c).length (mkM c).length], .bool true]] [t] (fun c => h.length ≤ c) ∧ t = lpV s := fun cs => by
              have hc2 : H.cells (wr g2 h.length cs) bb = some ((mkM c).map (.int .i64)) := cells_keep (by unfold wr; rw [List.getElem?_set_ne (by omega)]) hcb
              refine ⟨.tup [eP ⟨n, m, some (mkM c)⟩, .bool true], ?_, hl.symm⟩
              refine (Ow.two (F := fun c => h.length ≤ c) (F' := fun _ => False) (Ow.aggOf (ts := cP ⟨n, m, some (mkM c)⟩) (.atom rfl (.atom rfl ?_))) (.atom rfl .nil) (fun c hc => hc) (fun _ h => h.elim)).tupOf
              exact ow_map (f := AV.int .i64) (fun _ => rfl) hc2 rfl (show h.length ≤ bb by omega)
            (try (simp (disch := first | omega | (simp <;> omega) | fail) only [push_cast, ↓reduceIte, Nat.reduceEqDiff, Nat.reduceAdd, Nat.reduceMul, Nat.reduceSub, Nat.reduceLT, Int.reduceToNat, hb1, hb7, hpm, hw]))
            all_goals (try exact how _)
    · have hl := lp_other h4
      have hn2 : ¬ ((lS (some ((splitL 32 (beforeT s)).drop 1))).length : Int) = 3 := fun h5 => h4 (by
        have h6 : (lS (some ((splitL 32 (beforeT s)).drop 1))).length = (splitL 32 (beforeT s)).length - 1 := by
          show ((splitL 32 (beforeT s)).drop 1).length = _
          simp
        have := splitL_ne 32 (beforeT s)
        have := List.length_pos_iff.2 this
        omega)
      generalize (splitL 32 (beforeT s)).drop 1 = L at *
      (try (simp (disch := first | omega | (simp <;> omega) | fail) only [push_cast, ↓reduceIte, Nat.reduceEqDiff, Nat.reduceAdd, Nat.reduceMul, Nat.reduceSub, Nat.reduceLT, Int.reduceToNat, hn2]))
      all_goals (try exact hnone hl)
  · rw [if_neg hop]
    have hl : lpV s = .tup [eP ⟨0, 0, none⟩, .bool false] := by
      cases hk : openOk s (beforeT s) with
      | false => exact lp_closed hk
      | true =>
        by_cases h4 : (splitL 32 (beforeT s)).length = 4
        · obtain ⟨w, a, b, c, hL⟩ := four_of h4
          refine lp_bad hL fun h5 => hop ⟨hk, ?_⟩
          rw [hL]
          exact h5.2.1
        · exact lp_other h4
    (try (simp (disch := first | omega | (simp <;> omega) | fail) only [push_cast, ↓reduceIte, Nat.reduceEqDiff, Nat.reduceAdd, Nat.reduceMul, Nat.reduceSub, Nat.reduceLT, Int.reduceToNat]))
    all_goals (try exact hnone hl)

theorem c_impl_BuildSparse_o (o : Option (List Int)) (lim : Int) (h0 : -1000000000000 ≤ lim) (h9 : lim ≤ 9223372036854775807) : FnO Tryz.prog 28 [eI o, .int .i64 lim] (· = if srt (lI o) lim then .tup [eSp (spV ((lI o).map Int.toNat) lim.toNat), .bool true] else .tup [eSp zSp, .bool false]) := by
  intro h
  refine enter (by kernel_rfl) e28 (by kernel_rfl) rfl fun hok => ?_
  simp only [r28, initEnv_2]
  (try (simp (disch := first | omega | (simp <;> omega) | fail) only [push_cast, ↓reduceIte, Nat.reduceEqDiff, Nat.reduceAdd, Nat.reduceMul, Nat.reduceSub, Nat.reduceLT, Int.reduceToNat]))
  refine (c_impl_sortedOk o lim h0 h9).call ?_
  have hpm : (h.length ≤ h.length) = True := by simp
  cases hs : srt (lI o) lim
  · have hnone : ∀ {hh : H}, ∃ t, Ow hh [.tup [.agg [.int .i64 0, .int .i64 0, .int .i64 0, .int .i64 0, .nils, .int .i64 0, .nils], .bool false]] [t] (fun c => h.length ≤ c) ∧ t = .tup [eSp zSp, .bool false] := fun {hh} => ⟨_, (Ow.two (F := fun _ => False) (F' := fun _ => False) (Ow.aggOf (ts := cSp zSp) (.atom rfl (.atom rfl (.atom rfl (.atom rfl (.atom rfl (.atom rfl (.atom rfl .nil)))))))) (.atom rfl .nil) (fun c (hc : False) => hc.elim) (fun _ h => h.elim)).tupOf, rfl⟩
    (try (simp (disch := first | omega | (simp <;> omega) | fail) only [push_cast, ↓reduceIte, Nat.reduceEqDiff, Nat.reduceAdd, Nat.reduceMul, Nat.reduceSub, Nat.reduceLT, Int.reduceToNat, hpm]))
    all_goals (try exact hnone)
  · obtain ⟨g1, g2, g3, g4, g5, g6⟩ := srt_nat hs
    have hsp := c_impl_sparse_o ((lI o).map Int.toNat) lim.toNat o g1.symm g3 g4 g5 g2
    rw [g6] at hsp
    (try (simp (disch := first | omega | (simp <;> omega) | fail) only [push_cast, ↓reduceIte, Nat.reduceEqDiff, Nat.reduceAdd, Nat.reduceMul, Nat.reduceSub, Nat.reduceLT, Int.reduceToNat, hpm]))
    refine hsp.go fun x t k hR hx how => ?_
    subst hR
    obtain ⟨x5, x7, F5, F7, rfl, p5, p7, u5, u7, _⟩ := ow_sp how
    obtain ⟨c1, c2⟩ := ow_eI p5
    obtain ⟨c3, c4⟩ := ow_eI p7
    have hb1 : H.cells k h.length = some zero7 := hx.cells (by rw [cells_h0]; rfl)
    have hlk := hx.len
    simp only [List.length_append, List.length_cons, List.length_nil] at hlk how
    have hw : ∀ cs, H.cells (wr k h.length cs) h.length = some cs := fun cs => cells_wr2 (cells_lt hb1)
    have hfin : ∀ cs, ∃ t, Ow (wr k h.length cs) [.tup [.agg [.int .i64 (spV ((lI o).map Int.toNat) lim.toNat).count, .int .i64 (spV ((lI o).map Int.toNat) lim.toNat).limit, .int .i64 (spV ((lI o).map Int.toNat) lim.toNat).width, .int .i64 (spV ((lI o).map Int.toNat) lim.toNat).low.size, x5, .int .i64 (spV ((lI o).map Int.toNat) lim.toNat).high.size, x7], .bool true]] [t] (fun c => h.length ≤ c) ∧ t = .tup [eSp (spV ((lI o).map Int.toNat) lim.toNat), .bool true] := fun cs => by
      refine ⟨_, (Ow.two (F := fun c => h.length ≤ c) (F' := fun _ => False) ((how.frame fun c hc => ?_).mono fun c hc => by have := hc.1; omega) (.atom rfl .nil) (fun c hc => hc) (fun _ h => h.elim)).tupOf, rfl⟩
      have := hc.1
      unfold wr
      rw [List.getElem?_set_ne (by omega)]
    unfold zero7 at hb1
    generalize spV ((lI o).map Int.toNat) lim.toNat = S at *
    (try (simp (disch := first | omega | (simp <;> omega) | fail) only [push_cast, ↓reduceIte, Nat.reduceEqDiff, Nat.reduceAdd, Nat.reduceMul, Nat.reduceSub, Nat.reduceLT, Int.reduceToNat, hb1, hpm, hw, c1, c2, c3, c4]))
    all_goals (try exact hfin _)

theorem c_impl_LoadSparse_o (s : Str) (hsl : s.length ≤ 1000000000) : FnO Tryz.prog 11 [.str s] (· = lsV s) := by
  intro h
  refine enter (by kernel_rfl) e11 (by kernel_rfl) rfl fun hok => ?_
  simp only [r11, initEnv_1]
  have hnone : ∀ {hh : H}, lsP s = none → ∃ t, Ow hh [.tup [.agg [.int .i64 0, .int .i64 0, .int .i64 0, .int .i64 0, .nils, .int .i64 0, .nils], .bool false]] [t] (fun c => h.length ≤ c) ∧ t = lsV s := fun h1 => ⟨_, (Ow.two (F := fun _ => False) (F' := fun _ => False) (Ow.aggOf (ts := cSp zSp) (.atom rfl (.atom rfl (.atom rfl (.atom rfl (.atom rfl (.atom rfl (.atom rfl .nil)))))))) (.atom rfl .nil) (fun c (hc : False) => hc.elim) (fun _ h => h.elim)).tupOf, (ls_none h1).symm⟩
  have hpm : (h.length ≤ h.length) = True := by simp
  (try (simp (disch := first | omega | (simp <;> omega) | fail) only [push_cast, ↓reduceIte, Nat.reduceEqDiff, Nat.reduceAdd, Nat.reduceMul, Nat.reduceSub, Nat.reduceLT, Int.reduceToNat]))
  refine (c_impl_opened s [115, 112, 97, 114, 115, 101] hsl).call ?_
  unfold openedV
  rcases ls_split (s := s) with ⟨W, hk, hL, hne, hlw, hWd⟩ | ⟨hlw, hno⟩
  · have hlp : lsP s = lsN (W.map rdN) := by unfold lsP; rw [hlw]
    have h6 := open_len hk
    have hnl := splitL_nlen 32 (beforeT s)
    have hlen := splitL_len 32 (beforeT s)
    rw [hL] at hnl hlen
    rw [if_pos ⟨hk, by rw [hL]; rfl⟩, show (splitL 32 (beforeT s)).drop 1 = W by rw [hL]; rfl]
    have hWl : lS (some W) = W := rfl
    have hWll : (lS (some W)).length = W.length := rfl
    have hWp := List.length_pos_iff.2 hne
    have hWb : W.length ≤ 6001 := by simp at hnl; omega
    have hd0 : decide ((W.length : Int) = 0) = false := by simp; omega
    (try (simp (disch := first | omega | (simp <;> omega) | fail) only [push_cast, ↓reduceIte, Nat.reduceEqDiff, Nat.reduceAdd, Nat.reduceMul, Nat.reduceSub, Nat.reduceLT, Int.reduceToNat, hWl, hd0]))
    refine T_for W.length (fun i e h' => ∃ (v : AV) (N : List Int), Pins e [(2, .adr h.length 0), (3, .bool false), (6, v), (25, eS (some W)), (26, .int .i64 W.length), (27, .int .i64 i)] ∧ LzI (h.length + 1) h' v N ∧ H.cells h' h.length = some zero7 ∧ (N.length = i ∧ (∀ j, j < i → 0 ≤ N.getD j 0 ∧ N.getD j 0 ≤ 9223372036854775807) ∧ ∀ j, j < i → N.getD j 0 = rdN (W.getD j []) ∨ (1000000 ≤ N.getD j 0 ∧ rdN (W.getD j []) < 0))) ?_ ?_
    · refine ⟨.sl (h.length + 1) 0 1 0 0, [], ?_⟩
      (try (simp (disch := first | omega | (simp <;> omega) | fail) only [push_cast, ↓reduceIte, Nat.reduceEqDiff, Nat.reduceAdd, Nat.reduceMul, Nat.reduceSub, Nat.reduceLT, Int.reduceToNat, hWl]))
      have hini : ∀ a, LzI (h.length + 1) (h ++ [a, some (.cells [])]) (.sl (h.length + 1) 0 1 0 0) [] := fun a => ⟨by simp, [h.length + 1], ⟨by simp, .inr ⟨h.length + 1, rfl, rfl, by rw [cells_hk]; rfl⟩⟩, by simp⟩
      all_goals (try exact ⟨hini _, by rw [cells_h0]; rfl, by simp, by simp, by simp⟩)
      all_goals (try exact ⟨hini _, rfl, fun _ _ => trivial, fun j hj => absurd hj (Nat.not_lt_zero j)⟩)
      all_goals (try exact ⟨hini _, rfl⟩)
      all_goals (try exact ⟨hini _, by rw [cells_h0]; rfl⟩)
    rintro i e h' hi ⟨v, N, hp, hs, hbx, hN, hNr, hNe⟩
    refine T_pins hp fun e => ?_
    have hw : ∀ cs, H.cells (wr h' h.length cs) h.length = some cs := fun cs => cells_wr2 (cells_lt hbx)
    have hbx2 := hbx
    unfold zero7 at hbx2
    (try (simp (disch := first | omega | (simp <;> omega) | fail) only [push_cast, ↓reduceIte, Nat.reduceEqDiff, Nat.reduceAdd, Nat.reduceMul, Nat.reduceSub, Nat.reduceLT, Int.reduceToNat]))
    first | refine goC_split (fun hc => ?_) (fun hc => ?_) | refine cnd_split (fun hc => ?_) (fun hc => ?_)
    · (try (simp only [decide_eq_true_eq, decide_eq_false_iff_not, Bool.not_eq_true', Bool.not_eq_false', Bool.and_eq_true, Bool.or_eq_true, Int.not_lt, Int.not_le] at hc)); (try (simp (disch := first | omega | (simp <;> omega) | fail) only [push_cast, ↓reduceIte, Nat.reduceEqDiff, Nat.reduceAdd, Nat.reduceMul, Nat.reduceSub, Nat.reduceLT, Int.reduceToNat]))
      have hi2 : i < W.length := by omega
      have hgw : ((lS (some W)).map AV.str)[i]? = some (.str (W.getD i [])) := get_S hi2
      have hwl := hlen (W.getD i []) (by simp [hi2])
      (try (simp (disch := first | omega | (simp <;> omega) | fail) only [push_cast, ↓reduceIte, Nat.reduceEqDiff, Nat.reduceAdd, Nat.reduceMul, Nat.reduceSub, Nat.reduceLT, Int.reduceToNat, hWl, hgw]))
      refine (c_impl_number (W.getD i []) (by omega)).use ?_
      rintro x ⟨n, b, rfl, n1, n2, n3, n4⟩
      cases b
      · have hneg : rdN (W.getD i []) < 0 := by
          rcases Int.lt_or_le (rdN (W.getD i [])) 0 with h5 | h5
          · exact h5
          · obtain ⟨k, k1, k2, k3⟩ := rd_back (a := W.getD i []) rfl h5
            exact absurd (n2 k k2 k3).1 (by decide)
        have hl : lsP s = none := by
          rw [hlp]
          exact lsN_bad (i := i) (by simpa using hi2) (.inl (by simpa [hi2] using hneg))
        (try (simp (disch := first | omega | (simp <;> omega) | fail) only [push_cast, ↓reduceIte, Nat.reduceEqDiff, Nat.reduceAdd, Nat.reduceMul, Nat.reduceSub, Nat.reduceLT, Int.reduceToNat, hbx2, hpm, hw]))
        all_goals (try exact hnone hl)
      · obtain ⟨m1, m2⟩ := n1 rfl
        have hrel : n = rdN (W.getD i []) ∨ (1000000 ≤ n ∧ rdN (W.getD i []) < 0) := by
          rcases Int.lt_or_le n 1000000 with h5 | h5
          · left
            rw [m2, rd_dec (by omega)]
            omega
          · right
            refine ⟨h5, ?_⟩
            rcases Int.lt_or_le (rdN (W.getD i [])) 0 with h7 | h7
            · exact h7
            · obtain ⟨k, k1, k2, k3⟩ := rd_back (a := W.getD i []) rfl h7
              have := (n2 k k2 k3).2
              omega
        have hap : ∀ j, (N ++ [n]).getD j 0 = if j = i then n else N.getD j 0 := fun j => by
          by_cases hj : j = i
          · rw [if_pos hj, hj, ← hN]
            simp
          · rw [if_neg hj]
            rcases Nat.lt_or_ge j N.length with h5 | h5
            · simp only [List.getD_eq_getElem?_getD, List.getElem?_append_left h5]
            · have e1 : (N ++ [n])[j]? = none := List.getElem?_eq_none (by simp; omega)
              have e2 : N[j]? = none := List.getElem?_eq_none (by omega)
              simp only [List.getD_eq_getElem?_getD, e1, e2]
        have hnx : (N ++ [n]).length = i + 1 ∧ (∀ j, j < i + 1 → 0 ≤ (N ++ [n]).getD j 0 ∧ (N ++ [n]).getD j 0 ≤ 9223372036854775807) ∧ ∀ j, j < i + 1 → (N ++ [n]).getD j 0 = rdN (W.getD j []) ∨ (1000000 ≤ (N ++ [n]).getD j 0 ∧ rdN (W.getD j []) < 0) := by
          refine ⟨by simp [hN], fun j hj => ?_, fun j hj => ?_⟩
          · rw [hap]
            by_cases h5 : j = i
            · rw [if_pos h5]
              omega
            · rw [if_neg h5]
              exact hNr j (by omega)
          · rw [hap]
            by_cases h5 : j = i
            · rw [if_pos h5, h5]
              exact hrel
            · rw [if_neg h5]
              exact hNe j (by omega)
        (try (simp (disch := first | omega | (simp <;> omega) | fail) only [push_cast, ↓reduceIte, Nat.reduceEqDiff, Nat.reduceAdd, Nat.reduceMul, Nat.reduceSub, Nat.reduceLT, Int.reduceToNat]))
        refine hs.app (fun c hc => Or.inr (by omega)) (by omega) fun v' h'' q1 q2 q3 => ?_
        have hbx3 := cells_keep (q2 h.length (by omega)) hbx
        (try (simp (disch := first | omega | (simp <;> omega) | fail) only [push_cast, ↓reduceIte, Nat.reduceEqDiff, Nat.reduceAdd, Nat.reduceMul, Nat.reduceSub, Nat.reduceLT, Int.reduceToNat]))
        all_goals (try exact ⟨_, _, rfl, q1, hbx3, hnx⟩)
        all_goals (try exact ⟨_, _, q1, hbx3, hnx⟩)
    · (try (simp only [decide_eq_true_eq, decide_eq_false_iff_not, Bool.not_eq_true', Bool.not_eq_false', Bool.and_eq_true, Bool.or_eq_true, Int.not_lt, Int.not_le] at hc)); (try (simp (disch := first | omega | (simp <;> omega) | fail) only [push_cast, ↓reduceIte, Nat.reduceEqDiff, Nat.reduceAdd, Nat.reduceMul, Nat.reduceSub, Nat.reduceLT, Int.reduceToNat]))
      have hie : i = W.length := by omega
      subst hie
      obtain ⟨x, l, rfl⟩ : ∃ x l, N = x :: l := by
        cases N with
        | nil => simp at hN; omega
        | cons x l => exact ⟨x, l, rfl⟩
      have hsame : lsN (x :: l) = lsN (W.map rdN) := lsN_same (by rw [List.length_map, hN]) fun j hj => by
        rw [hN] at hj
        have h5 : (W.map rdN).getD j 0 = rdN (W.getD j []) := by simp [hj]
        rw [h5]
        exact hNe j hj
      rw [← hsame] at hlp
      have hx0 := hNr 0 hWp
      simp only [List.getD_cons_zero] at hx0
      obtain ⟨b, rfl, hbn, hcb⟩ := hs.sl (by simp)
      have hvt := vw_tail (n0 := 0) hcb (Nat.zero_le _)
      have hl1 : (x :: l).length = l.length + 1 := rfl
      have hsub : l.length + 1 - 1 = l.length := by omega
      have hll : lI (some l) = l := rfl
      have hcb2 : H.cells h' b = some (.int .i64 x :: l.map (.int .i64)) := hcb
      have hllen : l.length + 1 ≤ 10000 := by
        rw [List.length_cons] at hN
        omega
      have hbs := c_impl_BuildSparse_o (some l) x (by omega) hx0.2
      rw [hll] at hbs
      have hlN : lsN (x :: l) = if srt l x then some (spV (l.map Int.toNat) x.toNat) else none := rfl
      rw [hlN] at hlp
      have hval : (if srt l x = true then AV.tup [eSp (spV (l.map Int.toNat) x.toNat), .bool true] else .tup [eSp zSp, .bool false]) = lsV s := by
        cases hsr : srt l x
        · rw [hsr] at hlp
          rw [ls_none hlp]
          rfl
        · rw [hsr] at hlp
          rw [ls_some hlp]
          rfl
      rw [hval] at hbs
      unfold lsV at hbs
      (try (simp (disch := first | omega | (simp <;> omega) | fail) only [push_cast, ↓reduceIte, Nat.reduceEqDiff, Nat.reduceAdd, Nat.reduceMul, Nat.reduceSub, Nat.reduceLT, Int.reduceToNat, hl1, hsub, hcb2, reads, List.mem_cons, List.mem_append, List.not_mem_nil, nat_ff, or_self, or_false, false_or, not_false_eq_true]))
      refine hbs.goL (.cons hvt (.free free_int .nil)) fun y t k hR hx how => ?_
      subst hR
      obtain ⟨z, rfl, how2⟩ := ow_tup2 how
      obtain ⟨x5, x7, F5, F7, rfl, p5, p7, u5, u7, _⟩ := ow_sp how2
      obtain ⟨c1, c2⟩ := ow_eI p5
      obtain ⟨c3, c4⟩ := ow_eI p7
      have hbk := hx.cells hbx2
      have hwk : ∀ cs, H.cells (wr k h.length cs) h.length = some cs := fun cs => cells_wr2 (cells_lt hbk)
      have hlt := cells_lt hbx
      have hfin : ∀ cs, ∃ t, Ow (wr k h.length cs) [.tup [.agg [.int .i64 (lsSp s).count, .int .i64 (lsSp s).limit, .int .i64 (lsSp s).width, .int .i64 (lsSp s).low.size, x5, .int .i64 (lsSp s).high.size, x7], .bool (lsq s)]] [t] (fun c => h.length ≤ c) ∧ t = lsV s := fun cs => by
        refine ⟨_, (Ow.two (F := fun c => h.length ≤ c) (F' := fun _ => False) ((how2.frame fun c hc => ?_).mono fun c hc => by have := hc.1; omega) (.atom rfl .nil) (fun c hc => hc) (fun _ h => h.elim)).tupOf, rfl⟩
        have := hc.1
        unfold wr
        rw [List.getElem?_set_ne (by omega)]
      (try (simp (disch := first | omega | (simp <;> omega) | fail) only [push_cast, ↓reduceIte, Nat.reduceEqDiff, Nat.reduceAdd, Nat.reduceMul, Nat.reduceSub, Nat.reduceLT, Int.reduceToNat, hbk, hpm, hwk, c1, c2, c3, c4, reads, List.mem_cons, List.mem_append, List.not_mem_nil, nat_ff, or_self, or_false, false_or, not_false_eq_true]))
      all_goals (try exact hfin _)
  · have hl := ls_closed hlw
    by_cases hop : openOk s (beforeT s) = true ∧ (splitL 32 (beforeT s)).getD 0 [] = [115, 112, 97, 114, 115, 101]
    · rw [if_pos hop]
      have h0 : (splitL 32 (beforeT s)).drop 1 = [] := by
        by_cases h5 : (splitL 32 (beforeT s)).drop 1 = []
        · exact h5
        · exact absurd ⟨hop.1, hop.2, h5⟩ hno
      rw [h0]
      have hl0 : (lS (some ([] : List Str))).length = 0 := rfl
      (try (simp (disch := first | omega | (simp <;> omega) | fail) only [push_cast, ↓reduceIte, Nat.reduceEqDiff, Nat.reduceAdd, Nat.reduceMul, Nat.reduceSub, Nat.reduceLT, Int.reduceToNat, hl0]))
      all_goals (try exact hnone hl)
    · rw [if_neg hop]
      (try (simp (disch := first | omega | (simp <;> omega) | fail) only [push_cast, ↓reduceIte, Nat.reduceEqDiff, Nat.reduceAdd, Nat.reduceMul, Nat.reduceSub, Nat.reduceLT, Int.reduceToNat]))
      all_goals (try exact hnone hl)

end Go.Proofs.YtbkcenkfecndjaaGreatDoor.M
