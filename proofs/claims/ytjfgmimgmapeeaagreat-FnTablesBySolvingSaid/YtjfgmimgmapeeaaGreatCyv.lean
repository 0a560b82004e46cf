/-
  What the functions return.
-/
import Derived.Test.YtjfgmimgmapeeaaGreatFyv
import Derived.Test.YtjfgmimgmapeeaaGreatCyt
namespace Go.Proofs.YtjfgmimgmapeeaaGreat.M
open Go Go.RowKit
set_option linter.unusedVariables false
set_option linter.unusedSimpArgs false
set_option maxRecDepth 4000

theorem c_spec_peKeyed (n m : Int) (a : Option (List Str)) : Fn Tryz.prog 120 [.int .i64 n, eS a, .int .i64 m] (· = .bool ((decide (0 ≤ n) && decide (n ≤ 9999)) && (okKeys (lS a) && (decide (1 ≤ m) && decide (m ≤ 24))))) := by
  refine Fn.of free_bool fun h => ?_
  refine enter (by kernel_rfl) e120 (by kernel_rfl) rfl fun hok => ?_
  simp only [r120, initEnv_3]
  (try (simp (disch := first | omega | (simp <;> omega) | fail) only [push_cast, ↓reduceIte, Nat.reduceEqDiff, Nat.reduceAdd, Nat.reduceMul, Nat.reduceSub, Nat.reduceLT, Int.reduceToNat]))
  refine (c_spec_l1In _ _ _).call ?_
  cases h1 : (decide (0 ≤ n) && decide (n ≤ 9999))
  · (try (simp (disch := first | omega | (simp <;> omega) | fail) only [push_cast, ↓reduceIte, Nat.reduceEqDiff, Nat.reduceAdd, Nat.reduceMul, Nat.reduceSub, Nat.reduceLT, Int.reduceToNat]))
  (try (simp (disch := first | omega | (simp <;> omega) | fail) only [push_cast, ↓reduceIte, Nat.reduceEqDiff, Nat.reduceAdd, Nat.reduceMul, Nat.reduceSub, Nat.reduceLT, Int.reduceToNat]))
  refine (c_spec_biKeys _).call ?_
  cases h2 : okKeys (lS a)
  · (try (simp (disch := first | omega | (simp <;> omega) | fail) only [push_cast, ↓reduceIte, Nat.reduceEqDiff, Nat.reduceAdd, Nat.reduceMul, Nat.reduceSub, Nat.reduceLT, Int.reduceToNat]))
  (try (simp (disch := first | omega | (simp <;> omega) | fail) only [push_cast, ↓reduceIte, Nat.reduceEqDiff, Nat.reduceAdd, Nat.reduceMul, Nat.reduceSub, Nat.reduceLT, Int.reduceToNat]))
  refine (c_spec_l1In _ _ _).call ?_
  (try (simp (disch := first | omega | (simp <;> omega) | fail) only [push_cast, ↓reduceIte, Nat.reduceEqDiff, Nat.reduceAdd, Nat.reduceMul, Nat.reduceSub, Nat.reduceLT, Int.reduceToNat]))

theorem c_spec_reTask (seed seg width : Int) (keys : Option (List Str)) (vals : Option (List Int)) : Fn Tryz.prog 85 [.int .i64 seed, eS keys, eI vals, .int .i64 seg, .int .i64 width] (· = .bool (taskOk seed seg width keys vals)) := by
  refine Fn.of free_bool fun h => ?_
  unfold taskOk
  obtain ⟨T, hT⟩ : ∃ T : Int, T = ((2 ^ width.toNat : Nat) : Int) := ⟨_, rfl⟩
  rw [← hT]
  refine enter (by kernel_rfl) e85 (by kernel_rfl) rfl fun hok => ?_
  simp only [r85, initEnv_5]
  (try (simp (disch := first | omega | (simp <;> omega) | fail) only [push_cast, ↓reduceIte, Nat.reduceEqDiff, Nat.reduceAdd, Nat.reduceMul, Nat.reduceSub, Nat.reduceLT, Int.reduceToNat]))
  refine (c_spec_peKeyed _ _ _).call ?_
  cases h1 : ((decide (0 ≤ seed) && decide (seed ≤ 9999)) && (okKeys (lS keys) && (decide (1 ≤ seg) && decide (seg ≤ 24))))
  · (try (simp (disch := first | omega | (simp <;> omega) | fail) only [push_cast, ↓reduceIte, Nat.reduceEqDiff, Nat.reduceAdd, Nat.reduceMul, Nat.reduceSub, Nat.reduceLT, Int.reduceToNat]))
  (try (simp (disch := first | omega | (simp <;> omega) | fail) only [push_cast, ↓reduceIte, Nat.reduceEqDiff, Nat.reduceAdd, Nat.reduceMul, Nat.reduceSub, Nat.reduceLT, Int.reduceToNat]))
  refine (c_spec_reWidth _).call ?_
  cases h2 : (decide (1 ≤ width) && decide (width ≤ 8))
  · (try (simp (disch := first | omega | (simp <;> omega) | fail) only [push_cast, ↓reduceIte, Nat.reduceEqDiff, Nat.reduceAdd, Nat.reduceMul, Nat.reduceSub, Nat.reduceLT, Int.reduceToNat]))
  simp only [Bool.and_eq_true, decide_eq_true_eq] at h2
  obtain ⟨w, rfl⟩ : ∃ w : Nat, width = (w : Int) := ⟨width.toNat, by omega⟩
  rw [Int.toNat_natCast] at hT
  have h4 := pow_le256 (w := w) (by omega)
  rw [← hT] at h4
  (try (simp (disch := first | omega | (simp <;> omega) | fail) only [push_cast, ↓reduceIte, Nat.reduceEqDiff, Nat.reduceAdd, Nat.reduceMul, Nat.reduceSub, Nat.reduceLT, Int.reduceToNat]))
  cases h3 : decide (((lI vals).length : Int) = (lS keys).length)
  · (try (simp (disch := first | omega | (simp <;> omega) | fail) only [push_cast, ↓reduceIte, Nat.reduceEqDiff, Nat.reduceAdd, Nat.reduceMul, Nat.reduceSub, Nat.reduceLT, Int.reduceToNat]))
  (try (simp (disch := first | omega | (simp <;> omega) | fail) only [push_cast, ↓reduceIte, Nat.reduceEqDiff, Nat.reduceAdd, Nat.reduceMul, Nat.reduceSub, Nat.reduceLT, Int.reduceToNat]))
  refine (c_spec_reTop w (by omega) T hT).call ?_
  clear hT
  (try (simp (disch := first | omega | (simp <;> omega) | fail) only [push_cast, ↓reduceIte, Nat.reduceEqDiff, Nat.reduceAdd, Nat.reduceMul, Nat.reduceSub, Nat.reduceLT, Int.reduceToNat]))
  refine (c_spec_l1All _ _ _).call ?_
  (try (simp (disch := first | omega | (simp <;> omega) | fail) only [push_cast, ↓reduceIte, Nat.reduceEqDiff, Nat.reduceAdd, Nat.reduceMul, Nat.reduceSub, Nat.reduceLT, Int.reduceToNat]))

theorem c_spec_RefusalOf (s : Sy) : Fn Tryz.prog 98 [eSy s] (· = refOV s) := by
  refine Fn.of free_refOV fun h => ?_
  refine enter (by kernel_rfl) e98 (by kernel_rfl) rfl fun hok => ?_
  simp only [r98, initEnv_1]
  (try (simp (disch := first | omega | (simp <;> omega) | fail) only [push_cast, ↓reduceIte, Nat.reduceEqDiff, Nat.reduceAdd, Nat.reduceMul, Nat.reduceSub, Nat.reduceLT, Int.reduceToNat]))
  refine (c_spec_reGood s).call ?_
  unfold refOV refO
  cases hk : okSy s
  · (try (simp (disch := first | omega | (simp <;> omega) | fail) only [push_cast, ↓reduceIte, Nat.reduceEqDiff, Nat.reduceAdd, Nat.reduceMul, Nat.reduceSub, Nat.reduceLT, Int.reduceToNat]))
    all_goals (try rfl)
  obtain ⟨m, ho⟩ := okE_n hk
  (try (simp (disch := first | omega | (simp <;> omega) | fail) only [push_cast, ↓reduceIte, Nat.reduceEqDiff, Nat.reduceAdd, Nat.reduceMul, Nat.reduceSub, Nat.reduceLT, Int.reduceToNat]))
  refine (c_spec_reLines s _ m ho).call ?_
  unfold linesV ofN refN
  generalize optL _ = a
  have hgt : decide ((0 : Int) < ((lI a).length : Int)) = decide (0 < (lI a).length) := by rw [decide_eq_decide]; omega
  by_cases h0 : 0 < (lI a).length
  · have h2 : (0 : Int) < ((lI a).length : Int) := by omega
    (try (simp (disch := first | omega | (simp <;> omega) | fail) only [push_cast, ↓reduceIte, Nat.reduceEqDiff, Nat.reduceAdd, Nat.reduceMul, Nat.reduceSub, Nat.reduceLT, Int.reduceToNat, h2, h0]))
    all_goals (try simp [h0])
  · have h2 : ¬ (0 : Int) < ((lI a).length : Int) := by omega
    (try (simp (disch := first | omega | (simp <;> omega) | fail) only [push_cast, ↓reduceIte, Nat.reduceEqDiff, Nat.reduceAdd, Nat.reduceMul, Nat.reduceSub, Nat.reduceLT, Int.reduceToNat, h2, h0]))
    all_goals (try simp [h0])

set_option maxHeartbeats 1000000 in
theorem c_spec_TableRefusal (seed seg width : Int) (keys : Option (List Str)) (vals : Option (List Int)) : Fn Tryz.prog 37 [.int .i64 seed, eS keys, eI vals, .int .i64 seg, .int .i64 width] (· = tabRefV seed seg width keys vals) := by
  refine Fn.of free_tabRefV fun h => ?_
  refine enter (by kernel_rfl) e37 (by kernel_rfl) rfl fun hok => ?_
  simp only [r37, initEnv_5]
  (try (simp (disch := first | omega | (simp <;> omega) | fail) only [push_cast, ↓reduceIte, Nat.reduceEqDiff, Nat.reduceAdd, Nat.reduceMul, Nat.reduceSub, Nat.reduceLT, Int.reduceToNat]))
  refine (c_spec_reTask _ _ _ _ _).call ?_
  unfold tabRefV
  cases hk : taskOk seed seg width keys vals
  · (try (simp (disch := first | omega | (simp <;> omega) | fail) only [push_cast, ↓reduceIte, Nat.reduceEqDiff, Nat.reduceAdd, Nat.reduceMul, Nat.reduceSub, Nat.reduceLT, Int.reduceToNat]))
    all_goals (try rfl)
  have F := task_facts hk
  have hph := c_spec_peHyper seed keys seg F.s0 F.s1 F.g0 F.g1 (by have := F.kl; omega)
  rw [F.nn] at hph
  have hpl := fun b hb => c_spec_rePlane (nT seg) (mT seg) b (optE (edges seed (lS keys) seg)) vals F.n1 F.n2 F.mm (by rw [lIS_optE, edges_len]; exact F.kl) (by rw [lIS_optE]; exact F.el) (by rw [lIS_optE]; exact F.eb) (by have := F.vl; have := F.kl; omega) F.vb hb
  rw [lIS_optE] at hpl
  have hpl2 : ∀ b : Nat, b < 8 → Fn Tryz.prog 99 [eHy (nT seg) (optE (edges seed (lS keys) seg)), eI vals, .int .i64 b] (· = eSy (tabSy seed seg keys vals b)) := hpl
  have hok := F.ok
  obtain ⟨w, rfl⟩ : ∃ w : Nat, width = (w : Int) := ⟨width.toNat, by have := F.w0; omega⟩
  have hw1 := F.w1
  rw [Int.toNat_natCast]
  clear hpl hk F
  generalize nT seg = n at *
  generalize optE (edges seed (lS keys) seg) = oE at *
  generalize tabSy seed seg keys vals = f at *
  unfold eHy at hph hpl2
  (try (simp (disch := first | omega | (simp <;> omega) | fail) only [push_cast, ↓reduceIte, Nat.reduceEqDiff, Nat.reduceAdd, Nat.reduceMul, Nat.reduceSub, Nat.reduceLT, Int.reduceToNat]))
  refine hph.call ?_
  (try (simp (disch := first | omega | (simp <;> omega) | fail) only [push_cast, ↓reduceIte, Nat.reduceEqDiff, Nat.reduceAdd, Nat.reduceMul, Nat.reduceSub, Nat.reduceLT, Int.reduceToNat]))
  refine T_for w (fun i e h' => Pins e [(2, eI vals), (4, .int .i64 w), (13, .adr h.length 0), (14, .int .i64 i)] ∧ h'.cells h.length = some [.int .i64 n, eIS oE] ∧ ∀ j, j < i → refN (f j) = 0) ?_ ?_
  · (try (simp (disch := first | omega | (simp <;> omega) | fail) only [push_cast, ↓reduceIte, Nat.reduceEqDiff, Nat.reduceAdd, Nat.reduceMul, Nat.reduceSub, Nat.reduceLT, Int.reduceToNat]))
    all_goals (try exact ⟨by rw [cells_h0]; rfl, fun j hj => by omega⟩)
    all_goals (try exact fun j hj => by omega)
  rintro i e h' hi ⟨hp, hb, ha⟩
  refine T_pins hp fun e => ?_
  (try (simp (disch := first | omega | (simp <;> omega) | fail) only [push_cast, ↓reduceIte, Nat.reduceEqDiff, Nat.reduceAdd, Nat.reduceMul, Nat.reduceSub, Nat.reduceLT, Int.reduceToNat]))
  first | refine goC_split (fun hc => ?_) (fun hc => ?_) | refine cnd_split (fun hc => ?_) (fun hc => ?_)
  · (try (simp only [decide_eq_true_eq, decide_eq_false_iff_not, Bool.not_eq_true', Bool.not_eq_false', Bool.and_eq_true, Bool.or_eq_true, Int.not_lt, Int.not_le] at hc)); (try (simp (disch := first | omega | (simp <;> omega) | fail) only [push_cast, ↓reduceIte, Nat.reduceEqDiff, Nat.reduceAdd, Nat.reduceMul, Nat.reduceSub, Nat.reduceLT, Int.reduceToNat]))
    have hi2 : i < w := by omega
    (try (simp (disch := first | omega | (simp <;> omega) | fail) only [push_cast, ↓reduceIte, Nat.reduceEqDiff, Nat.reduceAdd, Nat.reduceMul, Nat.reduceSub, Nat.reduceLT, Int.reduceToNat, hb]))
    refine (hpl2 i (by omega)).call ?_
    refine (c_spec_RefusalOf (f i)).call ?_
    obtain ⟨m, ho⟩ := okE_n (hok i)
    by_cases h0 : refN (f i) = 0
    · rw [refOV_zero ho (hok i) h0]
      (try (simp (disch := first | omega | (simp <;> omega) | fail) only [push_cast, ↓reduceIte, Nat.reduceEqDiff, Nat.reduceAdd, Nat.reduceMul, Nat.reduceSub, Nat.reduceLT, Int.reduceToNat]))
      all_goals (try exact ⟨hb, fun j hj => by
        by_cases hji : j = i
        · rw [hji]; exact h0
        · exact ha j (by omega)⟩)
    · rw [refOV_pos ho (hok i) h0, tabRef_some hi2 ha h0]
      (try (simp (disch := first | omega | (simp <;> omega) | fail) only [push_cast, ↓reduceIte, Nat.reduceEqDiff, Nat.reduceAdd, Nat.reduceMul, Nat.reduceSub, Nat.reduceLT, Int.reduceToNat]))
  · (try (simp only [decide_eq_true_eq, decide_eq_false_iff_not, Bool.not_eq_true', Bool.not_eq_false', Bool.and_eq_true, Bool.or_eq_true, Int.not_lt, Int.not_le] at hc)); (try (simp (disch := first | omega | (simp <;> omega) | fail) only [push_cast, ↓reduceIte, Nat.reduceEqDiff, Nat.reduceAdd, Nat.reduceMul, Nat.reduceSub, Nat.reduceLT, Int.reduceToNat]))
    have hie : i = w := by omega
    subst hie
    rw [tabRef_none ha]
    (try (simp (disch := first | omega | (simp <;> omega) | fail) only [push_cast, ↓reduceIte, Nat.reduceEqDiff, Nat.reduceAdd, Nat.reduceMul, Nat.reduceSub, Nat.reduceLT, Int.reduceToNat]))

set_option maxHeartbeats 1000000 in
theorem c_impl_TableRefusal_o (seed seg width : Int) (keys : Option (List Str)) (vals : Option (List Int)) : FnO Tryz.prog 33 [.int .i64 seed, eS keys, eI vals, .int .i64 seg, .int .i64 width] (· = tabRefV seed seg width keys vals) := by
  intro h
  refine enter (by kernel_rfl) e33 (by kernel_rfl) rfl fun hok => ?_
  simp only [r33, initEnv_5]
  have hnone : ∀ g : H, ∃ t, Ow g [.tup [.int .i64 0, .nils, .bool false]] [t] (fun c => h.length ≤ c) ∧ t = .tup [.int .i64 0, .nils, .bool false] := fun g => ⟨_, (Ow.atom rfl (.atom rfl (.atom rfl .nil))).tupOf, rfl⟩
  (try (simp (disch := first | omega | (simp <;> omega) | fail) only [push_cast, ↓reduceIte, Nat.reduceEqDiff, Nat.reduceAdd, Nat.reduceMul, Nat.reduceSub, Nat.reduceLT, Int.reduceToNat]))
  refine (c_impl_valuesOk _ _ _ _ _).call ?_
  unfold tabRefV
  cases hk : taskOk seed seg width keys vals
  · (try (simp (disch := first | omega | (simp <;> omega) | fail) only [push_cast, ↓reduceIte, Nat.reduceEqDiff, Nat.reduceAdd, Nat.reduceMul, Nat.reduceSub, Nat.reduceLT, Int.reduceToNat]))
    all_goals (try exact hnone _)
  have F := task_facts hk
  have hph := c_impl_hyper seed keys seg F.s0 F.s1 F.g0 F.g1 (by have := F.kl; omega)
  rw [F.nn] at hph
  have hpl := fun b hb => c_impl_bitSystem (nT seg) (mT seg) b (optE (edges seed (lS keys) seg)) vals F.n1 F.n2 F.mm (by rw [lIS_optE, edges_len]; exact F.kl) (by rw [lIS_optE]; exact F.eb) (by have := F.vl; have := F.kl; omega) F.vb hb
  rw [lIS_optE] at hpl
  have hpl2 : ∀ b : Nat, b < 8 → Fn Tryz.prog 88 [eHy (nT seg) (optE (edges seed (lS keys) seg)), eI vals, .int .i64 b] (· = eSy (tabSy seed seg keys vals b)) := hpl
  have hok := F.ok
  obtain ⟨w, rfl⟩ : ∃ w : Nat, width = (w : Int) := ⟨width.toNat, by have := F.w0; omega⟩
  have hw1 := F.w1
  rw [Int.toNat_natCast]
  clear hpl hk F
  generalize nT seg = n at *
  generalize optE (edges seed (lS keys) seg) = oE at *
  generalize tabSy seed seg keys vals = f at *
  unfold eHy at hph hpl2
  (try (simp (disch := first | omega | (simp <;> omega) | fail) only [push_cast, ↓reduceIte, Nat.reduceEqDiff, Nat.reduceAdd, Nat.reduceMul, Nat.reduceSub, Nat.reduceLT, Int.reduceToNat]))
  refine hph.call ?_
  (try (simp (disch := first | omega | (simp <;> omega) | fail) only [push_cast, ↓reduceIte, Nat.reduceEqDiff, Nat.reduceAdd, Nat.reduceMul, Nat.reduceSub, Nat.reduceLT, Int.reduceToNat]))
  refine T_for w (fun i e h' => Pins e [(2, eI vals), (13, .adr h.length 0), (28, .int .i64 w), (29, .int .i64 i)] ∧ h'.cells h.length = some [.int .i64 n, eIS oE] ∧ ∀ j, j < i → refN (f j) = 0) ?_ ?_
  · (try (simp (disch := first | omega | (simp <;> omega) | fail) only [push_cast, ↓reduceIte, Nat.reduceEqDiff, Nat.reduceAdd, Nat.reduceMul, Nat.reduceSub, Nat.reduceLT, Int.reduceToNat]))
    all_goals (try exact ⟨by rw [cells_h0]; rfl, fun j hj => by omega⟩)
    all_goals (try exact fun j hj => by omega)
  rintro i e h' hi ⟨hp, hb, ha⟩
  refine T_pins hp fun e => ?_
  have hbl := cells_lt hb
  (try (simp (disch := first | omega | (simp <;> omega) | fail) only [push_cast, ↓reduceIte, Nat.reduceEqDiff, Nat.reduceAdd, Nat.reduceMul, Nat.reduceSub, Nat.reduceLT, Int.reduceToNat]))
  first | refine goC_split (fun hc => ?_) (fun hc => ?_) | refine cnd_split (fun hc => ?_) (fun hc => ?_)
  · (try (simp only [decide_eq_true_eq, decide_eq_false_iff_not, Bool.not_eq_true', Bool.not_eq_false', Bool.and_eq_true, Bool.or_eq_true, Int.not_lt, Int.not_le] at hc)); (try (simp (disch := first | omega | (simp <;> omega) | fail) only [push_cast, ↓reduceIte, Nat.reduceEqDiff, Nat.reduceAdd, Nat.reduceMul, Nat.reduceSub, Nat.reduceLT, Int.reduceToNat]))
    have hi2 : i < w := by omega
    (try (simp (disch := first | omega | (simp <;> omega) | fail) only [push_cast, ↓reduceIte, Nat.reduceEqDiff, Nat.reduceAdd, Nat.reduceMul, Nat.reduceSub, Nat.reduceLT, Int.reduceToNat, hb]))
    refine (hpl2 i (by omega)).call ?_
    obtain ⟨m, ho⟩ := okE_n (hok i)
    (try (simp (disch := first | omega | (simp <;> omega) | fail) only [push_cast, ↓reduceIte, Nat.reduceEqDiff, Nat.reduceAdd, Nat.reduceMul, Nat.reduceSub, Nat.reduceLT, Int.reduceToNat]))
    refine (c_impl_reduced (f i) _ m ho).use ?_
    rintro x ⟨L, hp, rfl⟩
    have hr : (stI (f i) (nSy (f i)) (lB (f i).rows).length).2 = refN (f i) := (lin_sim (f i)).ref.symm
    have hmsk := (ho.msk (i := (lB (f i).rows).length) (Nat.le_refl _)).shr
    rw [hr]
    have hlt : ofN (nSy (f i)) (refN (f i)) < 18446744073709551616 := by
      rw [← hr]
      exact shr_lt (ho.bnd2 (Nat.le_refl _))
    by_cases h0 : refN (f i) = 0
    · have h1 : ((ofN (nSy (f i)) (refN (f i)) : Nat) : Int) = 0 := by
        have := hmsk.2 h0
        unfold refN at *
        rw [this]
        rfl
      (try (simp (disch := first | omega | (simp <;> omega) | fail) only [push_cast, ↓reduceIte, Nat.reduceEqDiff, Nat.reduceAdd, Nat.reduceMul, Nat.reduceSub, Nat.reduceLT, Int.reduceToNat, h1]))
      all_goals (try exact ⟨hb, fun j hj => by
        by_cases hji : j = i
        · rw [hji]; exact h0
        · exact ha j (by omega)⟩)
    · have h1 : ¬ ((ofN (nSy (f i)) (refN (f i)) : Nat) : Int) = 0 := fun h5 => h0 (hmsk.1 (by unfold refN at h5; omega))
      rw [tabRef_some hi2 ha h0, (refO_pos ho (hok i) h0).1]
      (try (simp (disch := first | omega | (simp <;> omega) | fail) only [push_cast, ↓reduceIte, Nat.reduceEqDiff, Nat.reduceAdd, Nat.reduceMul, Nat.reduceSub, Nat.reduceLT, Int.reduceToNat, h1]))
      refine (c_impl_indices_o _ hlt).use fun x t l hR how => ?_
      subst hR
      (try (simp (disch := first | omega | (simp <;> omega) | fail) only [push_cast, ↓reduceIte, Nat.reduceEqDiff, Nat.reduceAdd, Nat.reduceMul, Nat.reduceSub, Nat.reduceLT, Int.reduceToNat]))
      refine ⟨_, (Ow.atom rfl (Ow.two (F := fun c => h.length ≤ c) (F' := fun _ => False) (how.mono fun c hc => ?_) (.atom rfl .nil) (fun c hc => hc) (fun _ h => h.elim))).tupOf, rfl⟩
      have := hc.1
      omega
  · (try (simp only [decide_eq_true_eq, decide_eq_false_iff_not, Bool.not_eq_true', Bool.not_eq_false', Bool.and_eq_true, Bool.or_eq_true, Int.not_lt, Int.not_le] at hc)); (try (simp (disch := first | omega | (simp <;> omega) | fail) only [push_cast, ↓reduceIte, Nat.reduceEqDiff, Nat.reduceAdd, Nat.reduceMul, Nat.reduceSub, Nat.reduceLT, Int.reduceToNat]))
    have hie : i = w := by omega
    subst hie
    rw [tabRef_none ha]
    (try (simp (disch := first | omega | (simp <;> omega) | fail) only [push_cast, ↓reduceIte, Nat.reduceEqDiff, Nat.reduceAdd, Nat.reduceMul, Nat.reduceSub, Nat.reduceLT, Int.reduceToNat]))
    all_goals (try exact hnone _)

theorem c_impl_indicesOk (a : Option (List Int)) (n : Int) (hn0 : 0 ≤ n) (hn1 : n ≤ 1000000) : Fn Tryz.prog 103 [eI a, .int .i64 n] (· = .bool (risFrom (lI a) 0 (n - 1) (lI a).length && decide (0 < ((lI a).length : Int)))) := by
  refine Fn.of free_bool fun h => ?_
  refine enter (by kernel_rfl) e103 (by kernel_rfl) rfl fun hok => ?_
  simp only [r103, initEnv_2]
  have hlen := ok_eI (okV_0 hok)
  (try (simp (disch := first | omega | (simp <;> omega) | fail) only [push_cast, ↓reduceIte, Nat.reduceEqDiff, Nat.reduceAdd, Nat.reduceMul, Nat.reduceSub, Nat.reduceLT, Int.reduceToNat]))
  refine T_for (lI a).length (fun i e h' => Pins e [(0, eI a), (1, .int .i64 n), (7, eI a), (8, .int .i64 (lI a).length), (9, .int .i64 i)] ∧ h' = h ∧ risFrom (lI a) 0 (n - 1) i = true) ?_ ?_
  · (try (simp (disch := first | omega | (simp <;> omega) | fail) only [push_cast, ↓reduceIte, Nat.reduceEqDiff, Nat.reduceAdd, Nat.reduceMul, Nat.reduceSub, Nat.reduceLT, Int.reduceToNat]))
    all_goals (try simp [risFrom])
  rintro i e h' hi_ ⟨hp, rfl, ha⟩
  refine T_pins hp fun e => ?_
  (try (simp (disch := first | omega | (simp <;> omega) | fail) only [push_cast, ↓reduceIte, Nat.reduceEqDiff, Nat.reduceAdd, Nat.reduceMul, Nat.reduceSub, Nat.reduceLT, Int.reduceToNat]))
  first | refine goC_split (fun hc => ?_) (fun hc => ?_) | refine cnd_split (fun hc => ?_) (fun hc => ?_)
  · (try (simp only [decide_eq_true_eq, decide_eq_false_iff_not, Bool.not_eq_true', Bool.not_eq_false', Bool.and_eq_true, Bool.or_eq_true, Int.not_lt, Int.not_le] at hc)); (try (simp (disch := first | omega | (simp <;> omega) | fail) only [push_cast, ↓reduceIte, Nat.reduceEqDiff, Nat.reduceAdd, Nat.reduceMul, Nat.reduceSub, Nat.reduceLT, Int.reduceToNat]))
    have hi2 : i < (lI a).length := by omega
    (try (simp (disch := first | omega | (simp <;> omega) | fail) only [push_cast, ↓reduceIte, Nat.reduceEqDiff, Nat.reduceAdd, Nat.reduceMul, Nat.reduceSub, Nat.reduceLT, Int.reduceToNat]))
    refine (c_impl_in _ _ _).call ?_
    have hf : risFrom (lI a) 0 (n - 1) (i + 1) = false → risFrom (lI a) 0 (n - 1) (lI a).length = false := fun hf => risFrom_false (by omega) hf
    cases hk : (decide (0 ≤ (lI a).getD i 0) && decide ((lI a).getD i 0 ≤ n - 1))
    · rw [hf (by simp only [risFrom, hk, Bool.false_and, Bool.and_false])]
      (try (simp (disch := first | omega | (simp <;> omega) | fail) only [push_cast, ↓reduceIte, Nat.reduceEqDiff, Nat.reduceAdd, Nat.reduceMul, Nat.reduceSub, Nat.reduceLT, Int.reduceToNat]))
    · by_cases h0 : i = 0
      · subst h0
        have hn : risFrom (lI a) 0 (n - 1) (0 + 1) = true := by
          simp only [risFrom, hk]
          rfl
        (try (simp (disch := first | omega | (simp <;> omega) | fail) only [push_cast, ↓reduceIte, Nat.reduceEqDiff, Nat.reduceAdd, Nat.reduceMul, Nat.reduceSub, Nat.reduceLT, Int.reduceToNat, hn]))
        all_goals (try exact hn)
      · have hi0 : 0 < i := by omega
        have ht : ((i : Int) - 1).toNat = i - 1 := by omega
        by_cases hlt : (lI a).getD (i - 1) 0 < (lI a).getD i 0
        · have hn : risFrom (lI a) 0 (n - 1) (i + 1) = true := by
            simp only [risFrom, hk, ha]
            simp only [decide_eq_true hlt, Bool.or_true, Bool.and_true]
          (try (simp (disch := first | omega | (simp <;> omega) | fail) only [push_cast, ↓reduceIte, Nat.reduceEqDiff, Nat.reduceAdd, Nat.reduceMul, Nat.reduceSub, Nat.reduceLT, Int.reduceToNat, ht, hn]))
          all_goals (try exact hn)
        · rw [hf (by simp only [risFrom, hk, ha, decide_eq_false hlt, decide_eq_false h0]; rfl)]
          (try (simp (disch := first | omega | (simp <;> omega) | fail) only [push_cast, ↓reduceIte, Nat.reduceEqDiff, Nat.reduceAdd, Nat.reduceMul, Nat.reduceSub, Nat.reduceLT, Int.reduceToNat, ht]))
  · (try (simp only [decide_eq_true_eq, decide_eq_false_iff_not, Bool.not_eq_true', Bool.not_eq_false', Bool.and_eq_true, Bool.or_eq_true, Int.not_lt, Int.not_le] at hc)); (try (simp (disch := first | omega | (simp <;> omega) | fail) only [push_cast, ↓reduceIte, Nat.reduceEqDiff, Nat.reduceAdd, Nat.reduceMul, Nat.reduceSub, Nat.reduceLT, Int.reduceToNat]))
    have hie : i = (lI a).length := by omega
    subst hie
    rw [ha]
    (try (simp (disch := first | omega | (simp <;> omega) | fail) only [push_cast, ↓reduceIte, Nat.reduceEqDiff, Nat.reduceAdd, Nat.reduceMul, Nat.reduceSub, Nat.reduceLT, Int.reduceToNat]))
    (first | refine goC_split (fun hc => ?_) (fun hc => ?_) | refine cnd_split (fun hc => ?_) (fun hc => ?_)) <;> ((try (simp (disch := first | omega | (simp <;> omega) | fail) only [push_cast, ↓reduceIte, Nat.reduceEqDiff, Nat.reduceAdd, Nat.reduceMul, Nat.reduceSub, Nat.reduceLT, Int.reduceToNat]))) <;> (try rw [hc])

theorem vw_eq {h : H} {b5 bb m X o : Nat} {n u : Int} {r : Bool} (h5 : h.cells b5 = some [.int .i64 n, .sl bb 0 1 m m, .bool r, .int .u64 u]) (hb : h.cells bb = some ((wordsN X m).map (.int .i64))) : Vw h 0 (.adr b5 o) (.rad [.int .i64 n, eI (some (wordsN X m)), .bool r, .int .u64 u] o) := by
  refine .adr (Nat.zero_le _) h5 rfl (fun i y t hy ht => ?_)
  rcases i with _ | _ | _ | _ | i
  · simp at hy ht
    subst hy ht
    exact .free free_int
  · simp [eI, wordsN_len] at hy ht
    subst hy ht
    exact vw_all (cs := (wordsN X m).map (.int .i64)) (Nat.zero_le _) hb (by simp [wordsN_len]) (one_map fun _ => rfl) (free_map_ fun _ => free_int)
  · simp at hy ht
    subst hy ht
    exact .free free_bool
  · simp at hy ht
    subst hy ht
    exact .free free_int
  · simp at hy
def EqI (h h' : H) (s : Sy) (n m b5 bb : Nat) (l : List Int) : Prop :=
  h.length < h'.length ∧ h'.cells h.length = some [.int .i64 n, eBS s.rows, eO s.right] ∧ h.length < bb ∧ h.length < b5 ∧ b5 ≠ bb ∧
  h'.cells b5 = some [.int .i64 n, .sl bb 0 1 m m, .bool (sumR s l), .int .u64 0] ∧ h'.cells bb = some ((wordsN (sumB s l) m).map (.int .i64))

set_option maxHeartbeats 2000000 in
theorem c_impl_IsRefusal (s : Sy) (l : Option (List Int)) : Fn Tryz.prog 41 [eSy s, eI l] (· = refV s (lI l)) := by
  refine Fn.of free_refV fun h => ?_
  refine enter (by kernel_rfl) e41 (by kernel_rfl) rfl fun hok => ?_
  simp only [r41, initEnv_2]
  (try (simp (disch := first | omega | (simp <;> omega) | fail) only [push_cast, ↓reduceIte, Nat.reduceEqDiff, Nat.reduceAdd, Nat.reduceMul, Nat.reduceSub, Nat.reduceLT, Int.reduceToNat]))
  refine (c_impl_IsSystem s).call ?_
  unfold refV
  cases hk : okSy s
  · (try (simp (disch := first | omega | (simp <;> omega) | fail) only [push_cast, ↓reduceIte, Nat.reduceEqDiff, Nat.reduceAdd, Nat.reduceMul, Nat.reduceSub, Nat.reduceLT, Int.reduceToNat]))
    all_goals (try rfl)
  obtain ⟨n, m, ho⟩ := okS_of hk
  have hnr := ho.nr
  have hlr := ho.lr
  have hsz := ho.sz
  have hlen := ok_eI (okV_1 hok)
  have hn1 := ho.n1
  have hn2 := ho.n2
  have hm := ho.hm
  (try (simp (disch := first | omega | (simp <;> omega) | fail) only [push_cast, ↓reduceIte, Nat.reduceEqDiff, Nat.reduceAdd, Nat.reduceMul, Nat.reduceSub, Nat.reduceLT, Int.reduceToNat, hsz]))
  refine (c_impl_indicesOk l _ (by omega) (by omega)).call ?_
  cases hr : risFrom (lI l) 0 (((lB s.rows).length : Int) - 1) (lI l).length
  · (try (simp (disch := first | omega | (simp <;> omega) | fail) only [push_cast, ↓reduceIte, Nat.reduceEqDiff, Nat.reduceAdd, Nat.reduceMul, Nat.reduceSub, Nat.reduceLT, Int.reduceToNat]))
    all_goals (try rfl)
  by_cases hl0 : 0 < ((lI l).length : Int)
  case neg =>
    have he : lI l = [] := List.eq_nil_of_length_eq_zero (by omega)
    (try (simp (disch := first | omega | (simp <;> omega) | fail) only [push_cast, ↓reduceIte, Nat.reduceEqDiff, Nat.reduceAdd, Nat.reduceMul, Nat.reduceSub, Nat.reduceLT, Int.reduceToNat, hl0]))
    rw [he]
    rfl
  have hget := fun i hi => risFrom_get hr i hi
  (try (simp (disch := first | omega | (simp <;> omega) | fail) only [push_cast, ↓reduceIte, Nat.reduceEqDiff, Nat.reduceAdd, Nat.reduceMul, Nat.reduceSub, Nat.reduceLT, Int.reduceToNat, hl0, hsz]))
  refine (c_impl_blank_own n m (by omega) hm _).mono (fun x h1 hx => ?_) (fun _ _ h => h.elim)
  obtain ⟨bb, rfl, hbb, ⟨p, hp⟩, hcb⟩ := hx
  have hbb2 : h.length + 1 ≤ bb := by simp at hbb; omega
  have hbl := cells_lt hcb
  have hl1 : h.length + 1 ≤ h1.length := by omega
  have f0 : h1.cells h.length = some [.int .i64 n, eBS s.rows, eO s.right] := by
    rw [hp]
    refine cells_app ?_
    rw [cells_h0]
    rfl
  clear hp
  have hfl : fillA [.int .i64 0, .nils, .bool false, .int .u64 0] [(0, 2, .agg [.int .i64 n, .sl bb 0 1 m m])] = some [.int .i64 n, .sl bb 0 1 m m, .bool false, .int .u64 0] := rfl
  (try (simp (disch := first | omega | (simp <;> omega) | fail) only [push_cast, ↓reduceIte, Nat.reduceEqDiff, Nat.reduceAdd, Nat.reduceMul, Nat.reduceSub, Nat.reduceLT, Int.reduceToNat, hfl]))
  refine T_for (lI l).length (fun i e h' => Pins e [(2, .adr h.length 0), (6, .adr h1.length 0), (22, eI l), (23, .int .i64 (lI l).length), (24, .int .i64 i)] ∧ EqI h h' s n m h1.length bb ((lI l).take i)) ?_ ?_
  · (try (simp (disch := first | omega | (simp <;> omega) | fail) only [push_cast, ↓reduceIte, Nat.reduceEqDiff, Nat.reduceAdd, Nat.reduceMul, Nat.reduceSub, Nat.reduceLT, Int.reduceToNat]))
    all_goals (try exact ⟨by simp; omega, cells_app f0, by omega, by omega, by omega, by rw [cells_h0]; rfl, cells_app hcb⟩)
  rintro i e h' hi ⟨hp, hs⟩
  refine T_pins hp fun e => ?_
  obtain ⟨s1, s2, s3, s4, s5, s6, s7⟩ := hs
  (try (simp (disch := first | omega | (simp <;> omega) | fail) only [push_cast, ↓reduceIte, Nat.reduceEqDiff, Nat.reduceAdd, Nat.reduceMul, Nat.reduceSub, Nat.reduceLT, Int.reduceToNat, s2]))
  first | refine goC_split (fun hc => ?_) (fun hc => ?_) | refine cnd_split (fun hc => ?_) (fun hc => ?_)
  · (try (simp only [decide_eq_true_eq, decide_eq_false_iff_not, Bool.not_eq_true', Bool.not_eq_false', Bool.and_eq_true, Bool.or_eq_true, Int.not_lt, Int.not_le] at hc)); (try (simp (disch := first | omega | (simp <;> omega) | fail) only [push_cast, ↓reduceIte, Nat.reduceEqDiff, Nat.reduceAdd, Nat.reduceMul, Nat.reduceSub, Nat.reduceLT, Int.reduceToNat]))
    have hi2 : i < (lI l).length := by omega
    obtain ⟨g1, g2⟩ := hget i hi2
    obtain ⟨ix, hix⟩ : ∃ ix : Nat, (lI l).getD i 0 = (ix : Int) := ⟨((lI l).getD i 0).toNat, by omega⟩
    have hixr : ix < (lB s.rows).length := by omega
    obtain ⟨w1, w2⟩ := ho.w ix hixr
    have hfl2 : fillA [.int .i64 0, .nils, .bool false, .int .u64 0] [(0, 2, .agg [.int .i64 n, eI ((lB s.rows).getD ix default).words]), (2, 1, .bool ((lO s.right).getD ix false)), (3, 1, .int .u64 0)] = some [.int .i64 n, eI ((lB s.rows).getD ix default).words, .bool ((lO s.right).getD ix false), .int .u64 0] := rfl
    have t5 := cells_lt s6
    have t7 := cells_lt s7
    (try (simp (disch := first | omega | (simp <;> omega) | fail) only [push_cast, ↓reduceIte, Nat.reduceEqDiff, Nat.reduceAdd, Nat.reduceMul, Nat.reduceSub, Nat.reduceLT, Int.reduceToNat, s2, hix, w2, hfl2]))
    refine (c_impl_equation_add n n h1.length bb h'.length m _ (rowB s ix) _ _ _ _ (cells_app s6) (cells_app s7) (by rw [cells_h0]; rfl) w1 (by omega) s5 (by omega) (by omega)).mono (fun y h2 hy => ?_) (fun b' _ hb' => ⟨Or.inr (by omega), by rcases hb' with rfl | rfl <;> (try (simp (disch := first | omega | (simp <;> omega) | fail) only [push_cast, ↓reduceIte, Nat.reduceEqDiff, Nat.reduceAdd, Nat.reduceMul, Nat.reduceSub, Nat.reduceLT, Int.reduceToNat, reads, List.mem_cons, List.mem_append, List.not_mem_nil, nat_ff, or_self, or_false, false_or, not_false_eq_true]))⟩)
    obtain ⟨y1, y2, y3, y4⟩ := hy
    have hfin : EqI h h2 s n m h1.length bb ((lI l).take (i + 1)) := by
      refine ⟨by simp at y1; omega, ?_, s3, s4, s5, ?_, ?_⟩
      · rw [cells_eq, y2 _ (by simp; omega) (by omega) (by omega), ← cells_eq]
        exact cells_app s2
      · rw [y3, sumR_take hi2, hix, Int.toNat_natCast]
      · rw [y4, sumB_take hi2, hix, Int.toNat_natCast]
    (try (simp (disch := first | omega | (simp <;> omega) | fail) only [push_cast, ↓reduceIte, Nat.reduceEqDiff, Nat.reduceAdd, Nat.reduceMul, Nat.reduceSub, Nat.reduceLT, Int.reduceToNat]))
    all_goals (try exact hfin)
  · (try (simp only [decide_eq_true_eq, decide_eq_false_iff_not, Bool.not_eq_true', Bool.not_eq_false', Bool.and_eq_true, Bool.or_eq_true, Int.not_lt, Int.not_le] at hc)); (try (simp (disch := first | omega | (simp <;> omega) | fail) only [push_cast, ↓reduceIte, Nat.reduceEqDiff, Nat.reduceAdd, Nat.reduceMul, Nat.reduceSub, Nat.reduceLT, Int.reduceToNat]))
    have hie : i = (lI l).length := by omega
    subst hie
    rw [List.take_length] at s6 s7
    (try (simp (disch := first | omega | (simp <;> omega) | fail) only [push_cast, ↓reduceIte, Nat.reduceEqDiff, Nat.reduceAdd, Nat.reduceMul, Nat.reduceSub, Nat.reduceLT, Int.reduceToNat, s2, s6]))
    unfold refSum
    rw [hsz, Int.toNat_natCast]
    cases hsr : sumR s (lI l)
    · (try (simp (disch := first | omega | (simp <;> omega) | fail) only [push_cast, ↓reduceIte, Nat.reduceEqDiff, Nat.reduceAdd, Nat.reduceMul, Nat.reduceSub, Nat.reduceLT, Int.reduceToNat, s2]))
      all_goals (try rfl)
    (try (simp (disch := first | omega | (simp <;> omega) | fail) only [push_cast, ↓reduceIte, Nat.reduceEqDiff, Nat.reduceAdd, Nat.reduceMul, Nat.reduceSub, Nat.reduceLT, Int.reduceToNat, s2]))
    have hLE : Lend h' [.adr h1.length 0, .int .i64 0, .bool true] [.rad [.int .i64 n, eI (some (wordsN (sumB s (lI l)) m)), .bool (sumR s (lI l)), .int .u64 0] 0, .int .i64 0, .bool true] := .cons (vw_eq s6 s7) (.free free_int (.free free_bool .nil))
    refine (c_impl_Bits_next (some (wordsN (sumB s (lI l)) m)) n (sumB s (lI l)) m _ 0 rfl rfl rfl (by omega) (by omega)).lend hLE.len hLE.get (fun x ⟨k, hk, _⟩ => by rw [hk]; exact own_int) ?_
    rintro x ⟨k, rfl, hk⟩
    rw [← hk]
    (try (simp (disch := first | omega | (simp <;> omega) | fail) only [push_cast, ↓reduceIte, Nat.reduceEqDiff, Nat.reduceAdd, Nat.reduceMul, Nat.reduceSub, Nat.reduceLT, Int.reduceToNat, s2]))
    all_goals (try rfl)

theorem c_laws_pSameInts (a b : Option (List Int)) : Fn Tryz.prog 38 [eI a, eI b] (· = .bool (decide (lI a = lI b))) := by
  refine Fn.of free_bool fun h => ?_
  refine enter (by kernel_rfl) e38 (by kernel_rfl) rfl fun hok => ?_
  simp only [r38, initEnv_2]
  have ha := ok_eI (okV_0 hok)
  have hb := ok_eI (okV_1 hok)
  (try (simp (disch := first | omega | (simp <;> omega) | fail) only [push_cast, ↓reduceIte, Nat.reduceEqDiff, Nat.reduceAdd, Nat.reduceMul, Nat.reduceSub, Nat.reduceLT, Int.reduceToNat]))
  first | refine goC_split (fun hc => ?_) (fun hc => ?_) | refine cnd_split (fun hc => ?_) (fun hc => ?_)
  · (try (simp only [decide_eq_true_eq, decide_eq_false_iff_not, Bool.not_eq_true', Bool.not_eq_false', Bool.and_eq_true, Bool.or_eq_true, Int.not_lt, Int.not_le] at hc)); (try (simp (disch := first | omega | (simp <;> omega) | fail) only [push_cast, ↓reduceIte, Nat.reduceEqDiff, Nat.reduceAdd, Nat.reduceMul, Nat.reduceSub, Nat.reduceLT, Int.reduceToNat]))
    have : lI a ≠ lI b := fun h => hc (by rw [h])
    rw [decide_eq_false this]
  (try (simp only [decide_eq_true_eq, decide_eq_false_iff_not, Bool.not_eq_true', Bool.not_eq_false', Bool.and_eq_true, Bool.or_eq_true, Int.not_lt, Int.not_le] at hc)); (try (simp (disch := first | omega | (simp <;> omega) | fail) only [push_cast, ↓reduceIte, Nat.reduceEqDiff, Nat.reduceAdd, Nat.reduceMul, Nat.reduceSub, Nat.reduceLT, Int.reduceToNat]))
  have hll : (lI a).length = (lI b).length := by omega
  refine T_for (lI a).length (fun i e h' => Pins e [(0, eI a), (1, eI b), (12, .int .i64 (lI a).length), (13, .int .i64 i)] ∧ h' = h ∧ (lI a).take i = (lI b).take i) ?_ ?_
  · (try (simp (disch := first | omega | (simp <;> omega) | fail) only [push_cast, ↓reduceIte, Nat.reduceEqDiff, Nat.reduceAdd, Nat.reduceMul, Nat.reduceSub, Nat.reduceLT, Int.reduceToNat]))
    all_goals (try simp)
  rintro i e h' hi ⟨hp, rfl, ht⟩
  refine T_pins hp fun e => ?_
  (try (simp (disch := first | omega | (simp <;> omega) | fail) only [push_cast, ↓reduceIte, Nat.reduceEqDiff, Nat.reduceAdd, Nat.reduceMul, Nat.reduceSub, Nat.reduceLT, Int.reduceToNat]))
  first | refine goC_split (fun hd => ?_) (fun hd => ?_) | refine cnd_split (fun hd => ?_) (fun hd => ?_)
  · (try (simp only [decide_eq_true_eq, decide_eq_false_iff_not, Bool.not_eq_true', Bool.not_eq_false', Bool.and_eq_true, Bool.or_eq_true, Int.not_lt, Int.not_le] at hd)); (try (simp (disch := first | omega | (simp <;> omega) | fail) only [push_cast, ↓reduceIte, Nat.reduceEqDiff, Nat.reduceAdd, Nat.reduceMul, Nat.reduceSub, Nat.reduceLT, Int.reduceToNat]))
    have hi2 : i < (lI a).length := by omega
    have hi3 : i < (lI b).length := by omega
    have ha1 : (lI a).take (i + 1) = (lI a).take i ++ [(lI a).getD i 0] := by
      rw [List.take_add_one]
      simp [hi2]
    have hb1 : (lI b).take (i + 1) = (lI b).take i ++ [(lI b).getD i 0] := by
      rw [List.take_add_one]
      simp [hi3]
    (try (simp (disch := first | omega | (simp <;> omega) | fail) only [push_cast, ↓reduceIte, Nat.reduceEqDiff, Nat.reduceAdd, Nat.reduceMul, Nat.reduceSub, Nat.reduceLT, Int.reduceToNat]))
    first | refine goC_split (fun he => ?_) (fun he => ?_) | refine cnd_split (fun he => ?_) (fun he => ?_)
    · (try (simp only [decide_eq_true_eq, decide_eq_false_iff_not, Bool.not_eq_true', Bool.not_eq_false', Bool.and_eq_true, Bool.or_eq_true, Int.not_lt, Int.not_le] at he)); (try (simp (disch := first | omega | (simp <;> omega) | fail) only [push_cast, ↓reduceIte, Nat.reduceEqDiff, Nat.reduceAdd, Nat.reduceMul, Nat.reduceSub, Nat.reduceLT, Int.reduceToNat]))
      have : lI a ≠ lI b := fun h => he (by rw [h])
      rw [decide_eq_false this]
    · (try (simp only [decide_eq_true_eq, decide_eq_false_iff_not, Bool.not_eq_true', Bool.not_eq_false', Bool.and_eq_true, Bool.or_eq_true, Int.not_lt, Int.not_le] at he)); (try (simp (disch := first | omega | (simp <;> omega) | fail) only [push_cast, ↓reduceIte, Nat.reduceEqDiff, Nat.reduceAdd, Nat.reduceMul, Nat.reduceSub, Nat.reduceLT, Int.reduceToNat]))
      rw [ha1, hb1, ht, he]
      (try (simp (disch := first | omega | (simp <;> omega) | fail) only [push_cast, ↓reduceIte, Nat.reduceEqDiff, Nat.reduceAdd, Nat.reduceMul, Nat.reduceSub, Nat.reduceLT, Int.reduceToNat]))
  · (try (simp only [decide_eq_true_eq, decide_eq_false_iff_not, Bool.not_eq_true', Bool.not_eq_false', Bool.and_eq_true, Bool.or_eq_true, Int.not_lt, Int.not_le] at hd)); (try (simp (disch := first | omega | (simp <;> omega) | fail) only [push_cast, ↓reduceIte, Nat.reduceEqDiff, Nat.reduceAdd, Nat.reduceMul, Nat.reduceSub, Nat.reduceLT, Int.reduceToNat]))
    have : lI a = lI b := by
      rw [List.take_of_length_le (by omega), List.take_of_length_le (by omega)] at ht
      exact ht
    rw [decide_eq_true this]

def retV (a b w : Int) (l : Option (List Int)) (key : Str) : AV := if tblOk a b w l && okKey key then .tup [.int .i64 (valT a b (lI l) key : Nat), .bool true] else .tup [.int .i64 0, .bool false]
theorem free_retV {a b w : Int} {l : Option (List Int)} {key : Str} : Free (retV a b w l key) := by
  unfold retV
  split
  · exact free_tup (free_cons_ free_int (free_cons_ free_bool free_nil_))
  · exact free_tup (free_cons_ free_int (free_cons_ free_bool free_nil_))
/-- A table being added up. -/
def AdS (h g : H) (bx : List AV) (a b w : Int) (v : AV) (L : List Int) : Prop := g.cells (h.length + 1) = some bx ∧ g.cells (h.length + 2) = some [.int .i64 0, .int .i64 0, .int .i64 0, .nils] ∧ g.cells (h.length + 3) = some [.int .i64 a, .int .i64 b, .int .i64 w, v] ∧ ∃ B, S1 g 1 v L.length (L.map (.int .i64)) B ∧ ∀ k ∈ B, h.length + 4 ≤ k
theorem AdS.app {h g : H} {bx : List AV} {a b w q : Int} {v : AV} {L : List Int} {pm : Nat → Prop} {Q : AV → H → Prop} (hp : AdS h g bx a b w v L) (hpm : ∀ k, h.length ≤ k → pm k) (hN : L.length ≤ 1000000)
    (hQ : ∀ v' g2, AdS h (wr g2 (h.length + 3) [.int .i64 a, .int .i64 b, .int .i64 w, v']) bx a b w v' (L ++ [q]) → g2.cells (h.length + 3) = some [.int .i64 a, .int .i64 b, .int .i64 w, v] → one v' = true → cellsOf v' = [v'] → Q v' g2) : apA pm (g ++ [some (.cells [.int .i64 q])]) Q 1 8 (some ([.int .i64 q], 1)) v := by
  obtain ⟨p1, p2, p3, Bv, p7, p8⟩ := hp
  have l3 := cells_lt p3
  refine (p7.frame (h' := g ++ _) fun k hk => List.getElem?_append_left (p7.lt k hk)).app0 (new := [.int .i64 q]) (k := 1) (by_ := 8) (fun k hk => hpm k (by have := p8 k hk; omega)) rfl (by omega) fun w2 g2 B2 a1 a2 a3 a4 a5 => ?_
  simp only [List.length_append, List.length_cons, List.length_nil] at a2 a3 a4
  have hk2 : ∀ k, k ≤ h.length + 3 → g2[k]? = g[k]? := fun k hk => (a3 k (by omega) fun h5 => by have := p8 k h5; omega).trans (List.getElem?_append_left (by omega))
  have hwk : ∀ k, k ≠ h.length + 3 → (wr g2 (h.length + 3) [.int .i64 a, .int .i64 b, .int .i64 w, w2])[k]? = g2[k]? := fun k hk => by
    unfold wr
    rw [List.getElem?_set_ne (Ne.symm hk)]
  have hB2 : ∀ k ∈ B2, h.length + 4 ≤ k := fun k hk => by
    rcases a4 k hk with h5 | h5
    · exact p8 k h5
    · omega
  have ho := a1.one_
  refine hQ w2 g2 ⟨cells_keep ((hwk _ (by omega)).trans (hk2 _ (by omega))) p1, cells_keep ((hwk _ (by omega)).trans (hk2 _ (by omega))) p2, cells_wr2 (by omega), B2, ?_, hB2⟩ (cells_keep (hk2 _ (by omega)) p3) ho.1 ho.2
  have := a1.frame (h' := wr g2 (h.length + 3) [.int .i64 a, .int .i64 b, .int .i64 w, w2]) fun k hk => hwk k (by have := hB2 k hk; omega)
  simpa using this
theorem c_laws_rSameTable (a b w : Int) (l : Option (List Int)) : Fn Tryz.prog 23 [eTab a b w l, eTab a b w l] (· = .bool true) := by
  refine Fn.of free_bool fun h => ?_
  unfold eTab
  refine enter (by kernel_rfl) e23 (by kernel_rfl) rfl fun hok => ?_
  simp only [r23, initEnv_2]
  (try (simp (disch := first | omega | (simp <;> omega) | fail) only [push_cast, ↓reduceIte, Nat.reduceEqDiff, Nat.reduceAdd, Nat.reduceMul, Nat.reduceSub, Nat.reduceLT, Int.reduceToNat]))
  refine (c_laws_pSameInts l l).call ?_
  have hd : decide (lI l = lI l) = true := decide_eq_true rfl
  rw [hd]
  (try (simp (disch := first | omega | (simp <;> omega) | fail) only [push_cast, ↓reduceIte, Nat.reduceEqDiff, Nat.reduceAdd, Nat.reduceMul, Nat.reduceSub, Nat.reduceLT, Int.reduceToNat]))

theorem c_impl_RetrieveValue (a b w : Int) (l : Option (List Int)) (key : Str) : Fn Tryz.prog 25 [eTab a b w l, .str key] (· = retV a b w l key) := by
  refine Fn.of free_retV fun h => ?_
  unfold eTab
  refine enter (by kernel_rfl) e25 (by kernel_rfl) rfl fun hok => ?_
  simp only [r25, initEnv_2]
  (try (simp (disch := first | omega | (simp <;> omega) | fail) only [push_cast, ↓reduceIte, Nat.reduceEqDiff, Nat.reduceAdd, Nat.reduceMul, Nat.reduceSub, Nat.reduceLT, Int.reduceToNat]))
  refine (c_impl_IsTable a b w l).call ?_
  unfold retV
  cases hk : tblOk a b w l
  · (try (simp (disch := first | omega | (simp <;> omega) | fail) only [push_cast, ↓reduceIte, Nat.reduceEqDiff, Nat.reduceAdd, Nat.reduceMul, Nat.reduceSub, Nat.reduceLT, Int.reduceToNat]))
    all_goals (try rfl)
  (try (simp (disch := first | omega | (simp <;> omega) | fail) only [push_cast, ↓reduceIte, Nat.reduceEqDiff, Nat.reduceAdd, Nat.reduceMul, Nat.reduceSub, Nat.reduceLT, Int.reduceToNat]))
  refine (c_impl_IsKey key).call ?_
  cases hs : okKey key
  · (try (simp (disch := first | omega | (simp <;> omega) | fail) only [push_cast, ↓reduceIte, Nat.reduceEqDiff, Nat.reduceAdd, Nat.reduceMul, Nat.reduceSub, Nat.reduceLT, Int.reduceToNat]))
    all_goals (try rfl)
  (try (simp (disch := first | omega | (simp <;> omega) | fail) only [push_cast, ↓reduceIte, Nat.reduceEqDiff, Nat.reduceAdd, Nat.reduceMul, Nat.reduceSub, Nat.reduceLT, Int.reduceToNat]))
  refine (c_impl_Table_of a b w l key hk).lendL (.adr (cs := [.int .i64 a, .int .i64 b, .int .i64 w, eI l]) (by rw [cells_h0]; rfl) (free_cons_ free_int (free_cons_ free_int (free_cons_ free_int (free_cons_ free_eI free_nil_)))) (.free free_str .nil)) own_int ?_
  (try (simp (disch := first | omega | (simp <;> omega) | fail) only [push_cast, ↓reduceIte, Nat.reduceEqDiff, Nat.reduceAdd, Nat.reduceMul, Nat.reduceSub, Nat.reduceLT, Int.reduceToNat]))
  all_goals (try rfl)

theorem c_spec_TableBySolving (seed seg width : Int) (keys : Option (List Str)) (vals : Option (List Int)) : Fn Tryz.prog 36 [.int .i64 seed, eS keys, eI vals, .int .i64 seg, .int .i64 width] (· = tabSolV seed seg width keys vals) := by
  refine Fn.of free_tabSolV fun h => ?_
  refine enter (by kernel_rfl) e36 (by kernel_rfl) rfl fun hok => ?_
  simp only [r36, initEnv_5]
  have hfl0 : fillA [AV.int .i64 0, .int .i64 0, .int .i64 0, .nils] [] = some [.int .i64 0, .int .i64 0, .int .i64 0, .nils] := rfl
  (try (simp (disch := first | omega | (simp <;> omega) | fail) only [push_cast, ↓reduceIte, Nat.reduceEqDiff, Nat.reduceAdd, Nat.reduceMul, Nat.reduceSub, Nat.reduceLT, Int.reduceToNat]))
  refine (c_spec_reTask _ _ _ _ _).call ?_
  unfold tabSolV
  cases hk : taskOk seed seg width keys vals
  · (try (simp (disch := first | omega | (simp <;> omega) | fail) only [push_cast, ↓reduceIte, Nat.reduceEqDiff, Nat.reduceAdd, Nat.reduceMul, Nat.reduceSub, Nat.reduceLT, Int.reduceToNat, hfl0]))
    all_goals (try rfl)
  (try (simp (disch := first | omega | (simp <;> omega) | fail) only [push_cast, ↓reduceIte, Nat.reduceEqDiff, Nat.reduceAdd, Nat.reduceMul, Nat.reduceSub, Nat.reduceLT, Int.reduceToNat]))
  refine (c_spec_reSolved seed seg width keys vals hk).call ?_
  obtain ⟨a, b, c, l, q, hv, _⟩ := tabSolO_tup seed seg width (nT seg) width.toNat (tabSy seed seg keys vals)
  rw [hv]
  clear hv
  unfold eTab
  cases l
  all_goals
    (try (simp (disch := first | omega | (simp <;> omega) | fail) only [push_cast, ↓reduceIte, Nat.reduceEqDiff, Nat.reduceAdd, Nat.reduceMul, Nat.reduceSub, Nat.reduceLT, Int.reduceToNat]))
    all_goals (try rfl)

theorem c_laws_big (a b : Option (List UInt8)) (ha : (lU a).length ≤ 9223372036854775807) : Fn Tryz.prog 19 [eU a, eU b] (· = .bool (decide (1048576 < ((lU a).length : Int)) || decide (1048576 - ((lU a).length : Int) < ((lU b).length : Int)))) := by
  refine Fn.of free_bool fun h => ?_
  refine enter (by kernel_rfl) e19 (by kernel_rfl) rfl fun hok => ?_
  simp only [r19, initEnv_2]
  by_cases h1 : 1048576 < ((lU a).length : Int)
  · (try (simp (disch := first | omega | (simp <;> omega) | fail) only [push_cast, ↓reduceIte, Nat.reduceEqDiff, Nat.reduceAdd, Nat.reduceMul, Nat.reduceSub, Nat.reduceLT, Int.reduceToNat, h1]))
    all_goals (try simp [h1])
  · (try (simp (disch := first | omega | (simp <;> omega) | fail) only [push_cast, ↓reduceIte, Nat.reduceEqDiff, Nat.reduceAdd, Nat.reduceMul, Nat.reduceSub, Nat.reduceLT, Int.reduceToNat, h1]))
    (first | refine goC_split (fun hc => ?_) (fun hc => ?_) | refine cnd_split (fun hc => ?_) (fun hc => ?_)) <;> ((try (simp (disch := first | omega | (simp <;> omega) | fail) only [push_cast, ↓reduceIte, Nat.reduceEqDiff, Nat.reduceAdd, Nat.reduceMul, Nat.reduceSub, Nat.reduceLT, Int.reduceToNat]))) <;> (try rw [hc])

end Go.Proofs.YtjfgmimgmapeeaaGreat.M
